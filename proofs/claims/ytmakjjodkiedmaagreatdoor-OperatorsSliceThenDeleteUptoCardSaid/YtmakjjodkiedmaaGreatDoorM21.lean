/-Part 21 of the proof. -/
import Derived.Test.YtmakjjodkiedmaaGreatDoorM20
namespace Go.Proofs.YtmakjjodkiedmaaGreatDoor
open Go.RowKit
variable{md me:Bool}
theorem tk_s{α:Type}(z:α)(l:List α)(s b:Int)(k:Nat):tkL z l (slP s b (k+1))=tkL z l (slP s b k)++[l.getD (b+(k:Int)*s).toNat z]:=by
 unfold tkL;rw[xX,Ad];rfl
def gnM(ps:List Int):List (Int×D):=ps.map fun p=>(p,D.v (.bool true))
theorem gn_put(ps:List Int)(x:Int)(h:¬x∈ps):putI x (D.v (.bool true)) (gnM ps)=gnM (ps++[x]):=by
 induction ps with
 |nil=>rfl
 |cons y ps ih=>
  have h1:¬y=x:=fun e=>h (by rw[e];exact By);show(if y=x then(x,D.v (.bool true))::gnM ps else(y,D.v (.bool true))::putI x (D.v (.bool true)) (gnM ps))=(y,D.v (.bool true))::gnM (ps++[x]);rw[Aa h1,ih (fun hm=>h (Bl _ hm))]
theorem gn_lk(ps:List Int)(x:Int):(∀w s v,((lkI x (gnM ps)).getD (.v (.bool false))).pv.p w s v->(D.v (.bool (decide (x∈ps)))).pv.p w s v)/\(lkI x (gnM ps)).isSome=decide (x∈ps):=by
 have e:lkI x (gnM ps)=if x∈ps then some (D.v (.bool true))else none:=by
  induction ps with
  |nil=>rfl
  |cons y ps ih=>
   have e1:lkI x (gnM (y::ps))=if y=x then some (D.v (.bool true))else lkI x (gnM ps):=rfl;rw[e1,ih];by_cases h:y=x
   ·simp[h]
   ·have h':¬x=y:=fun e=>h e.symm;simp[h,h']
 rw[e];by_cases h:x∈ps
 ·rw[Ag h,Bo h];exact⟨fun _ _ _ h=>h,rfl⟩
 ·rw[Aa h,Cl h];exact⟨fun _ _ _ h=>h,rfl⟩
theorem RzQ.new{s b:Int}{c n k:Nat}(q:RzQ s b c n):¬(b+(k:Int)*s)∈slP s b k:=fun hm=>by
 obtain⟨j,h1,h2⟩:=slP_mem.1 hm;have:=gU0 q.nz h2;omega
def puC(s:Int)(C n wl:Nat)(m:Int):Int:=if ¬s=1/\¬wl=C then 9 else if m<(n:Int)-C+wl then 14 else 0
def puE(s:Int)(C n wl:Nat)(m:Int):Int:=if ¬s=1/\¬wl=C then-3 else if m<(n:Int)-C+wl then-1 else 0
def puR(l:List Vl)(s b:Int)(C:Nat)(w:List Vl)(m:Int):List Vl:=if ¬puC s C l.length w.length m=0 then []else if s=1 then l.take b.toNat++(w++l.drop (b.toNat+C))else puL vl0 l s b w w.length
theorem ct_three(a b c:List Vl):ctL [a,b,c] [a,b,c].length=a++(b++c):=by simp[ctL]
theorem slTakeV_ok(l:List Vl)(a b c:Int)(f g h:Bool)(K:SlK a b c f g h)(hl:l.length<=4000):Fx 34 [vsD l,.agg (sicD a b c f g h)] (.tup [vsD (tkL vl0 l (slP (rzS c h) (rzB a (rzS c h) (l.length:Nat) f) (rzC b (rzS c h) (l.length:Nat) (rzB a (rzS c h) (l.length:Nat) f) g))),faD 0 0]):=by
 have Q:=rzQ (n:=l.length) K;have HR:=wH a b c (l.length:Nat) f g h K om om
 revert Q HR
 generalize (rzC b (rzS c h) (l.length:Nat) (rzB a (rzS c h) (l.length:Nat) f) g)=C;generalize (rzB a (rzS c h) (l.length:Nat) f)=B;generalize (rzS c h)=s;intro Q HR;have q1:=Q.s1;have q2:=Q.s2;have q3:=Q.b1;have q4:=Q.b2;have q5:=Q.cn;refine yM zO Tryz.func34 rfl rfl rfl rfl rfl rfl ?_;intros;refine zK 100 ?_;refine zB (zE zO [] 200 rfl ?_);refine zF ?_;refine zS _ (HR) rfl ?_;refine zF ?_;refine zC (zA (zB (zK 300 ?_)));refine zX (fun c2=>?_) (fun c2=>?_)
 ·
  exact absurd c2 de
 ·
  refine zJ (zA (zK 500 ?_));refine yU 10 29 7 rfl ?_;refine zB (zK 600 ?_);refine zQ ?_;refine yB (ι:={k:Nat//k<=C}) [0,5,6,7,25] [2] 650 (fun x=>[(26,.v (.int .i64 x.1)),(10,.own 500 7 ((tkL vl0 l (slP s B x.1)).map vlD))]) (fun x=>[(500,.row 29 7 ((tkL vl0 l (slP s B x.1)).map vlD).length)]) (fun x=>C-x.1) ⟨0,Aq _⟩ ?_;refine⟨⟨yK,yH,rfl,rfl⟩,fun x=>?_⟩;have hk:x.1<=C:=x.2;refine zK 700 ?_;refine zB (zX (fun c6=>?_) (fun c6=>?_))
  ·
   refine zJ (zA (zB (zQ (zK 800 ?_))));have hq:=Q.at_ x.1 c6;refine zE zO [] 900 rfl ?_;repeat(first|refine zH ?_|refine zU (by first|exact⟨by omega,by omega⟩|exact qO (by omega)|(simp only[Ao,Ak,Au,kD,vQ];omega)|exact Dl) ?_)
   refine zC (zL (zA (yO zO [] 1000 ?_)));exact zR (⟨x.1+1,by omega⟩) ⟨⟨u19 (by push_cast;rfl),Sub.own (by rw[tk_s,Ad];rfl),yK⟩,⟨⟨rfl,rfl,by simp only[Ae,Ao,kD,vQ];rfl⟩,yH⟩,rfl,rfl⟩ (by show C-(x.1+1)<C-x.1;omega)
  ·
   refine yF (zZ (yA (zW (zA (zK 1100 ?_)))));refine zN ?_;have e:x.1=C:=by omega
   exact u1 rfl (SubP.tup ⟨SubP.ownSl (by rw[e]),u4 _,trivial⟩)
theorem slDropV_ok(l:List Vl)(a b c:Int)(f g h:Bool)(K:SlK a b c f g h)(hl:l.length<=4000):Fx 36 [vsD l,.agg (sicD a b c f g h)] (.tup [vsD (drL vl0 l (slP (rzS c h) (rzB a (rzS c h) (l.length:Nat) f) (rzC b (rzS c h) (l.length:Nat) (rzB a (rzS c h) (l.length:Nat) f) g)) l.length),faD 0 0]):=by
 have Q:=rzQ (n:=l.length) K;have HR:=wH a b c (l.length:Nat) f g h K om om
 revert Q HR
 generalize (rzC b (rzS c h) (l.length:Nat) (rzB a (rzS c h) (l.length:Nat) f) g)=C;generalize (rzB a (rzS c h) (l.length:Nat) f)=B;generalize (rzS c h)=s;intro Q HR;have q1:=Q.s1;have q2:=Q.s2;have q3:=Q.b1;have q4:=Q.b2;have q5:=Q.cn;refine yM zO Tryz.func36 rfl rfl rfl rfl rfl rfl ?_;intros;refine zK 100 ?_;refine zB (zE zO [] 200 rfl ?_);refine zF ?_;refine zS _ (HR) rfl ?_;refine zF ?_;refine zC (zA (zB (zK 300 ?_)));refine zX (fun c2=>?_) (fun c2=>?_)
 ·
  exact absurd c2 de
 ·
  refine zJ (zA (zK 500 ?_));refine zB (zK 600 ?_);refine zQ ?_;refine yB (ι:={k:Nat//k<=C}) [0,5,6,7,10,29] [2] 650 (fun x=>[(30,.v (.int .i64 x.1))]) (fun x=>[(300,.map (gnM (slP s B x.1)))]) (fun x=>C-x.1) ⟨0,Aq _⟩ ?_;refine⟨⟨yK,yH,rfl,rfl⟩,fun x=>?_⟩;have hk:x.1<=C:=x.2;refine zK 700 ?_;refine zB (zX (fun c6=>?_) (fun c6=>?_))
  ·
   refine zJ (zA (zB (zQ (zK 800 ?_))));have hq:=Q.at_ x.1 c6;refine yO zO [] 900 ?_;refine zL (zA (yO zO [] 1000 ?_));exact zR (⟨x.1+1,by omega⟩) ⟨⟨u19 (by push_cast;rfl),yK⟩,⟨congrArg (List.map fun x:Int×D=>(x.1,x.2.pv)) ((gn_put _ _ Q.new).trans (by rw[xX])),yH⟩,rfl,rfl⟩ (by show C-(x.1+1)<C-x.1;omega)
  ·
   refine yF (zZ (yA (zW (zA ?_))));obtain⟨k1,hk1⟩:=x;have e1:C=k1:=by have h9:¬k1<C:=c6;omega
   subst e1;refine zK 1100 ?_;refine yU 12 29 7 rfl ?_;refine zB (zK 1200 ?_);refine zQ ?_;refine yB (ι:={k:Nat//k<=l.length}) [5,10,40,41] [2,300] 1250 (fun x=>[(42,.v (.int .i64 x.1)),(12,.own 1100 7 ((drL vl0 l (slP s B C) x.1).map vlD))]) (fun x=>[(1100,.row 29 7 ((drL vl0 l (slP s B C) x.1).map vlD).length)]) (fun x=>l.length-x.1) ⟨0,Aq _⟩ ?_;refine⟨⟨yK,yH,rfl,rfl⟩,fun x=>?_⟩;have hk:x.1<=l.length:=x.2;refine zK 1300 ?_;refine zB (zX (fun c12=>?_) (fun c12=>?_))
   ·
    refine zJ (zA (zB (zQ (zK 1400 ?_))));refine zB (zE zO [] 1500 rfl ?_);refine zF ?_;refine qH0 [.v (.bool (decide (((x.1:Nat):Int)∈slP s B C))),.v (.bool (decide (((x.1:Nat):Int)∈slP s B C)))] (gn_lk _ _) ?_;refine zF ?_;refine zC (zA (zT rfl (fun c14=>?_) (fun c14=>?_)))
    ·have c14:¬((x.1:Nat):Int)∈slP s B C:=by simpa using c14
     have hdl:=kR0 (slP s B C) x.1;refine zE zO [] 1600 rfl ?_;repeat(first|refine zH ?_|refine zU (by first|exact qO (by omega)|(simp only[Ao,Ak,Au,xD0];omega)|exact Dl) ?_)
     refine zC (zL (zA (yO zO [] 1700 ?_)));exact zR ⟨x.1+1,by omega⟩ ⟨⟨u19 (by push_cast;rfl),Sub.own (by rw[kQ0 c14,Ad];rfl),yK⟩,⟨⟨rfl,rfl,by rw[kQ0 c14];simp only[Ae,Ao,Ak,Au]⟩,yH⟩,rfl,rfl⟩ (by show l.length-(x.1+1)<l.length-x.1;omega)
    ·have c14:((x.1:Nat):Int)∈slP s B C:=by simpa using c14
     refine zJ (zL (zA (yO zO [] 1700 ?_)));exact zR ⟨x.1+1,by omega⟩ ⟨⟨u19 (by push_cast;rfl),Sub.own (by rw[xC0 c14]),yK⟩,⟨⟨rfl,rfl,by rw[xC0 c14]⟩,yH⟩,rfl,rfl⟩ (by show l.length-(x.1+1)<l.length-x.1;omega)
   ·
    refine yF (zZ (yA (zW (zA (zK 1800 ?_)))));refine zN ?_;have e:x.1=l.length:=by omega
    exact u1 rfl (SubP.tup ⟨SubP.ownSl (by rw[e]),u4 _,trivial⟩)
theorem pu_3{l w:List Vl}{B:Int}{C:Nat}(h0:0<=B):ctL [List.take (B.toNat-Int.toNat 0) (List.drop (Int.toNat 0) l),w,List.take ((l.length:Int).toNat-(B+(C:Nat)).toNat) (List.drop (B+(C:Nat)).toNat l)] 3=l.take B.toNat++(w++l.drop (B.toNat+C)):=by
 rw[show(B+(C:Nat)).toNat=B.toNat+C by omega,show List.take ((l.length:Int).toNat-(B.toNat+C)) (List.drop (B.toNat+C) l)=l.drop (B.toNat+C)from Am (by rw[Ay,As];omega),show List.take (B.toNat-Int.toNat 0) (List.drop (Int.toNat 0) l)=l.take B.toNat from rfl];exact ct_three _ _ _
theorem pE0{P:Program}{E:Pn}{K:DS->Prop}{p:Prop}{r:Out}(hr:r.sat P E K)(hp:p:=by first|exact⟨by omega,by omega,by omega⟩|exact⟨by omega,by omega⟩|exact Dl):(Out.need p r).sat P E K:=⟨hp,hr⟩
set_option maxHeartbeats 1000000 in
theorem slPutV_ok(l:List Vl)(a b c:Int)(f g h:Bool)(w:List Vl)(m:Int)(K:SlK a b c f g h)(hl:l.length<=4000)(hw:w.length<=1000000):Fx 41 [vsD l,.agg (sicD a b c f g h),vsD w,.v (.int .i64 m)] (.tup [vsD (puR l (rzS c h) (rzB a (rzS c h) (l.length:Nat) f) (rzC b (rzS c h) (l.length:Nat) (rzB a (rzS c h) (l.length:Nat) f) g) w m),faD (puC (rzS c h) (rzC b (rzS c h) (l.length:Nat) (rzB a (rzS c h) (l.length:Nat) f) g) l.length w.length m) (puE (rzS c h) (rzC b (rzS c h) (l.length:Nat) (rzB a (rzS c h) (l.length:Nat) f) g) l.length w.length m)]):=by
 have Q:=rzQ (n:=l.length) K;have HR:=wH a b c (l.length:Nat) f g h K om om
 revert Q HR
 generalize (rzC b (rzS c h) (l.length:Nat) (rzB a (rzS c h) (l.length:Nat) f) g)=C;generalize (rzB a (rzS c h) (l.length:Nat) f)=B;generalize (rzS c h)=s;intro Q HR;have q1:=Q.s1;have q2:=Q.s2;have q3:=Q.b1;have q4:=Q.b2;have q5:=Q.cn;obtain⟨R,hR⟩:∃R,R=puR l s B C w m:=⟨_,rfl⟩;obtain⟨Cd,hCd⟩:∃Cd,Cd=puC s C l.length w.length m:=⟨_,rfl⟩;obtain⟨Ix,hIx⟩:∃Ix,Ix=puE s C l.length w.length m:=⟨_,rfl⟩;rw[<-hR,<-hCd,<-hIx];refine yM zO Tryz.func41 rfl rfl rfl rfl rfl rfl ?_;intros;refine zK 100 ?_;refine zB (zE zO [] 200 rfl ?_);refine zF ?_;refine zS _ (HR) rfl ?_;refine zF ?_;refine zC (zA (zB (zQ (zK 300 ?_))));refine zX (fun c2=>?_) (fun c2=>?_)
 ·
  exact absurd c2 de
 ·
  refine zK 500 ?_;refine zT rfl (fun c4=>?_) (fun c4=>?_)
  ·have c4:¬s=1/\¬w.length=C:=by have h9:=c4;simp at h9;omega
   refine zB (zE zO [] 600 rfl ?_);refine zF ?_;refine zS _ (vK0 9 (-3)) rfl ?_;refine zf (zA (zN (zP (zM ?_))));rw[hCd,hIx,show puC s C l.length w.length m=9 from Ag c4,show puE s C l.length w.length m= -3 from Ag c4,show R=[]from hR.trans (Ag (by rw[show puC s C l.length w.length m=9 from Ag c4];decide))];exact u1 rfl (SubP.tup ⟨u10 rfl,u4 _,trivial⟩)
  ·have c4:¬(¬s=1/\¬w.length=C):=by have h9:=c4;simp at h9;omega
   refine zK 700 ?_;refine zT rfl (fun c6=>?_) (fun c6=>?_)
   ·have c6:m<(l.length:Int)-C+w.length:=by have h9:=c6;simp at h9;omega
    refine zB (zE zO [] 800 rfl ?_);refine zF ?_;refine zS _ (vK0 14 (-1)) rfl ?_;refine zf (zA (zN (zP (zM ?_))));have e9:puC s C l.length w.length m=14:=(Aa c4).trans (Ag c6);rw[hCd,hIx,e9,show puE s C l.length w.length m= -1 from(Aa c4).trans (Ag c6),show R=[]from hR.trans (Ag (by rw[e9];decide))];exact u1 rfl (SubP.tup ⟨u10 rfl,u4 _,trivial⟩)
   ·have c6:¬m<(l.length:Int)-C+w.length:=by have h9:=c6;simp at h9;omega
    refine zK 900 ?_;refine zT rfl (fun c8=>?_) (fun c8=>?_)
    ·have c8:s=1:=by simpa using c8
     have hB0:=Q.up om;have hBC:B+(C:Int)<=(l.length:Int):=by
      rcases Bp C with h9|h9
      ·omega
      ·have h8:=Q.at_ (C-1) om;rw[c8,Int.mul_one]at h8;omega
     refine zB (yE zO [65] [[],[],[0,1],[],[],[],[],[5,6],[4,5,6,7],(rgN 9),(rgN 10),[],(rgN 11),(rgN 13)] 1000 yX kr rfl ?_);repeat(first|refine zH ?_|refine pE0 ?_)
     refine qZ _ _ _ ((ConcatV_ok [List.take (B.toNat-Int.toNat 0) (List.drop (Int.toNat 0) l),w,List.take ((l.length:Int).toNat-(B+(C:Nat)).toNat) (List.drop (B+(C:Nat)).toNat l)] (by rw[show [List.take (B.toNat-Int.toNat 0) (List.drop (Int.toNat 0) l),w,List.take ((l.length:Int).toNat-(B+(C:Nat)).toNat) (List.drop (B+(C:Nat)).toNat l)].length=3 from rfl,pu_3 hB0];simp only[Ae,At,Ay];omega) (by show 3<=1000;omega)).args ⟨SubP.slrSl rfl,trivial⟩) ?_;repeat(first|refine zH ?_|refine pE0 ?_)
     refine zC (zA (zN (zP (zM ?_))));have e9:puC s C l.length w.length m=0:=(Aa c4).trans (Aa c6);rw[hCd,hIx,e9,show puE s C l.length w.length m=0 from(Aa c4).trans (Aa c6)];exact u1 rfl (SubP.tup ⟨SubP.ownSl (by rw[hR];unfold puR;rw[Aa (not_not_intro e9),Ag c8,<-pu_3 (Q.up om)];rfl),u4 _,trivial⟩)
    ·have c8:¬s=1:=by simpa using c8
     have hwC:w.length=C:=by omega
     refine zJ (zL (zA ?_));refine zB (zE zO [1068] 1100 rfl ?_);repeat(first|refine zH ?_|refine zU (by first|exact qO (by omega)|exact Dl) ?_)
     refine vS _ _ (uJ0 l om) rfl ?_;repeat(first|refine zH ?_|refine zU (by first|exact qO (by omega)|exact Dl) ?_)
     refine zC (zA ?_);refine jJ [2,9,10,11] [2] 1110 [(14,.mo 901 l.length)] [(901,.mrow 29 7 (.map l vlD vl0))] ?_;refine⟨⟨⟨Sub.mo rfl,yK⟩,⟨SubO.mr rfl,yH⟩,rfl,rfl⟩,?_⟩;refine zB (zK 1200 ?_);refine zQ ?_;refine yB (ι:={k:Nat//k<=w.length}) [9,10,11,14,69,70] [2] 1250 (fun x=>[(71,.v (.int .i64 x.1))]) (fun x=>[(901,.mrow 29 7 (.map (puL vl0 l s B w x.1) vlD vl0))]) (fun x=>w.length-x.1) ⟨0,Aq _⟩ ?_;refine⟨⟨yK,yH,rfl,rfl⟩,fun x=>?_⟩;have hk:x.1<=w.length:=x.2;refine zK 1300 ?_;refine zB (zX (fun c12=>?_) (fun c12=>?_))
     ·
      refine zJ (zA (zB (zQ (zK 1400 ?_))));have hq:=Q.at_ x.1 om;have hpl:=vR0 vl0 l s B w x.1;refine zE zO [] 1500 rfl ?_;repeat(first|refine zH ?_|refine zU (by first|rfl|exact⟨by omega,by omega⟩|exact⟨rfl,by omega⟩|exact⟨hpl.symm,by show _<(puL vl0 l s B w x.1).length;omega⟩|exact⟨by simp[MR.len],by simp[MR.len];omega⟩|(simp only[MR.len];done)|exact Dl) ?_)
      refine zC (zL (zA (yO zO [] 1600 ?_)));exact zR (⟨x.1+1,by omega⟩) ⟨⟨u19 (by push_cast;rfl),yK⟩,⟨SubO.mp (congrArg D.pvss (mapset _ _ _).symm),yH⟩,rfl,rfl⟩ (by show w.length-(x.1+1)<w.length-x.1;omega)
     ·
      refine yF (zZ (yA (zW (zA ?_))));refine pN 901 rfl (by repeat(first|exact trivial|exact(vR0 vl0 l s B w x.1).symm|exact rfl|exact(fun _=>rfl)|exact(fun h=>absurd h (by decide))|refine⟨?_,?_⟩)) (by repeat(first|exact trivial|exact rfl|exact(fun _=>rfl)|exact(fun h=>absurd h (by decide))|refine⟨?_,?_⟩)) ?_;refine zK 1700 ?_;refine zN ?_;have e9:puC s C l.length w.length m=0:=(Aa c4).trans (Aa c6);rw[hCd,hIx,e9,show puE s C l.length w.length m=0 from(Aa c4).trans (Aa c6)];have e:x.1=w.length:=by omega
      exact u1 rfl (SubP.tup ⟨SubP.ownSl (by rw[hR];unfold puR;rw[Aa (not_not_intro e9),Aa c8];exact congrArg (fun z=>(puL vl0 l s B w z).map vlD) e),u4 _,trivial⟩)
theorem uN0{v:Vl}(h:Lg v.nl/\yR v=true):v.nn=decide (pxI v<0)/\v.nl=lim (pxI v).natAbs:=by
 obtain⟨a1,a2,a3⟩:=dW h.1 (dL h.1 h.2);have e:(pxI v).natAbs=VL v.nl:=uG0 _ _;rw[e];exact⟨a2,a1⟩
theorem ps_ok{p q r:Vl}(hp:Lg p.nl/\yR p=true)(hq:Lg q.nl/\yR q=true)(hr:Lg r.nl/\yR r=true)(h:¬(sptS p q r).k=1):psD p q r=[.v (.bool p.nn),usD p.nl,.v (.bool q.nn),usD q.nl,.v (.bool r.nn),usD r.nl,.v (.bool (decide (p.k=2))),.v (.bool (decide (q.k=2))),.v (.bool (decide (r.k=2)))]:=by
 rw[show psD p q r=sicD (pxI p) (pxI q) (pxI r) (pgB p) (pgB q) (pgB r)from Aa h];unfold sicD pgB;rw[<-(uN0 hp).1,<-(uN0 hp).2,<-(uN0 hq).1,<-(uN0 hq).2,<-(uN0 hr).1,<-(uN0 hr).2]
theorem pt_t{p q r:Vl}(h:¬(kOk p/\kOk q/\kOk r)):sptS p q r=raS 32 pB0:=Ag h
theorem pt_z{p q r:Vl}(h:kOk p/\kOk q/\kOk r)(h2:r.k=2/\r.nl.length=0):sptS p q r=raS 33 pA0:=(Aa (not_not_intro h)).trans (Ag h2)
theorem pt_0{p q r:Vl}(h:kOk p/\kOk q/\kOk r)(h2:¬(r.k=2/\r.nl.length=0)):sptS p q r=st0:=(Aa (not_not_intro h)).trans (Aa h2)
theorem ps_e{p q r:Vl}(h:(sptS p q r).k=1):psD p q r=zeD:=Ag h
theorem opSlice_ok(p q r:Vl)(hp:Lg p.nl/\yR p=true)(hq:Lg q.nl/\yR q=true)(hr:Lg r.nl/\yR r=true):Fx 27 [.agg (p3D p q r)] (.tup [.agg (psD p q r),.agg (stD (sptS p q r))]):=by
 refine yM zO Tryz.func27 rfl rfl rfl rfl rfl rfl ?_;intros;refine zK 100 ?_;refine zB (zK 200 ?_);refine zQ ?_;refine yB (ι:={k:Nat//k<=3/\(0<k->kOk p)/\(1<k->kOk q)/\(2<k->kOk r)}) [1,2,3,7] [0,1,2] 250 (fun x=>[(8,.v (.int .i64 x.1))]) (fun _=>[]) (fun x=>3-x.1) ⟨0,by omega,fun h=>absurd h om,fun h=>absurd h om,fun h=>absurd h om⟩ ?_;refine⟨⟨yK,yH,rfl,rfl⟩,fun x=>?_⟩;have hk:=x.2.1;refine zK 300 ?_;refine zB (zX (fun c2=>?_) (fun c2=>?_))
 ·
  refine zJ (zA (zB (zQ ?_)));obtain⟨k0,hk0,hk1,hk2,hk3⟩:=x;rcases(show k0=0\/k0=1\/k0=2 by have h9:=c2;simp at h9;omega)with rfl|rfl|rfl
  ·refine zK 400 ?_;refine zK 500 ?_;refine zT rfl (fun c4=>?_) (fun c4=>?_)
   ·have c4:¬kOk p:=by have h9:=c4;unfold kOk;simp at h9;omega
    refine zB (zE zO [] 600 rfl ?_);refine zF ?_;refine zS _ (wT _ _) rfl ?_;refine zf (zA (zN (zP (zM (yL (zP (zM ?_)))))));have e9:=pt_t (p:=p) (q:=q) (r:=r) (fun h9=>c4 h9.1);rw[ps_e (by rw[e9];rfl),e9];exact u1 rfl (SubP.tup ⟨(SubP.agg nq9),u4 _,trivial⟩)
   ·have c4:kOk p:=by have h9:=c4;unfold kOk;simp at h9;omega
    refine zJ (zL (zA (yO zO [] 700 ?_)));exact zR ⟨1,by omega,(fun _=>c4),(fun h9=>absurd h9 om),(fun h9=>absurd h9 om)⟩ ⟨⟨u19 rfl,yK⟩,yH,rfl,rfl⟩ (by show 3-1<3-0;omega)
  ·refine zK 400 ?_;refine zK 500 ?_;refine zT rfl (fun c4=>?_) (fun c4=>?_)
   ·have c4:¬kOk q:=by have h9:=c4;unfold kOk;simp at h9;omega
    refine zB (zE zO [] 600 rfl ?_);refine zF ?_;refine zS _ (wT _ _) rfl ?_;refine zf (zA (zN (zP (zM (yL (zP (zM ?_)))))));have e9:=pt_t (p:=p) (q:=q) (r:=r) (fun h9=>c4 h9.2.1);rw[ps_e (by rw[e9];rfl),e9];exact u1 rfl (SubP.tup ⟨(SubP.agg nq9),u4 _,trivial⟩)
   ·have c4:kOk q:=by have h9:=c4;unfold kOk;simp at h9;omega
    refine zJ (zL (zA (yO zO [] 700 ?_)));exact zR ⟨2,by omega,(fun _=>hk1 om),(fun _=>c4),(fun h9=>absurd h9 om)⟩ ⟨⟨u19 rfl,yK⟩,yH,rfl,rfl⟩ (by show 3-2<3-1;omega)
  ·refine zK 400 ?_;refine zK 500 ?_;refine zT rfl (fun c4=>?_) (fun c4=>?_)
   ·have c4:¬kOk r:=by have h9:=c4;unfold kOk;simp at h9;omega
    refine zB (zE zO [] 600 rfl ?_);refine zF ?_;refine zS _ (wT _ _) rfl ?_;refine zf (zA (zN (zP (zM (yL (zP (zM ?_)))))));have e9:=pt_t (p:=p) (q:=q) (r:=r) (fun h9=>c4 h9.2.2);rw[ps_e (by rw[e9];rfl),e9];exact u1 rfl (SubP.tup ⟨(SubP.agg nq9),u4 _,trivial⟩)
   ·have c4:kOk r:=by have h9:=c4;unfold kOk;simp at h9;omega
    refine zJ (zL (zA (yO zO [] 700 ?_)));exact zR ⟨3,by omega,(fun _=>hk1 om),(fun _=>hk2 om),(fun _=>c4)⟩ ⟨⟨u19 rfl,yK⟩,yH,rfl,rfl⟩ (by show 3-3<3-2;omega)
 ·
  refine yF (zZ (yA (zW (zA (zK 800 ?_)))));refine zB (yE zO [] [[],[0],[0,1],[0,1,2],[],[4],[4,5],[4,5,6],[],[8],[8,9],[8,9,10],[0,1,2,3],[0,1,2,3,12],[0,1,2,3,4,5,6,7,12,13],[0,1,2,3,4,5,6,7,12,13,14],(rgN 16),(rgN 17)] 900 yX kr rfl ?_);refine zF ?_;refine zC (zA (zB (zK 1000 ?_)));refine zT rfl (fun c9=>?_) (fun c9=>?_)
  ·have c9:r.k=2/\r.nl.length=0:=by have h9:=c9;simp at h9;exact⟨h9.1,by simpa using h9.2⟩
   refine zB (zE zO [] 1100 rfl ?_);refine zF ?_;refine zS _ (wT _ _) rfl ?_;refine zf (zA (zN (zM ?_)));have hkk:kOk p/\kOk q/\kOk r:=⟨x.2.2.1 om,x.2.2.2.1 om,x.2.2.2.2 om⟩;have e9:=pt_z hkk c9;rw[ps_e (by rw[e9];rfl),e9];exact u1 rfl (SubP.tup ⟨(SubP.agg nq9),u4 _,trivial⟩)
  ·have c9:¬(r.k=2/\r.nl.length=0):=by have h9:=c9;simp at h9;intro h8;exact absurd h8.2 (by simpa using h9 h8.1)
   refine zJ (zA (zK 1200 ?_));refine zN ?_;have hkk:kOk p/\kOk q/\kOk r:=⟨x.2.2.1 om,x.2.2.2.1 om,x.2.2.2.2 om⟩;have e9:=pt_0 hkk c9;rw[ps_ok hp hq hr (by rw[e9];decide),e9];exact u1 rfl (SubP.tup ⟨u4 _,(SubP.agg nq9),trivial⟩)
theorem PartsProblem_ok(p q r:Vl):Fx 6 [.agg (p3D p q r)] (.agg (stD (sptS p q r))):=by
 refine yM zO Tryz.func6 rfl rfl rfl rfl rfl rfl ?_;intros;refine zK 100 ?_;refine zB (zK 200 ?_);refine zQ ?_;refine yB (ι:={k:Nat//k<=3/\(0<k->kOk p)/\(1<k->kOk q)/\(2<k->kOk r)}) [1,2,5] [0,1] 250 (fun x=>[(6,.v (.int .i64 x.1))]) (fun _=>[]) (fun x=>3-x.1) ⟨0,by omega,fun h=>absurd h om,fun h=>absurd h om,fun h=>absurd h om⟩ ?_;refine⟨⟨yK,yH,rfl,rfl⟩,fun x=>?_⟩;have hk:=x.2.1;refine zK 300 ?_;refine zB (zX (fun c2=>?_) (fun c2=>?_))
 ·
  refine zJ (zA (zB (zQ ?_)));obtain⟨k0,hk0,hk1,hk2,hk3⟩:=x;rcases(show k0=0\/k0=1\/k0=2 by have h9:=c2;simp at h9;omega)with rfl|rfl|rfl
  ·refine zK 400 ?_;refine zK 500 ?_;refine zT rfl (fun c4=>?_) (fun c4=>?_)
   ·have c4:¬kOk p:=by have h9:=c4;unfold kOk;simp at h9;omega
    refine zB (zE zO [] 600 rfl ?_);refine zF ?_;refine zS _ (mQ _ _) rfl ?_;refine zf (zA (zN (zP (zM (yL (zP (zM ?_)))))));have e9:=pt_t (p:=p) (q:=q) (r:=r) (fun h9=>c4 h9.1);rw[e9];exact u1 rfl (u4 _)
   ·have c4:kOk p:=by have h9:=c4;unfold kOk;simp at h9;omega
    refine zJ (zL (zA (yO zO [] 700 ?_)));exact zR ⟨1,by omega,(fun _=>c4),(fun h9=>absurd h9 om),(fun h9=>absurd h9 om)⟩ ⟨⟨u19 rfl,yK⟩,yH,rfl,rfl⟩ (by show 3-1<3-0;omega)
  ·refine zK 400 ?_;refine zK 500 ?_;refine zT rfl (fun c4=>?_) (fun c4=>?_)
   ·have c4:¬kOk q:=by have h9:=c4;unfold kOk;simp at h9;omega
    refine zB (zE zO [] 600 rfl ?_);refine zF ?_;refine zS _ (mQ _ _) rfl ?_;refine zf (zA (zN (zP (zM (yL (zP (zM ?_)))))));have e9:=pt_t (p:=p) (q:=q) (r:=r) (fun h9=>c4 h9.2.1);rw[e9];exact u1 rfl (u4 _)
   ·have c4:kOk q:=by have h9:=c4;unfold kOk;simp at h9;omega
    refine zJ (zL (zA (yO zO [] 700 ?_)));exact zR ⟨2,by omega,(fun _=>hk1 om),(fun _=>c4),(fun h9=>absurd h9 om)⟩ ⟨⟨u19 rfl,yK⟩,yH,rfl,rfl⟩ (by show 3-2<3-1;omega)
  ·refine zK 400 ?_;refine zK 500 ?_;refine zT rfl (fun c4=>?_) (fun c4=>?_)
   ·have c4:¬kOk r:=by have h9:=c4;unfold kOk;simp at h9;omega
    refine zB (zE zO [] 600 rfl ?_);refine zF ?_;refine zS _ (mQ _ _) rfl ?_;refine zf (zA (zN (zP (zM (yL (zP (zM ?_)))))));have e9:=pt_t (p:=p) (q:=q) (r:=r) (fun h9=>c4 h9.2.2);rw[e9];exact u1 rfl (u4 _)
   ·have c4:kOk r:=by have h9:=c4;unfold kOk;simp at h9;omega
    refine zJ (zL (zA (yO zO [] 700 ?_)));exact zR ⟨3,by omega,(fun _=>hk1 om),(fun _=>hk2 om),(fun _=>c4)⟩ ⟨⟨u19 rfl,yK⟩,yH,rfl,rfl⟩ (by show 3-3<3-2;omega)
 ·
  refine yF (zZ (yA (zW (zA (zB (zK 800 ?_))))));refine zT rfl (fun c7=>?_) (fun c7=>?_)
  ·have c7:r.k=2/\r.nl.length=0:=by have h9:=c7;simp at h9;exact⟨h9.1,by simpa using h9.2⟩
   refine zB (zE zO [] 900 rfl ?_);refine zF ?_;refine zS _ (mQ _ _) rfl ?_;refine zf (zA (zN (zM ?_)));have hkk:kOk p/\kOk q/\kOk r:=⟨x.2.2.1 om,x.2.2.2.1 om,x.2.2.2.2 om⟩;have e9:=pt_z hkk c7;rw[e9];exact u1 rfl (u4 _)
  ·have c7:¬(r.k=2/\r.nl.length=0):=by have h9:=c7;simp at h9;intro h8;exact absurd h8.2 (by simpa using h9 h8.1)
   refine zJ (zA (zK 1000 ?_));refine zN ?_;have hkk:kOk p/\kOk q/\kOk r:=⟨x.2.2.1 om,x.2.2.2.1 om,x.2.2.2.2 om⟩;have e9:=pt_0 hkk c7;rw[e9];exact u1 rfl (SubP.agg nq9)
def cnP(b:Bool)(m:Nat)(n:Int):Bool×Nat:=if(b&&decide (0<m))=true then plB b m (decide (n<0)) n.natAbs else(b,m)
theorem cn_Z(b:Bool)(m:Nat)(n:Int):ZI (cnP b m n).1 (cnP b m n).2=if ZI b m<0 then ZI b m+n else ZI b m:=by
 unfold cnP;rw[neg_ZI];by_cases h:ZI b m<0
 ·rw[Ag (Bo h),Ag h,plB_Z,xO0]
 ·rw[Aa (by rw[Cl h];decide),Aa h]
theorem cn_E(v:Vl)(n lo hi:Int):clZ (ZI (cnP v.nn (VL v.nl) n).1 (cnP v.nn (VL v.nl) n).2) lo hi=slE (pxI v) n lo hi:=by rw[cn_Z];rfl
theorem kS0{b:Bool}{m:Nat}{n:Int}{k:Nat}(h1:(dig m).length<=k)(h2:(dig n.natAbs).length<=k):(dig (cnP b m n).2).length<=k+1:=by
 unfold cnP;split
 ·exact dig_plB h1 h2
 ·exact Nat.le_succ_of_le h1
theorem xA(b:Bool)(m:Nat)(n:Int)(hm:(dig m).length<=100000)(h0: -4000<=n)(h1:n<=4000):Fx 39 [rD b m,.v (.int .i64 n)] (rD (cnP b m n).1 (cnP b m n).2):=by
 have hnd:(dig n.natAbs).length<=1:=qL om;refine yM zO Tryz.func39 rfl rfl rfl rfl rfl rfl ?_;intros;refine zK 100 ?_;refine zB ?_;refine zB (zE zO [] 200 rfl ?_);refine zF ?_;refine zS _ (rfNegI_ok b m) rfl ?_;refine zF ?_;refine zC (zA (zT rfl (fun c1=>?_) (fun c1=>?_)))
 ·have c1:(b&&decide (0<m))=true:=by simpa using c1
  refine zB (yE zO [] [[],[],[1],[0,1,2],[0,1,2,3]] 300 yX kr rfl ?_);refine zF ?_;refine zS _ (kW n om om) rfl ?_;refine zF ?_;refine zS _ (IntPlus_ok b (decide (n<0)) m n.natAbs om om) rfl ?_;refine zf (zA (zN (zM ?_)));rw[show cnP b m n=_ from Ag c1];exact u1 rfl (u4 _)
 ·have c1:¬(b&&decide (0<m))=true:=by simpa using c1
  refine zJ (zA (zK 400 ?_));refine zN ?_;rw[show cnP b m n=_ from Aa c1];exact u1 rfl (u4 _)
theorem pD0{P:Program}{E:Pn}{K:DS->Prop}{p:Prop}{r:Out}(hr:r.sat P E K)(hp:p:=by first|exact qO (by omega)|(simp only[Ao,Ak,Au,vQ];have:=Q.cn;omega)|exact Dl):(Out.need p r).sat P E K:=⟨hp,hr⟩
theorem pC0{P:Program}{E:Pn}{K:DS->Prop}{p:Prop}{r:Out}(hr:r.sat P E K)(hp:p:=by first|omega|exact⟨by omega,by omega⟩|exact Dl):(Out.need p r).sat P E K:=⟨hp,hr⟩
set_option maxHeartbeats 1000000 in
theorem refCut_ok(p q r:Vl)(n:Int)(hp:Lg p.nl/\yR p=true)(hq:Lg q.nl/\yR q=true)(hr:Lg r.nl/\yR r=true)(hk:¬(sptS p q r).k=1)(h0:0<=n)(h1:n<=4000):Fx 10 [.agg (p3D p q r),.v (.int .i64 n)] (.tup [isD (slP (rzS (pxI r) (pgB r)) (rzB (pxI p) (rzS (pxI r) (pgB r)) n (pgB p)) (rzC (pxI q) (rzS (pxI r) (pgB r)) n (rzB (pxI p) (rzS (pxI r) (pgB r)) n (pgB p)) (pgB q))),.v (.int .i64 (rzS (pxI r) (pgB r)))]):=by
 have K:=slK hp hq hr hk;have Q:=rzQ (n:=n.toNat) K;rw[Int.toNat_of_nonneg h0]at Q;have hvp:=(dW hp.1 (dL hp.1 hp.2)).2.2;have hvq:=(dW hq.1 (dL hq.1 hq.2)).2.2;have hvr:=(dW hr.1 (dL hr.1 hr.2)).2.2;have hdp:=mU0 hp.1;have hdq:=mU0 hq.1;have hdr:=mU0 hr.1;have hnd:(dig n.natAbs).length<=1:=qL om;have hcp:=kS0 (b:=p.nn) (m:=VL p.nl) (n:=n) (k:=1000) om om;have hcq:=kS0 (b:=q.nn) (m:=VL q.nl) (n:=n) (k:=1000) om om;have hlh:=mC0 (rzS (pxI r) (pgB r)) n h0;have hlo: -1<=rzL (rzS (pxI r) (pgB r)):=by unfold rzL;split<;>omega
 have hhi:rzH (rzS (pxI r) (pgB r)) n<=n:=by unfold rzH;split<;>omega
 have hBi:=vO0 (a:=pxI p) (s:=(rzS (pxI r) (pgB r))) (n:=n) (f:=pgB p) h0;have hEi:=vN0 (a:=pxI q) (s:=(rzS (pxI r) (pgB r))) (n:=n) (f:=pgB q) h0;have hC:=zU0 (b:=pxI q) (s:=(rzS (pxI r) (pgB r))) (n:=n) (B:=(rzB (pxI p) (rzS (pxI r) (pgB r)) n (pgB p))) (g:=pgB q);have eB:pgB p=true->(rzB (pxI p) (rzS (pxI r) (pgB r)) n (pgB p))=slE (pxI p) n (rzL (rzS (pxI r) (pgB r))) (rzH (rzS (pxI r) (pgB r)) n):=fun e=>Ag e;have eB0:¬pgB p=true->(rzB (pxI p) (rzS (pxI r) (pgB r)) n (pgB p))=if(rzS (pxI r) (pgB r))<0 then rzH (rzS (pxI r) (pgB r)) n else rzL (rzS (pxI r) (pgB r)):=fun e=>Aa e;have eE:pgB q=true->(rzE (pxI q) (rzS (pxI r) (pgB r)) n (pgB q))=slE (pxI q) n (rzL (rzS (pxI r) (pgB r))) (rzH (rzS (pxI r) (pgB r)) n):=fun e=>Ag e;have eE0:¬pgB q=true->(rzE (pxI q) (rzS (pxI r) (pgB r)) n (pgB q))=if(rzS (pxI r) (pgB r))<0 then rzL (rzS (pxI r) (pgB r))else rzH (rzS (pxI r) (pgB r)) n:=fun e=>Aa e;have eS:pgB r=true->(rzS (pxI r) (pgB r))=clZ (pxI r) (-10000) 10000:=fun e=>Ag e;have eS0:¬pgB r=true->(rzS (pxI r) (pgB r))=1:=fun e=>Aa e;have eL:(rzS (pxI r) (pgB r))<0->rzL (rzS (pxI r) (pgB r))= -1/\rzH (rzS (pxI r) (pgB r)) n=n-1:=fun e=>⟨Ag e,Ag e⟩;have eL0:¬(rzS (pxI r) (pgB r))<0->rzL (rzS (pxI r) (pgB r))=0/\rzH (rzS (pxI r) (pgB r)) n=n:=fun e=>⟨Aa e,Aa e⟩
 revert Q hC hlh hlo hhi hBi hEi eB eB0 eE eE0 eS eS0 eL eL0
 generalize (rzC (pxI q) (rzS (pxI r) (pgB r)) n (rzB (pxI p) (rzS (pxI r) (pgB r)) n (pgB p)) (pgB q))=C;generalize (rzE (pxI q) (rzS (pxI r) (pgB r)) n (pgB q))=E;generalize (rzB (pxI p) (rzS (pxI r) (pgB r)) n (pgB p))=B;generalize rzL (rzS (pxI r) (pgB r))=lo;generalize rzH (rzS (pxI r) (pgB r)) n=hi;generalize (rzS (pxI r) (pgB r))=s;intro Q hlh hlo hhi hBi hEi hC eB eB0 eE eE0 eS eS0 eL eL0;have q1:=Q.s1;have q2:=Q.s2;have q3:=Q.nz;refine yM zO Tryz.func10 rfl rfl rfl rfl rfl rfl ?_;intros;refine zK 100 ?_;refine yU 4 3 1 rfl ?_;refine zK 200 ?_;refine uH (ι:=Unit) [1,2,4] [0,100] 600 (fun _=>[(5,.v (.int .i64 s))]) (fun _=>[]) ?_;refine⟨?_,fun _=>?_⟩
 ·refine zK 300 ?_;refine zT rfl (fun c2=>?_) (fun c2=>?_)
  ·have c2:pgB r=true:=by have h9:=c2;simpa[pgB]using h9
   refine zE zO [] 400 rfl ?_;refine zF ?_;refine zS _ (xS0 r hr.1 om) rfl ?_;refine zF ?_;refine zS _ (gW r.nn (VL r.nl) (-10000) 10000 om om om om) rfl ?_;refine zf ?_;exact yS () ⟨⟨u19 (by rw[eS c2];rfl),yK⟩,yH,rfl,rfl⟩
  ·have c2:¬pgB r=true:=by have h9:=c2;simpa[pgB]using h9
   refine zJ ?_;exact yS () ⟨⟨u19 (by rw[eS0 c2]),yK⟩,yH,rfl,rfl⟩
 refine zK 700 ?_;refine zB (zK 800 ?_);refine zT rfl (fun c5=>?_) (fun c5=>?_)
 ·have c5:s<0:=by simpa using c5
  have hL:=eL c5;refine yO zO [] 900 ?_;refine zA (zK 1000 ?_);refine zB (zK 1100 ?_);refine zX (fun c8=>?_) (fun c8=>?_)
  ·
   refine yO zO [] 1200 ?_;refine zA ?_;refine uH (ι:=Unit) [1,2,4,5,6,7,9] [0,100] 1400 (fun _=>[(8,.v (.int .i64 B))]) (fun _=>[]) ?_;refine⟨?_,fun _=>?_⟩
   ·refine zK 1300 ?_;refine zT rfl (fun c10=>?_) (fun c10=>?_)
    ·have c10:pgB p=true:=by have h9:=c10;simpa[pgB]using h9
     refine zE zO [] 1400 rfl ?_;refine zF ?_;refine zS _ (xS0 p hp.1 om) rfl ?_;refine zF ?_;refine zS _ (xA p.nn (VL p.nl) n om om om) rfl ?_;refine zF ?_;refine zS _ (gW _ _ (-1) (n-1) (by have:=eL c5;omega) om om om) rfl ?_;refine zf ?_;exact yS () ⟨⟨u19 (by rw[eB c10,cn_E,(eL c5).1,(eL c5).2]),yK⟩,yH,rfl,rfl⟩
    ·have c10:¬pgB p=true:=by have h9:=c10;simpa[pgB]using h9
     refine zJ ?_;exact yS () ⟨⟨u19 (by rw[eB0 c10,Ag c5,(eL c5).2]),yK⟩,yH,rfl,rfl⟩
   refine uH (ι:=Unit) [4,5,8] [100] 1600 (fun _=>[(9,.v (.int .i64 E))]) (fun _=>[]) ?_;refine⟨?_,fun _=>?_⟩
   ·refine zK 1500 ?_;refine zT rfl (fun c12=>?_) (fun c12=>?_)
    ·have c12:pgB q=true:=by have h9:=c12;simpa[pgB]using h9
     refine zE zO [] 1600 rfl ?_;refine zF ?_;refine zS _ (xS0 q hq.1 om) rfl ?_;refine zF ?_;refine zS _ (xA q.nn (VL q.nl) n om om om) rfl ?_;refine zF ?_;refine zS _ (gW _ _ (-1) (n-1) (by have:=eL c5;omega) om om om) rfl ?_;refine zf ?_;exact yS () ⟨⟨u19 (by rw[eE c12,cn_E,(eL c5).1,(eL c5).2]),yK⟩,yH,rfl,rfl⟩
    ·have c12:¬pgB q=true:=by have h9:=c12;simpa[pgB]using h9
     refine zJ ?_;exact yS () ⟨⟨u19 (by rw[eE0 c12,Ag c5,(eL c5).1]),yK⟩,yH,rfl,rfl⟩
   refine zB (zK 1700 ?_);refine zQ ?_;refine yB (ι:={k:Nat//k<=C}) [5,9] [] 1700 (fun x=>[(10,.v (.int .i64 (B+(x.1:Int)*s))),(4,.own 100 1 ((slP s B x.1).map iD))]) (fun x=>[(100,.row 3 1 ((slP s B x.1).map iD).length)]) (fun x=>C-x.1) ⟨0,Aq _⟩ ?_;refine⟨⟨⟨u19 (by simp),Sub.own rfl,yK⟩,yH,rfl,rfl⟩,fun x=>?_⟩;have hkx:x.1<=C:=x.2;have hcn:=Q.cn;refine zB (zK 1800 ?_);refine zT rfl (fun c15=>?_) (fun c15=>?_)
   ·have c15:x.1<C:=by
     have h9:(0<s/\B+(x.1:Int)*s<E)\/(s<0/\E<B+(x.1:Int)*s):=by have h8:=c15;simp at h8;omega
     have h7:=(vJ0 (s:=s) (b:=B) (e:=E) (k:=(x.1:Int)) Q.nz om).1 h9;omega
    have hqx:=Q.at_ x.1 c15;refine zJ (zA (zB (zQ ?_)));refine zE zO [] 1900 rfl ?_;repeat(first|refine zH ?_|refine pD0 ?_)
    refine zC (zL (zA ?_));refine zE zO [] 2000 rfl ?_;repeat(first|refine zH ?_|refine pC0 ?_)
    refine zC ?_;exact zR ⟨x.1+1,by omega⟩ ⟨⟨u19 (by push_cast;rw[Int.add_mul,Int.one_mul];omega),Sub.own (by rw[xX,Ad];rfl),yK⟩,⟨⟨rfl,rfl,by simp only[Ae,Ao,vQ];rfl⟩,yH⟩,rfl,rfl⟩ (by show C-(x.1+1)<C-x.1;omega)
   ·have c15:x.1=C:=by
     have h9:¬((0<s/\B+(x.1:Int)*s<E)\/(s<0/\E<B+(x.1:Int)*s)):=by have h8:=c15;simp at h8;omega
     have h7:¬((x.1:Int)<slC s B E):=fun h6=>h9 ((vJ0 (s:=s) (b:=B) (e:=E) (k:=(x.1:Int)) Q.nz om).2 h6);omega
    refine yF (zZ (yA (zW (zA (zK 1900 ?_)))));refine zN ?_;exact u1 rfl (SubP.tup ⟨SubP.ownSl (by rw[c15]),u4 _,trivial⟩)
  ·
   first|omega|(have h9:=c8;simp at h9;omega)
 ·have c5:¬s<0:=by simpa using c5
  have hL:=eL0 c5;refine zJ (zA (zK 900 ?_));refine zB (zK 1000 ?_);refine zX (fun c8=>?_) (fun c8=>?_)
  ·
   first|omega|(have h9:=c8;simp at h9;omega)
  ·
   refine zJ (zA ?_);refine uH (ι:=Unit) [1,2,4,5,6,7,9] [0,100] 1400 (fun _=>[(8,.v (.int .i64 B))]) (fun _=>[]) ?_;refine⟨?_,fun _=>?_⟩
   ·refine zK 1100 ?_;refine zT rfl (fun c10=>?_) (fun c10=>?_)
    ·have c10:pgB p=true:=by have h9:=c10;simpa[pgB]using h9
     refine zE zO [] 1200 rfl ?_;refine zF ?_;refine zS _ (xS0 p hp.1 om) rfl ?_;refine zF ?_;refine zS _ (xA p.nn (VL p.nl) n om om om) rfl ?_;refine zF ?_;refine zS _ (gW _ _ 0 n (by have:=eL0 c5;omega) om om om) rfl ?_;refine zf ?_;exact yS () ⟨⟨u19 (by rw[eB c10,cn_E,(eL0 c5).1,(eL0 c5).2]),yK⟩,yH,rfl,rfl⟩
    ·have c10:¬pgB p=true:=by have h9:=c10;simpa[pgB]using h9
     refine zJ ?_;exact yS () ⟨⟨u19 (by rw[eB0 c10,Aa c5,(eL0 c5).1]),yK⟩,yH,rfl,rfl⟩
   refine uH (ι:=Unit) [4,5,8] [100] 1600 (fun _=>[(9,.v (.int .i64 E))]) (fun _=>[]) ?_;refine⟨?_,fun _=>?_⟩
   ·refine zK 1500 ?_;refine zT rfl (fun c12=>?_) (fun c12=>?_)
    ·have c12:pgB q=true:=by have h9:=c12;simpa[pgB]using h9
     refine zE zO [] 1600 rfl ?_;refine zF ?_;refine zS _ (xS0 q hq.1 om) rfl ?_;refine zF ?_;refine zS _ (xA q.nn (VL q.nl) n om om om) rfl ?_;refine zF ?_;refine zS _ (gW _ _ 0 n (by have:=eL0 c5;omega) om om om) rfl ?_;refine zf ?_;exact yS () ⟨⟨u19 (by rw[eE c12,cn_E,(eL0 c5).1,(eL0 c5).2]),yK⟩,yH,rfl,rfl⟩
    ·have c12:¬pgB q=true:=by have h9:=c12;simpa[pgB]using h9
     refine zJ ?_;exact yS () ⟨⟨u19 (by rw[eE0 c12,Aa c5,(eL0 c5).2]),yK⟩,yH,rfl,rfl⟩
   refine zB (zK 1700 ?_);refine zQ ?_;refine yB (ι:={k:Nat//k<=C}) [5,9] [] 1700 (fun x=>[(10,.v (.int .i64 (B+(x.1:Int)*s))),(4,.own 100 1 ((slP s B x.1).map iD))]) (fun x=>[(100,.row 3 1 ((slP s B x.1).map iD).length)]) (fun x=>C-x.1) ⟨0,Aq _⟩ ?_;refine⟨⟨⟨u19 (by simp),Sub.own rfl,yK⟩,yH,rfl,rfl⟩,fun x=>?_⟩;have hkx:x.1<=C:=x.2;have hcn:=Q.cn;refine zB (zK 1800 ?_);refine zT rfl (fun c15=>?_) (fun c15=>?_)
   ·have c15:x.1<C:=by
     have h9:(0<s/\B+(x.1:Int)*s<E)\/(s<0/\E<B+(x.1:Int)*s):=by have h8:=c15;simp at h8;omega
     have h7:=(vJ0 (s:=s) (b:=B) (e:=E) (k:=(x.1:Int)) Q.nz om).1 h9;omega
    have hqx:=Q.at_ x.1 c15;refine zJ (zA (zB (zQ ?_)));refine zE zO [] 1900 rfl ?_;repeat(first|refine zH ?_|refine pD0 ?_)
    refine zC (zL (zA ?_));refine zE zO [] 2000 rfl ?_;repeat(first|refine zH ?_|refine pC0 ?_)
    refine zC ?_;exact zR ⟨x.1+1,by omega⟩ ⟨⟨u19 (by push_cast;rw[Int.add_mul,Int.one_mul];omega),Sub.own (by rw[xX,Ad];rfl),yK⟩,⟨⟨rfl,rfl,by simp only[Ae,Ao,vQ];rfl⟩,yH⟩,rfl,rfl⟩ (by show C-(x.1+1)<C-x.1;omega)
   ·have c15:x.1=C:=by
     have h9:¬((0<s/\B+(x.1:Int)*s<E)\/(s<0/\E<B+(x.1:Int)*s)):=by have h8:=c15;simp at h8;omega
     have h7:¬((x.1:Int)<slC s B E):=fun h6=>h9 ((vJ0 (s:=s) (b:=B) (e:=E) (k:=(x.1:Int)) Q.nz om).2 h6);omega
    refine yF (zZ (yA (zW (zA (zK 1900 ?_)))));refine zN ?_;exact u1 rfl (SubP.tup ⟨SubP.ownSl (by rw[c15]),u4 _,trivial⟩)
theorem slicesIndexI_ok(l:List Int)(z:Int)(hl:l.length<=4000):Fx 11 [isD l,.v (.int .i64 z)] (.v (.int .i64 (ixN l z))):=by
 refine yM zO Tryz.func11 rfl rfl rfl rfl rfl rfl ?_;intros;refine zK 100 ?_;refine zB (zK 200 ?_);refine zQ ?_;refine yB (ι:={k:Nat//k<=l.length/\∀j,j<k->l.getD j 0≠z}) [0,1,7] [] 250 (fun x=>[(8,.v (.int .i64 x.1))]) (fun _=>[]) (fun x=>l.length-x.1) ⟨0,Aq _,fun j h=>absurd h om⟩ ?_;refine⟨⟨yK,yH,rfl,rfl⟩,fun x=>?_⟩;have hk:=x.2.1;have hkn:=x.2.2;refine zK 300 ?_;refine zB (zX (fun c2=>?_) (fun c2=>?_))
 ·
  refine zJ (zA (zB (zQ (zK 400 ?_))));refine zB (zE zO [] 500 rfl ?_);repeat(first|refine zH ?_|refine zU (by first|exact⟨by omega,by omega⟩|exact Dl) ?_)
  refine zC (zA (zT rfl (fun c4=>?_) (fun c4=>?_)))
  ·have c4:l.getD x.1 0=z:=by have h9:=c4;simp at h9;first|exact h9.symm|simpa using h9.symm
   refine zK 600 ?_;refine zN (zP (zM (yL (zP (zM ?_)))));exact u1 rfl (u7 (ixN_at om c4 hkn).symm)
  ·have c4:¬l.getD x.1 0=z:=by have h9:=c4;simp at h9;intro h8;first|exact h9 h8.symm|exact h9 (by simpa using h8.symm)
   refine zJ (zL (zA (yO zO [] 700 ?_)));exact zR ⟨x.1+1,by omega,fun j hj=>by
     rcases Bm j x.1 with h9|h9
     ·exact hkn j h9
     ·rw[show j=x.1 by omega];exact c4⟩ ⟨⟨u19 (by push_cast;rfl),yK⟩,yH,rfl,rfl⟩ (by show l.length-(x.1+1)<l.length-x.1;omega)
 ·
  refine yF (zZ (yA (zW (zA (zK 800 ?_)))));refine zN ?_;exact u1 rfl (u7 (ixN_none (fun j hj=>hkn j om)).symm)
end Go.Proofs.YtmakjjodkiedmaaGreatDoor
