/-Part 26 of the proof. -/
import Derived.Test.YtammfbdgjnkolaaGreatDoorM25
namespace Go.Proofs.YtammfbdgjnkolaaGreatDoor
open Go.RowKit
variable{md me:Bool}
theorem uP1(h:List Ob):∀(f:Nat)(v:Vl)(left:Int),0<=left-> -1<=(paS h f v left).2.2/\(paS h f v left).2.2<=left
 |0,_,left,h0=>by show(-1:Int)<= -1/\(-1:Int)<=left;omega
 |f+1,v,left,h0=>by
  have hl:∀(l:List Vl)(k:Int),-1<=k-> -1<=(paF (paS h f) v l k).2.2/\(paF (paS h f) v l k).2.2<=k:=by
   intro l;induction l with
   |nil=>intro k hk;exact⟨hk,Int.le_refl _⟩
   |cons w l ih=>
    intro k hk;rw[paF];split
    ·exact⟨hk,Int.le_refl _⟩
    ·have h1:=uP1 h f w k om;split
     ·exact h1
     ·have h2:=ih (paS h f w k).2.2 h1.1;omega
  rw[paS,paP];split
  ·show-1<=left-1/\left-1<=left;omega
  ·split
   ·have:=hl (zT h v).items (left-1) om;omega
   ·show-1<=left-1/\left-1<=left;omega
theorem jL1{h:List Ob}(g:Uh h):∀(f:Nat)(v:Vl)(left:Int),Vd h v->Vd h (paS h f v left).1
 |0,_,_,hv=>hv
 |f+1,v,left,hv=>by
  have hl:∀(l:List Vl)(k:Int),(∀w∈l,Vd h w)->Vd h (paF (paS h f) v l k).1:=by
   intro l;induction l with
   |nil=>intro k _;exact hv
   |cons w l ih=>
    intro k hw;rw[paF];split
    ·exact hv
    ·split
     ·exact jL1 g f w k (hw w Bc)
     ·exact ih _ fun x hx=>hw x (Be _ hx)
  rw[paS,paP];split
  ·exact hv
  ·split
   ·rename_i c2;refine hl _ _ fun w hw=>?_;obtain⟨h6,ho,eo⟩:=jR (h:=h) (v:=v) om;rw[eo]at hw c2;exact⟨pX0 g ho c2 hw,kA0 g ho hw⟩
   ·exact hv
theorem mE{h:List Ob}{v:Vl}(hv:Vd h v):hasS h v=true:=by
 simp only[hasS,Aj,Dl,Bq,Ay];refine⟨hv.1,?_⟩;by_cases hk:v.k=6
 ·exact .inr (hv.2 hk)
 ·exact .inl hk
structure Pw(F:Vl->Int->Vl×Bool×Int)(v:Vl)(l:List Vl)(l0:Int)where
 k:Nat
 left:Int
 le:k<=l.length
 lo: -1<=left
 hi:left<=l0
 eq:paF F v (l.drop k) left=paF F v l l0
theorem gO0{l:List Vl}{k:Nat}(hk:k<l.length):l.drop k=l.getD k vl0::l.drop (k+1):=by
 rw[Cd hk,Af,Ac hk];rfl
def Pw.next{F:Vl->Int->Vl×Bool×Int}{v:Vl}{l:List Vl}{l0:Int}(x:Pw F v l l0)(hF:∀w k,0<=k-> -1<=(F w k).2.2/\(F w k).2.2<=k)(hk:x.k<l.length)(h0:¬x.left<0)(h1:¬(F (l.getD x.k vl0) x.left).2.1=false):Pw F v l l0:=
 ⟨x.k+1,(F (l.getD x.k vl0) x.left).2.2,hk,(hF _ _ om).1,by have:=(hF (l.getD x.k vl0) x.left om).2;have:=x.hi;omega,by rw[<-x.eq,gO0 hk,paF,Aa h0,Aa h1]⟩
theorem Pw.out{F:Vl->Int->Vl×Bool×Int}{v:Vl}{l:List Vl}{l0:Int}(x:Pw F v l l0)(hk:x.k<l.length)(h0:x.left<0):paF F v l l0=(v,true,x.left):=by rw[<-x.eq,gO0 hk,paF,Ab h0]
theorem Pw.bad{F:Vl->Int->Vl×Bool×Int}{v:Vl}{l:List Vl}{l0:Int}(x:Pw F v l l0)(hk:x.k<l.length)(h0:¬x.left<0)(h1:(F (l.getD x.k vl0) x.left).2.1=false):paF F v l l0=((F (l.getD x.k vl0) x.left).1,false,(F (l.getD x.k vl0) x.left).2.2):=by rw[<-x.eq,gO0 hk,paF,Aa h0,Ab h1]
theorem Pw.fin{F:Vl->Int->Vl×Bool×Int}{v:Vl}{l:List Vl}{l0:Int}(x:Pw F v l l0)(hk:¬x.k<l.length):paF F v l l0=(v,true,x.left):=by
 rw[<-x.eq,Bd om,paF]
def paD(r:Vl×Bool×Int):D:= .tpo [.agg (vlD r.1),.v (.bool r.2.1)]
def lfO(left:Int):List DOwn:=[.box 3 [.v (.int .i64 left)]]
set_option maxHeartbeats 1000000 in
theorem part_step(h:List Ob)(v:Vl)(left:Int)(F:Vl->Int->Vl×Bool×Int)(g:Uh h)(hv:v.k=6->qA h v.r=true)(h0:0<=left)(h1:left<=1000)(hF:∀w k,0<=k-> -1<=(F w k).2.2/\(F w k).2.2<=k)(H:(zT h v).kind=1->∀w∈(zT h v).items,∀k,0<=k->k<left->FnG Tryz.prog 186 [hpD md h,.agg (vlD w),.bp 0 0] (lfO k) (paD (F w k)) (lfO (F w k).2.2)):FnG Tryz.prog 186 [hpD md h,.agg (vlD v),.bp 0 0] (lfO left) (paD (paP h F v left)) (lfO (paP h F v left).2.2):=by
 have hil:=(uO g v).2;refine uE zJ Tryz.func186 rfl rfl rfl rfl rfl rfl rfl ?_;intros;refine zK 100 ?_;refine zK 200 ?_;refine zB (zE zJ [] 300 rfl ?_);refine zF ?_;refine zQ _ (cmpObject_ok h v hv) rfl ?_;refine zF ?_;refine zC (zA (zB (zK 400 ?_)));refine zP (zB (zK 500 ?_));refine zZ (fun c4=>?_) (fun c4=>?_)
 ·
  refine zM (zA (zZ (fun c4x=>?_) (fun c4x=>?_)))
  ·
   refine zB (zX zJ [] mK5 900 yP kr rfl ?_);refine zf (zA (zL (zR (zO ?_))));have e:paP h F v left=_:=Ab om;rw[e];exact u11 1 rfl rfl (u0 _) ⟨⟨rfl,u0 _,rfl,trivial⟩,trivial⟩
  ·
   simp_all
 ·
  refine zK 600 ?_;refine zZ (fun c5=>?_) (fun c5=>?_)
  ·
   refine zM (zA (zZ (fun c5x=>?_) (fun c5x=>?_)))
   ·
    refine zB (zX zJ [] mK5 900 yP kr rfl ?_);refine zf (zA (zL (zR (zO ?_))));have e:paP h F v left=_:=Ab om;rw[e];exact u11 1 rfl rfl (u0 _) ⟨⟨rfl,u0 _,rfl,trivial⟩,trivial⟩
   ·
    simp_all
  ·
   refine zK 700 ?_;refine zZ (fun c6=>?_) (fun c6=>?_)
   ·
    refine zM (zA (zZ (fun c6x=>?_) (fun c6x=>?_)))
    ·
     refine zB (zX zJ [] mK5 900 yP kr rfl ?_);refine zf (zA (zL (zR (zO ?_))));have e:paP h F v left=_:=Ab om;rw[e];exact u11 1 rfl rfl (u0 _) ⟨⟨rfl,u0 _,rfl,trivial⟩,trivial⟩
    ·
     simp_all
   ·
    refine yM zJ [] 800 ?_;refine zA (zZ (fun c7=>?_) (fun c7=>?_))
    ·
     refine zB (zX zJ [] mK5 900 yP kr rfl ?_);refine zf (zA (zL (zR (zO ?_))));have e:paP h F v left=_:=Ab om;rw[e];exact u11 1 rfl rfl (u0 _) ⟨⟨rfl,u0 _,rfl,trivial⟩,trivial⟩
    ·
     refine zK 1000 ?_;refine zZ (fun c9=>?_) (fun c9=>?_)
     ·
      refine zK 1100 ?_;refine zP ?_;refine yC (ι:=Pw F v (zT h v).items (left-1)) [2,3,4,6,36,37] [1,2,3] 1150 (fun x=>[(38,.v (.int .i64 x.k))]) (fun x=>[(0,.box 3 [.v (.int .i64 x.left)])]) (fun x=>(zT h v).items.length-x.k) ⟨0,left-1,Aq _,by omega,Int.le_refl _,rfl⟩ ?_;refine⟨⟨⟨u21 rfl,yG⟩,⟨⟨rfl,u21 rfl,rfl,trivial⟩,yF⟩,rfl,rfl⟩,fun x=>?_⟩;have hk:=x.le;have hlo:=x.lo;have hhi:=x.hi;refine zK 1200 ?_;refine zB (zU rfl (fun c11=>?_) (fun c11=>?_))
      ·have c11:x.k<(zT h v).items.length:=by simpa using c11
       refine zM (zA (zB (zP (zK 1300 ?_))));refine zB ?_;refine yL [2,3,4,6,10,36,37,38] [0,1,2,3,1202] 1310 [] [(1202,.box 29 (vlD ((zT h v).items.getD x.k vl0)))] ?_;refine⟨⟨yG,⟨⟨rfl,SubL.same rfl⟩,yF⟩,rfl,rfl⟩,?_⟩;refine zK 1400 ?_;refine zU rfl (fun c13=>?_) (fun c13=>?_)
       ·have c13:x.left<0:=by simpa using c13
        refine zK 1500 ?_;refine zL (zO (zR (zO (yQ (zR (zR (zO ?_)))))));have e:paP h F v left=_:=(Aa om).trans ((Ab c9).trans (x.out c11 c13));rw[e];exact u11 1 rfl rfl (u0 _) ⟨⟨rfl,u0 _,rfl,trivial⟩,trivial⟩
       ·have c13:¬x.left<0:=by simpa using c13
        have hFx:=hF ((zT h v).items.getD x.k vl0) x.left om;refine zM (zA ?_);refine zB (zE zJ [1051] 1600 rfl ?_);refine zF ?_;refine yO _ _ (H c9 ((zT h v).items.getD x.k vl0) (getD_m c11) x.left om (by have:=x.hi;omega)) rfl ?_;refine zf (zA ?_);refine yL [2,3,4,6,11,36,37,38] [1,2,3,1407] 1610 [(12,.v (.bool (F ((zT h v).items.getD x.k vl0) x.left).2.1))] [(0,.box 3 [.v (.int .i64 (F ((zT h v).items.getD x.k vl0) x.left).2.2)]),(1407,.box 29 (vlD (F ((zT h v).items.getD x.k vl0) x.left).1))] ?_;refine⟨⟨yG,⟨⟨rfl,u0 _,rfl,trivial⟩,⟨rfl,SubL.same rfl⟩,yF⟩,rfl,rfl⟩,?_⟩;refine zK 1700 ?_;refine zU rfl (fun c16=>?_) (fun c16=>?_)
        ·have c16:(F ((zT h v).items.getD x.k vl0) x.left).2.1=false:=by simpa using c16
         refine zK 1800 ?_;refine zL (zR (zO (yQ (zR (zR (zO ?_))))));have e:paP h F v left=_:=(Aa om).trans ((Ab c9).trans (x.bad c11 c13 c16));rw[e];exact u11 1 rfl rfl (u0 _) ⟨⟨rfl,u0 _,rfl,trivial⟩,trivial⟩
        ·have c16:¬(F ((zT h v).items.getD x.k vl0) x.left).2.1=false:=by simpa using c16
         refine zM (zN (zA (yM zJ [] 1900 ?_)));exact zS (x.next hF c11 c13 c16) ⟨⟨u21 (by show(x.k:Int)+1=((x.k+1:Nat):Int);push_cast;rfl),yG⟩,⟨⟨rfl,u0 _,rfl,trivial⟩,yF⟩,rfl,rfl⟩ (by show(zT h v).items.length-(x.k+1)<(zT h v).items.length-x.k;omega)
      ·have c11:¬x.k<(zT h v).items.length:=by simpa using c11
       refine yE (yA (yB (zY (zN (zA (zK 2000 ?_))))));refine zL ?_;have e:paP h F v left=_:=(Aa om).trans ((Ab c9).trans (x.fin c11));rw[e];exact u11 1 rfl rfl (u0 _) ⟨⟨rfl,u0 _,rfl,trivial⟩,trivial⟩
     ·
      refine zM (zN (zA (zK 2000 ?_)));refine zL ?_;have e:paP h F v left=_:=(Aa om).trans (Aa c9);rw[e];exact u11 1 rfl rfl (u0 _) ⟨⟨rfl,u0 _,rfl,trivial⟩,trivial⟩
theorem uO1{h:List Ob}(g:Uh h):∀(f:Nat)(v:Vl)(left:Int),Rv h v->0<=left->left<f->left<=1000->FnG Tryz.prog 186 [hpD md h,.agg (vlD v),.bp 0 0] (lfO left) (paD (paS h f v left)) (lfO (paS h f v left).2.2)
 |0,_,left,_,h0,h1,_=>by omega
 | f+1,v,left,hv,h0,h1,h2=>part_step h v left (paS h f) g hv h0 h2 (fun w k hk=>uP1 h f w k hk) fun hk1 w hw k hk hkl=>uO1 g f w k (by
   obtain⟨h6,ho,eo⟩:=jR (h:=h) (v:=v) om;rw[eo]at hw;exact kA0 g ho hw) hk om om
def kqB:ByteArray:=⟨#[39]⟩
def kmB:ByteArray:=⟨#[39,32,99,97,110,110,111,116,32,98,101,32,97,32,107,101,121]⟩
def keyR(h:List Ob)(v:Vl):St:=if(paS h 1001 v 1000).2.1=false then raS 32 (kqB++(yJ h (clA h (paS h 1001 v 1000).1)).name++kmB)else if(paS h 1001 v 1000).2.2<0 then raS 42 tooB else st0
theorem kbsz(a:Array UInt8):(⟨a⟩:ByteArray).size=a.size:=rfl
theorem pO{h:List Ob}(g:Uh h){v:Vl}(hv:Vd h v):
  ((paS h 1001 v 1000).2.1=false/\(qM h v).2=false/\(qM h v).1.length<=1000/\0<(qM h v).1.length/\(qM h v).1.getD (((qM h v).1.length:Int)-1).toNat vl0=(paS h 1001 v 1000).1/\keyR h v=raS 32 (kqB++(yJ h (clA h (paS h 1001 v 1000).1)).name++kmB))
  \/((paS h 1001 v 1000).2.1=true/\(paS h 1001 v 1000).2.2<0/\1000<(qM h v).1.length/\keyR h v=raS 42 tooB)
  \/((paS h 1001 v 1000).2.1=true/\0<=(paS h 1001 v 1000).2.2/\(qM h v).2=true/\(qM h v).1.length<=1000/\vG h v=true/\keyR h v=st0):=by
 obtain⟨a,b,c⟩:=pa_key g hv;by_cases h1:(paS h 1001 v 1000).2.1=false
 ·obtain⟨a1,a2,a3⟩:=a h1;refine .inl ⟨h1,a1,a2,?_,?_,Ab h1⟩
  ·have hp:=(gT0 g 1001 v 1000 [] [] hv de de).1;obtain⟨_,L,e,_⟩:=hp.no h1;have e:qM h v=_:=e;rw[e];show 0<([]++L++[_]).length;rw[Ae];exact Nat.succ_pos _
  ·rw[show(((qM h v).1.length:Int)-1).toNat=(qM h v).1.length-1 by omega];exact a3
 ·have h1':(paS h 1001 v 1000).2.1=true:=by simpa using h1
  by_cases h2:(paS h 1001 v 1000).2.2<0
  ·exact .inr (.inl ⟨h1',h2,b h1' h2,(Aa h1).trans (Ab h2)⟩)
  ·have hk:=c h1' om;have hk2:=hk;simp only[vG,Aj,Ap]at hk2;exact .inr (.inr ⟨h1',by omega,hk2.1,by omega,hk,(Aa h1).trans (Aa h2)⟩)
theorem wE1{P:Program}{E:Pn}{K:DS->Prop}{p:Prop}{r:Out}(hr:r.sat P E K)(hp:p:=by first|(simp only[Da,kbsz,Cl,Am,Au];omega)|exact Fa):(Out.need p r).sat P E K:=⟨hp,hr⟩
theorem cmpKey_ok(h:List Ob)(v:Vl)(hh:HpIn h)(g:Uh h)(hv:Vd h v):Fx 132 [hpD md h,.agg (vlD v)] (.agg (stD (keyR h v))):=by
 have hb:=jL1 g 1001 v 1000 hv;have hcf:=yV0 g (mE hb);have hnm:=(hh.at (clA h (paS h 1001 v 1000).1)).nm;refine yD zJ Tryz.func132 rfl rfl rfl rfl rfl rfl ?_;intros;refine zK 100 ?_;refine zK 200 ?_;refine zB ?_;refine zB (zE zJ [1011] 300 rfl ?_);refine zF ?_;refine yO _ _ (uO1 g 1001 v 1000 hv.2 de de de) rfl ?_;refine zf (zA ?_);refine yL [2,4,5,6] [0,2,100,206] 310 [(7,.v (.bool (paS h 1001 v 1000).2.1))] [(100,.box 3 [.v (.int .i64 (paS h 1001 v 1000).2.2)]),(206,.box 29 (vlD (paS h 1001 v 1000).1))] ?_;refine⟨⟨yG,⟨⟨rfl,u0 _,rfl,trivial⟩,⟨rfl,SubL.same rfl⟩,yF⟩,rfl,rfl⟩,?_⟩;refine zK 400 ?_;refine zU rfl (fun c3=>?_) (fun c3=>?_)
 ·have c3:(paS h 1001 v 1000).2.1=false:=by simpa using c3
  refine zB (zE zJ [] 500 rfl ?_);repeat(first|refine zH ?_|refine wE1 ?_)
  refine zQ _ (zL0 h (paS h 1001 v 1000).1 g hcf) rfl ?_;repeat(first|refine zH ?_|refine wE1 ?_)
  refine zQ _ (zZ0 _ _) rfl ?_;repeat(first|refine zH ?_|refine wE1 ?_)
  refine zC (zA (zL (zO ?_)));rw[show keyR h v=_ from Ab c3];exact u4 rfl (u6 _)
 ·have c3:¬(paS h 1001 v 1000).2.1=false:=by simpa using c3
  refine zM (zA (zB (zK 600 ?_)));refine zZ (fun c5=>?_) (fun c5=>?_)
  ·
   refine zB (zE zJ [] 700 rfl ?_);refine zF ?_;refine zQ _ (zZ0 _ _) rfl ?_;refine zf (zA (zL (zO ?_)));rw[show keyR h v=_ from(Aa c3).trans (Ab c5)];exact u4 rfl (u6 _)
  ·
   refine zM (zA (zK 800 ?_));refine zL ?_;rw[show keyR h v=_ from(Aa c3).trans (Aa om)];exact u4 rfl (by repeat(first|exact trivial|exact u6 _|exact u12 rfl|refine u20 ?_|refine⟨?_,?_⟩))
theorem wD1{P:Program}{E:Pn}{K:DS->Prop}{p:Prop}{r:Out}(hr:r.sat P E K)(hp:p:=by first|exact⟨by omega,by omega⟩|first|(simp only[Da,kbsz,Cl,Am,Au];omega)|exact Fa):(Out.need p r).sat P E K:=⟨hp,hr⟩
theorem qO1(h:List Ob)(v:Vl)(hh:HpIn h)(g:Uh h)(hv:Vd h v):Fx 24 [hpD md h,.agg (vlD v)] (.agg (stD (keyR h v))):=by
 have hb:=jL1 g 1001 v 1000 hv;have hcf:=yV0 g (mE hb);have hnm:=(hh.at (clA h (paS h 1001 v 1000).1)).nm;have hc:=pO g hv;refine yD zJ Tryz.func24 rfl rfl rfl rfl rfl rfl ?_;intros;refine zK 100 ?_;refine zB (zE zJ [] 200 rfl ?_);refine zF ?_;refine zQ _ (qV0 h v hh) rfl ?_;refine zF ?_;refine zC (zA (zB (zP (zK 300 ?_))));refine zU rfl (fun c2=>?_) (fun c2=>?_)
 ·have c2:(qM h v).2=false/\(qM h v).1.length<=1000:=by simp at c2;exact⟨c2.1,by omega⟩
  obtain⟨k1,k2,k3,k4,k5,k6⟩:(paS h 1001 v 1000).2.1=false/\(qM h v).2=false/\(qM h v).1.length<=1000/\0<(qM h v).1.length/\(qM h v).1.getD (((qM h v).1.length:Int)-1).toNat vl0=(paS h 1001 v 1000).1/\keyR h v=_:=by
   rcases hc with hc|hc|hc
   ·exact hc
   ·omega
   ·rw[c2.1]at hc;exact absurd hc.2.2.1 de
  refine zB (zX zJ [] [[],[],[],[2],[2,3],[1,2,3,4],[1,2,3,4,5],(rgN 7),(rgN 8),(rgN 9),(rgN 10),(rgN 11)] 400 yP kr rfl ?_);repeat(first|refine zH ?_|refine wD1 ?_)
  refine zQ _ (by rw[k5];exact tG h (paS h 1001 v 1000).1 g hcf) rfl ?_;repeat(first|refine zH ?_|refine wD1 ?_)
  refine zQ _ (gP _ _) rfl ?_;repeat(first|refine zH ?_|refine wD1 ?_)
  refine zC (zA (zL (zR (zO ?_))));rw[k6];exact u4 rfl (u6 _)
 ·have c2:¬((qM h v).2=false/\(qM h v).1.length<=1000):=by simp at c2;intro hq;have:=c2 hq.1;omega
  refine zK 500 ?_;refine zZ (fun c4=>?_) (fun c4=>?_)
  ·
   refine zB (zE zJ [] 600 rfl ?_);refine zF ?_;refine zQ _ (gP _ _) rfl ?_;refine zf (zA (zL (zR (zO ?_))));rcases hc with hc|hc|hc
   ·exact absurd ⟨hc.2.1,hc.2.2.1⟩ c2
   ·rw[hc.2.2.2];exact u4 rfl (u6 _)
   ·omega
  ·
   refine zM (zN (zA (zK 700 ?_)));refine zL ?_;rcases hc with hc|hc|hc
   ·exact absurd ⟨hc.2.1,hc.2.2.1⟩ c2
   ·omega
   ·rw[hc.2.2.2.2.2];exact u4 rfl (by repeat(first|exact trivial|exact u6 _|exact u12 rfl|refine u20 ?_|refine⟨?_,?_⟩))
theorem pK0(h:List Ob)(v:Vl)(hh:HpIn h)(g:Uh h)(hv:Vd h v):Fx 70 [hpD md h,.agg (vlD v)] (.tup [.agg (stD (keyR h v)),.v (.bool (decide ((keyR h v).k=0)))]):=by
 refine yD zJ Tryz.func70 rfl rfl rfl rfl rfl rfl ?_;intros;refine zK 100 ?_;refine zB (zE zJ [] 200 rfl ?_);refine zF ?_;refine zQ _ (cmpKey_ok h v hh g hv) rfl ?_;refine zf (zA ?_);refine zB (zX zJ [] [[],[],[1],[1,2],[0],(rgN 5)] 300 yP kr rfl ?_);refine zf (zA (zL ?_));exact u4 rfl (u6 _)
variable{md me:Bool}
def wQ1:ByteArray:=⟨#[111,110,95,110,101,120,116]⟩
def nnB:ByteArray:=⟨#[39,32,105,115,32,110,111,116,32,97,110,32,105,116,101,114,97,116,111,114]⟩
def rA(o:Ob):Int:=ZI (rgO o).sa (rgO o).na
def rB(o:Ob):Int:=ZI (rgO o).sb (rgO o).nb
def rC(o:Ob):Int:=ZI (rgO o).sc (rgO o).nc
theorem rlen_el{a b c i:Int}(h0:c≠0)(hi:0<=i)(hl:i<jC a b c):((a+c*i).natAbs<=a.natAbs\/(a+c*i).natAbs<=b.natAbs)/\(c*i).natAbs<=(b-a).natAbs:=by
 unfold jC at hl;split at hl
 ·rename_i hc;split at hl
  ·rename_i hab;have hs:c*qY c= -c:=by unfold qY;rw[Ab hc];omega
   rw[hs]at hl;obtain⟨h1,h2,h3⟩:=kG0 (x:=a-b) (s:= -c) om om;generalize Int.fdiv (a-b+(-c-1)) (-c)=q at*;have h4: -c*i<= -c*(q-1):=Ez om om;have h5:0<= -c*i:=Int.mul_nonneg om hi;have h6: -c*i= -(c*i):=Int.neg_mul c i;omega
  ·omega
 ·rename_i hc;split at hl
  ·rename_i hab;have hs:c*qY c=c:=by unfold qY;rw[Aa hc];omega
   rw[hs]at hl;obtain⟨h1,h2,h3⟩:=kG0 (x:=b-a) (s:=c) om om;generalize Int.fdiv (b-a+(c-1)) c=q at*;have h4:c*i<=c*(q-1):=Ez om om;have h5:0<=c*i:=Int.mul_nonneg om hi;omega
  ·omega
theorem jS1{a b c i:Int}(ha:(lim a.natAbs).length<=40)(hb:(lim b.natAbs).length<=40)(h0:c≠0)(hi:0<=i)(hl:i<jC a b c):(lim (a+c*i).natAbs).length<=40/\(lim (c*i).natAbs).length<=41:=by
 obtain⟨h1,h2⟩:=rlen_el h0 hi hl;refine⟨?_,At (qF h2) (jB hb ha)⟩;rcases h1 with h1|h1
 ·exact At (qF h1) ha
 ·exact At (qF h1) hb
def nnN(h:List Ob)(v:Vl):ByteArray:=(⟨#[39]⟩:ByteArray)++(yJ h (clA h v)).name++nnB
def nx0(h:List Ob)(v:Vl):St:=if(zT h v).kind=17 then caI v []else if(spS h v wQ1).2.2=true then caI (spS h v wQ1).1 (spS h v wQ1).2.1 else raS 32 (nnN h v)
section
variable{h:List Ob}{v:Vl}
theorem pM0(a:v.k=4\/v.k=5):(zT h v).kind=0:=by rw[jU0 (by omega)];rfl
end


variable{md me:Bool}
def cmpI(a b:Int):Int:=if a<b then-1 else if b<a then 1 else 0
theorem or_nn{a b:Nat}(ha:0<a)(hb:0<b):cmpN b a=cmpI (ZI true a) (ZI true b):=by
 unfold cmpN cmpI ZI;simp only[if_true];split<;>(try split)<;>(try split)<;>(try split)<;>omega
theorem bJ0{b:Bool}{n:Nat}(h:¬(b=true/\0<n)):ZI b n=n:=by
 cases b with
 |false=>rfl
 |true=>
  have:n=0:=by simp at h;omega
  subst this;rfl
theorem or_pp{a b:Nat}:cmpN a b=cmpI (a:Int) (b:Int):=by
 unfold cmpN cmpI;split<;>(try split)<;>(try split)<;>(try split)<;>omega
theorem or_np{a b:Nat}(ha:0<a): -1=cmpI (ZI true a) (b:Int):=by
 unfold cmpI ZI;simp only[if_true];split<;>omega
theorem or_pn{a b:Nat}(hb:0<b):1=cmpI (a:Int) (ZI true b):=by
 unfold cmpI ZI;simp only[if_true];split<;>(try split)<;>omega
theorem gQ(b c:Bool)(n m:Nat)(h1:(dig n).length<=1000000)(h2:(dig m).length<=1000000):Fx 78 [rD b n,rD c m] (.v (.int .i64 (cmpI (ZI b n) (ZI c m)))):=by
 have hz1:=cC n;have hz2:=cC m;refine yD zJ Tryz.func78 rfl rfl rfl rfl rfl rfl ?_;intros;refine zK 100 ?_;refine zB (zX zJ [] [[],[0],[0,1],[0,1,2],[0,1,2,3],(rgN 5),(rgN 6),(rgN 7),[],[8],[0,1,2,8,9],[0,1,2,8,9,10],[0,1,2,8,9,10,11],[0,1,2,8,9,10,11,12],[0,1,2,8,9,10,11,12,13],[0,1,2,8,9,10,11,12,13,14],(rgN 11),(rgN 17)] 200 yP kr rfl ?_);refine zF ?_;refine zC (zA (zB (zP (zK 300 ?_))));refine zU rfl (fun c2=>?_) (fun c2=>?_)
 ·have c2:(b=true/\0<n)/\(c=true/\0<m):=by
   have h9:=c2;simp at h9;exact⟨⟨h9.1.1,by omega⟩,h9.2.1,by omega⟩
  refine zB (zE zJ [] 400 rfl ?_);refine zF ?_;refine zQ _ (uR m n om om) rfl ?_;refine zf (zA (zL (zR (zO ?_))));obtain⟨⟨rfl,k2⟩,rfl,k4⟩:=c2;exact u4 rfl (u10 (or_nn k2 k4))
 ·have c2:¬((b=true/\0<n)/\(c=true/\0<m)):=by
   have h9:=c2;simp at h9;rintro⟨⟨k1,k2⟩,k3,k4⟩;have e:=h9 k1 om k3;rw[e]at hz2;exact absurd (hz2.2 k4) de
  refine zK 500 ?_;refine zU rfl (fun c4=>?_) (fun c4=>?_)
  ·have c4:b=true/\0<n:=by
    have h9:=c4;simp at h9;exact⟨h9.1,by omega⟩
   refine zK 600 ?_;refine zL (zR (zO ?_));obtain⟨rfl,k2⟩:=c4;exact u4 rfl (u10 (by rw[bJ0 (fun h=>c2 ⟨⟨rfl,k2⟩,h⟩)];exact or_np k2))
  ·have c4:¬(b=true/\0<n):=by
    have h9:=c4;simp at h9;rintro⟨k1,k2⟩;have e:=h9 k1;rw[e]at hz1;exact absurd (hz1.2 k2) de
   refine zK 700 ?_;refine zU rfl (fun c6=>?_) (fun c6=>?_)
   ·have c6:c=true/\0<m:=by
     have h9:=c6;simp at h9;exact⟨h9.1,by omega⟩
    refine zK 800 ?_;refine zL (zR (zO ?_));obtain⟨rfl,k2⟩:=c6;exact u4 rfl (u10 (by rw[bJ0 c4];exact or_pn k2))
   ·have c6:¬(c=true/\0<m):=by
     have h9:=c6;simp at h9;rintro⟨k1,k2⟩;have e:=h9 k1;rw[e]at hz2;exact absurd (hz2.2 k2) de
    refine zM (zN (zA ?_));refine zB (zE zJ [] 900 rfl ?_);refine zF ?_;refine zQ _ (uR n m om om) rfl ?_;refine zf (zA (zL ?_));exact u4 rfl (u10 (by rw[bJ0 c4,bJ0 c6];exact or_pp))
theorem rl_c{o:Ob}(h:RgO o):(rgO o).cnt.1=false/\((rgO o).cnt.2:Int)=rlO o:=by
 obtain⟨h1,h2⟩:=dS0 (rgO o) h.c0;rw[h1];exact⟨rfl,by show((rlO o).natAbs:Int)=rlO o;have h2:0<=rlO o:=h2;omega⟩
theorem rg_dig{o:Ob}(h:RgO o):(dig (rgO o).na).length<=80/\(dig (rgO o).nc).length<=80/\(dig (rgO o).cnt.2).length<=82:=by
 have da:=bK (h.lg 0 de) (h.le 0 de);have db:=bK (h.lg 1 de) (h.le 1 de);have dc:=bK (h.lg 2 de) (h.le 2 de);obtain⟨z1,z2,z3,z4,z5,z6,z7⟩:=RgN.sizes (rgO o) (k:=80) da db dc h.c0 de;exact⟨da,dc,z5⟩
theorem VLdig{l:List Nat}(hg:Lg l):(dig (VL l)).length<=2*l.length:=qB (by
 have:=L_lt hg;rw[Nat.pow_mul];exact this)
def rgEl(x:RgN)(n:Nat):Bool×Nat:=plB x.sa x.na ((x.sc !=false)&&decide (0<x.nc*n)) (x.nc*n)
theorem ivV_nu(b:Bool)(n:Nat):ivV b n=nuV (ZI b n):=by
 have e1:(ZI b n).natAbs=n:=xR b n;have e2:(b&&decide (0<n))=decide (ZI b n<0):=by
  cases b with
  |false=>rw[Ch];exact(Ce (by show ¬(n:Int)<0;omega)).symm
  |true=>rw[Dm];exact decide_eq_decide.2 (by show 0<n↔ -(n:Int)<0;omega)
 unfold ivV nuV;rw[e1,e2]
theorem uR1(b:Bool)(m n:Nat):ZI ((b !=false)&&decide (0<m*n)) (m*n)=ZI b m*n:=by
 cases b with
 |false=>show((m*n:Nat):Int)=(m:Int)*n;push_cast;rfl
 |true=>
  show ZI (true&&decide (0<m*n)) (m*n)= -(m:Int)*n;rw[Dm,Int.neg_mul,<-Int.natCast_mul];by_cases h:0<m*n
  ·rw[Bf h];rfl
  ·rw[Ce h,show m*n=0 by omega];rfl
theorem rgEl_nu{o:Ob}{n:Nat}:ivV (rgEl (rgO o) n).1 (rgEl (rgO o) n).2=nuV (rA o+rC o*n):=by
 rw[ivV_nu];unfold rgEl;rw[bU0,uR1];rfl
theorem FnO.fn{P:Program}{f:FuncId}{args:List D}{e:TypeId}{sz:Nat}{α:Type}{l:List α}{fd:α->List D}{d:α}(h:FnO P f args e sz (l.map fd)):Fn P f args (.sl false sz l fd d):=
 ⟨h.bod,fun w s vs h1 h2 h3=>(h.run w s vs h1 h2 h3).mono fun r w' hr=>by
  obtain⟨s',g',k,v,e1,hp,_,hr⟩:=hr;refine⟨s',v,e1,?_,hr.2⟩;have:=hp.1;rw[gD]at this;exact this⟩
theorem elm_doc{h:List Ob}{v z:Vl}{i:Int}(hi:0<=i)(hz:(zT h v).kind=3\/(zT h v).kind=4->(nuV ((zT h v).keys.length:Nat)).nl=z.nl):(i<((elS h v).length:Nat)->elmS h v z i=vlS ((elS h v).getD i.toNat vl0))/\(¬i<((elS h v).length:Nat)->elmS h v z i=dnS):=by
 have mg:∀{α β:Type}{f:α->β}{l:List α}{k:Nat}{d:β}(e:α),k<l.length->(l.map f).getD k d=f (l.getD k e):=by
  intro α β f l k d e hk;rw[Af,Af,Bx,Ac hk];rfl
 by_cases h4:v.k=4
 ·have e:elS h v=(itL v.s v.s.size 0).map fun c=>txV (Utf8.encode c.2):=Ab h4;have er:(ruL v.s).length=(itL v.s v.s.size 0).length:=An _;rw[e,An];unfold elmS;rw[Ab h4];constructor
  ·intro hl;rw[Ab om,mg (0,0) om,ruL,mg (0,0) om]
  ·intro hl;rw[Aa om]
 by_cases h5:v.k=5
 ·have e:elS h v=(List.range v.s.size).map fun i=>nuV ((bAt v.s i:Nat):Int):=(Aa h4).trans (Ab h5);rw[e,An,Du];unfold elmS;rw[Aa h4,Ab h5];constructor
  ·intro hl;rw[Ab om,mg 0 (by rw[Du];omega),Af,Ew om];rfl
  ·intro hl;rw[Aa om]
 by_cases hd:(zT h v).kind=3\/(zT h v).kind=4
 ·have e:elS h v=(zT h v).keys:=(Aa h4).trans ((Aa h5).trans (Ab hd));unfold elmS;rw[e,Aa h4,Aa h5,Ab hd,Ab (hz hd)];exact⟨fun hl=>Ab hl,fun hl=>Aa hl⟩
 ·have e:elS h v=(zT h v).items:=(Aa h4).trans ((Aa h5).trans (Aa hd));unfold elmS;rw[e,Aa h4,Aa h5,Aa hd];exact⟨fun hl=>Ab hl,fun hl=>Aa hl⟩
end Go.Proofs.YtammfbdgjnkolaaGreatDoor
