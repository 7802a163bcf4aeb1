/-Part 17 of the proof. -/
import Derived.Test.YtmakjjodkiedmaaGreatDoorM16
namespace Go.Proofs.YtmakjjodkiedmaaGreatDoor
open Go.RowKit
variable{md me:Bool}
theorem uC0{o:Ob}(h:ObIn o):∀v∈o.keys++o.items,VlIn v:=fun v hv=>(Az.1 hv).elim (h.kv v) (h.iv v)
theorem qS0{o:Ob}(h:ObIn o)(k:Nat):(wI o++jD ((o.keys++o.items).take k)).length<=8000001:=by
 have h1:=wR ((o.keys++o.items).take k);have h2:=h.rl;have h3:=h.ol;have h4:=h.il;have h5:=h.kl;simp[wI]at h1⊢;omega
theorem cF{o:Ob}(h:ObIn o):(uI o).length<=8000002:=by
 have h1:=wR (o.keys++o.items);have h2:=h.rl;have h3:=h.ol;have h4:=h.il;have h5:=h.kl;rw[uI];split<;>(simp[wI]at h1⊢;omega)
theorem values_ok(h:List Ob)(n:Int)(hn:inH h n)(hh:HpIn h):Fx 52 [hpD md h,.v (.int .i64 n)] (.v (.int .i64 (uA h (yV h n)))):=by
 have hO:ObIn (h.getD n.toNat ob0):=hh.at n;have hil:=hO.il;have hkl:=hO.kl;have hrl:=hO.rl;have hol:=hO.ol;have hst:=hO.st;have hal:((h.getD n.toNat ob0).keys++(h.getD n.toNat ob0).items).length<=4000000:=by rw[Ae];omega
 refine yM zO Tryz.func52 rfl rfl rfl rfl rfl rfl ?_;intros;refine zK 100 ?_;refine zB (zE zO [] 200 rfl ?_);repeat(first|refine zH ?_|refine zU (by exact hn) ?_)
 refine zC (zA ?_);refine zB (yE zO [21] [[],[0],[0,1],[],[3],(rgN 5),(rgN 6)] 300 yX kr rfl ?_);repeat(first|refine zH ?_|refine zU (by first|rfl|(simp only[Ao];omega)) ?_)
 refine qZ _ _ _ (dJ _ hkl) ?_;repeat(first|refine zH ?_|refine zU (by first|rfl|(simp only[Ao];omega)) ?_)
 refine zC (zA (zB (zK 400 ?_)));refine zQ ?_;refine yB (ι:=Al ((h.getD n.toNat ob0).keys++(h.getD n.toNat ob0).items) (fun v=>yR (fixV (h.getD n.toNat ob0) v))) [2,5] [0,105] 450 (fun x=>[(27,.v (.int .i64 x.k)),(25,.sl false 7 ((h.getD n.toNat ob0).keys++(h.getD n.toNat ob0).items) vlD vl0),(6,.sl false 7 ((h.getD n.toNat ob0).keys++(h.getD n.toNat ob0).items) vlD vl0),(26,.v (.int .i64 ((h.getD n.toNat ob0).keys++(h.getD n.toNat ob0).items).length))]) (fun _=>[]) (fun x=>((h.getD n.toNat ob0).keys++(h.getD n.toNat ob0).items).length-x.k) ⟨0,Aq _,fun j x hj=>by omega⟩ ?_;refine⟨⟨(by repeat(first|exact Sub.own (by simp[-List.getD_eq_getElem?_getD,vlD])|exact u3 (by simp[-List.getD_eq_getElem?_getD,vlD])|exact u19 (by simp[-List.getD_eq_getElem?_getD,vlD])|refine⟨?_,?_⟩|exact lx)),(by repeat(first|exact trivial|exact u13 rfl|exact⟨rfl,rfl,by simp[-List.getD_eq_getElem?_getD,vlD]⟩|refine⟨?_,?_⟩)),rfl,rfl⟩,fun x=>?_⟩;have hk:=x.le;refine zK 500 ?_;refine zB (zX (fun c4=>?_) (fun c4=>?_))
 ·
  refine zJ (zA (zB (zQ (zK 600 ?_))));refine zB (zK 700 ?_);refine zT rfl (fun c6=>?_) (fun c6=>?_)
  ·simp only[Ah,Cc,Ai]at c6;refine yO zO [] 800 ?_;refine zA ?_;refine zB (zE zO [] 900 rfl ?_);refine zF ?_
   first
    |refine zS _ (vL {(((h.getD n.toNat ob0).keys++(h.getD n.toNat ob0).items).getD (x.k:Int).toNat vl0)with k:=0} (VlIn.zero (gY (uC0 hO) _))) rfl ?_
    |refine zS _ (vL (((h.getD n.toNat ob0).keys++(h.getD n.toNat ob0).items).getD (x.k:Int).toNat vl0) (gY (uC0 hO) _)) rfl ?_
   refine zF ?_;refine zC (zA (zX (fun c8=>?_) (fun c8=>?_)))
   ·
    refine zK 1000 ?_;refine zN (zP (zM (yL (zP (zM ?_)))));exact u1 rfl (u7 (by rw[uA,Aa (by rw[Al.no (e:=vl0) (p:=fun v=>yR (fixV (h.getD n.toNat ob0) v)) c4 (by first|(rw[fixV,Ag c6];exact c8)|(rw[fixV,Aa c6];exact c8))];decide)]))
   ·
    refine zJ (zL (zA (yO zO [] 1100 ?_)));exact zR (x.next (e:=vl0) c4 (by first|(rw[fixV,Ag c6];exact c8)|(rw[fixV,Aa c6];exact c8))) ⟨yK,yH,rfl,rfl⟩ (by show((h.getD n.toNat ob0).keys++(h.getD n.toNat ob0).items).length-(x.k+1)<((h.getD n.toNat ob0).keys++(h.getD n.toNat ob0).items).length-x.k;omega)
  ·replace c6:¬((((h.getD n.toNat ob0).keys++(h.getD n.toNat ob0).items).getD (x.k:Int).toNat vl0).k=9/\((h.getD n.toNat ob0).kind=6\/(h.getD n.toNat ob0).kind=17)):=by intro hh;simp only[Bo hh.1,Bool.true_and]at c6;rcases hh.2 with hh|hh<;>simp[hh,-List.getD_eq_getElem?_getD]at c6
   refine zJ (zA ?_);refine zB (zE zO [] 900 rfl ?_);refine zF ?_
   first
    |refine zS _ (vL {(((h.getD n.toNat ob0).keys++(h.getD n.toNat ob0).items).getD (x.k:Int).toNat vl0)with k:=0} (VlIn.zero (gY (uC0 hO) _))) rfl ?_
    |refine zS _ (vL (((h.getD n.toNat ob0).keys++(h.getD n.toNat ob0).items).getD (x.k:Int).toNat vl0) (gY (uC0 hO) _)) rfl ?_
   refine zF ?_;refine zC (zA (zX (fun c8=>?_) (fun c8=>?_)))
   ·
    refine zK 1000 ?_;refine zN (zP (zM (yL (zP (zM ?_)))));exact u1 rfl (u7 (by rw[uA,Aa (by rw[Al.no (e:=vl0) (p:=fun v=>yR (fixV (h.getD n.toNat ob0) v)) c4 (by first|(rw[fixV,Ag c6];exact c8)|(rw[fixV,Aa c6];exact c8))];decide)]))
   ·
    refine zJ (zL (zA (yO zO [] 1100 ?_)));exact zR (x.next (e:=vl0) c4 (by first|(rw[fixV,Ag c6];exact c8)|(rw[fixV,Aa c6];exact c8))) ⟨yK,yH,rfl,rfl⟩ (by show((h.getD n.toNat ob0).keys++(h.getD n.toNat ob0).items).length-(x.k+1)<((h.getD n.toNat ob0).keys++(h.getD n.toNat ob0).items).length-x.k;omega)
 ·
  refine yF (zZ (yA (zW (zA ?_))));refine zB (yE zO [51] [[],[0],[0,1],[],[3],(rgN 5),[],[6],(rgN 8),(rgN 9)] 1200 yX kr rfl ?_);repeat(first|refine zH ?_|refine zU (by first|rfl|(simp only[Ao,Ae,Ak,Au];omega)) ?_)
  refine zC (zA (zB (zK 1300 ?_)));refine zQ ?_;have hA:=x.yes c4;refine yB (ι:=Up ((h.getD n.toNat ob0).keys++(h.getD n.toNat ob0).items).length (fun _=>true)) [2,5,58,59] [0,105] 1350 (fun x=>[(60,.v (.int .i64 x.k)),(9,.own 502 1 ((wI (h.getD n.toNat ob0)++jD (((h.getD n.toNat ob0).keys++(h.getD n.toNat ob0).items).take x.k)).map iD))]) (fun x=>[(502,.row 3 1 ((wI (h.getD n.toNat ob0)++jD (((h.getD n.toNat ob0).keys++(h.getD n.toNat ob0).items).take x.k)).map iD).length)]) (fun x=>((h.getD n.toNat ob0).keys++(h.getD n.toNat ob0).items).length-x.k) ⟨0,Aq _,fun j hj=>by omega⟩ ?_;refine⟨⟨(by repeat(first|exact Sub.own (by simp[-List.getD_eq_getElem?_getD,wI,jD,iD])|exact u3 (by simp[-List.getD_eq_getElem?_getD,wI,jD,iD])|exact u19 (by simp[-List.getD_eq_getElem?_getD,wI,jD,iD])|refine⟨?_,?_⟩|exact lx)),(by repeat(first|exact trivial|exact u13 rfl|exact⟨rfl,rfl,by simp[-List.getD_eq_getElem?_getD,wI,jD,iD]⟩|refine⟨?_,?_⟩)),rfl,rfl⟩,fun x=>?_⟩;have hk:=x.le;refine zK 1400 ?_;refine zB (zX (fun c13=>?_) (fun c13=>?_))
  ·
   refine zJ (zA (zB (zQ (zK 1500 ?_))));refine zK 1600 ?_;refine zT rfl (fun c15=>?_) (fun c15=>?_)
   ·replace c15:(((h.getD n.toNat ob0).keys++(h.getD n.toNat ob0).items).getD x.k vl0).k=6:=Ar c15
    refine zE zO [] 1700 rfl ?_;repeat(first|refine zH ?_|refine zU (by first|rfl|(have h1:=qS0 hO x.k;simp only[Ao,Ae,Ak,Au]at h1⊢;omega)) ?_)
    refine zC (zL (zA (yO zO [] 1800 ?_)));exact zR (x.next c13 rfl) ⟨(by repeat(first|exact Sub.own (by simp[-List.getD_eq_getElem?_getD,Up.next,qY c13 vl0,jA,jD,c15,iD,wI])|exact u19 (by simp[-List.getD_eq_getElem?_getD,Up.next,qY c13 vl0,jA,jD,c15,iD,wI])|refine⟨?_,?_⟩|exact lx)),(by repeat(first|exact trivial|exact u13 rfl|exact⟨rfl,rfl,by simp[-List.getD_eq_getElem?_getD,Up.next,qY c13 vl0,jA,jD,c15,iD,wI]⟩|refine⟨?_,?_⟩)),rfl,rfl⟩ (by show((h.getD n.toNat ob0).keys++(h.getD n.toNat ob0).items).length-(x.k+1)<((h.getD n.toNat ob0).keys++(h.getD n.toNat ob0).items).length-x.k;omega)
   ·replace c15:¬(((h.getD n.toNat ob0).keys++(h.getD n.toNat ob0).items).getD x.k vl0).k=6:=of_decide_eq_false c15
    refine zJ (zL (zA (yO zO [] 1800 ?_)));exact zR (x.next c13 rfl) ⟨(by repeat(first|exact Sub.own (by simp[-List.getD_eq_getElem?_getD,Up.next,qY c13 vl0,jA,jD,c15,iD,wI])|exact u19 (by simp[-List.getD_eq_getElem?_getD,Up.next,qY c13 vl0,jA,jD,c15,iD,wI])|refine⟨?_,?_⟩|exact lx)),(by repeat(first|exact trivial|exact u13 rfl|exact⟨rfl,rfl,by simp[-List.getD_eq_getElem?_getD,Up.next,qY c13 vl0,jA,jD,c15,iD,wI]⟩|refine⟨?_,?_⟩)),rfl,rfl⟩ (by show((h.getD n.toNat ob0).keys++(h.getD n.toNat ob0).items).length-(x.k+1)<((h.getD n.toNat ob0).keys++(h.getD n.toNat ob0).items).length-x.k;omega)
  ·
   refine yF (zZ (yA (zW (zA (zB (zK 1900 ?_))))));refine zT rfl (fun c18=>?_) (fun c18=>?_)
   ·simp only[Ah,Ai,Bd,Av]at c18;refine zE zO [84] 2000 rfl ?_;repeat(first|refine zH ?_|refine zU (by first|rfl|(have h1:=qS0 hO x.k;simp only[Ao,Ae,Ak,Au]at h1⊢;omega)) ?_)
    refine zC (zA (zB (zK 2100 ?_)));refine zQ ?_;have hns:=cF hO;have htk:((h.getD n.toNat ob0).keys++(h.getD n.toNat ob0).items).take x.k=((h.getD n.toNat ob0).keys++(h.getD n.toNat ob0).items):=Am om;refine yB (ι:=Al (uI (h.getD n.toNat ob0)) (qA h)) [2] [0] 2150 (fun x=>[(89,.v (.int .i64 x.k)),(87,.sl false 1 (uI (h.getD n.toNat ob0)) iD 0),(88,.v (.int .i64 (uI (h.getD n.toNat ob0)).length))]) (fun _=>[]) (fun x=>(uI (h.getD n.toNat ob0)).length-x.k) ⟨0,Aq _,fun j x hj=>by omega⟩ ?_;refine⟨⟨(by repeat(first|exact Sub.own (by simp[-List.getD_eq_getElem?_getD,uI,htk,c18,iD])|exact u3 (by simp[-List.getD_eq_getElem?_getD,uI,htk,c18,iD])|exact u19 (by simp[-List.getD_eq_getElem?_getD,uI,htk,c18,iD])|refine⟨?_,?_⟩|exact lx)),(by repeat(first|exact trivial|exact u13 rfl|exact⟨rfl,rfl,by simp[-List.getD_eq_getElem?_getD,uI,htk,c18,iD]⟩|refine⟨?_,?_⟩)),rfl,rfl⟩,fun x=>?_⟩;have hk:=x.le;refine zK 2200 ?_;refine zB (zX (fun c21=>?_) (fun c21=>?_))
    ·
     refine zJ (zA (zB (zQ (zK 2300 ?_))));refine zB (zE zO [] 2400 rfl ?_);refine zF ?_;refine zS _ (jP _ _) rfl ?_;refine zF ?_;refine zC (zA (zX (fun c23=>?_) (fun c23=>?_)))
     ·
      refine zK 2500 ?_;refine zN (zP (zM (yL (zP (zM ?_)))));exact u1 rfl (u7 (by rw[uA,Ag hA,Aa (by rw[Al.no (e:=(0:Int)) c21 c23];decide)]))
     ·
      refine zJ (zL (zA (yO zO [] 2600 ?_)));exact zR (x.next (e:=(0:Int)) c21 c23) ⟨yK,yH,rfl,rfl⟩ (by show(uI (h.getD n.toNat ob0)).length-(x.k+1)<(uI (h.getD n.toNat ob0)).length-x.k;omega)
    ·
     refine yF (zZ (yA (zW (zA (zK 2700 ?_)))));refine zN ?_;exact u1 rfl (u7 (by rw[uA,Ag hA,Ag (x.yes c21)]))
   ·replace c18:¬((h.getD n.toNat ob0).kind=18/\¬(h.getD n.toNat ob0).state=0):=by intro hh;simp[hh.1,hh.2,-List.getD_eq_getElem?_getD]at c18
    refine zJ (zA (zB (zK 2100 ?_)));refine zQ ?_;have hns:=cF hO;have htk:((h.getD n.toNat ob0).keys++(h.getD n.toNat ob0).items).take x.k=((h.getD n.toNat ob0).keys++(h.getD n.toNat ob0).items):=Am om;refine yB (ι:=Al (uI (h.getD n.toNat ob0)) (qA h)) [2] [0] 2150 (fun x=>[(89,.v (.int .i64 x.k)),(87,.sl false 1 (uI (h.getD n.toNat ob0)) iD 0),(88,.v (.int .i64 (uI (h.getD n.toNat ob0)).length))]) (fun _=>[]) (fun x=>(uI (h.getD n.toNat ob0)).length-x.k) ⟨0,Aq _,fun j x hj=>by omega⟩ ?_;refine⟨⟨(by repeat(first|exact Sub.own (by simp[-List.getD_eq_getElem?_getD,uI,htk,c18,iD])|exact u3 (by simp[-List.getD_eq_getElem?_getD,uI,htk,c18,iD])|exact u19 (by simp[-List.getD_eq_getElem?_getD,uI,htk,c18,iD])|refine⟨?_,?_⟩|exact lx)),(by repeat(first|exact trivial|exact u13 rfl|exact⟨rfl,rfl,by simp[-List.getD_eq_getElem?_getD,uI,htk,c18,iD]⟩|refine⟨?_,?_⟩)),rfl,rfl⟩,fun x=>?_⟩;have hk:=x.le;refine zK 2200 ?_;refine zB (zX (fun c21=>?_) (fun c21=>?_))
    ·
     refine zJ (zA (zB (zQ (zK 2300 ?_))));refine zB (zE zO [] 2400 rfl ?_);refine zF ?_;refine zS _ (jP _ _) rfl ?_;refine zF ?_;refine zC (zA (zX (fun c23=>?_) (fun c23=>?_)))
     ·
      refine zK 2500 ?_;refine zN (zP (zM (yL (zP (zM ?_)))));exact u1 rfl (u7 (by rw[uA,Ag hA,Aa (by rw[Al.no (e:=(0:Int)) c21 c23];decide)]))
     ·
      refine zJ (zL (zA (yO zO [] 2600 ?_)));exact zR (x.next (e:=(0:Int)) c21 c23) ⟨yK,yH,rfl,rfl⟩ (by show(uI (h.getD n.toNat ob0)).length-(x.k+1)<(uI (h.getD n.toNat ob0)).length-x.k;omega)
    ·
     refine yF (zZ (yA (zW (zA (zK 2700 ?_)))));refine zN ?_;exact u1 rfl (u7 (by rw[uA,Ag hA,Ag (x.yes c21)]))
variable{md me:Bool}
def ptS(h:List Ob):Nat->List Vl->List Vl->List Vl×Bool
 |0,_,out=>(out,true)
 |_+1,[],out=>(out,true)
 |f+1,x::left,out=>if((((decide (x.k=9)||decide ((yD h x).kind=2))||decide ((yD h x).kind=3))||decide ((yD h x).kind=4))||decide ((yD h x).kind=5))=true then(out++[x],false)
  else if(yD h x).kind=1 then ptS h f ((yD h x).items.take (min (yD h x).items.length 1001)++left) (out++[x])
  else ptS h f left (out++[x])
def xE(h:List Ob)(v:Vl):List Vl×Bool:=ptS h 1001 [v] []
structure Pt(h:List Ob)(v:Vl)where
 out:List Vl
 left:List Vl
 le:out.length<=1001
 ll:left.length<=1+out.length*1001
 eq:ptS h (1001-out.length) left out=xE h v
def Pt.start(h:List Ob)(v:Vl):Pt h v:=⟨[],[v],by decide,by simp,rfl⟩
theorem left_eq{left:List Vl}(h0:0<left.length):left=left.getD 0 vl0::left.drop 1:=by
 cases left with
 |nil=>simp at h0
 |cons a l=>simp
theorem Pt.step{h:List Ob}{v:Vl}(x:Pt h v)(h0:0<x.left.length)(h1:x.out.length<=1000):xE h v=ptS h ((1000-x.out.length)+1) (x.left.getD 0 vl0::x.left.drop 1) x.out:=by
 rw[<-left_eq h0,show 1000-x.out.length+1=1001-x.out.length by omega,x.eq]
def badS(h:List Ob)(y:Vl):Bool:=((((decide (y.k=9)||decide ((yD h y).kind=2))||decide ((yD h y).kind=3))||decide ((yD h y).kind=4))||decide ((yD h y).kind=5))
theorem mL(h:List Ob)(f:Nat)(y:Vl)(left out:List Vl):ptS h (f+1) (y::left) out=if badS h y=true then(out++[y],false)else if(yD h y).kind=1 then ptS h f ((yD h y).items.take (min (yD h y).items.length 1001)++left) (out++[y])else ptS h f left (out++[y]):=rfl
theorem Pt.bad{h:List Ob}{v:Vl}(x:Pt h v)(h0:0<x.left.length)(h1:x.out.length<=1000)(h2:badS h (x.left.getD 0 vl0)=true):xE h v=(x.out++[x.left.getD 0 vl0],false):=by
 rw[x.step h0 h1,mL,Ag h2]
theorem Pt.fin{h:List Ob}{v:Vl}(x:Pt h v)(h0:¬(0<x.left.length/\x.out.length<=1000)):xE h v=(x.out,true):=by
 rw[<-x.eq];by_cases h1:x.out.length<=1000
 ·have:x.left=[]:=Ax om;rw[this,show 1001-x.out.length=(1000-x.out.length)+1 by omega];rfl
 ·have:=x.le;rw[show 1001-x.out.length=0 by omega];rfl
def Pt.tup{h:List Ob}{v:Vl}(x:Pt h v)(h0:0<x.left.length)(h1:x.out.length<=1000)(h2:badS h (x.left.getD 0 vl0)=false)(h3:(yD h (x.left.getD 0 vl0)).kind=1):Pt h v:=
 ⟨x.out++[x.left.getD 0 vl0],(yD h (x.left.getD 0 vl0)).items.take (min (yD h (x.left.getD 0 vl0)).items.length 1001)++x.left.drop 1,by simp;omega,by
  have:=x.ll;simp only[Ae,At,Ay,Ak,Au];omega,by
  rw[x.step h0 h1,mL,Aa (by rw[h2];decide),Ag h3];simp only[Ae,Ak,Au];rw[show 1001-(x.out.length+(0+1))=1000-x.out.length by omega]⟩
def Pt.oth{h:List Ob}{v:Vl}(x:Pt h v)(h0:0<x.left.length)(h1:x.out.length<=1000)(h2:badS h (x.left.getD 0 vl0)=false)(h3:¬(yD h (x.left.getD 0 vl0)).kind=1):Pt h v:=
 ⟨x.out++[x.left.getD 0 vl0],x.left.drop 1,by simp;omega,by
  have:=x.ll;simp only[Ae,Ay,Ak,Au];omega,by
  rw[x.step h0 h1,mL,Aa (by rw[h2];decide),Aa h3];simp only[Ae,Ak,Au];rw[show 1001-(x.out.length+(0+1))=1000-x.out.length by omega]⟩
def dR(h:List Ob)(v:Vl):Bool:=(xE h v).2&&decide (((xE h v).1.length:Int)<=1000)
def Dp(h:List Ob):Nat->Vl->Prop
 |0,v=>(yD h v).kind≠1
 |n+1,v=>(yD h v).kind=1->∀x∈(yD h v).items,Dp h n x
theorem Dp.succ{h:List Ob}:∀{n:Nat}{v:Vl},Dp h n v->Dp h (n+1) v
 |0,_,hv=>fun hk=>absurd hk hv
 |_+1,_,hv=>fun hk x hx=>Dp.succ (hv hk x hx)
theorem Dp.mono{h:List Ob}{n m:Nat}{v:Vl}(hv:Dp h n v)(hnm:n<=m):Dp h m v:=by
 obtain⟨d,rfl⟩:=Nat.exists_eq_add_of_le hnm;clear hnm;induction d with
 |zero=>exact hv
 |succ d ih=>exact ih.succ
theorem zV0(h:List Ob):∀(f:Nat)(left out:List Vl),(ptS h f left out).2=true->(ptS h f left out).1.length<=1000->1000<f+out.length->out.length+left.length<=(ptS h f left out).1.length/\∀x∈left,Dp h ((ptS h f left out).1.length-out.length) x
 |0,left,out,_,h2,h3=>by have h2':out.length<=1000:=h2;omega
 |f+1,[],out,_,_,_=>⟨Ap _,fun _ h=>by cases h⟩
 |f+1,y::left,out,h1,h2,h3=>by
  rw[mL]at h1 h2⊢;split at h1
  ·cases h1
  ·rename_i hb;rw[Aa hb]at h2⊢;split at h1
   ·rename_i hk;rw[Ag hk]at h2⊢;obtain⟨g1,g2⟩:=zV0 h f _ _ h1 h2 (by simp;omega);simp only[Ae,Ak,Au,At]at g1 g2⊢;generalize (ptS h f (List.take (min (yD h y).items.length 1001) (yD h y).items++left) (out++[y])).fst.length=N at*;have hall:(yD h y).items.take (min (yD h y).items.length 1001)=(yD h y).items:=Am om;refine⟨by omega,fun x hx=>?_⟩;rcases Bc.1 hx with rfl|hx
    ·rw[show N-out.length=(N-(out.length+(0+1)))+1 by omega];intro _ z hz;exact g2 z (Az.2 (.inl (by rw[hall];exact hz)))
    ·exact(g2 x (Az.2 (.inr hx))).mono om
   ·rename_i hk;rw[Aa hk]at h2⊢;obtain⟨g1,g2⟩:=zV0 h f _ _ h1 h2 (by simp;omega);simp only[Ae,Ak,Au]at g1 g2⊢;generalize (ptS h f left (out++[y])).fst.length=N at*;refine⟨by omega,fun x hx=>?_⟩;rcases Bc.1 hx with rfl|hx
    ·exact Dp.mono (n:=0) hk om
    ·exact(g2 x hx).mono om
theorem keyed_dp{h:List Ob}{v:Vl}(hk:dR h v=true):Dp h 1001 v:=by
 simp only[dR,Ah,Ai]at hk;have:=(zV0 h 1001 [v] [] hk.1 (by have:=hk.2;simp only[xE]at this;omega) de).2 v (by simp);refine this.mono ?_;have h2:=hk.2;simp only[xE]at h2;omega
def prP(F:Vl->Vl->Bool)(a b:List Vl)(i:Nat):Bool:=F (a.getD ((i:Int)).toNat vl0) (b.getD ((i:Int)).toNat vl0)
def uK0(h:List Ob)(F:Vl->Vl->Bool)(v w:Vl):Bool:=if(yD h v).kind=1/\(yD h w).kind=1 then(decide (((yD h v).items.length:Int)=(yD h w).items.length)&&(List.range (yD h v).items.length).all (prP F (yD h v).items (yD h w).items))else decide (v=w)
def smK(h:List Ob):Nat->Vl->Vl->Bool
 |0=>fun v w=>decide (v=w)
 |n+1=>uK0 h (smK h n)
def plI(h:List Ob):List Vl->Vl->Int
 |[],_=> -1
 |x::l,k=>if smK h 1001 x k=true then 0 else if plI h l k<0 then-1 else plI h l k+1
theorem zW0(h:List Ob)(k:Vl):∀l:List Vl,decide (0<=plI h l k)=l.any fun x=>smK h 1001 x k
 |[]=>rfl
 |x::l=>by
  rw[plI,List.any_cons,<-zW0 h k l];split
  ·rename_i hx;simp[hx]
  ·rename_i hx;rw[Dj]at hx;rw[hx,Bool.false_or];split
   ·rename_i h0;rw[Cl om,Cl om]
   ·rename_i h0;rw[Bo om,Bo om]
theorem qN0{h:List Ob}{k:Vl}:∀{l:List Vl},(∀x∈l,smK h 1001 x k=false)->plI h l k= -1
 |[],_=>rfl
 |x::l,hl=>by rw[plI,Aa (by rw[hl x (by simp)];decide),qN0 (fun y hy=>hl y (by simp[hy]))];rfl
theorem kD0{h:List Ob}{k:Vl}:∀{l:List Vl}{i:Nat},(∀j x,j<i->l[j]?=some x->(!smK h 1001 x k)=true)->∀{y:Vl},l[i]?=some y->smK h 1001 y k=true->plI h l k=i
 |[],_,_,_,hy,_=>by simp at hy
 |x::l,0,_,y,hy,hs=>by simp at hy;subst hy;rw[plI,Ag hs];rfl
 |x::l,i+1,hn,y,hy,hs=>by
  have h0:=hn 0 x om rfl;have:=kD0 (l:=l) (i:=i) (fun j z hj hz=>hn (j+1) z om (by simpa using hz)) (by simpa using hy) hs;rw[plI,Aa (by intro e;rw[e]at h0;cases h0),this,Aa om];simp
def krF(h:List Ob):List Vl->List Vl->Int
 |_,[]=>0
 |seen,s::r=>if dR h s=false then 27 else if(seen.any fun x=>smK h 1001 x s)=true then 8 else krF h (seen++[s]) r
def keyS(h:List Ob)(o:Ob):Int:=krF h [] o.keys
theorem cutS(l:List Vl):(l.drop (Int.toNat 1)).take (((l.length:Int)).toNat-Int.toNat 1)=l.drop 1:=by
 rw[show Int.toNat 1=1 from rfl,As];exact Am (by rw[Ay];omega)
theorem headS(l:List Vl):(l.drop (Int.toNat 0)).take ((if(1000+1:Int)<(l.length:Int)then(1000+1:Int)else(l.length:Int)).toNat-Int.toNat 0)=l.take (min l.length 1001):=by
 rw[show Int.toNat 0=0 from rfl,List.drop_zero];congr 1;split<;>omega
theorem bN{h:List Ob}(hh:HpIn h)(v:Vl):ObIn (yD h v):=by
 unfold yD;split
 ·exact hh.at v.r
 ·exact kF0
theorem PartsOf_ok(h:List Ob)(v:Vl)(hh:HpIn h):Fx 147 [hpD md h,.agg (vlD v),.v (.int .i64 1000)] (.tup [vsD (xE h v).1,.v (.bool (xE h v).2)]):=by
 refine yM zO Tryz.func147 rfl rfl rfl rfl rfl rfl ?_;intros;refine zK 100 ?_;refine zK 200 ?_;refine zK 300 ?_;refine yU 8 29 7 rfl ?_;refine zB (zQ ?_);refine yB (ι:=Pt h v) [2,3] [0,1] 350 (fun x=>[(8,.own 300 7 (x.out.map vlD)),(9,.sl false 7 x.left vlD vl0)]) (fun x=>[(300,.row 29 7 (x.out.map vlD).length)]) (fun x=>1001-x.out.length) (Pt.start h v) ?_;refine⟨⟨(by repeat(first|exact Sub.own (by simp[-List.getD_eq_getElem?_getD,Pt.start,vlD])|exact u3 (by simp[-List.getD_eq_getElem?_getD,Pt.start,vlD])|exact u19 (by simp[-List.getD_eq_getElem?_getD,Pt.start,vlD])|refine⟨?_,?_⟩|exact lx)),(by repeat(first|exact trivial|exact u13 rfl|exact⟨rfl,rfl,by simp[-List.getD_eq_getElem?_getD,Pt.start,vlD]⟩|refine⟨?_,?_⟩)),rfl,rfl⟩,fun x=>?_⟩;have hle:=x.le;refine zB (zK 400 ?_);refine zT rfl (fun c3=>?_) (fun c3=>?_)
 ·simp only[Ah,Ai]at c3
  replace c3:0<x.left.length/\x.out.length<=1000:=by have h1:=c3.1;have h2:=c3.2;simp only[Ao]at h1 h2;omega
  refine zJ (zA (zQ ?_));refine zB (zE zO [] 500 rfl ?_);repeat(first|refine zH ?_|refine zU (by exact⟨by decide,c3.1⟩) ?_)
  refine zC (zA ?_);refine zB (zE zO [] 600 rfl ?_);repeat(first|refine zH ?_|refine zU (by first|(refine⟨by decide,?_,?_⟩<;>omega)|omega) ?_)
  refine zC (zA ?_);refine zB (zE zO [] 700 rfl ?_);repeat(first|refine zH ?_|refine zU (by first|rfl|(simp only[Ao,Ak,Au];omega)) ?_)
  refine zC (zA ?_);refine zB (zE zO [] 800 rfl ?_);refine zF ?_;refine zS _ (qX _ _) rfl ?_;refine zF ?_;refine zC (zA (zQ (zK 900 ?_)));refine zT rfl (fun c8=>?_) (fun c8=>?_)
  ·
   refine zK 1000 ?_;refine zN (zP (zP (yL (zP (zM ?_)))));exact u1 rfl (SubP.tup ⟨SubP.ownSl (by rw[x.bad c3.1 c3.2 c8,Ad];rfl),u5 (by rw[x.bad c3.1 c3.2 c8]),trivial⟩)
  ·
   refine zK 1100 ?_;refine zT rfl (fun c10=>?_) (fun c10=>?_)
   ·replace c10:=Ar c10
    refine zE zO [73] 1200 rfl ?_;repeat(first|refine zH ?_|refine zU (by first|rfl|exact ini (by omega) (by omega)|(refine⟨by decide,?_,?_⟩<;>(split<;>omega))|(have:=x.ll;simp only[Ao,At,Ay];omega)) ?_)
    refine qZ _ _ _ (dJ _ (by rw[At];have:=(bN hh (x.left.getD (Int.toNat 0) vl0)).il;omega)) ?_;repeat(first|refine zH ?_|refine zU (by first|rfl|exact ini (by omega) (by omega)|(refine⟨by decide,?_,?_⟩<;>(split<;>omega))|(have:=x.ll;simp only[Ao,At,Ay];omega)) ?_)
    refine zC (zL (zL ?_));exact zR (x.tup c3.1 c3.2 c8 c10) ⟨⟨Sub.own (by show _=List.map vlD (x.out++[_]);rw[Ad];rfl),u3 (by show _=List.map vlD (_++_);rw[Ad,<-headS,<-cutS x.left];rfl),u0 _,u0 _,trivial⟩,⟨⟨rfl,rfl,by show _=(List.map vlD (x.out++[_])).length;rw[Ad];rfl⟩,u13 rfl,u13 rfl,trivial⟩,rfl,rfl⟩ (by show 1001-(x.out++[_]).length<1001-x.out.length;rw[Ae,List.length_singleton];have:=c3.2;omega)
   ·replace c10:=of_decide_eq_false c10
    refine zJ (zL (zL ?_));exact zR (x.oth c3.1 c3.2 c8 c10) ⟨⟨Sub.own (by show _=List.map vlD (x.out++[_]);rw[Ad];rfl),Sub.slSl (congrArg (List.map vlD) (cutS x.left)),u0 _,u0 _,trivial⟩,⟨⟨rfl,rfl,by show _=(List.map vlD (x.out++[_])).length;rw[Ad];rfl⟩,u13 rfl,u13 rfl,trivial⟩,rfl,rfl⟩ (by show 1001-(x.out++[_]).length<1001-x.out.length;rw[Ae,List.length_singleton];have:=c3.2;omega)
 ·replace c3:¬(0<x.left.length/\x.out.length<=1000):=by intro hh;rw[Bo om,Bo (by simp only[Ao];omega)]at c3;cases c3
  refine yF (zZ (yA (zW (zA (zK 1300 ?_)))));refine zN ?_;exact u1 rfl (SubP.tup ⟨SubP.ownSl (by rw[x.fin c3]),u5 (by rw[x.fin c3]),trivial⟩)
theorem Keyed_ok(h:List Ob)(v:Vl)(hh:HpIn h):Fx 105 [hpD md h,.agg (vlD v)] (.v (.bool (dR h v))):=by
 refine yM zO Tryz.func105 rfl rfl rfl rfl rfl rfl ?_;intros;refine zK 100 ?_;refine zB (zE zO [] 200 rfl ?_);refine zF ?_;refine zS _ (PartsOf_ok _ _ ao) rfl ?_;refine zF ?_;refine zC (zA (zK 300 ?_));refine zN ?_;exact u1 rfl (u4 _)
theorem qC0{h:List Ob}{F:Vl->Vl->Bool}{v w:Vl}(hk:¬((yD h v).kind=1/\(yD h w).kind=1)):uK0 h F v w=decide (v=w):=by rw[uK0,Aa hk]
theorem mV{h:List Ob}{F:Vl->Vl->Bool}{v w:Vl}(hk:(yD h v).kind=1/\(yD h w).kind=1):uK0 h F v w=(decide (((yD h v).items.length:Int)=(yD h w).items.length)&&(List.range (yD h v).items.length).all (prP F (yD h v).items (yD h w).items)):=by rw[uK0,Ag hk]
theorem mF(h:List Ob)(v w:Vl)(F:Vl->Vl->Bool)(hh:HpIn h)(H:(yD h v).kind=1->∀x∈(yD h v).items,∀y,Fx 148 [hpD md h,.agg (vlD x),.agg (vlD y)] (.v (.bool (F x y)))):Fx 148 [hpD md h,.agg (vlD v),.agg (vlD w)] (.v (.bool (uK0 h F v w))):=by
 have hil:=(bN hh v).il;refine yM zO Tryz.func148 rfl rfl rfl rfl rfl rfl ?_;intros;refine zK 100 ?_;refine zB (yE zO [] [[],[],[0,1],[],[],(rgN 5),[],[],(rgN 8),(rgN 9)] 200 yX kr rfl ?_);refine zF ?_;refine zS _ (qX _ _) rfl ?_;refine zF ?_;refine zS _ (qX _ _) rfl ?_;refine zF ?_;refine zC (zA (zB (zK 300 ?_)));refine zT rfl (fun c2=>?_) (fun c2=>?_)
 ·replace c2:¬((yD h v).kind=1/\(yD h w).kind=1):=by intro hh;rw[Bo hh.1,Bo hh.2]at c2;cases c2
  refine zB (zE zO [] 400 rfl ?_);refine zF ?_;refine zS _ (vD _ _) rfl ?_;refine zf (zA (zN (zM ?_)));exact u1 rfl (u5 (qC0 c2).symm)
 ·simp only[Cg,Be,Ai]at c2;refine zJ (zA (zB (zK 500 ?_)));refine zT rfl (fun c4=>?_) (fun c4=>?_)
  ·simp only[Bd,Av]at c4;refine zK 600 ?_;refine zN (zM ?_);exact u1 rfl (u5 (by rw[mV c2,Cl c4];rfl))
  ·simp only[Be,Ai]at c4;refine zJ (zA (zB (zK 700 ?_)));refine zQ ?_;refine yB (ι:=Up (yD h v).items.length (prP F (yD h v).items (yD h w).items)) [3,7,8,36] [0,106,107] 750 (fun x=>[(37,.v (.int .i64 x.k))]) (fun _=>[]) (fun x=>(yD h v).items.length-x.k) ⟨0,Aq _,fun j hj=>by omega⟩ ?_;refine⟨⟨yK,yH,rfl,rfl⟩,fun x=>?_⟩;have hk:=x.le;refine zK 800 ?_;refine zB (zX (fun c7=>?_) (fun c7=>?_))
   ·
    refine zJ (zA (zB (zQ (zK 900 ?_))));refine zB (yE zO [] [[],[],[1],[],[1,2,3],[1,2,3,4],[],[6],[],[6,7,8],[6,7,8,9],(rgN 11),(rgN 12)] 1000 yX kr rfl ?_);repeat(first|refine zH ?_|refine zU (by first|(refine⟨by omega,?_⟩;omega)|omega) ?_)
    refine zS _ (H c2.1 _ (by rw[mB c7];exact Di _) _) rfl ?_;repeat(first|refine zH ?_|refine zU (by first|(refine⟨by omega,?_⟩;omega)|omega) ?_)
    refine zC (zA (zX (fun c9=>?_) (fun c9=>?_)))
    ·
     refine zK 1100 ?_;refine zN (zP (zM (yL (zP (zM ?_)))));exact u1 rfl (u5 (by rw[mV c2,Up.no (p:=(prP F (yD h v).items (yD h w).items)) c7 c9,Bool.and_false]))
    ·
     refine zJ (zL (zA (yO zO [] 1200 ?_)));exact zR (x.next c7 c9) ⟨yK,yH,rfl,rfl⟩ (by show(yD h v).items.length-(x.k+1)<(yD h v).items.length-x.k;omega)
   ·
    refine yF (zZ (yA (zW (zA (zK 1300 ?_)))));refine zN ?_;exact u1 rfl (u5 (by rw[mV c2,x.yes c7,Bo c4];rfl))
theorem zJ0{h:List Ob}(hh:HpIn h):∀(n:Nat)(v w:Vl),Dp h n v->Fx 148 [hpD md h,.agg (vlD v),.agg (vlD w)] (.v (.bool (smK h n v w)))
 |0,v,w,hd=>by
  have:=mF (md:=md) h v w (fun _ _=>false) hh fun hk=>absurd hk hd;rw[qC0 (fun e=>hd e.1)]at this;exact this
 |n+1,v,w,hd=>mF h v w (smK h n) hh fun hk x hx y=>zJ0 hh n x y (hd hk x hx)
theorem Place_ok(h:List Ob)(l:List Vl)(k:Vl)(hh:HpIn h)(hl:∀x∈l,Dp h 1001 x):Fx 106 [hpD md h,vsD l,.agg (vlD k)] (.v (.int .i64 (plI h l k))):=by
 refine yM zO Tryz.func106 rfl rfl rfl rfl rfl rfl ?_;intros;refine xG 1 rfl fun hl1=>?_;refine zK 100 ?_;refine zB (zK 200 ?_);refine zQ ?_;refine yB (ι:=Al l (fun x=> !smK h 1001 x k)) [1,3,5,9] [0,1] 250 (fun x=>[(10,.v (.int .i64 x.k))]) (fun _=>[]) (fun x=>l.length-x.k) ⟨0,Aq _,fun j x hj=>by omega⟩ ?_;refine⟨⟨yK,yH,rfl,rfl⟩,fun x=>?_⟩;have hk:=x.le;refine zK 300 ?_;refine zB (zX (fun c2=>?_) (fun c2=>?_))
 ·
  refine zJ (zA (zB (zQ (zK 400 ?_))));refine zB (yE zO [] [[],[],[],[1,2],[1,2,3],[],(rgN 6)] 500 yX kr rfl ?_);refine zF ?_;refine zS _ (zJ0 hh 1001 _ _ (hl _ (by rw[mB c2];exact Di _))) rfl ?_;refine zF ?_;refine zC (zA (zX (fun c4=>?_) (fun c4=>?_)))
  ·
   refine zK 600 ?_;refine zN (zP (zM (yL (zP (zM ?_)))));exact u1 rfl (u7 (kD0 x.all (jA0 c2 vl0) c4).symm)
  ·
   refine zJ (zL (zA (yO zO [] 700 ?_)));exact zR (x.next (e:=vl0) c2 (by rw[c4];rfl)) ⟨yK,yH,rfl,rfl⟩ (by show l.length-(x.k+1)<l.length-x.k;omega)
 ·
  refine yF (zZ (yA (zW (zA (zK 800 ?_)))));refine zN ?_;exact u1 rfl (u7 (qN0 (fun y hy=>by
    have:=Bt.1 (x.yes c2) y hy;simpa using this)).symm)
structure Sk(h:List Ob)(l:List Vl)where
 s:Sc l (krF h)
 kd:∀y∈l.take s.k,dR h y=true
def Sk.next{h:List Ob}{l:List Vl}(x:Sk h l)(h1:x.s.k<l.length)(h2:dR h (l.getD (x.s.k:Int).toNat vl0)=true)(h3:((l.take x.s.k).any fun y=>smK h 1001 y (l.getD (x.s.k:Int).toNat vl0))=false):Sk h l:=
 ⟨x.s.next (e:=vl0) h1 (by rw[krF,Aa (by rw[h2];decide),Aa (by rw[h3];decide)]),fun y hy=>by
  have hy':y∈l.take (x.s.k+1):=hy;rw[qY h1 vl0]at hy';rcases Az.1 hy' with hy'|hy'
  ·exact x.kd y hy'
  ·rw[List.mem_singleton.1 hy'];exact h2⟩
theorem keyRule_ok(h:List Ob)(n:Int)(hn:inH h n)(hh:HpIn h):Fx 54 [hpD md h,.v (.int .i64 n)] (.v (.int .i64 (keyS h (yV h n)))):=by
 have hO:ObIn (h.getD n.toNat ob0):=hh.at n;have hkl:=hO.kl;refine yM zO Tryz.func54 rfl rfl rfl rfl rfl rfl ?_;intros;refine zK 100 ?_;refine zB (zE zO [] 200 rfl ?_);repeat(first|refine zH ?_|refine zU (by exact hn) ?_)
 refine zC (zA (zB (zK 300 ?_)));refine zQ ?_;refine yB (ι:=Sk h (h.getD n.toNat ob0).keys) [2,5,14,15] [0] 350 (fun x=>[(16,.v (.int .i64 x.s.k))]) (fun _=>[]) (fun x=>(h.getD n.toNat ob0).keys.length-x.s.k) ⟨Sc.start _ _,fun y hy=>by cases hy⟩ ?_;refine⟨⟨yK,yH,rfl,rfl⟩,fun x=>?_⟩;have hk:=x.s.le;refine zK 400 ?_;refine zB (zX (fun c3=>?_) (fun c3=>?_))
 ·
  refine zJ (zA (zB (zQ (zK 500 ?_))));refine zB ?_;refine zB (zE zO [] 600 rfl ?_);refine zF ?_;refine zS _ (Keyed_ok _ _ ao) rfl ?_;refine zF ?_;refine zC (zA (zX (fun c5=>?_) (fun c5=>?_)))
  ·
   refine zK 700 ?_;refine zN (zM (zP (zM (yL (zP (zM ?_))))));exact u1 rfl (u7 (x.s.here (e:=vl0) c3 (by rw[krF,Ag c5])))
  ·
   refine zJ (zA ?_);refine zB (yE zO [] [[],[],[],[1,2],[],(rgN 5),(rgN 6)] 800 yX kr rfl ?_);refine zF ?_;refine zS _ (Place_ok h ((h.getD n.toNat ob0).keys.take x.s.k) _ hh (fun y hy=>keyed_dp (x.kd y hy))) rfl ?_;refine zF ?_;refine zC (zA (zT rfl (fun c7=>?_) (fun c7=>?_)))
   ·rw[zW0]at c7;refine zK 900 ?_;refine zN (zP (zM (yL (zP (zM ?_)))));exact u1 rfl (u7 (x.s.here (e:=vl0) c3 (by rw[krF,Aa (by rw[c5];decide),Ag c7])))
   ·rw[zW0]at c7;refine zJ (zL (zA (yO zO [] 1000 ?_)));exact zR (x.next c3 c5 c7) ⟨yK,yH,rfl,rfl⟩ (by show(h.getD n.toNat ob0).keys.length-(x.s.k+1)<(h.getD n.toNat ob0).keys.length-x.s.k;omega)
 ·
  refine yF (zZ (yA (zW (zA (zK 1100 ?_)))));refine zN ?_;exact u1 rfl (u7 (x.s.done c3 rfl))
variable{md me:Bool}
def lD(l:List Int):List D:=[isD l]
def hdI(l:List Int):Int:=l.getD 0 0
def inT(B:List (List Int))(n:Int):Bool:=B.any fun x=>hasB (x.drop 1) n
def lwI(a b:Int):Int:=if b<a then b else a
def lowS(l:List Int):Int:=l.foldl lwI 0
def twS(l:List Int)(k:Nat):Bool:=(List.range k).any fun j=>hasB (l.take j) (l.getD j 0)
theorem twS_succ(l:List Int)(k:Nat):twS l (k+1)=(twS l k||hasB (l.take k) (l.getD k 0)):=by
 unfold twS;rw[List.range_succ,List.any_append];simp
theorem low_succ{l:List Int}{k:Nat}(h:k<l.length):lowS (l.take (k+1))=lwI (lowS (l.take k)) (l.getD (k:Int).toNat 0):=by
 unfold lowS;rw[qY h 0,List.foldl_append];rfl
def ofF:List (List Int)->List (List Int)->Int×Int
 |_,[]=>(0,0)
 |seen,l::r=>if(l.length:Int)=0 then(10,seen.length)else if(40:Int)<l.length then(2,seen.length)else if lowS l<0 then(4,seen.length)else if(twS l l.length||hasB (seen.map hdI) (hdI l))=true then(8,seen.length)else ofF (seen++[l]) r
def ofS(B:List (List Int)):Int×Int:=if(8:Int)<B.length then(2,-1)else ofF [] B
def fltD(f:Int×Int):D:= .agg [.v (.int .i64 f.1),.v (.int .i64 f.2)]
def mH0(B:List (List Int)):Prop:=B.length<=8/\∀l∈B,0<l.length/\l.length<=40
theorem qR0:∀(r seen:List (List Int)),(ofF seen r).1=0->∀l∈r,0<l.length/\l.length<=40
 |[],_,_,_,h=>by cases h
 |l::r,seen,h0,x,hx=>by
  rw[ofF]at h0;split at h0
  ·cases h0
  ·split at h0
   ·cases h0
   ·split at h0
    ·cases h0
    ·split at h0
     ·cases h0
     ·rcases Bc.1 hx with rfl|hx
      ·omega
      ·exact qR0 r _ h0 x hx
theorem ofS_good{B:List (List Int)}(h:(ofS B).1=0):mH0 B:=by
 unfold ofS at h;split at h
 ·cases h
 ·exact⟨by omega,qR0 B [] h⟩
def fdF(left:List (List Int))(a:Int×Bool)(l:List Int):Int×Bool:=if(!a.2&& !inT left (hdI l))=true then(hdI l,true)else a
def fdS(left:List (List Int))(k:Nat):Int×Bool:=(left.take k).foldl (fdF left) (0,false)
theorem vA{left:List (List Int)}{k:Nat}(h:k<left.length):fdS left (k+1)=fdF left (fdS left k) (left.getD (k:Int).toNat []):=by
 unfold fdS;rw[qY h [],List.foldl_append];rfl
def shI(n:Int)(l:List Int):List Int:=if hdI l=n then l.drop 1 else l
def rsS(n:Int)(left:List (List Int)):List (List Int):=(left.map (shI n)).filter fun l=>decide (0<(l.length:Int))
theorem qR{n:Int}{left:List (List Int)}{k:Nat}(h:k<left.length):rsS n (left.take (k+1))=rsS n (left.take k)++(if 0<((shI n (left.getD (k:Int).toNat [])).length:Int)then [shI n (left.getD (k:Int).toNat [])]else []):=by
 unfold rsS;rw[qY h [],Ad,List.filter_append];congr 1;rw[Ci,List.map_nil,List.filter_cons];split
 ·rename_i hd;rw[Ag (Ar hd)];rfl
 ·rename_i hd;rw[Aa (fun e=>hd (Bo e))];rfl
def tot(left:List (List Int)):Nat:=(left.map List.length).sum
theorem tW(n:Int):∀left:List (List Int),tot (rsS n left)<=tot left
 |[]=>Ap _
 |l::left=>by
  have ih:=tW n left;have hs:(shI n l).length<=l.length:=by unfold shI;split<;>simp
  unfold rsS at ih⊢;rw[Ci,List.filter_cons];unfold tot at ih⊢;split
  ·simp only[Ci,List.sum_cons];omega
  ·simp only[Ci,List.sum_cons];omega
theorem tV(n:Int):∀left:List (List Int),(∃l∈left,0<l.length/\hdI l=n)->tot (rsS n left)<tot left
 |[],h=>by obtain⟨_,h,_⟩:=h;cases h
 |l::left,h=>by
  have ih:=tW n left;have hs:(shI n l).length<=l.length:=by unfold shI;split<;>simp
  obtain⟨x,hx,h1,h2⟩:=h;rcases Bc.1 hx with rfl|hx
  ·have hs2:(shI n x).length<x.length:=by unfold shI;rw[Ag h2];simp;omega
   unfold rsS at ih⊢;rw[Ci,List.filter_cons];unfold tot at ih⊢;split
   ·simp only[Ci,List.sum_cons];omega
   ·simp only[Ci,List.sum_cons];omega
  ·have ih2:=tV n left ⟨x,hx,h1,h2⟩;unfold rsS at ih2⊢;rw[Ci,List.filter_cons];unfold tot at ih2⊢;split
   ·simp only[Ci,List.sum_cons];omega
   ·simp only[Ci,List.sum_cons];omega
theorem jI0(left:List (List Int)):∀(m:List (List Int))(a:Int×Bool),(a.2=true->∃l∈left,hdI l=a.1)->(∀l∈m,l∈left)->(m.foldl (fdF left) a).2=true->∃l∈left,hdI l=(m.foldl (fdF left) a).1
 |[],a,h0,_,h=>h0 h
 |l::m,a,h0,hm,h=>by
  refine jI0 left m _ ?_ (fun x hx=>hm x (by simp[hx])) h;unfold fdF;split
  ·intro _;exact⟨l,hm l (by simp),rfl⟩
  ·exact h0
def mgF:Nat->List Int->List (List Int)->List Int×List (List Int)
 |0,taken,_=>(taken,[])
 |_+1,taken,[]=>(taken,[])
 |f+1,taken,l::left=>if(fdS (l::left) (l::left).length).2=false then(taken,l::left)else mgF f (taken++[(fdS (l::left) (l::left).length).1]) (rsS (fdS (l::left) (l::left).length).1 (l::left))
def lft0(B:List (List Int)):List (List Int):=if(0:Int)<(B.map hdI).length then B++[B.map hdI]else B
def mgS(B:List (List Int)):List Int×List (List Int):=mgF 400 [] (lft0 B)
structure Mg(B:List (List Int))where
 f:Nat
 taken:List Int
 left:List (List Int)
 eq:mgF f taken left=mgS B
 ne:∀l∈left,0<l.length
 ll:left.length<=9
 lb:∀l∈left,l.length<=40
 tf:tot left<f
 tk:taken.length+f<=400
theorem gO0{m:Nat}:∀{left:List (List Int)},(∀l∈left,l.length<=m)->tot left<=left.length*m
 |[],_=>by simp[tot]
 |l::left,h=>by
  have ih:=gO0 (left:=left) fun x hx=>h x (by simp[hx]);have:=h l (by simp);unfold tot at ih⊢;simp only[Ci,List.sum_cons,Ak,Bh];omega
def Mg.start{B:List (List Int)}(hB:mH0 B):Mg B:=by
 have hl:∀l∈lft0 B,0<l.length/\l.length<=40:=by
  intro l hl;unfold lft0 at hl;split at hl
  ·rename_i h0;rcases Az.1 hl with hl|hl
   ·exact hB.2 l hl
   ·rw[List.mem_singleton.1 hl];have:=hB.1;simp only[Ao]at h0⊢;omega
  ·exact hB.2 l hl
 have h9:(lft0 B).length<=9:=by
  have:=hB.1;unfold lft0;split
  ·simp;omega
  ·omega
 exact⟨400,[],lft0 B,rfl,fun l h=>(hl l h).1,h9,fun l h=>(hl l h).2,by
  have:=gO0 (m:=40) fun l h=>(hl l h).2;have:(lft0 B).length*40<=9*40:=Bs _ h9;omega,by simp⟩
theorem Mg.unf{B:List (List Int)}(x:Mg B)(h0:0<x.left.length):mgS B=if(fdS x.left x.left.length).2=false then(x.taken,x.left)else mgF (x.f-1) (x.taken++[(fdS x.left x.left.length).1]) (rsS (fdS x.left x.left.length).1 x.left):=by
 have hf:x.f=(x.f-1)+1:=by have:=x.tf;omega
 have he:=x.eq;rw[hf]at he;rw[<-he];generalize x.left=left at*
 cases left with
 |nil=>simp at h0
 |cons l left=>rfl
theorem kA0{n:Int}{left:List (List Int)}{l:List Int}(h:l∈rsS n left):0<l.length/\∃y∈left,l.length<=y.length:=by
 unfold rsS at h;rw[List.mem_filter]at h;obtain⟨h1,h2⟩:=h;obtain⟨y,hy,rfl⟩:=Bu.1 h1;have:=Ar h2;exact⟨by omega,y,hy,by unfold shI;split<;>simp⟩
def Mg.next{B:List (List Int)}(x:Mg B)(h0:0<x.left.length)(h1:(fdS x.left x.left.length).2=true):Mg B:=
 ⟨x.f-1,x.taken++[(fdS x.left x.left.length).1],rsS (fdS x.left x.left.length).1 x.left,by rw[x.unf h0,Aa (by rw[h1];decide)],fun l hl=>(kA0 hl).1,by
  have:=x.ll;have:(rsS (fdS x.left x.left.length).1 x.left).length<=x.left.length:=by unfold rsS;exact Bg (List.length_filter_le _ _) (by simp)
  omega,fun l hl=>by obtain⟨_,y,hy,hle⟩:=kA0 hl;exact Bg hle (x.lb y hy),by
  have hx:∃l∈x.left,hdI l=(fdS x.left x.left.length).1:=jI0 x.left _ (0,false) (fun h=>by cases h) (fun l hl=>List.mem_of_mem_take hl) h1;obtain⟨l,hl,he⟩:=hx;have:=tV (fdS x.left x.left.length).1 x.left ⟨l,hl,x.ne l hl,he⟩;have:=x.tf;omega,by
  have:=x.tk;have:=x.tf;simp only[Ae,List.length_singleton];omega⟩
theorem Mg.none{B:List (List Int)}(x:Mg B)(h0:0<x.left.length)(h1:(fdS x.left x.left.length).2=false):mgS B=(x.taken,x.left):=by rw[x.unf h0,Ag h1]
theorem Mg.done{B:List (List Int)}(x:Mg B)(h0:¬0<x.left.length):mgS B=(x.taken,[]):=by
 have hl:x.left=[]:=Ax om;rw[<-x.eq,hl]
 cases x.f<;>rfl
def uP(B:List (List Int)):List Int×Int×Int:=if ¬(ofS B).1=0 then([],ofS B)else if(0:Int)<(mgS B).2.length then([],(19,-1))else if(40:Int)<=(mgS B).1.length then([],(14,-1))else((mgS B).1,(0,0))
theorem qT{α:Type}{l:List α}{k:Nat}(h:k<l.length)(e:α):l.getD (k:Int).toNat e∈l:=by rw[mB h];exact Di _
theorem cut1(l:List Int):(l.drop (Int.toNat 1)).take (((l.length:Int)).toNat-Int.toNat 1)=l.drop 1:=by
 rw[show Int.toNat 1=1 from rfl,As];exact Am (by rw[Ay];omega)
def zY0(h:List Ob)(o:Ob):List (List Int):=o.refs.map fun n=>(yV h n).order
def uY(h:List Ob)(o:Ob)(i:Int):Bool:=if ¬o.kind=9 then true else decide ((uP (zY0 h o)).2.1=0)&&decide (o.order=[i]++(uP (zY0 h o)).1)
theorem cP(B:List (List Int))(n:Int)(hB:∀l∈B,0<l.length):Fx 178 [.sl false 1 B lD [],.v (.int .i64 n)] (.v (.bool (inT B n))):=by
 refine yM zO Tryz.func178 rfl rfl rfl rfl rfl rfl ?_;intros;refine xG 0 rfl fun hl0=>?_;refine zK 100 ?_;refine zB (zK 200 ?_);refine zQ ?_;refine yB (ι:=Al B (fun x=> !hasB (x.drop 1) n)) [1,7,8] [] 250 (fun x=>[(9,.v (.int .i64 x.k))]) (fun _=>[]) (fun x=>B.length-x.k) ⟨0,Aq _,fun j x hj=>by omega⟩ ?_;refine⟨⟨yK,yH,rfl,rfl⟩,fun x=>?_⟩;have hk:=x.le;refine zK 300 ?_;refine zB (zX (fun c2=>?_) (fun c2=>?_))
 ·
  refine zJ (zA (zB (zQ (zK 400 ?_))));refine zB (zE zO [] 500 rfl ?_);repeat(first|refine zH ?_|refine zU (by first|(have h1:=hB _ (qT c2 []);refine⟨by decide,?_,?_⟩<;>omega)|omega) ?_)
  refine zS _ (dG _ _) rfl ?_;repeat(first|refine zH ?_|refine zU (by first|(have h1:=hB _ (qT c2 []);refine⟨by decide,?_,?_⟩<;>omega)|omega) ?_)
  refine zC (zA (zT rfl (fun c4=>?_) (fun c4=>?_)))
  ·rw[cut1]at c4;refine zK 600 ?_;refine zN (zP (zM (yL (zP (zM ?_)))))
   exact u1 rfl (u5 (by
     rw[inT,eq_comm,Cj];exact⟨_,qT c2 [],c4⟩))
  ·rw[cut1]at c4;refine zJ (zL (zA (yO zO [] 700 ?_)));exact zR (x.next (e:=[]) c2 (by rw[c4];rfl)) ⟨yK,yH,rfl,rfl⟩ (by show B.length-(x.k+1)<B.length-x.k;omega)
 ·
  refine yF (zZ (yA (zW (zA (zK 800 ?_)))));refine zN ?_
  exact u1 rfl (u5 (by
    rw[inT,eq_comm,<-Dj,Cj];rintro⟨y,hy,h1⟩;have:=Bt.1 (x.yes c2) y hy;rw[h1]at this;cases this))
theorem OrdersFault_ok(B:List (List Int)):Fx 149 [.sl false 1 B lD []] (fltD (ofS B)):=by
 refine yM zO Tryz.func149 rfl rfl rfl rfl rfl rfl ?_;intros;refine xG 0 rfl fun hl0=>?_;refine zK 100 ?_;refine zB (zK 200 ?_);refine zT rfl (fun c1=>?_) (fun c1=>?_)
 ·
  refine zB (zE zO [] 300 rfl ?_);refine zF ?_;refine zS _ (xC _ _) rfl ?_;refine zf (zA (zN (zM ?_)));exact u1 rfl (u6 (by show fltD (2,-1)=fltD _;rw[ofS,Ag (Ar c1)]))
 ·have hb:=of_decide_eq_false c1;refine zJ (zA (zK 400 ?_));refine yU 3 3 1 rfl ?_;refine zB (zK 500 ?_);refine zQ ?_;have hb8:B.length<=8:=by omega
  refine yB (ι:=Sc B ofF) [2,14,15] [0] 550 (fun x=>[(16,.v (.int .i64 x.k)),(3,.own 400 1 (((B.take x.k).map hdI).map iD))]) (fun x=>[(400,.row 3 1 (((B.take x.k).map hdI).map iD).length)]) (fun x=>B.length-x.k) (Sc.start _ _) ?_;refine⟨⟨(by repeat(first|exact Sub.own (by simp[-List.getD_eq_getElem?_getD,Sc.start])|exact u3 (by simp[-List.getD_eq_getElem?_getD,Sc.start])|exact u19 (by simp[-List.getD_eq_getElem?_getD,Sc.start])|refine⟨?_,?_⟩|exact lx)),(by repeat(first|exact trivial|exact u13 rfl|exact⟨rfl,rfl,by simp[-List.getD_eq_getElem?_getD,Sc.start]⟩|refine⟨?_,?_⟩)),rfl,rfl⟩,fun x=>?_⟩;have hk:=x.le;have hlk:((B.take x.k).length:Int)=(x.k:Int):=by rw[At];omega
  refine zK 600 ?_;refine zB (zX (fun c5=>?_) (fun c5=>?_))
  ·
   refine zJ (zA (zB (zQ (zK 700 ?_))));refine zK 800 ?_;refine xG 5 rfl fun hl5=>?_;refine zB (zK 900 ?_);refine zQ ?_;refine yB (ι:=Up (B.getD (x.k:Int).toNat []).length (fun _=>true)) [2,3,4,5,14,15,16,21,22] [0,400] 950 (fun y=>[(23,.v (.int .i64 y.k)),(6,.v (.bool (twS (B.getD (x.k:Int).toNat []) y.k))),(7,.v (.int .i64 (lowS ((B.getD (x.k:Int).toNat []).take y.k))))]) (fun _=>[]) (fun y=>(B.getD (x.k:Int).toNat []).length-y.k) ⟨0,Aq _,fun j hj=>by omega⟩ ?_;refine⟨⟨yK,yH,rfl,rfl⟩,fun y=>?_⟩;have hky:=y.le;refine zK 1000 ?_;refine zB (zX (fun c9=>?_) (fun c9=>?_))
   ·
    refine zJ (zA (zB (zQ (zK 1100 ?_))));refine zB (zE zO [] 1200 rfl ?_);repeat(first|refine zH ?_|refine zU (by first|(intro hh;exact⟨by decide,by omega,by omega⟩)|(intro hh;refine⟨by decide,?_,?_⟩<;>omega)) ?_)
    refine yP _ (fun hg6=>dG _ _) rfl ?_;repeat(first|refine zH ?_|refine zU (by first|(intro hh;exact⟨by decide,by omega,by omega⟩)|(intro hh;refine⟨by decide,?_,?_⟩<;>omega)) ?_)
    refine zC (zA (yO zO [] 1300 ?_));refine zL (zA (yO zO [] 1400 ?_));exact zR (y.next c9 rfl) ⟨(by repeat(first|exact Sub.bool (twS_succ _ _).symm|exact u19 (low_succ c9).symm|refine⟨?_,?_⟩|exact lx)),yH,rfl,rfl⟩ (by show(B.getD (x.k:Int).toNat []).length-(y.k+1)<(B.getD (x.k:Int).toNat []).length-y.k;omega)
   ·
    refine yF (zZ (yA (zW (zA (zB (zQ (zK 1500 ?_)))))));refine zT rfl (fun c14=>?_) (fun c14=>?_)
    ·replace c14:=Ar c14
     refine zB (zE zO [] 1600 rfl ?_);refine zF ?_;refine zS _ (xC _ _) rfl ?_;refine zf (zA (zN (zP (zM (zP (zM (yL (zP (zM ?_)))))))));have hty:(B.getD (x.k:Int).toNat []).take y.k=(B.getD (x.k:Int).toNat []):=Am om;have hyk:(B.getD (x.k:Int).toNat []).length=y.k:=by omega
     exact u1 rfl (u6 (by show fltD (10,(x.k:Int))=fltD _;rw[ofS,Aa hb];exact congrArg fltD (x.here (e:=([]:List Int)) c5 (by rw[ofF,Ag c14];exact congrArg (Prod.mk (10:Int)) hlk))))
    ·replace c14:=of_decide_eq_false c14
     refine zK 1700 ?_;refine zT rfl (fun c16=>?_) (fun c16=>?_)
     ·replace c16:=Ar c16
      refine zB (zE zO [] 1800 rfl ?_);refine zF ?_;refine zS _ (xC _ _) rfl ?_;refine zf (zA (zN (zP (zM (zP (zM (yL (zP (zM ?_)))))))));have hty:(B.getD (x.k:Int).toNat []).take y.k=(B.getD (x.k:Int).toNat []):=Am om;have hyk:(B.getD (x.k:Int).toNat []).length=y.k:=by omega
      exact u1 rfl (u6 (by show fltD (2,(x.k:Int))=fltD _;rw[ofS,Aa hb];exact congrArg fltD (x.here (e:=([]:List Int)) c5 (by rw[ofF,Aa c14,Ag c16];exact congrArg (Prod.mk (2:Int)) hlk))))
     ·replace c16:=of_decide_eq_false c16
      refine zK 1900 ?_;refine zT rfl (fun c18=>?_) (fun c18=>?_)
      ·replace c18:=Ar c18
       refine zB (zE zO [] 2000 rfl ?_);refine zF ?_;refine zS _ (xC _ _) rfl ?_;refine zf (zA (zN (zP (zM (zP (zM (yL (zP (zM ?_)))))))));have hty:(B.getD (x.k:Int).toNat []).take y.k=(B.getD (x.k:Int).toNat []):=Am om;have hyk:(B.getD (x.k:Int).toNat []).length=y.k:=by omega
       exact u1 rfl (u6 (by show fltD (4,(x.k:Int))=fltD _;rw[ofS,Aa hb];exact congrArg fltD (x.here (e:=([]:List Int)) c5 (by rw[ofF,Aa c14,Aa c16,Ag (show lowS (B.getD (x.k:Int).toNat [])<0 from hty▸c18)];exact congrArg (Prod.mk (4:Int)) hlk))))
      ·replace c18:=of_decide_eq_false c18
       refine zB (zE zO [] 2100 rfl ?_);repeat(first|refine zH ?_|refine zU (by first|(intro hh;exact⟨by decide,by omega⟩)|(intro hh;refine⟨by decide,?_⟩;omega)|omega) ?_)
       refine yP _ (fun hg6=>(dG ((B.take x.k).map hdI) _).args ⟨SubP.ownSl (k:=400) rfl,u4 _,trivial⟩) rfl ?_;repeat(first|refine zH ?_|refine zU (by first|(intro hh;exact⟨by decide,by omega⟩)|(intro hh;refine⟨by decide,?_⟩;omega)|omega) ?_)
       refine zC (zA (zT rfl (fun c20=>?_) (fun c20=>?_)))
       ·
        refine zB (zE zO [] 2200 rfl ?_);refine zF ?_;refine zS _ (xC _ _) rfl ?_;refine zf (zA (zN (zP (zM (zP (zM (yL (zP (zM ?_)))))))));have hty:(B.getD (x.k:Int).toNat []).take y.k=(B.getD (x.k:Int).toNat []):=Am om;have hyk:(B.getD (x.k:Int).toNat []).length=y.k:=by omega
        exact u1 rfl (u6 (by show fltD (8,(x.k:Int))=fltD _;rw[ofS,Aa hb];exact congrArg fltD (x.here (e:=([]:List Int)) c5 (by rw[ofF,Aa c14,Aa c16,Aa (show ¬lowS (B.getD (x.k:Int).toNat [])<0 from hty▸c18),Ag (show(twS (B.getD (x.k:Int).toNat []) (B.getD (x.k:Int).toNat []).length||hasB ((B.take x.k).map hdI) (hdI (B.getD (x.k:Int).toNat [])))=true by rw[hyk];exact c20)];exact congrArg (Prod.mk (8:Int)) hlk))))
       ·
        refine zJ (zL (zA ?_));refine zE zO [] 2300 rfl ?_;repeat(first|refine zH ?_|refine zU (by first|rfl|(refine⟨by decide,?_⟩;omega)|(simp only[Ao,At,Ak,Au];omega)) ?_)
        refine zC (zL (zA (yO zO [] 2400 ?_)))
        exact zR (x.next (e:=([]:List Int)) c5 (by
         have hty:(B.getD (x.k:Int).toNat []).take y.k=(B.getD (x.k:Int).toNat []):=Am om;have hyk:(B.getD (x.k:Int).toNat []).length=y.k:=by omega
         rw[ofF,Aa c14,Aa c16,Aa (show ¬lowS (B.getD (x.k:Int).toNat [])<0 from hty▸c18),Aa (by rw[(show(twS (B.getD (x.k:Int).toNat []) (B.getD (x.k:Int).toNat []).length||hasB ((B.take x.k).map hdI) (hdI (B.getD (x.k:Int).toNat [])))=false by rw[hyk];exact c20)];decide)])) ⟨⟨u0 _,Sub.own (by show _=(((B.take (x.k+1)).map hdI).map iD);rw[qY c5 [],Ad,Ad];rfl),by repeat(first|exact trivial|exact u0 _|refine⟨?_,?_⟩)⟩,⟨⟨rfl,rfl,by show _=(((B.take (x.k+1)).map hdI).map iD).length;rw[qY c5 [],Ad,Ad];rfl⟩,by repeat(first|exact trivial|exact u13 rfl|refine⟨?_,?_⟩)⟩,rfl,rfl⟩ (by show B.length-(x.k+1)<B.length-x.k;omega)
  ·
   refine yF (zZ (yA (zW (zA (zK 2500 ?_)))));refine zN ?_;exact u1 rfl (u6 (by show fltD (0,0)=fltD _;rw[ofS,Aa hb];exact congrArg fltD (x.done c5 rfl)))
variable{md me:Bool}
theorem lft_pos{B:List (List Int)}(h:(0:Int)<(B.map hdI).length):(lft0 B).map lD=B.map lD++[[isD (B.map hdI)]]:=by
 rw[lft0,Ag h,Ad];rfl
theorem lft_neg{B:List (List Int)}(h:¬(0:Int)<(B.map hdI).length):(lft0 B).map lD=B.map lD:=by
 rw[lft0,Aa h]
theorem kB0{n:Int}{left:List (List Int)}{k:Nat}(h:¬k<left.length):rsS n (left.take k)=rsS n left:=by rw[Am (by omega)]
theorem rs_len(n:Int)(left:List (List Int)):(rsS n left).length<=left.length:=by unfold rsS;exact Bg (List.length_filter_le _ _) (by simp)
theorem gA0{P:Program}{E:Pn}{K:DS->Prop}{p:Prop}{r:Out}(hr:r.sat P E K)(hp:p:=by first|(intro hh;have h1:=x.ne _ (qT c12 []);exact⟨by decide,by omega⟩)|(have h1:=x.ne _ (qT c12 []);refine⟨by decide,?_⟩;omega)):(Out.need p r).sat P E K:=⟨hp,hr⟩
theorem xZ0{P:Program}{E:Pn}{K:DS->Prop}{p:Prop}{r:Out}(hr:r.sat P E K)(hp:p:=by first|rfl|(have h1:=rs_len (fdS x.left x.left.length).1 (x.left.take z.k);simp only[Ao,At,Ak,Au]at h1⊢;omega)):(Out.need p r).sat P E K:=⟨hp,hr⟩
theorem Merged_ok(B:List (List Int))(hB:mH0 B):Fx 150 [.sl false 1 B lD []] (.tup [isD (mgS B).1,.sl false 1 (mgS B).2 lD []]):=by
 have hb8:=hB.1;have hb:=hB.2;refine yM zO Tryz.func150 rfl rfl rfl rfl rfl rfl ?_;intros;refine zK 100 ?_;refine yU 2 3 1 rfl ?_;refine yU 3 33 1 rfl ?_;refine zK 200 ?_;refine yU 4 3 1 rfl ?_;refine zB (zK 300 ?_);refine zQ ?_;refine yB (ι:=Up B.length (fun _=>true)) [2,14,15] [100] 350 (fun x=>[(16,.v (.int .i64 x.k)),(3,.own 101 1 ((B.take x.k).map lD)),(4,.own 200 1 (((B.take x.k).map hdI).map iD))]) (fun x=>[(101,.row 33 1 ((B.take x.k).map lD).length),(200,.row 3 1 (((B.take x.k).map hdI).map iD).length)]) (fun x=>B.length-x.k) ⟨0,Aq _,fun j hj=>by omega⟩ ?_;refine⟨⟨(by repeat(first|exact Sub.own (by simp[-List.getD_eq_getElem?_getD,iD])|exact u3 (by simp[-List.getD_eq_getElem?_getD,iD])|exact u19 (by simp[-List.getD_eq_getElem?_getD,iD])|refine⟨?_,?_⟩|exact lx)),(by repeat(first|exact trivial|exact u13 rfl|exact⟨rfl,rfl,by simp[-List.getD_eq_getElem?_getD,iD]⟩|refine⟨?_,?_⟩)),rfl,rfl⟩,fun x=>?_⟩;have hk:=x.le;refine zK 400 ?_;refine zB (zX (fun c3=>?_) (fun c3=>?_))
 ·
  refine zJ (zA (zB (zQ (zK 500 ?_))));refine yE zO [] [[],[],[1],[0,1,2],[],[],[5],[5,6],[5,6,7],(rgN 9),(rgN 10),(rgN 11)] 600 yX kr rfl ?_;repeat(first|refine zH ?_|refine zU (by first|rfl|(have h1:=hb _ (qT c3 []);refine⟨by decide,?_⟩;omega)|(simp only[Ao,At,Ak,Au];omega)) ?_)
  refine zC (zL (zA (yO zO [] 700 ?_)));exact zR (x.next c3 rfl) ⟨⟨u0 _,Sub.own (by show _=(B.take (x.k+1)).map lD;rw[qY c3 [],Ad];rfl),Sub.own (by show _=(((B.take (x.k+1)).map hdI).map iD);rw[qY c3 [],Ad,Ad];rfl),by repeat(first|exact trivial|exact u0 _|refine⟨?_,?_⟩)⟩,⟨⟨rfl,rfl,by show _=((B.take (x.k+1)).map lD).length;rw[qY c3 [],Ad];rfl⟩,⟨rfl,rfl,by show _=(((B.take (x.k+1)).map hdI).map iD).length;rw[qY c3 [],Ad,Ad];rfl⟩,by repeat(first|exact trivial|exact u13 rfl|refine⟨?_,?_⟩)⟩,rfl,rfl⟩ (by show B.length-(x.k+1)<B.length-x.k;omega)
 ·
  refine yF (zZ (yA (zW (zA (zB (zK 800 ?_))))));refine jJ [2] [100] 810 [(3,.own 101 1 (B.map lD)),(4,isD (B.map hdI)),(33,.v (.bool (decide ((0:Int)<(B.map hdI).length))))] [(101,.row 33 1 (B.map lD).length)] ?_;refine⟨⟨⟨Sub.own (by rw[Am om]),u3 (by rw[Am om]),Sub.bool (by rw[Am om];simp only[Ao]),by repeat(first|exact trivial|exact u0 _|refine⟨?_,?_⟩)⟩,⟨⟨rfl,rfl,by rw[Am (by omega)]⟩,by repeat(first|exact trivial|exact u13 rfl|refine⟨?_,?_⟩)⟩,rfl,rfl⟩,?_⟩;refine zT rfl (fun c7=>?_) (fun c7=>?_)
  ·replace c7:=Ar c7
   refine zE zO [] 900 rfl ?_;repeat(first|refine zH ?_|refine zU (by first|rfl|(simp only[Ao,Ak,Au];omega)) ?_)
   refine zC (zA (zB (zQ ?_)));refine yB (ι:=Mg B) [] [] 950 (fun x=>[(3,.sl false 1 x.left lD []),(2,.own 100 1 (x.taken.map iD))]) (fun x=>[(100,.row 3 1 (x.taken.map iD).length)]) (fun x=>x.f) (Mg.start hB) ?_;refine⟨⟨⟨u3 (by show _=(lft0 B).map lD;rw[lft_pos c7]),u0 _,by repeat(first|exact trivial|exact u0 _|refine⟨?_,?_⟩)⟩,yH,rfl,rfl⟩,fun x=>?_⟩;have hll:=x.ll;have htk:=x.tk;refine zB (zK 1000 ?_);refine zT rfl (fun c9=>?_) (fun c9=>?_)
   ·have h9:0<x.left.length:=by have:=Ar c9;omega
    refine zJ (zA (zQ (zK 1100 ?_)));refine zB (zK 1200 ?_);refine zQ ?_;refine yB (ι:=Up x.left.length (fun _=>true)) [2,3,41,42] [100] 1250 (fun y=>[(43,.v (.int .i64 y.k)),(7,.v (.int .i64 (fdS x.left y.k).1)),(8,.v (.bool (fdS x.left y.k).2))]) (fun _=>[]) (fun y=>x.left.length-y.k) ⟨0,Aq _,fun j hj=>by omega⟩ ?_;refine⟨⟨yK,yH,rfl,rfl⟩,fun y=>?_⟩;have hky:=y.le;refine zK 1300 ?_;refine zB (zX (fun c12=>?_) (fun c12=>?_))
    ·
     refine zJ (zA (zB (zQ (zK 1400 ?_))));refine zB (zE zO [] 1500 rfl ?_);repeat(first|refine zH ?_|refine gA0 ?_)
     refine yP _ (fun hg7=>cP x.left _ x.ne) rfl ?_;repeat(first|refine zH ?_|refine gA0 ?_)
     refine zC (zA (zT rfl (fun c14=>?_) (fun c14=>?_)))
     ·replace c14:(!(fdS x.left y.k).2&& !inT x.left (hdI (x.left.getD (y.k:Int).toNat [])))=true:=c14
      refine zE zO [] 1600 rfl ?_;repeat(first|refine zH ?_|refine zU (by(have h1:=x.ne _ (qT c12 []);refine⟨by decide,?_⟩;omega)) ?_)
      refine zC (zL (zA (yO zO [] 1700 ?_)));exact zR (y.next c12 rfl) ⟨⟨u0 _,u19 (by show _=(fdS x.left (y.k+1)).1;rw[vA c12,fdF,Ag c14];rfl),Sub.bool (by show _=(fdS x.left (y.k+1)).2;rw[vA c12,fdF,Ag c14]),by repeat(first|exact trivial|exact u0 _|refine⟨?_,?_⟩)⟩,yH,rfl,rfl⟩ (by show x.left.length-(y.k+1)<x.left.length-y.k;omega)
     ·replace c14:(!(fdS x.left y.k).2&& !inT x.left (hdI (x.left.getD (y.k:Int).toNat [])))=false:=c14
      refine zJ (zL (zA (yO zO [] 1700 ?_)));exact zR (y.next c12 rfl) ⟨⟨u0 _,u19 (by show _=(fdS x.left (y.k+1)).1;rw[vA c12,fdF,Aa (by rw[c14];decide)]),Sub.bool (by show _=(fdS x.left (y.k+1)).2;rw[vA c12,fdF,Aa (by rw[c14];decide)]),by repeat(first|exact trivial|exact u0 _|refine⟨?_,?_⟩)⟩,yH,rfl,rfl⟩ (by show x.left.length-(y.k+1)<x.left.length-y.k;omega)
    ·
     refine yF (zZ (yA (zW (zA (zB (zK 1800 ?_))))));refine zT rfl (fun c17=>?_) (fun c17=>?_)
     ·have hyk:y.k=x.left.length:=by omega
      have h17:(fdS x.left x.left.length).2=false:=by rw[<-hyk];simpa using c17
      refine zK 1900 ?_;refine zN (zM (zP (yL (zP (zM ?_)))));exact u1 rfl (SubP.tup ⟨SubP.ownSl (by rw[x.none h9 h17]),u6 (by rw[x.none h9 h17]),trivial⟩)
     ·have hyk:y.k=x.left.length:=by omega
      have h17:(fdS x.left x.left.length).2=true:=by rw[<-hyk];simpa using c17
      rw[hyk];refine zJ (zA ?_);refine zB (zE zO [] 2000 rfl ?_);repeat(first|refine zH ?_|refine zU (by first|rfl|(simp only[Ao,Ak,Au];have:=x.tf;omega)) ?_)
      refine zC (zA (zK 2100 ?_));refine yU 11 33 1 rfl ?_;refine zB (zK 2200 ?_);refine zQ ?_;refine yB (ι:=Up x.left.length (fun _=>true)) [2,7,69,70] [100] 2250 (fun z=>[(71,.v (.int .i64 z.k)),(11,.own 2100 1 ((rsS (fdS x.left x.left.length).1 (x.left.take z.k)).map lD))]) (fun z=>[(2100,.row 33 1 ((rsS (fdS x.left x.left.length).1 (x.left.take z.k)).map lD).length)]) (fun z=>x.left.length-z.k) ⟨0,Aq _,fun j hj=>by omega⟩ ?_;refine⟨⟨yK,yH,rfl,rfl⟩,fun z=>?_⟩;have hkz:=z.le;refine zK 2300 ?_;refine zB (zX (fun c22=>?_) (fun c22=>?_))
      ·
       refine zJ (zA (zB (zQ (zK 2400 ?_))));refine zB ?_;refine zB (zE zO [] 2500 rfl ?_);repeat(first|refine zH ?_|refine zU (by(have h1:=x.ne _ (qT c22 []);refine⟨by decide,?_⟩;omega)) ?_)
       refine zC (zA (zT rfl (fun c24=>?_) (fun c24=>?_)))
       ·replace c24:=Ar c24
        refine zE zO [] 2600 rfl ?_;repeat(first|refine zH ?_|refine zU (by(have h1:=x.ne _ (qT c22 []);refine⟨by decide,?_,?_⟩<;>omega)) ?_)
        refine zC (zA (zK 2700 ?_));refine zT rfl (fun c26=>?_) (fun c26=>?_)
        ·replace c26:=Ar c26
         try rw[cut1]at c26
         refine zE zO [] 2800 rfl ?_;repeat(first|refine zH ?_|refine xZ0 ?_)
         refine zC (zL (zA (yO zO [] 2900 ?_)));exact zR (z.next c22 rfl) ⟨⟨u0 _,Sub.own (by show _=((rsS (fdS x.left x.left.length).1 (x.left.take (z.k+1))).map lD);rw[qR c22,(show shI (fdS x.left x.left.length).1 (x.left.getD (z.k:Int).toNat [])=(x.left.getD (z.k:Int).toNat []).drop 1 from Ag c24),Ag c26,Ad];rw[<-cut1];rfl),by repeat(first|exact trivial|exact u0 _|refine⟨?_,?_⟩)⟩,⟨⟨rfl,rfl,by show _=((rsS (fdS x.left x.left.length).1 (x.left.take (z.k+1))).map lD).length;rw[qR c22,(show shI (fdS x.left x.left.length).1 (x.left.getD (z.k:Int).toNat [])=(x.left.getD (z.k:Int).toNat []).drop 1 from Ag c24),Ag c26,Ad];rw[<-cut1];rfl⟩,by repeat(first|exact trivial|exact u13 rfl|refine⟨?_,?_⟩)⟩,rfl,rfl⟩ (by show x.left.length-(z.k+1)<x.left.length-z.k;omega)
        ·replace c26:=of_decide_eq_false c26
         try rw[cut1]at c26
         refine zJ (zL (zA (yO zO [] 2900 ?_)));exact zR (z.next c22 rfl) ⟨⟨u0 _,Sub.own (by show _=((rsS (fdS x.left x.left.length).1 (x.left.take (z.k+1))).map lD);rw[qR c22,(show shI (fdS x.left x.left.length).1 (x.left.getD (z.k:Int).toNat [])=(x.left.getD (z.k:Int).toNat []).drop 1 from Ag c24),Aa c26,Ca]),by repeat(first|exact trivial|exact u0 _|refine⟨?_,?_⟩)⟩,⟨⟨rfl,rfl,by show _=((rsS (fdS x.left x.left.length).1 (x.left.take (z.k+1))).map lD).length;rw[qR c22,(show shI (fdS x.left x.left.length).1 (x.left.getD (z.k:Int).toNat [])=(x.left.getD (z.k:Int).toNat []).drop 1 from Ag c24),Aa c26,Ca]⟩,by repeat(first|exact trivial|exact u13 rfl|refine⟨?_,?_⟩)⟩,rfl,rfl⟩ (by show x.left.length-(z.k+1)<x.left.length-z.k;omega)
       ·replace c24:=of_decide_eq_false c24
        refine zJ (zA (zK 2700 ?_));refine zT rfl (fun c26=>?_) (fun c26=>?_)
        ·replace c26:=Ar c26
         try rw[cut1]at c26
         refine zE zO [] 2800 rfl ?_;repeat(first|refine zH ?_|refine xZ0 ?_)
         refine zC (zL (zA (yO zO [] 2900 ?_)));exact zR (z.next c22 rfl) ⟨⟨u0 _,Sub.own (by show _=((rsS (fdS x.left x.left.length).1 (x.left.take (z.k+1))).map lD);rw[qR c22,(show shI (fdS x.left x.left.length).1 (x.left.getD (z.k:Int).toNat [])=(x.left.getD (z.k:Int).toNat [])from Aa c24),Ag c26,Ad];rfl),by repeat(first|exact trivial|exact u0 _|refine⟨?_,?_⟩)⟩,⟨⟨rfl,rfl,by show _=((rsS (fdS x.left x.left.length).1 (x.left.take (z.k+1))).map lD).length;rw[qR c22,(show shI (fdS x.left x.left.length).1 (x.left.getD (z.k:Int).toNat [])=(x.left.getD (z.k:Int).toNat [])from Aa c24),Ag c26,Ad];rfl⟩,by repeat(first|exact trivial|exact u13 rfl|refine⟨?_,?_⟩)⟩,rfl,rfl⟩ (by show x.left.length-(z.k+1)<x.left.length-z.k;omega)
        ·replace c26:=of_decide_eq_false c26
         try rw[cut1]at c26
         refine zJ (zL (zA (yO zO [] 2900 ?_)));exact zR (z.next c22 rfl) ⟨⟨u0 _,Sub.own (by show _=((rsS (fdS x.left x.left.length).1 (x.left.take (z.k+1))).map lD);rw[qR c22,(show shI (fdS x.left x.left.length).1 (x.left.getD (z.k:Int).toNat [])=(x.left.getD (z.k:Int).toNat [])from Aa c24),Aa c26,Ca]),by repeat(first|exact trivial|exact u0 _|refine⟨?_,?_⟩)⟩,⟨⟨rfl,rfl,by show _=((rsS (fdS x.left x.left.length).1 (x.left.take (z.k+1))).map lD).length;rw[qR c22,(show shI (fdS x.left x.left.length).1 (x.left.getD (z.k:Int).toNat [])=(x.left.getD (z.k:Int).toNat [])from Aa c24),Aa c26,Ca]⟩,by repeat(first|exact trivial|exact u13 rfl|refine⟨?_,?_⟩)⟩,rfl,rfl⟩ (by show x.left.length-(z.k+1)<x.left.length-z.k;omega)
      ·
       refine yF (zZ (yA (zW (zA (yO zO [] 3000 ?_)))));refine zL ?_;exact zR (x.next h9 h17) ⟨⟨u3 (by show(rsS _ (x.left.take z.k)).map lD=(rsS _ x.left).map lD;rw[kB0 c22]),Sub.own (by show _=List.map iD (x.taken++[_]);rw[Ad];rfl),by repeat(first|exact trivial|exact u0 _|refine⟨?_,?_⟩)⟩,⟨⟨rfl,rfl,by show _=(List.map iD (x.taken++[_])).length;rw[Ad];rfl⟩,by repeat(first|exact trivial|exact u13 rfl|refine⟨?_,?_⟩)⟩,rfl,rfl⟩ (by show x.f-1<x.f;have:=x.tf;omega)
   ·have h9:¬0<x.left.length:=by have:=of_decide_eq_false c9;omega
    refine yF (zZ (yA (zW (zA (zK 3100 ?_)))));refine zN ?_;exact u1 rfl (SubP.tup ⟨SubP.ownSl (by rw[x.done h9]),u10 (by rw[x.done h9]),trivial⟩)
  ·replace c7:=of_decide_eq_false c7
   refine zJ (zA (zB (zQ ?_)));refine yB (ι:=Mg B) [] [] 850 (fun x=>[(3,.sl false 1 x.left lD []),(2,.own 100 1 (x.taken.map iD))]) (fun x=>[(100,.row 3 1 (x.taken.map iD).length)]) (fun x=>x.f) (Mg.start hB) ?_;refine⟨⟨⟨u3 (by show _=(lft0 B).map lD;rw[lft_neg c7]),u0 _,by repeat(first|exact trivial|exact u0 _|refine⟨?_,?_⟩)⟩,yH,rfl,rfl⟩,fun x=>?_⟩;have hll:=x.ll;have htk:=x.tk;refine zB (zK 1000 ?_);refine zT rfl (fun c9=>?_) (fun c9=>?_)
   ·have h9:0<x.left.length:=by have:=Ar c9;omega
    refine zJ (zA (zQ (zK 1100 ?_)));refine zB (zK 1200 ?_);refine zQ ?_;refine yB (ι:=Up x.left.length (fun _=>true)) [2,3,41,42] [100] 1250 (fun y=>[(43,.v (.int .i64 y.k)),(7,.v (.int .i64 (fdS x.left y.k).1)),(8,.v (.bool (fdS x.left y.k).2))]) (fun _=>[]) (fun y=>x.left.length-y.k) ⟨0,Aq _,fun j hj=>by omega⟩ ?_;refine⟨⟨yK,yH,rfl,rfl⟩,fun y=>?_⟩;have hky:=y.le;refine zK 1300 ?_;refine zB (zX (fun c12=>?_) (fun c12=>?_))
    ·
     refine zJ (zA (zB (zQ (zK 1400 ?_))));refine zB (zE zO [] 1500 rfl ?_);repeat(first|refine zH ?_|refine gA0 ?_)
     refine yP _ (fun hg7=>cP x.left _ x.ne) rfl ?_;repeat(first|refine zH ?_|refine gA0 ?_)
     refine zC (zA (zT rfl (fun c14=>?_) (fun c14=>?_)))
     ·replace c14:(!(fdS x.left y.k).2&& !inT x.left (hdI (x.left.getD (y.k:Int).toNat [])))=true:=c14
      refine zE zO [] 1600 rfl ?_;repeat(first|refine zH ?_|refine zU (by(have h1:=x.ne _ (qT c12 []);refine⟨by decide,?_⟩;omega)) ?_)
      refine zC (zL (zA (yO zO [] 1700 ?_)));exact zR (y.next c12 rfl) ⟨⟨u0 _,u19 (by show _=(fdS x.left (y.k+1)).1;rw[vA c12,fdF,Ag c14];rfl),Sub.bool (by show _=(fdS x.left (y.k+1)).2;rw[vA c12,fdF,Ag c14]),by repeat(first|exact trivial|exact u0 _|refine⟨?_,?_⟩)⟩,yH,rfl,rfl⟩ (by show x.left.length-(y.k+1)<x.left.length-y.k;omega)
     ·replace c14:(!(fdS x.left y.k).2&& !inT x.left (hdI (x.left.getD (y.k:Int).toNat [])))=false:=c14
      refine zJ (zL (zA (yO zO [] 1700 ?_)));exact zR (y.next c12 rfl) ⟨⟨u0 _,u19 (by show _=(fdS x.left (y.k+1)).1;rw[vA c12,fdF,Aa (by rw[c14];decide)]),Sub.bool (by show _=(fdS x.left (y.k+1)).2;rw[vA c12,fdF,Aa (by rw[c14];decide)]),by repeat(first|exact trivial|exact u0 _|refine⟨?_,?_⟩)⟩,yH,rfl,rfl⟩ (by show x.left.length-(y.k+1)<x.left.length-y.k;omega)
    ·
     refine yF (zZ (yA (zW (zA (zB (zK 1800 ?_))))));refine zT rfl (fun c17=>?_) (fun c17=>?_)
     ·have hyk:y.k=x.left.length:=by omega
      have h17:(fdS x.left x.left.length).2=false:=by rw[<-hyk];simpa using c17
      refine zK 1900 ?_;refine zN (zM (zP (yL (zP (zM ?_)))));exact u1 rfl (SubP.tup ⟨SubP.ownSl (by rw[x.none h9 h17]),u6 (by rw[x.none h9 h17]),trivial⟩)
     ·have hyk:y.k=x.left.length:=by omega
      have h17:(fdS x.left x.left.length).2=true:=by rw[<-hyk];simpa using c17
      rw[hyk];refine zJ (zA ?_);refine zB (zE zO [] 2000 rfl ?_);repeat(first|refine zH ?_|refine zU (by first|rfl|(simp only[Ao,Ak,Au];have:=x.tf;omega)) ?_)
      refine zC (zA (zK 2100 ?_));refine yU 11 33 1 rfl ?_;refine zB (zK 2200 ?_);refine zQ ?_;refine yB (ι:=Up x.left.length (fun _=>true)) [2,7,69,70] [100] 2250 (fun z=>[(71,.v (.int .i64 z.k)),(11,.own 2100 1 ((rsS (fdS x.left x.left.length).1 (x.left.take z.k)).map lD))]) (fun z=>[(2100,.row 33 1 ((rsS (fdS x.left x.left.length).1 (x.left.take z.k)).map lD).length)]) (fun z=>x.left.length-z.k) ⟨0,Aq _,fun j hj=>by omega⟩ ?_;refine⟨⟨yK,yH,rfl,rfl⟩,fun z=>?_⟩;have hkz:=z.le;refine zK 2300 ?_;refine zB (zX (fun c22=>?_) (fun c22=>?_))
      ·
       refine zJ (zA (zB (zQ (zK 2400 ?_))));refine zB ?_;refine zB (zE zO [] 2500 rfl ?_);repeat(first|refine zH ?_|refine zU (by(have h1:=x.ne _ (qT c22 []);refine⟨by decide,?_⟩;omega)) ?_)
       refine zC (zA (zT rfl (fun c24=>?_) (fun c24=>?_)))
       ·replace c24:=Ar c24
        refine zE zO [] 2600 rfl ?_;repeat(first|refine zH ?_|refine zU (by(have h1:=x.ne _ (qT c22 []);refine⟨by decide,?_,?_⟩<;>omega)) ?_)
        refine zC (zA (zK 2700 ?_));refine zT rfl (fun c26=>?_) (fun c26=>?_)
        ·replace c26:=Ar c26
         try rw[cut1]at c26
         refine zE zO [] 2800 rfl ?_;repeat(first|refine zH ?_|refine xZ0 ?_)
         refine zC (zL (zA (yO zO [] 2900 ?_)));exact zR (z.next c22 rfl) ⟨⟨u0 _,Sub.own (by show _=((rsS (fdS x.left x.left.length).1 (x.left.take (z.k+1))).map lD);rw[qR c22,(show shI (fdS x.left x.left.length).1 (x.left.getD (z.k:Int).toNat [])=(x.left.getD (z.k:Int).toNat []).drop 1 from Ag c24),Ag c26,Ad];rw[<-cut1];rfl),by repeat(first|exact trivial|exact u0 _|refine⟨?_,?_⟩)⟩,⟨⟨rfl,rfl,by show _=((rsS (fdS x.left x.left.length).1 (x.left.take (z.k+1))).map lD).length;rw[qR c22,(show shI (fdS x.left x.left.length).1 (x.left.getD (z.k:Int).toNat [])=(x.left.getD (z.k:Int).toNat []).drop 1 from Ag c24),Ag c26,Ad];rw[<-cut1];rfl⟩,by repeat(first|exact trivial|exact u13 rfl|refine⟨?_,?_⟩)⟩,rfl,rfl⟩ (by show x.left.length-(z.k+1)<x.left.length-z.k;omega)
        ·replace c26:=of_decide_eq_false c26
         try rw[cut1]at c26
         refine zJ (zL (zA (yO zO [] 2900 ?_)));exact zR (z.next c22 rfl) ⟨⟨u0 _,Sub.own (by show _=((rsS (fdS x.left x.left.length).1 (x.left.take (z.k+1))).map lD);rw[qR c22,(show shI (fdS x.left x.left.length).1 (x.left.getD (z.k:Int).toNat [])=(x.left.getD (z.k:Int).toNat []).drop 1 from Ag c24),Aa c26,Ca]),by repeat(first|exact trivial|exact u0 _|refine⟨?_,?_⟩)⟩,⟨⟨rfl,rfl,by show _=((rsS (fdS x.left x.left.length).1 (x.left.take (z.k+1))).map lD).length;rw[qR c22,(show shI (fdS x.left x.left.length).1 (x.left.getD (z.k:Int).toNat [])=(x.left.getD (z.k:Int).toNat []).drop 1 from Ag c24),Aa c26,Ca]⟩,by repeat(first|exact trivial|exact u13 rfl|refine⟨?_,?_⟩)⟩,rfl,rfl⟩ (by show x.left.length-(z.k+1)<x.left.length-z.k;omega)
       ·replace c24:=of_decide_eq_false c24
        refine zJ (zA (zK 2700 ?_));refine zT rfl (fun c26=>?_) (fun c26=>?_)
        ·replace c26:=Ar c26
         try rw[cut1]at c26
         refine zE zO [] 2800 rfl ?_;repeat(first|refine zH ?_|refine xZ0 ?_)
         refine zC (zL (zA (yO zO [] 2900 ?_)));exact zR (z.next c22 rfl) ⟨⟨u0 _,Sub.own (by show _=((rsS (fdS x.left x.left.length).1 (x.left.take (z.k+1))).map lD);rw[qR c22,(show shI (fdS x.left x.left.length).1 (x.left.getD (z.k:Int).toNat [])=(x.left.getD (z.k:Int).toNat [])from Aa c24),Ag c26,Ad];rfl),by repeat(first|exact trivial|exact u0 _|refine⟨?_,?_⟩)⟩,⟨⟨rfl,rfl,by show _=((rsS (fdS x.left x.left.length).1 (x.left.take (z.k+1))).map lD).length;rw[qR c22,(show shI (fdS x.left x.left.length).1 (x.left.getD (z.k:Int).toNat [])=(x.left.getD (z.k:Int).toNat [])from Aa c24),Ag c26,Ad];rfl⟩,by repeat(first|exact trivial|exact u13 rfl|refine⟨?_,?_⟩)⟩,rfl,rfl⟩ (by show x.left.length-(z.k+1)<x.left.length-z.k;omega)
        ·replace c26:=of_decide_eq_false c26
         try rw[cut1]at c26
         refine zJ (zL (zA (yO zO [] 2900 ?_)));exact zR (z.next c22 rfl) ⟨⟨u0 _,Sub.own (by show _=((rsS (fdS x.left x.left.length).1 (x.left.take (z.k+1))).map lD);rw[qR c22,(show shI (fdS x.left x.left.length).1 (x.left.getD (z.k:Int).toNat [])=(x.left.getD (z.k:Int).toNat [])from Aa c24),Aa c26,Ca]),by repeat(first|exact trivial|exact u0 _|refine⟨?_,?_⟩)⟩,⟨⟨rfl,rfl,by show _=((rsS (fdS x.left x.left.length).1 (x.left.take (z.k+1))).map lD).length;rw[qR c22,(show shI (fdS x.left x.left.length).1 (x.left.getD (z.k:Int).toNat [])=(x.left.getD (z.k:Int).toNat [])from Aa c24),Aa c26,Ca]⟩,by repeat(first|exact trivial|exact u13 rfl|refine⟨?_,?_⟩)⟩,rfl,rfl⟩ (by show x.left.length-(z.k+1)<x.left.length-z.k;omega)
      ·
       refine yF (zZ (yA (zW (zA (yO zO [] 3000 ?_)))));refine zL ?_;exact zR (x.next h9 h17) ⟨⟨u3 (by show(rsS _ (x.left.take z.k)).map lD=(rsS _ x.left).map lD;rw[kB0 c22]),Sub.own (by show _=List.map iD (x.taken++[_]);rw[Ad];rfl),by repeat(first|exact trivial|exact u0 _|refine⟨?_,?_⟩)⟩,⟨⟨rfl,rfl,by show _=(List.map iD (x.taken++[_])).length;rw[Ad];rfl⟩,by repeat(first|exact trivial|exact u13 rfl|refine⟨?_,?_⟩)⟩,rfl,rfl⟩ (by show x.f-1<x.f;have:=x.tf;omega)
   ·have h9:¬0<x.left.length:=by have:=of_decide_eq_false c9;omega
    refine yF (zZ (yA (zW (zA (zK 3100 ?_)))));refine zN ?_;exact u1 rfl (SubP.tup ⟨SubP.ownSl (by rw[x.done h9]),u10 (by rw[x.done h9]),trivial⟩)
variable{md me:Bool}
theorem Order_ok(B:List (List Int)):Fx 107 [.sl false 1 B lD []] (.tup [isD (uP B).1,fltD (uP B).2]):=by
 refine yM zO Tryz.func107 rfl rfl rfl rfl rfl rfl ?_;intros;refine zK 100 ?_;refine zB ?_;refine zB (zE zO [] 200 rfl ?_);refine zF ?_;refine zS _ (OrdersFault_ok _) rfl ?_;refine zF ?_;refine zC (zA (zK 300 ?_));refine zT rfl (fun c2=>?_) (fun c2=>?_)
 ·try simp only[Bd,Be]at c2
  first|replace c2:=Ar c2|replace c2:=of_decide_eq_false c2
  refine zB (yE zO [] [[],[],[0,1]] 400 yX kr rfl ?_);refine zf (zA (zN (zM ?_)));exact u1 rfl (SubP.tup ⟨u10 (by rw[uP,Ag c2]),u6 (by rw[uP,Ag c2]<;>rfl),trivial⟩)
 ·try simp only[Bd,Be]at c2
  first|replace c2:=Ar c2|replace c2:=of_decide_eq_false c2
  refine zJ (zA ?_);refine zB (zE zO [] 500 rfl ?_);refine zF ?_;refine zS _ (Merged_ok B (ofS_good c2)) rfl ?_;refine zF ?_;refine zC (zA (zB (zK 600 ?_)));refine zT rfl (fun c5=>?_) (fun c5=>?_)
  ·try simp only[Bd,Be]at c5
   first|replace c5:=Ar c5|replace c5:=of_decide_eq_false c5
   refine zB (zE zO [] 700 rfl ?_);refine zF ?_;refine zS _ (xC _ _) rfl ?_;refine zf (zA (zN (zM ?_)));exact u1 rfl (SubP.tup ⟨u10 (by rw[uP,Aa (fun hh=>hh c2),Ag c5]),u6 (by rw[uP,Aa (fun hh=>hh c2),Ag c5]<;>rfl),trivial⟩)
  ·try simp only[Bd,Be]at c5
   first|replace c5:=Ar c5|replace c5:=of_decide_eq_false c5
   refine zJ (zA (zB (zK 800 ?_)));refine zT rfl (fun c7=>?_) (fun c7=>?_)
   ·try simp only[Bd,Be]at c7
    first|replace c7:=Ar c7|replace c7:=of_decide_eq_false c7
    refine zB (zE zO [] 900 rfl ?_);refine zF ?_;refine zS _ (xC _ _) rfl ?_;refine zf (zA (zN (zM ?_)));exact u1 rfl (SubP.tup ⟨u10 (by rw[uP,Aa (fun hh=>hh c2),Aa c5,Ag c7]),u6 (by rw[uP,Aa (fun hh=>hh c2),Aa c5,Ag c7]<;>rfl),trivial⟩)
   ·try simp only[Bd,Be]at c7
    first|replace c7:=Ar c7|replace c7:=of_decide_eq_false c7
    refine zJ (zA (zK 1000 ?_));refine zN ?_;exact u1 rfl (SubP.tup ⟨u6 (by rw[uP,Aa (fun hh=>hh c2),Aa c5,Aa c7]<;>rfl),u6 (by rw[uP,Aa (fun hh=>hh c2),Aa c5,Aa c7]<;>rfl),trivial⟩)
theorem wB0:∀(f:Nat)(taken:List Int)(left:List (List Int)),(mgF f taken left).1.length<=taken.length+f
 |0,_,_=>Ap _
 |_+1,taken,[]=>by rw[mgF];exact Nat.le_add_right _ _
 |f+1,taken,l::left=>by
  rw[mgF];split
  ·show taken.length<=_;omega
  ·refine Bg (wB0 f _ _) ?_;simp only[Ae,List.length_singleton];omega
theorem orderS_len(B:List (List Int)):(uP B).1.length<=400:=by
 have h:=wB0 400 [] (lft0 B);unfold uP;split
 ·exact Aq _
 ·split
  ·exact Aq _
  ·split
   ·exact Aq _
   ·simp only[mgS];simpa using h
theorem ords_map(h:List Ob)(o:Ob):(o.refs.map fun n=>lD (yV h n).order)=(zY0 h o).map lD:=by rw[zY0,Bz];rfl
theorem zR0{P:Program}{E:Pn}{K:DS->Prop}{p:Prop}{r:Out}(hr:r.sat P E K)(hp:p:=by first|rfl|(intro hh;exact absurd hh (by rw[hs];decide))|(have:=orderS_len (zY0 h (h.getD n.toNat ob0));simp only[Ao,Ak,Au];omega)):(Out.need p r).sat P E K:=⟨hp,hr⟩
theorem orderOk_ok(h:List Ob)(n:Int)(hn:inH h n)(hh:HpIn h)(hr:(yV h n).kind=9->∀r∈(yV h n).refs,inH h r):Fx 55 [hpD md h,.v (.int .i64 n)] (.v (.bool (uY h (yV h n) n))):=by
 have hO:ObIn (h.getD n.toNat ob0):=hh.at n;have hrl:=hO.rl;have hol:=hO.ol;refine yM zO Tryz.func55 rfl rfl rfl rfl rfl rfl ?_;intros;refine zK 100 ?_;refine zB (zE zO [] 200 rfl ?_);repeat(first|refine zH ?_|refine zU (by exact hn) ?_)
 refine zC (zA (zB (zK 300 ?_)));refine zT rfl (fun c2=>?_) (fun c2=>?_)
 ·replace c2:¬(h.getD n.toNat ob0).kind=9:=by simpa only[Bd,Av]using c2
  refine zK 400 ?_;refine zN (zM ?_);exact u1 rfl (u5 (by rw[uY,Ag c2]))
 ·replace c2:(h.getD n.toNat ob0).kind=9:=by simpa only[Be,Ai]using c2
  refine zJ (zA (zK 500 ?_));refine yU 6 33 1 rfl ?_;refine zB (zK 600 ?_);refine zQ ?_;refine yB (ι:=Up (h.getD n.toNat ob0).refs.length (fun _=>true)) [1,2,5,20,21] [0,105] 650 (fun x=>[(22,.v (.int .i64 x.k)),(6,.own 500 1 (((h.getD n.toNat ob0).refs.take x.k).map fun n=>lD (yV h n).order))]) (fun x=>[(500,.row 33 1 (((h.getD n.toNat ob0).refs.take x.k).map fun n=>lD (yV h n).order).length)]) (fun x=>(h.getD n.toNat ob0).refs.length-x.k) ⟨0,Aq _,fun j hj=>by omega⟩ ?_;refine⟨⟨(by repeat(first|exact Sub.own (by simp[-List.getD_eq_getElem?_getD,lD])|exact u3 (by simp[-List.getD_eq_getElem?_getD,lD])|exact u19 (by simp[-List.getD_eq_getElem?_getD,lD])|refine⟨?_,?_⟩|exact lx)),(by repeat(first|exact trivial|exact u13 rfl|exact⟨rfl,rfl,by simp[-List.getD_eq_getElem?_getD,lD]⟩|refine⟨?_,?_⟩)),rfl,rfl⟩,fun x=>?_⟩;have hk:=x.le;refine zK 700 ?_;refine zB (zX (fun c6=>?_) (fun c6=>?_))
  ·
   refine zJ (zA (zB (zQ (zK 800 ?_))));refine zE zO [] 900 rfl ?_;repeat(first|refine zH ?_|refine zU (by first|rfl|exact hr c2 _ (qT c6 0)|(simp only[Ao,At,Ak,Au];omega)) ?_)
   refine zC (zL (zA (yO zO [] 1000 ?_)));exact zR (x.next c6 rfl) ⟨⟨u0 _,Sub.own (by show _=(((h.getD n.toNat ob0).refs.take (x.k+1)).map fun n=>lD (yV h n).order);rw[qY c6 0,Ad];rfl),by repeat(first|exact trivial|exact u0 _|refine⟨?_,?_⟩)⟩,⟨⟨rfl,rfl,by show _=(((h.getD n.toNat ob0).refs.take (x.k+1)).map fun n=>lD (yV h n).order).length;rw[qY c6 0,Ad];rfl⟩,by repeat(first|exact trivial|exact u13 rfl|refine⟨?_,?_⟩)⟩,rfl,rfl⟩ (by show(h.getD n.toNat ob0).refs.length-(x.k+1)<(h.getD n.toNat ob0).refs.length-x.k;omega)
  ·
   refine yF (zZ (yA (zW (zA ?_))));refine zB (zE zO [] 1100 rfl ?_);refine zF ?_;refine zS _ ((Order_ok (zY0 h (h.getD n.toNat ob0))).args ⟨SubP.ownSl (k:=500) (by rw[Am om,ords_map]),trivial⟩) rfl ?_;refine zf (zA ?_);refine zB (yE zO [48] [[],[0],[0,1],[0,1,2],[0,1,2,3],(rgN 5),[0,1,2,3],[0,1,2,3,6],[0,1,2,3],[0,1,2,3,6,7,8],(rgN 10),(rgN 11),(rgN 12)] 1200 yX kr rfl ?_);repeat(first|refine zH ?_|refine zR0 ?_)
   refine xY (fun hs=>?_) (fun hs=>?_)
   ·repeat(first|refine zH ?_|refine zR0 ?_)
    refine xY (fun hs2=>?_) (fun hs2=>by rw[hs]at hs2;cases hs2);repeat(first|refine zH ?_|refine zR0 ?_)
    refine yP _ (fun hg=>(yV0 (h.getD n.toNat ob0).order ([n]++(uP (zY0 h (h.getD n.toNat ob0))).1)).args ⟨u4 _,SubP.ownSl (k:=1107) (by rw[Ad];rfl),trivial⟩) rfl ?_;repeat(first|refine zH ?_|refine zR0 ?_)
    refine zC (zA (zN ?_));exact u1 rfl (u5 (by rw[uY,Aa (fun hh=>hh c2)]))
   ·repeat(first|refine zH ?_|refine zR0 ?_)
    refine xY (fun hs2=>by rw[hs]at hs2;cases hs2) (fun hs2=>?_);repeat(first|refine zH ?_|refine zR0 ?_)
    refine yP (.v (.bool false)) (fun hg=>by rw[hs]at hg;cases hg) rfl ?_;repeat(first|refine zH ?_|refine zR0 ?_)
    refine zC (zA (zN ?_));exact u1 rfl (u5 (by rw[uY,Aa (fun hh=>hh c2),hs];rfl))
end Go.Proofs.YtmakjjodkiedmaaGreatDoor
