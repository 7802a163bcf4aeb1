/-Part 18 of the proof. -/
import Derived.Test.YtmakjjodkiedmaaGreatDoorM17
namespace Go.Proofs.YtmakjjodkiedmaaGreatDoor
open Go.RowKit
variable{md me:Bool}
def bC:List ByteArray:=[⟨#[97,114,103,115]⟩,⟨#[99,97,117,115,101]⟩,⟨#[99,111,110,116,101,120,116]⟩,⟨#[116,114,97,99,101]⟩]
def tS:List ByteArray:=bC++[⟨#[109,101,109,98,101,114,115]⟩]
abbrev midV(l:List Vl):List Vl:=(l.drop (Int.toNat 1)).take ((3:Int).toNat-Int.toNat 1)
def cauP(h:List Ob)(v:Vl):Bool:= !(!decide (v.k=0)&& !excS h v)
def mkP(h:List Ob)(v:Vl):Bool:= !(((!decide ((yD h v).kind=1)|| !decide (((yD h v).items.length:Int)=2))|| !decide (((yD h v).items.getD (Int.toNat 0) vl0).k=4))|| !decide (((yD h v).items.getD (Int.toNat 1) vl0).k=2))
def memP(h:List Ob)(i:Int)(v:Vl):Bool:= !(!excS h v||decide (i<=v.r))
def tR(o:Ob)(w:List ByteArray):Bool:=decide ((o.names.length:Int)<w.length)|| !decide (((o.names.drop (Int.toNat 0)).take ((w.length:Int).toNat-Int.toNat 0))=w)
def vJ(h:List Ob)(o:Ob)(i:Int):Bool:=
 if hasB (yV h o.cls).order 48=true then
  (if tR o tS=true then false
  else if(midV o.items).all (cauP h)=false then false
  else if(!decide ((yD h (o.items.getD (Int.toNat 0) vl0)).kind=1)|| !decide ((yD h (o.items.getD (Int.toNat 3) vl0)).kind=1))=true then false
  else if(yD h (o.items.getD (Int.toNat 3) vl0)).items.all (mkP h)=false then false
  else if(yD h (o.items.getD (Int.toNat 4) vl0)).items.all (memP h i)=false then false
  else(decide ((yD h (o.items.getD (Int.toNat 4) vl0)).kind=1)&&decide ((0:Int)<(yD h (o.items.getD (Int.toNat 4) vl0)).items.length))&&decide ((0:Int)<(yD h (o.items.getD (Int.toNat 0) vl0)).items.length))
 else
  (if tR o bC=true then false
  else if(midV o.items).all (cauP h)=false then false
  else if(!decide ((yD h (o.items.getD (Int.toNat 0) vl0)).kind=1)|| !decide ((yD h (o.items.getD (Int.toNat 3) vl0)).kind=1))=true then false
  else if(yD h (o.items.getD (Int.toNat 3) vl0)).items.all (mkP h)=false then false
  else true)
theorem xU{o:Ob}{w:List ByteArray}(h:tR o w=false):w.length<=o.names.length:=by
 simp only[tR,Cg,Av]at h;omega
theorem mid_len(l:List Vl):(midV l).length<=2:=by
 show((l.drop 1).take (3-1)).length<=2;rw[At];omega
theorem xY0{P:Program}{E:Pn}{K:DS->Prop}{p:Prop}{r:Out}(hr:r.sat P E K)(hp:p:=by first|rfl|(intro hh;simp only[Bd,Av]at hh;refine⟨by decide,?_,?_⟩<;>(simp only[Ae,Ak,Au]at hh⊢;omega))):(Out.need p r).sat P E K:=⟨hp,hr⟩
theorem uL0{P:Program}{E:Pn}{K:DS->Prop}{p:Prop}{r:Out}(hr:r.sat P E K)(hp:p:=by(refine⟨by decide,?_⟩;show _<(h.getD n.toNat ob0).items.length;have:=xU c6w;simp only[bC,tS,Ae,Ak,Au]at this;omega)):(Out.need p r).sat P E K:=⟨hp,hr⟩
theorem xX0{P:Program}{E:Pn}{K:DS->Prop}{p:Prop}{r:Out}(hr:r.sat P E K)(hp:p:=by(refine⟨by decide,?_⟩;show _<(h.getD n.toNat ob0).items.length;have:=xU c6w;first|(simp only[tS,bC,Ae,Ak,Au]at this;omega)|exact absurd c24 (by rw[c4];decide))):(Out.need p r).sat P E K:=⟨hp,hr⟩
set_option maxHeartbeats 1000000 in
theorem exceptionOk_ok(h:List Ob)(n:Int)(hn:inH h n)(hh:HpIn h)(hc:inH h (yV h n).cls)(hit:(yV h n).items.length=(yV h n).names.length):Fx 104 [hpD md h,.v (.int .i64 n)] (.v (.bool (vJ h (yV h n) n))):=by
 have hO:ObIn (h.getD n.toNat ob0):=hh.at n;have hil:=hO.il;have hnl:=hO.nl;have hit:(h.getD n.toNat ob0).items.length=(h.getD n.toNat ob0).names.length:=hit;have htl:=(bN hh ((h.getD n.toNat ob0).items.getD (Int.toNat 3) vl0)).il;have hml:=(bN hh ((h.getD n.toNat ob0).items.getD (Int.toNat 4) vl0)).il;have hmd:=mid_len (h.getD n.toNat ob0).items;refine yM zO Tryz.func104 rfl rfl rfl rfl rfl rfl ?_;intros;refine zK 100 ?_;refine zB (zE zO [] 200 rfl ?_);repeat(first|refine zH ?_|refine zU (by exact hn) ?_)
 refine zC (zA ?_);refine zB (zE zO [23] 300 rfl ?_);repeat(first|refine zH ?_|refine zU (by first|rfl|exact trivial) ?_)
 refine zC (zA ?_);refine zB (zE zO [] 400 rfl ?_);repeat(first|refine zH ?_|refine zU (by exact hc) ?_)
 refine zS _ (jR _ _) rfl ?_;repeat(first|refine zH ?_|refine zU (by exact hc) ?_)
 refine zC (zA (zB (zK 500 ?_)));refine zT rfl (fun c4=>?_) (fun c4=>?_)
 ·
  refine zE zO [] 600 rfl ?_;repeat(first|refine zH ?_|refine zU (by first|rfl|decide|(show 4+1<=1073741824;omega)) ?_)
  refine zC (zA (zB ?_));refine zB (zE zO [] 700 rfl ?_);repeat(first|refine zH ?_|refine xY0 ?_)
  refine yP _ (fun hg13=>(kV _ tS).args ⟨u4 _,SubP.ownSl (k:=200) rfl,trivial⟩) rfl ?_;repeat(first|refine zH ?_|refine xY0 ?_)
  refine zC (zA (zT rfl (fun c6=>?_) (fun c6=>?_)))
  ·have c6w:tR (h.getD n.toNat ob0) tS=true:=c6;refine zK 800 ?_;refine zN (zM ?_);exact u1 rfl (u5 (by rw[vJ,Ag c4,Ag c6w]))
  ·have c6w:tR (h.getD n.toNat ob0) tS=false:=c6;refine zJ (zA ?_);refine zB (yE zO [] mK6 900 yX kr rfl ?_);repeat(first|refine zH ?_|refine uL0 ?_)
   refine zS _ (qX _ _) rfl ?_;repeat(first|refine zH ?_|refine uL0 ?_)
   refine zS _ (qX _ _) rfl ?_;repeat(first|refine zH ?_|refine uL0 ?_)
   refine zC (zA (zB ?_));refine zB (zE zO [] 1000 rfl ?_);repeat(first|refine zH ?_|refine zU (by(refine⟨by decide,by decide,?_⟩;have:=xU c6w;simp only[bC,tS,Ae,Ak,Au]at this;omega)) ?_)
   refine zC (zA (zQ ?_));refine yB (ι:=Al (midV (h.getD n.toNat ob0).items) (cauP h)) [1,2,5,7,8,9,66,67] [0,105,712,713] 1050 (fun x=>[(68,.v (.int .i64 x.k))]) (fun _=>[]) (fun x=>(midV (h.getD n.toNat ob0).items).length-x.k) ⟨0,Aq _,fun j x hj=>by omega⟩ ?_;refine⟨⟨yK,yH,rfl,rfl⟩,fun x=>?_⟩;have hk:=x.le;refine zK 1100 ?_;refine zB (zX (fun c10=>?_) (fun c10=>?_))
   ·
    refine zJ (zA (zB (zQ (zK 1200 ?_))));refine zB (zE zO [] 1300 rfl ?_);refine zF ?_;refine yP _ (fun hg6=>vE _ _) rfl ?_;refine zF ?_;refine zC (zA (zT rfl (fun c12=>?_) (fun c12=>?_)))
    ·
     refine zK 1400 ?_;refine zN (zP (zM (yL (zP (zM ?_)))));exact u1 rfl (u5 (by rw[vJ,Ag c4,Aa (by rw[c6w];decide),Ag (Al.no (p:=cauP h) (e:=vl0) c10 (congrArg Bool.not c12))]))
    ·
     refine zJ (zL (zA (yO zO [] 1500 ?_)));exact zR (x.next (e:=vl0) c10 (congrArg Bool.not c12)) ⟨yK,yH,rfl,rfl⟩ (by have c10b:x.k<(midV (h.getD n.toNat ob0).items).length:=c10;show(midV (h.getD n.toNat ob0).items).length-(x.k+1)<(midV (h.getD n.toNat ob0).items).length-x.k;omega)
   ·
    refine yF (zZ (yA (zW (zA (zB (zK 1600 ?_))))));refine zT rfl (fun c15=>?_) (fun c15=>?_)
    ·
     refine zK 1700 ?_;refine zN (zM ?_);exact u1 rfl (u5 (by rw[vJ,Ag c4,Aa (by rw[c6w];decide),Aa (by rw[x.yes c10];decide),Ag c15]))
    ·
     refine zJ (zA (zB (zK 1800 ?_)));refine zQ ?_;have hA:=x.yes c10;refine yB (ι:=Al (yD h ((h.getD n.toNat ob0).items.getD (Int.toNat 3) vl0)).items (mkP h)) [1,2,5,7,8,91,92] [0,105,712] 1850 (fun x=>[(93,.v (.int .i64 x.k))]) (fun _=>[]) (fun x=>(yD h ((h.getD n.toNat ob0).items.getD (Int.toNat 3) vl0)).items.length-x.k) ⟨0,Aq _,fun j x hj=>by omega⟩ ?_;refine⟨⟨yK,yH,rfl,rfl⟩,fun x=>?_⟩;have hk:=x.le;refine zK 1900 ?_;refine zB (zX (fun c18=>?_) (fun c18=>?_))
     ·
      refine zJ (zA (zB (zQ (zK 2000 ?_))));refine zB (zE zO [] 2100 rfl ?_);refine zF ?_;refine zS _ (qX _ _) rfl ?_;refine zf (zA ?_);refine zB (zE zO [] 2200 rfl ?_);repeat(first|refine zH ?_|refine zU (by first|(intro hh;simp only[Bd,Cg,Be,Ai]at hh;refine⟨by decide,?_⟩;omega)|omega) ?_)
      refine zC (zA (zT rfl (fun c21=>?_) (fun c21=>?_)))
      ·
       refine zK 2300 ?_;refine zN (zP (zM (yL (zP (zM ?_)))));exact u1 rfl (u5 (by rw[vJ,Ag c4,Aa (by rw[c6w];decide),Aa (by rw[hA];decide),Aa (by rw[c15];decide),Ag (Al.no (p:=mkP h) (e:=vl0) c18 (congrArg Bool.not c21))]))
      ·
       refine zJ (zL (zA (yO zO [] 2400 ?_)));exact zR (x.next (e:=vl0) c18 (congrArg Bool.not c21)) ⟨yK,yH,rfl,rfl⟩ (by show(yD h ((h.getD n.toNat ob0).items.getD (Int.toNat 3) vl0)).items.length-(x.k+1)<(yD h ((h.getD n.toNat ob0).items.getD (Int.toNat 3) vl0)).items.length-x.k;omega)
     ·
      refine yF (zZ (yA (zW (zA (zB (zK 2500 ?_))))));refine zT rfl (fun c24=>?_) (fun c24=>?_)
      ·
       refine zK 2600 ?_;refine zN (zM ?_);exact absurd c24 (by rw[c4];decide)
      ·
       refine zJ (zA ?_);refine zB (yE zO [] mK3 2700 yX kr rfl ?_);repeat(first|refine zH ?_|refine xX0 ?_)
       refine zS _ (qX _ _) rfl ?_;repeat(first|refine zH ?_|refine xX0 ?_)
       refine zC (zA (zB (zK 2800 ?_)));refine zQ ?_;have hB:=x.yes c18;refine yB (ι:=Al (yD h ((h.getD n.toNat ob0).items.getD (Int.toNat 4) vl0)).items (memP h n)) [1,2,8,15,135,136] [0,712,2506] 2850 (fun x=>[(137,.v (.int .i64 x.k))]) (fun _=>[]) (fun x=>(yD h ((h.getD n.toNat ob0).items.getD (Int.toNat 4) vl0)).items.length-x.k) ⟨0,Aq _,fun j x hj=>by omega⟩ ?_;refine⟨⟨yK,yH,rfl,rfl⟩,fun x=>?_⟩;have hk:=x.le;refine zK 2900 ?_;refine zB (zX (fun c28=>?_) (fun c28=>?_))
       ·
        refine zJ (zA (zB (zQ (zK 3000 ?_))));refine zB (zE zO [] 3100 rfl ?_);refine zF ?_;refine zS _ (vE _ _) rfl ?_;refine zF ?_;refine zC (zA (zT rfl (fun c30=>?_) (fun c30=>?_)))
        ·
         refine zK 3200 ?_;refine zN (zP (zM (yL (zP (zM ?_)))));exact u1 rfl (u5 (by rw[vJ,Ag c4,Aa (by rw[c6w];decide),Aa (by rw[hA];decide),Aa (by rw[c15];decide),Aa (by rw[hB];decide),Ag (Al.no (p:=memP h n) (e:=vl0) c28 (congrArg Bool.not c30))]))
        ·
         refine zJ (zL (zA (yO zO [] 3300 ?_)));exact zR (x.next (e:=vl0) c28 (congrArg Bool.not c30)) ⟨yK,yH,rfl,rfl⟩ (by show(yD h ((h.getD n.toNat ob0).items.getD (Int.toNat 4) vl0)).items.length-(x.k+1)<(yD h ((h.getD n.toNat ob0).items.getD (Int.toNat 4) vl0)).items.length-x.k;omega)
       ·
        refine yF (zZ (yA (zW (zA (zK 3400 ?_)))));refine zN ?_;exact u1 rfl (u5 (by rw[vJ,Ag c4,Aa (by rw[c6w];decide),Aa (by rw[hA];decide),Aa (by rw[c15];decide),Aa (by rw[hB];decide),Aa (by rw[x.yes c28];decide)]))
 ·
  refine zJ (zA (zB ?_));refine zB (zE zO [] 700 rfl ?_);repeat(first|refine zH ?_|refine xY0 ?_)
  refine yP _ (fun hg13=>(kV _ bC).args ⟨u4 _,SubP.ownSl (k:=200) rfl,trivial⟩) rfl ?_;repeat(first|refine zH ?_|refine xY0 ?_)
  refine zC (zA (zT rfl (fun c6=>?_) (fun c6=>?_)))
  ·have c6w:tR (h.getD n.toNat ob0) bC=true:=c6;refine zK 800 ?_;refine zN (zM ?_);exact u1 rfl (u5 (by rw[vJ,Aa (by rw[c4];decide),Ag c6w]))
  ·have c6w:tR (h.getD n.toNat ob0) bC=false:=c6;refine zJ (zA ?_);refine zB (yE zO [] mK6 900 yX kr rfl ?_);repeat(first|refine zH ?_|refine uL0 ?_)
   refine zS _ (qX _ _) rfl ?_;repeat(first|refine zH ?_|refine uL0 ?_)
   refine zS _ (qX _ _) rfl ?_;repeat(first|refine zH ?_|refine uL0 ?_)
   refine zC (zA (zB ?_));refine zB (zE zO [] 1000 rfl ?_);repeat(first|refine zH ?_|refine zU (by(refine⟨by decide,by decide,?_⟩;have:=xU c6w;simp only[bC,tS,Ae,Ak,Au]at this;omega)) ?_)
   refine zC (zA (zQ ?_));refine yB (ι:=Al (midV (h.getD n.toNat ob0).items) (cauP h)) [1,2,5,7,8,9,66,67] [0,105,712,713] 1050 (fun x=>[(68,.v (.int .i64 x.k))]) (fun _=>[]) (fun x=>(midV (h.getD n.toNat ob0).items).length-x.k) ⟨0,Aq _,fun j x hj=>by omega⟩ ?_;refine⟨⟨yK,yH,rfl,rfl⟩,fun x=>?_⟩;have hk:=x.le;refine zK 1100 ?_;refine zB (zX (fun c10=>?_) (fun c10=>?_))
   ·
    refine zJ (zA (zB (zQ (zK 1200 ?_))));refine zB (zE zO [] 1300 rfl ?_);refine zF ?_;refine yP _ (fun hg6=>vE _ _) rfl ?_;refine zF ?_;refine zC (zA (zT rfl (fun c12=>?_) (fun c12=>?_)))
    ·
     refine zK 1400 ?_;refine zN (zP (zM (yL (zP (zM ?_)))));exact u1 rfl (u5 (by rw[vJ,Aa (by rw[c4];decide),Aa (by rw[c6w];decide),Ag (Al.no (p:=cauP h) (e:=vl0) c10 (congrArg Bool.not c12))]))
    ·
     refine zJ (zL (zA (yO zO [] 1500 ?_)));exact zR (x.next (e:=vl0) c10 (congrArg Bool.not c12)) ⟨yK,yH,rfl,rfl⟩ (by have c10b:x.k<(midV (h.getD n.toNat ob0).items).length:=c10;show(midV (h.getD n.toNat ob0).items).length-(x.k+1)<(midV (h.getD n.toNat ob0).items).length-x.k;omega)
   ·
    refine yF (zZ (yA (zW (zA (zB (zK 1600 ?_))))));refine zT rfl (fun c15=>?_) (fun c15=>?_)
    ·
     refine zK 1700 ?_;refine zN (zM ?_);exact u1 rfl (u5 (by rw[vJ,Aa (by rw[c4];decide),Aa (by rw[c6w];decide),Aa (by rw[x.yes c10];decide),Ag c15]))
    ·
     refine zJ (zA (zB (zK 1800 ?_)));refine zQ ?_;have hA:=x.yes c10;refine yB (ι:=Al (yD h ((h.getD n.toNat ob0).items.getD (Int.toNat 3) vl0)).items (mkP h)) [1,2,5,7,8,91,92] [0,105,712] 1850 (fun x=>[(93,.v (.int .i64 x.k))]) (fun _=>[]) (fun x=>(yD h ((h.getD n.toNat ob0).items.getD (Int.toNat 3) vl0)).items.length-x.k) ⟨0,Aq _,fun j x hj=>by omega⟩ ?_;refine⟨⟨yK,yH,rfl,rfl⟩,fun x=>?_⟩;have hk:=x.le;refine zK 1900 ?_;refine zB (zX (fun c18=>?_) (fun c18=>?_))
     ·
      refine zJ (zA (zB (zQ (zK 2000 ?_))));refine zB (zE zO [] 2100 rfl ?_);refine zF ?_;refine zS _ (qX _ _) rfl ?_;refine zf (zA ?_);refine zB (zE zO [] 2200 rfl ?_);repeat(first|refine zH ?_|refine zU (by first|(intro hh;simp only[Bd,Cg,Be,Ai]at hh;refine⟨by decide,?_⟩;omega)|omega) ?_)
      refine zC (zA (zT rfl (fun c21=>?_) (fun c21=>?_)))
      ·
       refine zK 2300 ?_;refine zN (zP (zM (yL (zP (zM ?_)))));exact u1 rfl (u5 (by rw[vJ,Aa (by rw[c4];decide),Aa (by rw[c6w];decide),Aa (by rw[hA];decide),Aa (by rw[c15];decide),Ag (Al.no (p:=mkP h) (e:=vl0) c18 (congrArg Bool.not c21))]))
      ·
       refine zJ (zL (zA (yO zO [] 2400 ?_)));exact zR (x.next (e:=vl0) c18 (congrArg Bool.not c21)) ⟨yK,yH,rfl,rfl⟩ (by show(yD h ((h.getD n.toNat ob0).items.getD (Int.toNat 3) vl0)).items.length-(x.k+1)<(yD h ((h.getD n.toNat ob0).items.getD (Int.toNat 3) vl0)).items.length-x.k;omega)
     ·
      refine yF (zZ (yA (zW (zA (zB (zK 2500 ?_))))));refine zT rfl (fun c24=>?_) (fun c24=>?_)
      ·
       refine zK 2600 ?_;refine zN (zM ?_);exact u1 rfl (u5 (by rw[vJ,Aa (by rw[c4];decide),Aa (by rw[c6w];decide),Aa (by rw[hA];decide),Aa (by rw[c15];decide),Aa (by rw[x.yes c18];decide)]))
      ·
       refine zJ (zA ?_);refine zB (yE zO [] mK3 2700 yX kr rfl ?_);repeat(first|refine zH ?_|refine xX0 ?_)
       refine zS _ (qX _ _) rfl ?_;repeat(first|refine zH ?_|refine xX0 ?_)
       refine zC (zA (zB (zK 2800 ?_)));refine zQ ?_;have hB:=x.yes c18;refine yB (ι:=Al (yD h ((h.getD n.toNat ob0).items.getD (Int.toNat 4) vl0)).items (memP h n)) [1,2,8,15,135,136] [0,712,2506] 2850 (fun x=>[(137,.v (.int .i64 x.k))]) (fun _=>[]) (fun x=>(yD h ((h.getD n.toNat ob0).items.getD (Int.toNat 4) vl0)).items.length-x.k) ⟨0,Aq _,fun j x hj=>by omega⟩ ?_;refine⟨⟨yK,yH,rfl,rfl⟩,fun x=>?_⟩;have hk:=x.le;refine zK 2900 ?_;refine zB (zX (fun c28=>?_) (fun c28=>?_))
       ·
        refine zJ (zA (zB (zQ (zK 3000 ?_))));refine zB (zE zO [] 3100 rfl ?_);refine zF ?_;refine zS _ (vE _ _) rfl ?_;refine zF ?_;refine zC (zA (zT rfl (fun c30=>?_) (fun c30=>?_)))
        ·
         refine zK 3200 ?_;refine zN (zP (zM (yL (zP (zM ?_)))));exact absurd c24 (by rw[c4];decide)
        ·
         refine zJ (zL (zA (yO zO [] 3300 ?_)));exact zR (x.next (e:=vl0) c28 (congrArg Bool.not c30)) ⟨yK,yH,rfl,rfl⟩ (by show(yD h ((h.getD n.toNat ob0).items.getD (Int.toNat 4) vl0)).items.length-(x.k+1)<(yD h ((h.getD n.toNat ob0).items.getD (Int.toNat 4) vl0)).items.length-x.k;omega)
       ·
        refine yF (zZ (yA (zW (zA (zK 3400 ?_)))));refine zN ?_;exact absurd c24 (by rw[c4];decide)
variable{md me:Bool}
structure Vs(h:List Ob)(o:Ob):Prop where
 ok:∀v∈o.keys++o.items,yR (fixV o v)=true
 cls:qA h o.cls=true
 refs:∀r∈o.refs,qA h r=true
 order:∀r∈o.order,qA h r=true
 vals:∀v∈o.keys++o.items,v.k=6->qA h v.r=true
 weak:o.kind=18->o.state≠0->qA h (IntKind.i64.wrap (o.state-1))=true
theorem kI:∀{l:List Vl}{v:Vl},v∈l->v.k=6->v.r∈jD l
 |[],_,h,_=>by cases h
 |x::l,v,h,hk=>by
  rw[jD];rcases Bc.1 h with rfl|h
  ·rw[Ag hk];simp
  ·split
   ·exact Bl _ (kI h hk)
   ·exact kI h hk
theorem mV0{h:List Ob}{o:Ob}(hv:uA h o=0):Vs h o:=by
 unfold uA at hv;split at hv
 ·rename_i h1;split at hv
  ·rename_i h2;rw[Bt]at h1 h2
   have hm:∀r,(r=o.cls\/r∈o.refs\/r∈o.order)->qA h r=true:=fun r hr=>h2 r (by
    unfold uI wI;refine Az.2 (.inl (Az.2 (.inl ?_)));rcases hr with rfl|hr|hr
    ·simp
    ·simp[hr]
    ·simp[hr])
   refine⟨h1,hm _ (.inl rfl),fun r hr=>hm r (.inr (.inl hr)),fun r hr=>hm r (.inr (.inr hr)),fun v hv hk=>h2 _ ?_,fun hk hs=>h2 _ ?_⟩
   ·unfold uI;exact Az.2 (.inl (Az.2 (.inr (kI hv hk))))
   ·unfold uI;rw[Ag ⟨hk,hs⟩];simp
  ·cases hv
 ·cases hv
theorem sh_of{o:Ob}(hs:jZ o=0):(o.items.length:Int)=cntS o/\0<=o.code/\0<=o.state/\o.state<=xF o.kind/\(o.kind≠9->o.order=[]):=by
 unfold jZ at hs;split at hs
 ·split at hs
  ·cases hs
  ·rename_i h2;rw[Dj]at h2;simp only[uX,Cg,Be,Ai,Av]at h2;obtain⟨⟨⟨⟨h3,h4⟩,h5⟩,h6⟩,h7⟩:=h2;refine⟨h3,by omega,by omega,by omega,fun hk=>?_⟩;rw[Cl hk,Bool.not_false,Bool.true_and,Av]at h7;exact Ax om
 ·cases hs
theorem pV(k:Int)(c:UInt8)(hu:uW k≠⟨#[]⟩/\cJ (uW k)≠42/\cJ (uW k)≠61/\cJ (uW k)≠58){o:Ob}(hk:o.kind=k):cntS o=IntKind.i64.wrap (IntKind.u8.wrap (cJ (uW k)-48)):=by
 unfold cntS;rw[hk,Aa hu.1,Aa hu.2.1,Aa hu.2.2.1,Aa hu.2.2.2]
theorem cnt5{o:Ob}(hk:o.kind=5):cntS o=3:=by rw[pV 5 0 (by decide+kernel) hk];decide+kernel
theorem cnt8{o:Ob}(hk:o.kind=8):cntS o=2:=by rw[pV 8 0 (by decide+kernel) hk];decide+kernel
theorem cnt14{o:Ob}(hk:o.kind=14):cntS o=1:=by rw[pV 14 0 (by decide+kernel) hk];decide+kernel
theorem cnt15{o:Ob}(hk:o.kind=15):cntS o=2:=by rw[pV 15 0 (by decide+kernel) hk];decide+kernel
theorem gG0{o:Ob}(hk:o.kind=16):cntS o=2:=by rw[pV 16 0 (by decide+kernel) hk];decide+kernel
theorem pP0{o:Ob}(hk:o.kind=19):cntS o=2:=by rw[pV 19 0 (by decide+kernel) hk];decide+kernel
theorem pO0{o:Ob}(hk:o.kind=20):cntS o=1:=by rw[pV 20 0 (by decide+kernel) hk];decide+kernel
theorem cnt10{o:Ob}(hk:o.kind=10):cntS o=o.names.length:=by
 unfold cntS;rw[hk,Aa (by decide+kernel),Aa (by decide+kernel),Ag (by decide+kernel)]
def pK0(n:Int):Bool:=decide (n=0)||decide (28<=n)
def celP(h:List Ob)(r:Int):Bool:=decide ((yV h r).kind=6)
def basP(h:List Ob)(i r:Int):Bool:= !((decide (i<=r)|| !decide ((yV h r).kind=9))|| !pK0 r)
abbrev itm(o:Ob)(k:Int):Vl:=o.items.getD k.toNat vl0
def supT(h:List Ob)(o:Ob)(k:Int):Bool:=(decide ((yD h (itm o 0)).kind=9)&&qA h k)&&hasB (yV h k).order (itm o 0).r
def jE(h:List Ob)(o:Ob)(i:Int):Bool:=
 if o.kind=5 then rngS o
 else if o.kind=7 then(if o.refs.all (celP h)=true then decide ((yV h o.cls).kind=11)else false)
 else if o.kind=8 then gH0 h (itm o 0)
 else if o.kind=14 then gH0 h (itm o 0)
 else if o.kind=9 then(if o.refs.all (basP h i)=true then(decide (1<=(o.refs.length:Int))&&decide ((o.refs.length:Int)<=8))else false)
 else if o.kind=10 then(decide ((yV h o.cls).kind=9)&&pK0 o.cls)&&(!hasB (yV h o.cls).order 28||vJ h o i)
 else if o.kind=15 then(if(yD h (itm o 1)).kind=10 then supT h o (yD h (itm o 1)).cls else if(yD h (itm o 1)).kind=9 then supT h o (itm o 1).r else false)
 else if o.kind=16 then(if(yD h (itm o 0)).kind=3 then(decide ((itm o 1).k=2)&& !(itm o 1).nn)else if(yD h (itm o 0)).kind=4 then(decide ((itm o 1).k=2)&& !(itm o 1).nn)
  else if(yD h (itm o 0)).kind=0 then((decide ((itm o 0).k=4)||decide ((itm o 0).k=5))&&decide ((itm o 1).k=0))
  else(((decide ((yD h (itm o 0)).kind=1)||decide ((yD h (itm o 0)).kind=2))||decide ((yD h (itm o 0)).kind=5))&&decide ((itm o 1).k=0)))
 else if o.kind=18 then(if 0<o.state then(decide ((yV h (o.state-1)).kind=10)&&decide (49<=(yV h (o.state-1)).cls))else true)
 else if o.kind=19 then decide ((yD h (itm o 0)).kind=17)
 else if o.kind=20 then(decide ((itm o 0).k=2)&& !(itm o 0).nn)
 else true
theorem wrap_pred{n:Int}(h0:0<n)(h1:n<=9223372036854775807):IntKind.i64.wrap (n-1)=n-1:=InI.wrap ⟨by omega,by omega⟩
theorem xW0{P:Program}{E:Pn}{K:DS->Prop}{p:Prop}{r:Out}(hr:r.sat P E K)(hp:p:=by first|(refine⟨by decide,?_⟩;show _<(h.getD n.toNat ob0).items.length;first|(have:=cnt8 c13;omega)|(have:=cnt14 c14;omega))):(Out.need p r).sat P E K:=⟨hp,hr⟩
theorem cA{P:Program}{E:Pn}{K:DS->Prop}{p:Prop}{r:Out}(hr:r.sat P E K)(hp:p:=by first|(intro hh;simp only[Ah]at hh;exact jU hh.2)):(Out.need p r).sat P E K:=⟨hp,hr⟩
theorem xV0{P:Program}{E:Pn}{K:DS->Prop}{p:Prop}{r:Out}(hr:r.sat P E K)(hp:p:=by first|(refine⟨by decide,?_⟩;show _<(h.getD n.toNat ob0).items.length;have:=gG0 c36;omega)|(intro _;(refine⟨by decide,?_⟩;show _<(h.getD n.toNat ob0).items.length;have:=gG0 c36;omega))):(Out.need p r).sat P E K:=⟨hp,hr⟩
set_option maxHeartbeats 1000000 in
theorem links_ok(h:List Ob)(n:Int)(hn:inH h n)(hh:HpIn h)(hv:uA h (yV h n)=0)(hs:jZ (yV h n)=0):Fx 53 [hpD md h,.v (.int .i64 n)] (.v (.bool (jE h (yV h n) n))):=by
 have hO:ObIn (h.getD n.toNat ob0):=hh.at n;have hil:=hO.il;have hrl:=hO.rl;have hst:=hO.st;have hV:Vs h (h.getD n.toNat ob0):=mV0 hv;have hS:((h.getD n.toNat ob0).items.length:Int)=cntS (h.getD n.toNat ob0):=(sh_of hs).1;have hcl:inH h (h.getD n.toNat ob0).cls:=jU hV.cls;refine yM zO Tryz.func53 rfl rfl rfl rfl rfl rfl ?_;intros;refine zK 100 ?_;refine zB (zE zO [] 200 rfl ?_);repeat(first|refine zH ?_|refine zU (by exact hn) ?_)
 refine zC (zA (zB (zK 300 ?_)));refine zQ (zK 400 ?_);refine zX (fun c3=>?_) (fun c3=>?_)
 ·
  refine zB (zE zO [] 500 rfl ?_);refine zF ?_;refine zS _ (RangeOk_ok (h.getD n.toNat ob0) (by have:=cnt5 c3;omega) hil) rfl ?_;refine zf (zA (zN (zP (zM ?_))));exact u1 rfl (u5 (by rw[jE,Ag c3]<;>rfl))
 ·
  refine zK 600 ?_;refine zX (fun c5=>?_) (fun c5=>?_)
  ·
   refine zB (zK 700 ?_);refine zQ ?_;refine yB (ι:=Al (h.getD n.toNat ob0).refs (celP h)) [2,5,30,31] [0,105] 750 (fun x=>[(32,.v (.int .i64 x.k))]) (fun _=>[]) (fun x=>(h.getD n.toNat ob0).refs.length-x.k) ⟨0,Aq _,fun j x hj=>by omega⟩ ?_;refine⟨⟨yK,yH,rfl,rfl⟩,fun x=>?_⟩;have hk:=x.le;refine zK 800 ?_;refine zB (zX (fun c7=>?_) (fun c7=>?_))
   ·
    refine zJ (zA (zB (zQ (zK 900 ?_))));refine zB (zE zO [] 1000 rfl ?_);repeat(first|refine zH ?_|refine zU (by exact jU (hV.refs _ (qT c7 0))) ?_)
    refine zC (zA (zT rfl (fun c9=>?_) (fun c9=>?_)))
    ·simp only[Bd]at c9;refine zK 1100 ?_;refine zN (zP (zM (yL (zP (zM (zP (zM ?_)))))));exact u1 rfl (u5 (by rw[jE,Aa c3,Ag c5,Aa (by rw[Al.no (p:=celP h) (e:=(0:Int)) c7 c9];decide)]<;>rfl))
    ·simp only[Be]at c9;refine zJ (zL (zA (yO zO [] 1200 ?_)));exact zR (x.next (e:=(0:Int)) c7 c9) ⟨yK,yH,rfl,rfl⟩ (by show(h.getD n.toNat ob0).refs.length-(x.k+1)<(h.getD n.toNat ob0).refs.length-x.k;omega)
   ·
    refine yF (zZ (yA (zW (zA ?_))));refine zB (zE zO [] 1300 rfl ?_);repeat(first|refine zH ?_|refine zU (by exact hcl) ?_)
    refine zC (zA (zN (zP (zM ?_))));exact u1 rfl (u5 (by rw[jE,Aa c3,Ag c5,Ag (x.yes c7)]<;>rfl))
  ·
   refine zB (zK 1400 ?_);refine zX (fun c13=>?_) (fun c13=>?_)
   ·
    refine zJ (zA (zX (fun c13x=>?_) (fun c13x=>?_)))
    ·
     refine zB (yE zO [] [[],[],[1],[1,2],[1,2,3],(rgN 5),(rgN 6)] 1600 yX kr rfl ?_);repeat(first|refine zH ?_|refine xW0 ?_)
     refine zS _ (pW _ _) rfl ?_;repeat(first|refine zH ?_|refine xW0 ?_)
     refine zC (zA (zN (zP (zM ?_))));exact u1 rfl (u5 (by rw[jE,Aa c3,Aa c5,Ag c13]<;>rfl))
    ·
     simp_all
   ·
    refine yO zO [] 1500 ?_;refine zA (zX (fun c14=>?_) (fun c14=>?_))
    ·
     refine zB (yE zO [] [[],[],[1],[1,2],[1,2,3],(rgN 5),(rgN 6)] 1600 yX kr rfl ?_);repeat(first|refine zH ?_|refine xW0 ?_)
     refine zS _ (pW _ _) rfl ?_;repeat(first|refine zH ?_|refine xW0 ?_)
     refine zC (zA (zN (zP (zM ?_))));exact u1 rfl (u5 (by rw[jE,Aa c3,Aa c5,Aa c13,Ag c14]<;>rfl))
    ·
     refine zK 1700 ?_;refine zX (fun c16=>?_) (fun c16=>?_)
     ·
      refine zB (zK 1800 ?_);refine zQ ?_;refine yB (ι:=Al (h.getD n.toNat ob0).refs (basP h n)) [1,2,5,64,65] [0,105] 1850 (fun x=>[(66,.v (.int .i64 x.k))]) (fun _=>[]) (fun x=>(h.getD n.toNat ob0).refs.length-x.k) ⟨0,Aq _,fun j x hj=>by omega⟩ ?_;refine⟨⟨yK,yH,rfl,rfl⟩,fun x=>?_⟩;have hk:=x.le;refine zK 1900 ?_;refine zB (zX (fun c18=>?_) (fun c18=>?_))
      ·
       refine zJ (zA (zB (zQ (zK 2000 ?_))));refine zB (zE zO [] 2100 rfl ?_);refine zF ?_;refine yP _ (fun hg6=>dU _ _ (jU (hV.refs _ (qT c18 0)))) rfl ?_;refine zF ?_;refine yP _ (fun hg11=>xQ0 _) rfl ?_;refine zF ?_;refine zC (zA (zT rfl (fun c20=>?_) (fun c20=>?_)))
       ·
        refine zK 2200 ?_;refine zN (zP (zM (yL (zP (zM (zP (zM ?_)))))));exact u1 rfl (u5 (by rw[jE,Aa c3,Aa c5,Aa c13,Aa c14,Ag c16,Aa (by rw[Al.no (p:=basP h n) (e:=(0:Int)) c18 (congrArg Bool.not c20)];decide)]<;>rfl))
       ·
        refine zJ (zL (zA (yO zO [] 2300 ?_)));exact zR (x.next (e:=(0:Int)) c18 (congrArg Bool.not c20)) ⟨yK,yH,rfl,rfl⟩ (by show(h.getD n.toNat ob0).refs.length-(x.k+1)<(h.getD n.toNat ob0).refs.length-x.k;omega)
      ·
       refine yF (zZ (yA (zW (zA (zK 2400 ?_)))));refine zN (zP (zM ?_));exact u1 rfl (u5 (by rw[jE,Aa c3,Aa c5,Aa c13,Aa c14,Ag c16,Ag (x.yes c18)]<;>rfl))
     ·
      refine zK 2500 ?_;refine zX (fun c24=>?_) (fun c24=>?_)
      ·
       refine zB (zE zO [] 2600 rfl ?_);repeat(first|refine zH ?_|refine zU (by first|exact hcl|(intro _;exact hcl)) ?_)
       refine zS _ (dU _ _ hcl) rfl ?_;repeat(first|refine zH ?_|refine zU (by first|exact hcl|(intro _;exact hcl)) ?_)
       refine yP _ (fun hg7=>xQ0 _) rfl ?_;repeat(first|refine zH ?_|refine zU (by first|exact hcl|(intro _;exact hcl)) ?_)
       refine yP _ (fun hg17=>jR _ _) rfl ?_;repeat(first|refine zH ?_|refine zU (by first|exact hcl|(intro _;exact hcl)) ?_)
       refine yP _ (fun hg22=>exceptionOk_ok _ _ hn hh hcl (by have:=cnt10 c24;show(h.getD n.toNat ob0).items.length=(h.getD n.toNat ob0).names.length;omega)) rfl ?_;repeat(first|refine zH ?_|refine zU (by first|exact hcl|(intro _;exact hcl)) ?_)
       refine zC (zA (zN (zP (zM ?_))));exact u1 rfl (u5 (by rw[jE,Aa c3,Aa c5,Aa c13,Aa c14,Aa c16,Ag c24]<;>rfl))
      ·
       refine zK 2700 ?_;refine zX (fun c26=>?_) (fun c26=>?_)
       ·
        refine zB (yE zO [] [[],[0],[0,1],[0,1,2],[],[4],[4,5],[4,5,6],[],[],[0,1,2,3,8,9],(rgN 11)] 2800 yX kr rfl ?_);repeat(first|refine zH ?_|refine zU (by(refine⟨by decide,?_⟩;show _<(h.getD n.toNat ob0).items.length;have:=cnt15 c26;first|omega|(rw[show Int.toNat 0=0 from rfl];omega))) ?_)
        refine zC (zA (zK 2900 ?_));refine zB ?_;refine zB (zE zO [] 3000 rfl ?_);refine zF ?_;refine zS _ (qX _ _) rfl ?_;refine zF ?_;refine zC (zA (zK 3100 ?_));refine zQ (zK 3300 ?_);refine zX (fun c32=>?_) (fun c32=>?_)
        ·
         refine yO zO [] 3400 ?_;refine zL (zA ?_);refine zB (yE zO [] mK7 3600 yX kr rfl ?_);repeat(first|refine zH ?_|refine cA ?_)
         refine zS _ (qX _ _) rfl ?_;repeat(first|refine zH ?_|refine cA ?_)
         refine yP _ (fun hg8=>jP _ _) rfl ?_;repeat(first|refine zH ?_|refine cA ?_)
         refine yP _ (fun hg19=>jR _ _) rfl ?_;repeat(first|refine zH ?_|refine cA ?_)
         refine zC (zA (zN (zP (zM ?_))));exact u1 rfl (u5 (by rw[jE,Aa c3,Aa c5,Aa c13,Aa c14,Aa c16,Aa c24,Ag c26,Ag c32]<;>rfl))
        ·
         refine zK 3500 ?_;refine zX (fun c34=>?_) (fun c34=>?_)
         ·
          refine zJ (zL (zA ?_));refine zB (yE zO [] mK7 3600 yX kr rfl ?_);repeat(first|refine zH ?_|refine cA ?_)
          refine zS _ (qX _ _) rfl ?_;repeat(first|refine zH ?_|refine cA ?_)
          refine yP _ (fun hg8=>jP _ _) rfl ?_;repeat(first|refine zH ?_|refine cA ?_)
          refine yP _ (fun hg19=>jR _ _) rfl ?_;repeat(first|refine zH ?_|refine cA ?_)
          refine zC (zA (zN (zP (zM ?_))));exact u1 rfl (u5 (by rw[jE,Aa c3,Aa c5,Aa c13,Aa c14,Aa c16,Aa c24,Ag c26,Aa c32,Ag c34]<;>rfl))
         ·
          refine zK 3600 ?_;refine zN (zP (zM (zP (zM ?_))));exact u1 rfl (u5 (by rw[jE,Aa c3,Aa c5,Aa c13,Aa c14,Aa c16,Aa c24,Ag c26,Aa c32,Aa c34]<;>rfl))
       ·
        refine zK 3700 ?_;refine zX (fun c36=>?_) (fun c36=>?_)
        ·
         refine zB (yE zO [] mK3 3800 yX kr rfl ?_);repeat(first|refine zH ?_|refine zU (by(refine⟨by decide,?_⟩;show _<(h.getD n.toNat ob0).items.length;have:=gG0 c36;omega)) ?_)
         refine zS _ (qX _ _) rfl ?_;repeat(first|refine zH ?_|refine zU (by(refine⟨by decide,?_⟩;show _<(h.getD n.toNat ob0).items.length;have:=gG0 c36;omega)) ?_)
         refine zC (zA (zK 3900 ?_));refine zQ (zB (zK 4100 ?_));refine zX (fun c40=>?_) (fun c40=>?_)
         ·
          refine zJ (zA (zX (fun c40x=>?_) (fun c40x=>?_)))
          ·
           refine zB (zE zO [] 4300 rfl ?_);repeat(first|refine zH ?_|refine xV0 ?_)
           refine zC (zA (zN (zP (zP (zM ?_)))));exact u1 rfl (u5 (by rw[jE,Aa c3,Aa c5,Aa c13,Aa c14,Aa c16,Aa c24,Aa c26,Ag c36,Ag c40]<;>rfl))
          ·
           simp_all
         ·
          refine yO zO [] 4200 ?_;refine zA (zX (fun c41=>?_) (fun c41=>?_))
          ·
           refine zB (zE zO [] 4300 rfl ?_);repeat(first|refine zH ?_|refine xV0 ?_)
           refine zC (zA (zN (zP (zP (zM ?_)))));exact u1 rfl (u5 (by rw[jE,Aa c3,Aa c5,Aa c13,Aa c14,Aa c16,Aa c24,Aa c26,Ag c36,Aa c40,Ag c41]<;>rfl))
          ·
           refine zK 4400 ?_;refine zX (fun c43=>?_) (fun c43=>?_)
           ·
            refine zB (zE zO [] 4500 rfl ?_);repeat(first|refine zH ?_|refine xV0 ?_)
            refine zC (zA (zN (zP (zP (zM ?_)))));exact u1 rfl (u5 (by rw[jE,Aa c3,Aa c5,Aa c13,Aa c14,Aa c16,Aa c24,Aa c26,Ag c36,Aa c40,Aa c41,Ag c43]<;>rfl))
           ·
            refine zB (zE zO [] 4500 rfl ?_);repeat(first|refine zH ?_|refine xV0 ?_)
            refine zC (zA (zN (zP (zP (zM ?_)))));exact u1 rfl (u5 (by rw[jE,Aa c3,Aa c5,Aa c13,Aa c14,Aa c16,Aa c24,Aa c26,Ag c36,Aa c40,Aa c41,Aa c43]<;>rfl))
        ·
         refine zK 4600 ?_;refine zX (fun c45=>?_) (fun c45=>?_)
         ·
          refine zK 4700 ?_;refine zX (fun c46=>?_) (fun c46=>?_)
          ·
           refine zB (zE zO [] 4800 rfl ?_);repeat(first|refine zH ?_|refine zU (by first|exact ini (by omega) (by omega)|(have h1:=hV.weak c45 (by omega);rw[wrap_pred c46 om]at h1;exact jU h1)) ?_)
           refine zC (zA (zK 4900 ?_));refine zN (zP (zM ?_));exact u1 rfl (u5 (by rw[jE,Aa c3,Aa c5,Aa c13,Aa c14,Aa c16,Aa c24,Aa c26,Aa c36,Ag c45,Ag c46]<;>rfl))
          ·
           refine zJ (zL (zA (zK 5400 ?_)));refine zN ?_;exact u1 rfl (u5 (by rw[jE,Aa c3,Aa c5,Aa c13,Aa c14,Aa c16,Aa c24,Aa c26,Aa c36,Ag c45,Aa (Int.not_lt.2 c46)]<;>rfl))
         ·
          refine zK 5000 ?_;refine zX (fun c49=>?_) (fun c49=>?_)
          ·
           refine zB (yE zO [] [[],[],[1],[1,2],[1,2,3],(rgN 5),(rgN 6),(rgN 7),(rgN 8)] 5100 yX kr rfl ?_);repeat(first|refine zH ?_|refine zU (by(refine⟨by decide,?_⟩;show _<(h.getD n.toNat ob0).items.length;have:=pP0 c49;omega)) ?_)
           refine zS _ (qX _ _) rfl ?_;repeat(first|refine zH ?_|refine zU (by(refine⟨by decide,?_⟩;show _<(h.getD n.toNat ob0).items.length;have:=pP0 c49;omega)) ?_)
           refine zC (zA (zN (zP (zM ?_))));exact u1 rfl (u5 (by rw[jE,Aa c3,Aa c5,Aa c13,Aa c14,Aa c16,Aa c24,Aa c26,Aa c36,Aa c45,Ag c49]<;>rfl))
          ·
           refine zK 5200 ?_;refine zX (fun c51=>?_) (fun c51=>?_)
           ·
            refine zB (zE zO [] 5300 rfl ?_);repeat(first|refine zH ?_|refine zU (by first|(refine⟨by decide,?_⟩;show _<(h.getD n.toNat ob0).items.length;have:=pO0 c51;omega)|(intro _;(refine⟨by decide,?_⟩;show _<(h.getD n.toNat ob0).items.length;have:=pO0 c51;omega))) ?_)
            refine zC (zA (zN (zP (zM ?_))));exact u1 rfl (u5 (by rw[jE,Aa c3,Aa c5,Aa c13,Aa c14,Aa c16,Aa c24,Aa c26,Aa c36,Aa c45,Aa c49,Ag c51]<;>rfl))
           ·
            refine zJ (zL (zA (zK 5400 ?_)));refine zN ?_;exact u1 rfl (u5 (by rw[jE,Aa c3,Aa c5,Aa c13,Aa c14,Aa c16,Aa c24,Aa c26,Aa c36,Aa c45,Aa c49,Aa c51]<;>rfl))
variable{md me:Bool}
def fldsL:List ByteArray:=[⟨#[111,98,106,101,99,116]⟩,⟨#[99,108,97,115,115,58,111,98,106,101,99,116]⟩,⟨#[110,105,108,95,116,121,112,101,58,111,98,106,101,99,116]⟩,⟨#[98,111,111,108,58,111,98,106,101,99,116]⟩,⟨#[105,110,116,58,111,98,106,101,99,116]⟩,⟨#[114,97,116,105,111,58,111,98,106,101,99,116]⟩,⟨#[116,101,120,116,58,111,98,106,101,99,116]⟩,⟨#[98,121,116,101,115,58,111,98,106,101,99,116]⟩,⟨#[116,117,112,108,101,58,111,98,106,101,99,116]⟩,⟨#[108,105,115,116,58,111,98,106,101,99,116]⟩,⟨#[100,105,99,116,58,111,98,106,101,99,116]⟩,⟨#[115,101,116,58,111,98,106,101,99,116]⟩,⟨#[114,97,110,103,101,58,111,98,106,101,99,116]⟩,⟨#[99,101,108,108,58,111,98,106,101,99,116]⟩,⟨#[102,117,110,99,116,105,111,110,58,111,98,106,101,99,116]⟩,⟨#[98,117,105,108,116,105,110,58,111,98,106,101,99,116]⟩,⟨#[109,101,116,104,111,100,58,111,98,106,101,99,116]⟩,⟨#[109,111,100,117,108,101,58,111,98,106,101,99,116]⟩,⟨#[112,114,111,112,101,114,116,121,58,111,98,106,101,99,116]⟩,⟨#[115,116,97,116,105,99,58,111,98,106,101,99,116]⟩,⟨#[99,108,97,115,115,95,109,101,116,104,111,100,58,111,98,106,101,99,116]⟩,⟨#[115,117,112,101,114,95,116,121,112,101,58,111,98,106,101,99,116]⟩,⟨#[105,116,101,114,97,116,111,114,58,111,98,106,101,99,116]⟩,⟨#[103,101,110,101,114,97,116,111,114,58,111,98,106,101,99,116]⟩,⟨#[119,101,97,107,58,111,98,106,101,99,116]⟩,⟨#[116,97,115,107,58,111,98,106,101,99,116]⟩,⟨#[116,105,109,101,114,58,111,98,106,101,99,116]⟩,⟨#[112,97,115,115,95,116,121,112,101,58,111,98,106,101,99,116]⟩,⟨#[82,97,105,115,101,100,58,111,98,106,101,99,116]⟩,⟨#[69,120,105,116,58,82,97,105,115,101,100]⟩,⟨#[67,97,110,99,101,108,58,82,97,105,115,101,100]⟩,⟨#[69,114,114,111,114,58,82,97,105,115,101,100]⟩,⟨#[84,121,112,101,69,114,114,111,114,58,69,114,114,111,114]⟩,⟨#[86,97,108,117,101,69,114,114,111,114,58,69,114,114,111,114]⟩,⟨#[78,97,109,101,69,114,114,111,114,58,69,114,114,111,114]⟩,⟨#[85,110,98,111,117,110,100,69,114,114,111,114,58,78,97,109,101,69,114,114,111,114]⟩,⟨#[65,116,116,114,105,98,117,116,101,69,114,114,111,114,58,69,114,114,111,114]⟩,⟨#[76,111,111,107,117,112,69,114,114,111,114,58,69,114,114,111,114]⟩,⟨#[73,110,100,101,120,69,114,114,111,114,58,76,111,111,107,117,112,69,114,114,111,114]⟩,⟨#[75,101,121,69,114,114,111,114,58,76,111,111,107,117,112,69,114,114,111,114]⟩,⟨#[65,114,105,116,104,109,101,116,105,99,69,114,114,111,114,58,69,114,114,111,114]⟩,⟨#[68,105,118,105,115,105,111,110,69,114,114,111,114,58,65,114,105,116,104,109,101,116,105,99,69,114,114,111,114]⟩,⟨#[76,105,109,105,116,69,114,114,111,114,58,69,114,114,111,114]⟩,⟨#[82,101,99,117,114,115,105,111,110,69,114,114,111,114,58,76,105,109,105,116,69,114,114,111,114]⟩,⟨#[65,115,115,101,114,116,105,111,110,69,114,114,111,114,58,69,114,114,111,114]⟩,⟨#[73,109,112,111,114,116,69,114,114,111,114,58,69,114,114,111,114]⟩,⟨#[83,116,111,112,69,114,114,111,114,58,69,114,114,111,114]⟩,⟨#[83,116,97,116,101,69,114,114,111,114,58,69,114,114,111,114]⟩,⟨#[71,114,111,117,112,69,114,114,111,114,58,69,114,114,111,114]⟩]
def nmL:List ByteArray:=[⟨#[111,98,106,101,99,116]⟩,⟨#[99,108,97,115,115]⟩,⟨#[110,105,108,95,116,121,112,101]⟩,⟨#[98,111,111,108]⟩,⟨#[105,110,116]⟩,⟨#[114,97,116,105,111]⟩,⟨#[116,101,120,116]⟩,⟨#[98,121,116,101,115]⟩,⟨#[116,117,112,108,101]⟩,⟨#[108,105,115,116]⟩,⟨#[100,105,99,116]⟩,⟨#[115,101,116]⟩,⟨#[114,97,110,103,101]⟩,⟨#[99,101,108,108]⟩,⟨#[102,117,110,99,116,105,111,110]⟩,⟨#[98,117,105,108,116,105,110]⟩,⟨#[109,101,116,104,111,100]⟩,⟨#[109,111,100,117,108,101]⟩,⟨#[112,114,111,112,101,114,116,121]⟩,⟨#[115,116,97,116,105,99]⟩,⟨#[99,108,97,115,115,95,109,101,116,104,111,100]⟩,⟨#[115,117,112,101,114,95,116,121,112,101]⟩,⟨#[105,116,101,114,97,116,111,114]⟩,⟨#[103,101,110,101,114,97,116,111,114]⟩,⟨#[119,101,97,107]⟩,⟨#[116,97,115,107]⟩,⟨#[116,105,109,101,114]⟩,⟨#[112,97,115,115,95,116,121,112,101]⟩,⟨#[82,97,105,115,101,100]⟩,⟨#[69,120,105,116]⟩,⟨#[67,97,110,99,101,108]⟩,⟨#[69,114,114,111,114]⟩,⟨#[84,121,112,101,69,114,114,111,114]⟩,⟨#[86,97,108,117,101,69,114,114,111,114]⟩,⟨#[78,97,109,101,69,114,114,111,114]⟩,⟨#[85,110,98,111,117,110,100,69,114,114,111,114]⟩,⟨#[65,116,116,114,105,98,117,116,101,69,114,114,111,114]⟩,⟨#[76,111,111,107,117,112,69,114,114,111,114]⟩,⟨#[73,110,100,101,120,69,114,114,111,114]⟩,⟨#[75,101,121,69,114,114,111,114]⟩,⟨#[65,114,105,116,104,109,101,116,105,99,69,114,114,111,114]⟩,⟨#[68,105,118,105,115,105,111,110,69,114,114,111,114]⟩,⟨#[76,105,109,105,116,69,114,114,111,114]⟩,⟨#[82,101,99,117,114,115,105,111,110,69,114,114,111,114]⟩,⟨#[65,115,115,101,114,116,105,111,110,69,114,114,111,114]⟩,⟨#[73,109,112,111,114,116,69,114,114,111,114]⟩,⟨#[83,116,111,112,69,114,114,111,114]⟩,⟨#[83,116,97,116,101,69,114,114,111,114]⟩,⟨#[71,114,111,117,112,69,114,114,111,114]⟩]
def bsL:List ByteArray:=[⟨#[]⟩,⟨#[111,98,106,101,99,116]⟩,⟨#[111,98,106,101,99,116]⟩,⟨#[111,98,106,101,99,116]⟩,⟨#[111,98,106,101,99,116]⟩,⟨#[111,98,106,101,99,116]⟩,⟨#[111,98,106,101,99,116]⟩,⟨#[111,98,106,101,99,116]⟩,⟨#[111,98,106,101,99,116]⟩,⟨#[111,98,106,101,99,116]⟩,⟨#[111,98,106,101,99,116]⟩,⟨#[111,98,106,101,99,116]⟩,⟨#[111,98,106,101,99,116]⟩,⟨#[111,98,106,101,99,116]⟩,⟨#[111,98,106,101,99,116]⟩,⟨#[111,98,106,101,99,116]⟩,⟨#[111,98,106,101,99,116]⟩,⟨#[111,98,106,101,99,116]⟩,⟨#[111,98,106,101,99,116]⟩,⟨#[111,98,106,101,99,116]⟩,⟨#[111,98,106,101,99,116]⟩,⟨#[111,98,106,101,99,116]⟩,⟨#[111,98,106,101,99,116]⟩,⟨#[111,98,106,101,99,116]⟩,⟨#[111,98,106,101,99,116]⟩,⟨#[111,98,106,101,99,116]⟩,⟨#[111,98,106,101,99,116]⟩,⟨#[111,98,106,101,99,116]⟩,⟨#[111,98,106,101,99,116]⟩,⟨#[82,97,105,115,101,100]⟩,⟨#[82,97,105,115,101,100]⟩,⟨#[82,97,105,115,101,100]⟩,⟨#[69,114,114,111,114]⟩,⟨#[69,114,114,111,114]⟩,⟨#[69,114,114,111,114]⟩,⟨#[78,97,109,101,69,114,114,111,114]⟩,⟨#[69,114,114,111,114]⟩,⟨#[69,114,114,111,114]⟩,⟨#[76,111,111,107,117,112,69,114,114,111,114]⟩,⟨#[76,111,111,107,117,112,69,114,114,111,114]⟩,⟨#[69,114,114,111,114]⟩,⟨#[65,114,105,116,104,109,101,116,105,99,69,114,114,111,114]⟩,⟨#[69,114,114,111,114]⟩,⟨#[76,105,109,105,116,69,114,114,111,114]⟩,⟨#[69,114,114,111,114]⟩,⟨#[69,114,114,111,114]⟩,⟨#[69,114,114,111,114]⟩,⟨#[69,114,114,111,114]⟩,⟨#[69,114,114,111,114]⟩]
def dvL:List Bool:=[false,true,true,true,true,true,true,true,true,true,true,true,true,true,true,true,true,true,true,true,true,true,true,true,true,true,true,true,true,true,true,true,true,true,true,true,true,true,true,true,true,true,true,true,true,true,true,true,true]
def ixL:List Int:=[0,0,0,0,0,0,0,0,0,0,0,0,0,0,0,0,0,0,0,0,0,0,0,0,0,0,0,0,0,28,28,28,31,31,31,34,31,31,37,37,31,40,31,42,31,31,31,31,31]
def odL:List (List Int):=[[0],[1,0],[2,0],[3,0],[4,0],[5,0],[6,0],[7,0],[8,0],[9,0],[10,0],[11,0],[12,0],[13,0],[14,0],[15,0],[16,0],[17,0],[18,0],[19,0],[20,0],[21,0],[22,0],[23,0],[24,0],[25,0],[26,0],[27,0],[28,0],[29,28,0],[30,28,0],[31,28,0],[32,31,28,0],[33,31,28,0],[34,31,28,0],[35,34,31,28,0],[36,31,28,0],[37,31,28,0],[38,37,31,28,0],[39,37,31,28,0],[40,31,28,0],[41,40,31,28,0],[42,31,28,0],[43,42,31,28,0],[44,31,28,0],[45,31,28,0],[46,31,28,0],[47,31,28,0],[48,31,28,0]]
def nmB(k:Nat):ByteArray:=nmL.getD k ByteArray.empty
def bsB(k:Nat):ByteArray:=bsL.getD k ByteArray.empty
def dvB(k:Nat):Bool:=dvL.getD k false
def ixB(k:Nat):Int:=ixL.getD k 0
def odB(k:Nat):List Int:=odL.getD k []
def nmS(k:Nat):List ByteArray:=(List.range k).map nmB
def bgO(k:Nat):Ob:=⟨9,nmB k,0,if dvB k then [ixB k]else [],odB k,[],[],[],0,0⟩
def bgS(k:Nat):List Ob:=(List.range k).map bgO
theorem kT(k:Nat):(bgS k).length=k:=by simp[bgS]
theorem mP(k:Nat):(bgS (k+1)).map obD=(bgS k).map obD++[obD (bgO k)]:=by rw[bgS,List.range_succ,Ad,Ad];rfl
theorem mM(k:Nat):(nmS (k+1)).map sD=(nmS k).map sD++[sD (nmB k)]:=by rw[nmS,List.range_succ,Ad,Ad];rfl
theorem cW:fldsL.length=49:=by decide+kernel
def yC0(p:ByteArray):List ByteArray:=(Lib.fields p.data.toList).map fun l=>⟨l.toArray⟩
theorem Fields_ok(p:ByteArray){l:List ByteArray}(h:yC0 p=l)(hp:p.size<4294967281)(hl:l.length<=9223372036854775807)(ha:p.data.toList.all (fun b=>decide (b.toNat<128))=true):Fx 90 [.v (.string p)] (ssD l):=by
 subst h;refine wM0 (t:=9) ⟨_,Tryz.func90,rfl,rfl⟩ hl fun w s vs hg hv=>?_;rw[uD0 hv];obtain⟨G,g1,g2,_⟩:=hg;refine(Any.strings_Fields_core Tryz.laysFields kr p w hp (fun j b hb=>Ar (Bt.1 ha b (Aw hb))) fun c hc=>(g2 _ _ _ (g1.space c hc)).1).mono ?_;rintro e w' ⟨rfl,rfl⟩;refine⟨?_,?_⟩
 ·simp only[yC0,Ao]
 ·simp only[yC0,Bz];rfl
theorem Cut_ok(p q:ByteArray)(hp:p.size<4294967281){a b:ByteArray}{c:Bool}(h:Lib.cut p.data.toList q.data.toList=(a.data.toList,b.data.toList,c)):Fx 91 [.v (.string p),.v (.string q)] (.tup [.v (.string a),.v (.string b),.v (.bool c)]):=by
 refine⟨⟨_,Tryz.func91,rfl,rfl⟩,fun w s vs hlt hg hv=>?_⟩;rw[tL hv];obtain⟨G,g1,g2,_⟩:=hg;obtain⟨m,hm⟩:=g1.maxLen;refine(Any.strings_Cut Tryz.laysCut p q m w hp (g2 _ _ _ hm).1).mono ?_;rintro e w' ⟨rfl,n,rfl⟩;rw[h];exact⟨s,_,rfl,⟨_,rfl,rfl,rfl,rfl,trivial⟩,PStp.ofBelow hlt (below_drewN (Below.refl _ _) n)⟩
def bgK(k:Nat):Bool:=decide (Lib.cut (fldsL.getD k ByteArray.empty).data.toList [58]=((nmB k).data.toList,(bsB k).data.toList,dvB k))&&decide ((fldsL.getD k ByteArray.empty).size<=100)
 &&(if dvB k then decide (ixI (nmS k) (bsB k)=ixB k)&&decide (0<=ixB k)&&decide (ixB k<(k:Int))&&decide (odB k=(k:Int)::odB (ixB k).toNat)else decide (odB k=[(k:Int)]))
theorem bgK_all:(List.range 49).all bgK=true:=by decide+kernel
theorem xL0{k:Nat}(h:k<49):bgK k=true:=Bt.1 bgK_all k (Cx.2 h)
theorem cutK{k:Nat}(h:k<49):Lib.cut (fldsL.getD k ByteArray.empty).data.toList [58]=((nmB k).data.toList,(bsB k).data.toList,dvB k)/\(fldsL.getD k ByteArray.empty).size<=100:=by
 have:=xL0 h;simp only[bgK,Ah,Ai]at this;exact this.1
theorem ixK{k:Nat}(h:k<49)(hd:dvB k=true):ixI (nmS k) (bsB k)=ixB k/\0<=ixB k/\ixB k<(k:Int)/\odB k=(k:Int)::odB (ixB k).toNat:=by
 have:=xL0 h;simp only[bgK,Ah,Ai,Ag hd]at this;exact⟨this.2.1.1.1,this.2.1.1.2,this.2.1.2,this.2.2⟩
theorem odK{k:Nat}(h:k<49)(hd:dvB k=false):odB k=[(k:Int)]:=by
 have:=xL0 h;rw[bgK,Aa (by rw[hd];decide)]at this;simp only[Ah,Ai]at this;exact this.2
theorem rowK{k j:Nat}(h:j<k):((bgS k).map obD).getD j []=obD (bgO j):=by
 have e:((bgS k).map obD)[j]?=some (obD (bgO j)):=by rw[bgS,Bz,Bf,List.getElem?_range h];rfl
 rw[Aj,e];rfl
theorem Cut_at(k:Nat)(h:k<49):Fx 91 [.v (.string (fldsL.getD k ByteArray.empty)),.v (.string ⟨#[58]⟩)] (.tup [.v (.string (nmB k)),.v (.string (bsB k)),.v (.bool (dvB k))]):=
 Cut_ok _ _ (by have:=(cutK h).2;omega) (cutK h).1
theorem odL_len(k:Nat):(odB k).length<=10:=by
 by_cases h:k<49
 ·exact Ar (Bt.1 (show(List.range 49).all (fun k=>decide ((odB k).length<=10))=true by decide+kernel) k (Cx.2 h))
 ·have:odB k=[]:=by rw[odB,Aj,Dc (by show 49<=k;omega)];rfl
  rw[this];decide
theorem nmS_len(k:Nat):(nmS k).length=k:=by simp[nmS]
theorem bgRow0{k:Nat}(h:k<49)(hd:dvB k=false){K:Nat}:SubPs [.v (.int .i64 9),.v (.string (nmB k)),.v (.int .i64 0),.v (.slice none 0 0),.own K 1 [[.v (.int .i64 k)]],.v (.slice none 0 0),.v (.slice none 0 0),.v (.slice none 0 0),.v (.int .i64 0),.v (.int .i64 0)] (obD (bgO k)):=
 ⟨u4 _,u4 _,u4 _,u10 (by show(if dvB k then _ else _)=_;rw[Aa (by rw[hd];decide)]),SubP.ownSl (by show _=(odB k).map iD;rw[odK h hd];rfl),u10 rfl,u10 rfl,u10 rfl,u4 _,u4 _,trivial⟩
theorem bgRow1{k:Nat}(h:k<49)(hd:dvB k=true){K:Nat}{rows:List (List D)}(hr:rows=[[.v (.int .i64 k)]]++(odB (ixB k).toNat).map iD):SubPs [.v (.int .i64 9),.v (.string (nmB k)),.v (.int .i64 0),.slr false 1 [[.v (.int .i64 (ixI (nmS k) (bsB k)))]],.own K 1 rows,.v (.slice none 0 0),.v (.slice none 0 0),.v (.slice none 0 0),.v (.int .i64 0),.v (.int .i64 0)] (obD (bgO k)):=
 ⟨u4 _,u4 _,u4 _,SubP.slrSl (by show _=(if dvB k then [ixB k]else []).map iD;rw[Ag hd,(ixK h hd).1];rfl),SubP.ownSl (by show _=(odB k).map iD;rw[(ixK h hd).2.2.2,hr];rfl),u10 rfl,u10 rfl,u10 rfl,u4 _,u4 _,trivial⟩
theorem xU0{P:Program}{E:Pn}{K:DS->Prop}{p:Prop}{r:Out}(hr:r.sat P E K)(hp:p:=by first|rfl|(have h1:=nmS_len x.k;have h2:=kT x.k;simp only[Ao,Ak,Au];omega)):(Out.need p r).sat P E K:=⟨hp,hr⟩
set_option maxHeartbeats 1000000 in
theorem Begin_ok:Fx 48 [] (hpD false (bgS 49)):=by
 refine yM zO Tryz.func48 rfl rfl rfl rfl rfl rfl ?_;intros;refine zK 100 ?_;refine zK 200 ?_;refine zK 300 ?_;refine dZ 100 0 36 10 rfl rfl ?_;refine yU 2 9 1 rfl ?_;refine zB ?_;refine zB (zE zO [] 400 rfl ?_);refine zF ?_;refine zS _ (Fields_ok _ (l:=fldsL) (by decide+kernel) (by decide+kernel) (by decide+kernel) (by decide+kernel)) rfl ?_;refine zf (zA (zQ ?_));refine yB (ι:=Up 49 (fun _=>true)) [0,1,10,11] [0] 450 (fun x=>[(12,.v (.int .i64 x.k)),(2,.own 301 1 ((nmS x.k).map sD))]) (fun x=>[(301,.row 9 1 ((nmS x.k).map sD).length),(100,.box 24 [.own 300 10 ((bgS x.k).map obD)]),(300,.row 36 10 ((bgS x.k).map obD).length)]) (fun x=>49-x.k) ⟨0,Aq _,fun j hj=>by omega⟩ ?_;refine⟨⟨yK,yH,rfl,rfl⟩,fun x=>?_⟩;have hk:=x.le;refine zK 500 ?_;refine zB (zT rfl (fun c4=>?_) (fun c4=>?_))
 ·replace c4:=Ar c4
  have hk9:x.k<49:=by have:=cW;omega
  refine zJ (zA (zB (zQ (zK 600 ?_))));refine zB (zE zO [] 700 rfl ?_);refine zF ?_;refine zS _ (Cut_at x.k hk9) rfl ?_;refine zF ?_;refine zC (zA (ev_R zO [25] 800 ?_));refine zB (zK 900 ?_);refine zX (fun c8=>?_) (fun c8=>?_)
  ·
   refine zB (zE zO [] 1000 rfl ?_);refine zF ?_;refine zS _ ((zK0 (nmS x.k) (bsB x.k)).args ⟨SubP.ownSl rfl,u4 _,trivial⟩) rfl ?_;refine zf (zA ?_);refine yE zO [38] [[],[0],[],[2],[],[4],[],[4,5,6],[4,5,6,7],[4,5,6,7,8],[2,3,4,5,6,7,8,9],[0,1,2,3],(rgN 12),(rgN 13),(rgN 14)] 1100 yX kr rfl ?_;refine zF ?_;refine qH0 (obD (bgO (ixB x.k).toNat)) ⟨?_,?_,?_⟩ ?_
   ·show 0<=ixI (nmS x.k) (bsB x.k);rw[(ixK hk9 c8).1];exact(ixK hk9 c8).2.1
   ·show(ixI (nmS x.k) (bsB x.k)).toNat<((bgS x.k).map obD).length;rw[(ixK hk9 c8).1,Ao,kT];have:=(ixK hk9 c8).2;omega
   ·show((bgS x.k).map obD).getD (ixI (nmS x.k) (bsB x.k)).toNat []=_;rw[(ixK hk9 c8).1];exact rowK (by have:=(ixK hk9 c8).2;omega)
   repeat(first|refine zG ?_|refine sat_imp (by exact fun hh=>hh) ?_|refine zU (by first|rfl|(have hod:=odL_len (ixB x.k).toNat;simp only[Ao,Ak,Au,bgO];omega)) ?_)
   refine zC (zA ?_);refine zB (zE zO [] 1200 rfl ?_);repeat(first|refine zH ?_|refine xU0 ?_)
   refine zC (zA ?_);refine zE zO [] 1300 rfl ?_;repeat(first|refine zH ?_|refine xU0 ?_)
   refine zC (zL (zA (yO zO [] 1400 ?_)));exact zR (x.next hk9 rfl) ⟨⟨u0 _,Sub.own (by show _=(nmS (x.k+1)).map sD;rw[mM];rfl),by repeat(first|exact trivial|exact u0 _|refine⟨?_,?_⟩)⟩,⟨⟨rfl,rfl,by show _=((nmS (x.k+1)).map sD).length;rw[mM];rfl⟩,⟨rfl,Sub.ownRows (by show RowsP _ ((bgS (x.k+1)).map obD);rw[mP];exact(RowsP.refl _).append ⟨bgRow1 hk9 c8 rfl,trivial⟩),rfl,trivial⟩,⟨rfl,rfl,by show _=((bgS (x.k+1)).map obD).length;rw[mP,Ae,Ae];rfl⟩,by repeat(first|exact trivial|exact u13 rfl|refine⟨?_,?_⟩)⟩,rfl,rfl⟩ (by show 49-(x.k+1)<49-x.k;omega)
  ·
   refine zJ (zA ?_);refine zB (zE zO [] 1200 rfl ?_);repeat(first|refine zH ?_|refine xU0 ?_)
   refine zC (zA ?_);refine zE zO [] 1300 rfl ?_;repeat(first|refine zH ?_|refine xU0 ?_)
   refine zC (zL (zA (yO zO [] 1400 ?_)));exact zR (x.next hk9 rfl) ⟨⟨u0 _,Sub.own (by show _=(nmS (x.k+1)).map sD;rw[mM];rfl),by repeat(first|exact trivial|exact u0 _|refine⟨?_,?_⟩)⟩,⟨⟨rfl,rfl,by show _=((nmS (x.k+1)).map sD).length;rw[mM];rfl⟩,⟨rfl,Sub.ownRows (by show RowsP _ ((bgS (x.k+1)).map obD);rw[mP];exact(RowsP.refl _).append ⟨bgRow0 hk9 c8,trivial⟩),rfl,trivial⟩,⟨rfl,rfl,by show _=((bgS (x.k+1)).map obD).length;rw[mP,Ae,Ae];rfl⟩,by repeat(first|exact trivial|exact u13 rfl|refine⟨?_,?_⟩)⟩,rfl,rfl⟩ (by show 49-(x.k+1)<49-x.k;omega)
 ·replace c4:=of_decide_eq_false c4
  have hxk:x.k=49:=by have:=cW;omega
  refine yF (zZ (yA (zW (zA (zK 1500 ?_)))));refine zN ?_;exact u1 rfl (SubP.agg ⟨SubP.ownSl (by rw[hxk]),trivial⟩)
variable{md me:Bool}
def sumN(f:Nat->Nat):Nat->Nat
 |0=>0
 |k+1=>sumN f k+f k
theorem bH{f:Nat->Nat}{B:Nat}(h:∀i,f i<=B):∀k,sumN f k<=k*B
 |0=>by simp[sumN]
 |k+1=>by rw[sumN,Bh];have:=bH h k;have:=h k;omega
def fstC:List Int->Int
 |[]=>0
 |c::l=>if c=0 then fstC l else c
theorem yB0:∀{l:List Int}{k:Nat},(∀j,j<k->l.getD j 0=0)->l.getD k 0≠0->fstC l=l.getD k 0
 |[],k,_,h=>absurd (by simp) h
 |c::l,0,_,h=>by rw[fstC,Aa (by simpa using h)];rfl
 |c::l,k+1,h,hk=>by
  have h0:c=0:=by simpa using h 0 (by omega)
  rw[fstC,Ag h0,yB0 (l:=l) (k:=k) (fun j hj=>by simpa using h (j+1) om) (by simpa using hk)];simp
theorem cT:∀{l:List Int},(∀j,j<l.length->l.getD j 0=0)->fstC l=0
 |[],_=>rfl
 |c::l,h=>by
  have h0:c=0:=by simpa using h 0 (by simp)
  rw[fstC,Ag h0];exact cT fun j hj=>by simpa using h (j+1) (by simp;omega)
def bW(h:List Ob)(o:Ob):List Int:=[jZ o,wB o,wA0 o,uA h o]
noncomputable def vY (h:List Ob) (i:Nat):Int:=
 if(i:Int)<49 then(if yV h i=bgO i then 0 else 19)
 else if(yV h i).kind<0\/21<=(yV h i).kind then 5
 else if fstC (bW h (yV h i))=0 then
  (if jE h (yV h i) i=true then(if keyS h (yV h i)=0 then(if uY h (yV h i) i=true then 0 else 19)else keyS h (yV h i))else 13)
 else fstC (bW h (yV h i))
def nodN(h:List Ob)(i:Nat):Nat:=if(i:Int)<49 then(yV h i).refs.length else(yV h i).items.length+(yV h i).keys.length+(yV h i).refs.length
abbrev kvs(o:Ob):List Vl:=o.items++o.keys
def bytO(o:Ob)(k:Nat):Nat:=sumN (fun j=>((kvs o).getD j vl0).s.size) k
theorem bytO_succ(o:Ob)(k:Nat):bytO o (k+1)=bytO o k+((kvs o).getD k vl0).s.size:=rfl
def bytN(h:List Ob)(i:Nat):Nat:=if(i:Int)<49 then 0 else bytO (yV h i) (kvs (yV h i)).length
noncomputable def jI (h:List Ob):Int×Int:=
 if 5000<(h.length:Int)then(2,-1)else if(h.length:Int)<49 then(9,-1)
 else match (List.range h.length).find? (fun i=> !decide (vY h i=0))with
  |some i=>(vY h i,i)
  |none=>if 20000<sumN (nodN h) h.length\/200000<sumN (bytN h) h.length then(14,-1)else(0,0)
def prD(p:Int×Int):D:= .agg [.v (.int .i64 p.1),.v (.int .i64 p.2)]
noncomputable abbrev okI (h:List Ob) (i:Nat):Bool:=decide (vY h i=0)
theorem uO0{h:List Ob}(h1:¬5000<(h.length:Int))(h2:¬(h.length:Int)<49)(x:Up h.length (okI h))(hk:x.k<h.length){c:Int}(hc:vY h x.k=c)(hne:c≠0):jI h=(c,(x.k:Int)):=by
 subst hc;have:(List.range h.length).find? (fun i=> !decide (vY h i=0))=some x.k:=by
  rw[List.find?_range_eq_some];exact⟨by simpa using hne,Cx.2 hk,fun j hj=>by have:=x.all j hj;simpa using this⟩
 rw[jI,Aa h1,Aa h2,this]
theorem vS0{h:List Ob}(h1:¬5000<(h.length:Int))(h2:¬(h.length:Int)<49)(x:Up h.length (okI h))(hk:¬x.k<h.length):jI h=if 20000<sumN (nodN h) h.length\/200000<sumN (bytN h) h.length then(14,-1)else(0,0):=by
 have:(List.range h.length).find? (fun i=> !decide (vY h i=0))=none:=by
  rw[List.find?_range_eq_none];exact fun j hj=>by have:=x.all j om;simpa using this
 rw[jI,Aa h1,Aa h2,this]
theorem pQ0{k:Nat}(hk:(k:Int)<49):(bgS 49).getD k ob0=bgO k:=by
 have e:(bgS 49)[k]?=some (bgO k):=by rw[bgS,Bf,List.getElem?_range (by omega)];rfl
 rw[Aj,e];rfl
theorem nodN_le{h:List Ob}(hh:HpIn h)(i:Nat):nodN h i<=6000000:=by
 have hO:ObIn (yV h i):=hh.at i;have h1:=hO.il;have h2:=hO.kl;have h3:=hO.rl;unfold nodN;split<;>omega
theorem bytO_le{o:Ob}(hO:ObIn o)(k:Nat):bytO o k<=k*2000000:=
 bH (fun j=>by
  have:VlIn ((kvs o).getD j vl0):=gY (fun v hv=>(Az.1 hv).elim (hO.iv v) (hO.kv v)) j;exact this.s) k
theorem jW0{o:Ob}(hO:ObIn o){k:Nat}(hk:k<=(kvs o).length):bytO o k<=8000000000000:=by
 have h1:=bytO_le hO k;have h2:(kvs o).length=o.items.length+o.keys.length:=Ae;have h3:=hO.il;have h4:=hO.kl;omega
theorem bytN_le{h:List Ob}(hh:HpIn h)(i:Nat):bytN h i<=8000000000000:=by
 unfold bytN;split
 ·omega
 ·exact jW0 (hh.at i) (Ap _)
set_option maxHeartbeats 2000000 in
theorem Problem_ok(h:List Ob)(hh:HpIn h):Fx 15 [hpD md h] (prD (jI h)):=by
 have hlh:=hh.len;refine yM zO Tryz.func15 rfl rfl rfl rfl rfl rfl ?_;intros;refine zK 100 ?_;refine zB ?_;refine zB (zE zO [] 200 rfl ?_);repeat(first|refine zH ?_|refine zU (by first|omega|(simp only[Ao];omega)) ?_)
 refine zC (zA (zT rfl (fun c1=>?_) (fun c1=>?_)))
 ·replace c1:=Ar c1
  refine zB (zE zO [] 300 rfl ?_);refine zF ?_;refine zS _ (xC _ _) rfl ?_;refine zf (zA (zN (zM ?_)));exact u1 rfl (u6 (by rw[jI,Ag c1];rfl))
 ·replace c1:=of_decide_eq_false c1
  refine zJ (zA (zB (zK 400 ?_)));refine zT rfl (fun c3=>?_) (fun c3=>?_)
  ·replace c3:=Ar c3
   refine zB (zE zO [] 500 rfl ?_);refine zF ?_;refine zS _ (xC _ _) rfl ?_;refine zf (zA (zN (zM ?_)));exact u1 rfl (u6 (by rw[jI,Aa c1,Ag c3];rfl))
  ·replace c3:=of_decide_eq_false c3
   refine zJ (zA ?_);refine zB (zE zO [] 600 rfl ?_);refine zF ?_;refine zS _ (Begin_ok) rfl ?_;refine zF ?_;refine zC (zA (zK 700 ?_));refine zB (zK 800 ?_);refine zQ ?_;refine yB (ι:=Up h.length (okI h)) [1,2,3,25,26] [0,1,401] 850 (fun x=>[(27,.v (.int .i64 x.k)),(4,.v (.int .i64 (sumN (nodN h) x.k:Nat))),(5,.v (.int .i64 (sumN (bytN h) x.k:Nat)))]) (fun _=>[]) (fun x=>h.length-x.k) ⟨0,Aq _,fun j hj=>by omega⟩ ?_;refine⟨⟨yK,yH,rfl,rfl⟩,fun x=>?_⟩;have hk:=x.le;refine zK 900 ?_;refine zB (zT rfl (fun c8=>?_) (fun c8=>?_))
   ·replace c8:=Ar c8
    replace c8:x.k<h.length:=by omega
    have hn:inH h (x.k:Int):=⟨by omega,by omega⟩;have hO:ObIn (h.getD (x.k:Int).toNat ob0):=hh.at x.k;have hil:=hO.il;have hkl:=hO.kl;have hrl:=hO.rl;have hb4:=bH (nodN_le hh) x.k;have hb5:=bH (bytN_le hh) x.k;have hvl:(kvs (h.getD (x.k:Int).toNat ob0)).length=(h.getD (x.k:Int).toNat ob0).items.length+(h.getD (x.k:Int).toNat ob0).keys.length:=Ae;refine zJ (zA (zB (zQ (zK 1000 ?_))));refine zB (zK 1100 ?_);refine zT rfl (fun c10=>?_) (fun c10=>?_)
    ·replace c10:=Ar c10
     refine zB ?_;refine zB (yE zO [] [[],[],[1],[],[1,2,3],[1,2,3,4],(rgN 6),(rgN 7)] 1200 yX kr rfl ?_);repeat(first|refine zH ?_|refine zU (by first|exact⟨by omega,by show _<(bgS 49).length;rw[kT];omega⟩|(simp only[kT];omega)) ?_)
     refine zS _ (gR _ _) rfl ?_;repeat(first|refine zH ?_|refine zU (by first|exact⟨by omega,by show _<(bgS 49).length;rw[kT];omega⟩|(simp only[kT];omega)) ?_)
     refine zC (zA (zT rfl (fun c11=>?_) (fun c11=>?_)))
     ·replace c11:(!decide ((h.getD (x.k:Int).toNat ob0)=(bgS 49).getD x.k ob0))=true:=c11
      rw[pQ0 c10]at c11
      replace c11:¬yV h x.k=bgO x.k:=by simpa using c11
      refine zB (zE zO [] 1300 rfl ?_);refine zF ?_;refine zS _ (xC _ _) rfl ?_;refine zf (zA (zN (zM (zM (zP (zM (yL (zP (zM ?_)))))))));exact u1 rfl (u6 (by rw[uO0 c1 c3 x c8 (by unfold vY;rw[Ag c10,Aa c11]) de];rfl))
     ·replace c11:(!decide ((h.getD (x.k:Int).toNat ob0)=(bgS 49).getD x.k ob0))=false:=c11
      rw[pQ0 c10]at c11
      replace c11:yV h x.k=bgO x.k:=by simpa using c11
      refine zJ (zA (zK 1400 ?_));refine yF (zZ (zW (zA (yO zO [] 3600 ?_))));exact zR (x.next c8 (Bo (show vY h x.k=0 by unfold vY;exact by rw[Ag c10,Ag c11]))) ⟨⟨u19 (by show _=((x.k+1:Nat):Int);push_cast;rfl),u19 (by show _=((sumN (nodN h) (x.k+1):Nat):Int);rw[sumN,nodN,Ag c10];push_cast;rfl),u19 (by show _=((sumN (bytN h) (x.k+1):Nat):Int);rw[sumN,bytN,Ag c10,Ce]),by repeat(first|exact trivial|exact u0 _|refine⟨?_,?_⟩)⟩,yH,rfl,rfl⟩ (by show h.length-(x.k+1)<h.length-x.k;omega)
    ·replace c10:=of_decide_eq_false c10
     refine zJ (zA (zB (zK 1500 ?_)));refine zT rfl (fun c14=>?_) (fun c14=>?_)
     ·try simp only[Ai,Cc]at c14
      refine zB (zE zO [] 1600 rfl ?_);refine zF ?_;refine zS _ (xC _ _) rfl ?_;refine zf (zA (zN (zM (zP (zM (yL (zP (zM ?_))))))));exact u1 rfl (u6 (by rw[uO0 c1 c3 x c8 (by unfold vY;rw[Aa c10,Ag c14]) de];rfl))
     ·have c14n:=c14;try simp only[Av,Cg]at c14n
      replace c14:¬((h.getD (x.k:Int).toNat ob0).kind<0\/21<=(h.getD (x.k:Int).toNat ob0).kind):=by omega
      have hkd:0<=(h.getD (x.k:Int).toNat ob0).kind/\(h.getD (x.k:Int).toNat ob0).kind<21:=by omega
      refine zJ (zA (zB ?_));refine zB (yE zO [] [[],[],[0,1],[],[],(rgN 5),[],[],(rgN 8),[],[],(rgN 11),(rgN 12),(rgN 13),[]] 1700 yX kr rfl ?_);refine zF ?_;refine zS _ (shape_ok _ _ ao ao) rfl ?_;refine zF ?_;refine zS _ (sizes_ok _ _ ao ao ao) rfl ?_;refine zF ?_;refine zS _ (names_ok _ _ ao ao) rfl ?_;refine zF ?_;refine zS _ (values_ok _ _ ao ao) rfl ?_;refine zf (zA ?_);refine jJ [1,2,3,4,5,6,7,25,26,27] [0,1,401,903] 1710 [(71,isD (bW h (h.getD (x.k:Int).toNat ob0))),(72,.v (.int .i64 4)),(73,.v (.int .i64 0))] [] ?_;refine⟨⟨⟨u11 rfl,u0 _,u0 _,by repeat(first|exact trivial|exact u0 _|refine⟨?_,?_⟩)⟩,yH,rfl,rfl⟩,?_⟩;refine zQ ?_;refine yB (ι:=Up 4 (fun j=>decide ((bW h (h.getD (x.k:Int).toNat ob0)).getD j 0=0))) [1,2,3,4,5,6,7,25,26,27,71,72] [0,1,401,903] 1750 (fun y=>[(73,.v (.int .i64 y.k))]) (fun _=>[]) (fun y=>4-y.k) ⟨0,Aq _,fun j hj=>by omega⟩ ?_;refine⟨⟨yK,yH,rfl,rfl⟩,fun y=>?_⟩;have hky:=y.le;refine zK 1800 ?_;refine zB (zT rfl (fun c17=>?_) (fun c17=>?_))
      ·replace c17:=Ar c17
       replace c17:y.k<4:=by omega
       have hy:∀j,j<y.k->(bW h (h.getD (x.k:Int).toNat ob0)).getD j 0=0:=fun j hj=>Ar (y.all j hj);refine zJ (zA (zB (zQ ?_)));refine zB (zE zO [] 1900 rfl ?_);repeat(first|refine zH ?_|refine zU (by exact⟨by omega,by show _<4;omega⟩) ?_)
       refine zC (zA (zK 2000 ?_));refine zT rfl (fun c19=>?_) (fun c19=>?_)
       ·replace c19:¬(bW h (h.getD (x.k:Int).toNat ob0)).getD y.k 0=0:=by simpa using c19
        refine zB (zE zO [] 2100 rfl ?_);refine zF ?_;refine zS _ (xC _ _) rfl ?_;refine zf (zA (zN (zP (zM (yL (zP (zM (zP (zM (yL (zP (zM ?_))))))))))));exact u1 rfl (u6 (by rw[uO0 c1 c3 x c8 (by unfold vY;rw[Aa c10,Aa c14,Aa (by rw[yB0 hy c19];exact c19),yB0 hy c19]) (c19)];rfl))
       ·replace c19:(bW h (h.getD (x.k:Int).toNat ob0)).getD y.k 0=0:=by simpa using c19
        refine zJ (zL (zA (yO zO [] 2200 ?_)));exact zR (y.next c17 (Bo c19)) ⟨⟨u19 (by show _=((y.k+1:Nat):Int);push_cast;rfl),by repeat(first|exact trivial|exact u0 _|refine⟨?_,?_⟩)⟩,yH,rfl,rfl⟩ (by show 4-(y.k+1)<4-y.k;omega)
      ·replace c17:=of_decide_eq_false c17
       have hyk4:y.k=4:=by omega
       have hy:∀j,j<4->(bW h (h.getD (x.k:Int).toNat ob0)).getD j 0=0:=fun j hj=>Ar (y.all j om);have h4:fstC (bW h (h.getD (x.k:Int).toNat ob0))=0:=cT hy;have hsh:jZ (h.getD (x.k:Int).toNat ob0)=0:=hy 0 om;have hvs:uA h (h.getD (x.k:Int).toNat ob0)=0:=hy 3 om;have hV:Vs h (h.getD (x.k:Int).toNat ob0):=mV0 hvs;refine yF (zZ (yA (zW (zA (zB ?_)))));refine zB (zE zO [] 2300 rfl ?_);refine zF ?_;refine zS _ (links_ok _ _ ao ao ao ao) rfl ?_;refine zF ?_;refine zC (zA (zT rfl (fun c22=>?_) (fun c22=>?_)))
       ·replace c22:¬jE h (yV h x.k) x.k=true:=by simpa using c22
        refine zB (zE zO [] 2400 rfl ?_);refine zF ?_;refine zS _ (xC _ _) rfl ?_;refine zf (zA (zN (zM (zP (zM (yL (zP (zM ?_))))))));exact u1 rfl (u6 (by rw[uO0 c1 c3 x c8 (by unfold vY;rw[Aa c10,Aa c14,Ag h4,Aa c22]) de];rfl))
       ·replace c22:jE h (yV h x.k) x.k=true:=by simpa using c22
        refine zJ (zA (zB ?_));refine zB (zE zO [] 2500 rfl ?_);refine zF ?_;refine zS _ (keyRule_ok _ _ ao ao) rfl ?_;refine zF ?_;refine zC (zA (zK 2600 ?_));refine zT rfl (fun c25=>?_) (fun c25=>?_)
        ·replace c25:¬keyS h (yV h x.k)=0:=by simpa using c25
         refine zB (zE zO [] 2700 rfl ?_);refine zF ?_;refine zS _ (xC _ _) rfl ?_;refine zf (zA (zN (zM (zP (zM (yL (zP (zM ?_))))))));exact u1 rfl (u6 (by rw[uO0 c1 c3 x c8 (by unfold vY;rw[Aa c10,Aa c14,Ag h4,Ag c22,Aa c25]) (c25)];rfl))
        ·replace c25:keyS h (yV h x.k)=0:=by simpa using c25
         refine zJ (zA (zB ?_));refine zB (zE zO [] 2800 rfl ?_);refine zF ?_;refine zS _ (orderOk_ok _ _ hn hh (fun _ r hr=>jU (hV.refs r hr))) rfl ?_;refine zF ?_;refine zC (zA (zT rfl (fun c27=>?_) (fun c27=>?_)))
         ·replace c27:¬uY h (yV h x.k) x.k=true:=by simpa using c27
          refine zB (zE zO [] 2900 rfl ?_);refine zF ?_;refine zS _ (xC _ _) rfl ?_;refine zf (zA (zN (zM (zP (zM (yL (zP (zM ?_))))))));exact u1 rfl (u6 (by rw[uO0 c1 c3 x c8 (by unfold vY;rw[Aa c10,Aa c14,Ag h4,Ag c22,Ag c25,Aa c27]) de];rfl))
         ·replace c27:uY h (yV h x.k) x.k=true:=by simpa using c27
          refine zJ (zA (zK 3000 ?_));refine zB (yE zO [118] [[],[0],[0,1],[],[3],(rgN 5),(rgN 6),[]] 3100 yX kr rfl ?_);repeat(first|refine zH ?_|refine zU (by first|rfl|omega|(simp only[Ao];omega)) ?_)
          refine qZ _ _ _ (dJ _ ao) ?_;repeat(first|refine zH ?_|refine zU (by first|rfl|omega|(simp only[Ao];omega)) ?_)
          refine zC (zA ?_);refine jJ [1,2,3,4,5,25,26,27] [0,1,401] 3110 [(121,.sl false 7 (kvs (h.getD (x.k:Int).toNat ob0)) vlD vl0),(122,.v (.int .i64 (kvs (h.getD (x.k:Int).toNat ob0)).length)),(123,.v (.int .i64 0))] [] ?_;refine⟨⟨⟨u3 (by rw[<-Ad]),u19 (by simp),u0 _,by repeat(first|exact trivial|exact u0 _|refine⟨?_,?_⟩)⟩,yH,rfl,rfl⟩,?_⟩;refine zQ ?_;refine yB (ι:=Up (kvs (h.getD (x.k:Int).toNat ob0)).length (fun _=>true)) [1,2,3,4,25,26,27,121,122] [0,1,401] 3150 (fun z=>[(123,.v (.int .i64 z.k)),(5,.v (.int .i64 ((sumN (bytN h) x.k+bytO (h.getD (x.k:Int).toNat ob0) z.k:Nat):Int)))]) (fun _=>[]) (fun z=>(kvs (h.getD (x.k:Int).toNat ob0)).length-z.k) ⟨0,Aq _,fun j hj=>by omega⟩ ?_;refine⟨⟨yK,yH,rfl,rfl⟩,fun z=>?_⟩;have hkz:=z.le;refine zK 3200 ?_;refine zB (zT rfl (fun c31=>?_) (fun c31=>?_))
          ·replace c31:=Ar c31
           replace c31:z.k<(kvs (h.getD (x.k:Int).toNat ob0)).length:=by omega
           have hb6:=jW0 hO z.le;have hvz:VlIn ((kvs (h.getD (x.k:Int).toNat ob0)).getD z.k vl0):=gY (fun v hv=>(Az.1 hv).elim (hO.iv v) (hO.kv v)) z.k;have hvs6:((kvs (h.getD (x.k:Int).toNat ob0)).getD (z.k:Int).toNat vl0).s.size<=2000000:=hvz.s;refine zJ (zA (zB (zQ (zK 3300 ?_))));refine zE zO [] 3400 rfl ?_;repeat(first|refine zH ?_|refine zU (by first|exact ini (by omega) (by omega)|omega) ?_)
           refine zC (zL (zA (yO zO [] 3500 ?_)));exact zR (z.next c31 rfl) ⟨⟨u19 (by show _=((z.k+1:Nat):Int);push_cast;rfl),u19 (by show _=((sumN (bytN h) x.k+bytO (h.getD (x.k:Int).toNat ob0) (z.k+1):Nat):Int);rw[bytO_succ];simp only[As];push_cast;omega),by repeat(first|exact trivial|exact u0 _|refine⟨?_,?_⟩)⟩,yH,rfl,rfl⟩ (by show(kvs (h.getD (x.k:Int).toNat ob0)).length-(z.k+1)<(kvs (h.getD (x.k:Int).toNat ob0)).length-z.k;omega)
          ·replace c31:=of_decide_eq_false c31
           have hyk:z.k=(kvs (h.getD (x.k:Int).toNat ob0)).length:=by have:=z.le;omega
           refine yF (zZ (yA (zW (zL (zA (yO zO [] 3600 ?_))))));exact zR (x.next c8 (Bo (show vY h x.k=0 by unfold vY;exact by rw[Aa c10,Aa c14,Ag h4,Ag c22,Ag c25,Ag c27]))) ⟨⟨u19 (by show _=((x.k+1:Nat):Int);push_cast;rfl),u19 (by show _=((sumN (nodN h) (x.k+1):Nat):Int);rw[sumN,nodN,Aa c10];push_cast;rfl),u19 (by show _=((sumN (bytN h) (x.k+1):Nat):Int);rw[sumN,bytN,Aa c10];rw[show bytO (yV h x.k) (kvs (yV h x.k)).length=bytO (h.getD (x.k:Int).toNat ob0) z.k from(congrArg (bytO (h.getD (x.k:Int).toNat ob0)) hyk).symm];try (push_cast;rfl)),by repeat(first|exact trivial|exact u0 _|refine⟨?_,?_⟩)⟩,yH,rfl,rfl⟩ (by show h.length-(x.k+1)<h.length-x.k;omega)
   ·replace c8:=of_decide_eq_false c8
    replace c8:¬x.k<h.length:=by omega
    have hxk:x.k=h.length:=by omega
    refine yF (zZ (yA (zW (zA (zB (zK 3700 ?_))))));refine zT rfl (fun c36=>?_) (fun c36=>?_)
    ·try simp only[Ai,Cc]at c36
     refine zB (zE zO [] 3800 rfl ?_);refine zF ?_;refine zS _ (xC _ _) rfl ?_;refine zf (zA (zN (zM ?_)));exact u1 rfl (u6 (by rw[vS0 c1 c3 x c8,Ag (by rw[hxk]at c36;omega)];rfl))
    ·try simp only[Av,Cg]at c36
     refine zJ (zA (zK 3900 ?_));refine zN ?_;exact u1 rfl (u6 (by rw[vS0 c1 c3 x c8,Aa (by rw[hxk]at c36;omega)];rfl))
variable{md me:Bool}
noncomputable def gZ (h:List Ob) (vs:List Vl):Bool:=decide ((jI h).1=0)&&vs.all (hasS h)
theorem cS:∀{l:List Int},fstC l=0->∀j,l.getD j 0=0
 |[],_,j=>by simp
 |c::l,h,j=>by
  rw[fstC]at h;split at h
  ·rename_i h0
   match j with
   |0=>simpa using h0
   |j+1=>simpa using cS h j
  ·rename_i h0;exact absurd h h0
structure Uh(h:List Ob):Prop where
 lo:49<=h.length
 hi:h.length<=6000
 code:∀i,i<h.length->vY h i=0
theorem uh_of{h:List Ob}(hp:(jI h).1=0):Uh h:=by
 unfold jI at hp;split at hp
 ·exact absurd hp de
 ·rename_i h1;split at hp
  ·exact absurd hp de
  ·rename_i h2;split at hp
   ·rename_i i hi;rw[List.find?_range_eq_some]at hi;exact absurd hp (by simpa using hi.1)
   ·rename_i hn;rw[List.find?_range_eq_none]at hn;exact⟨by omega,by omega,fun i hi=>by simpa using hn i hi⟩
structure Uho(h:List Ob)(o:Ob)(i:Nat):Prop where
 kind:0<=o.kind/\o.kind<21
 shape:jZ o=0
 sizes:wB o=0
 names:wA0 o=0
 vals:uA h o=0
 links:jE h o i=true
 keys:keyS h o=0
 order:uY h o i=true
theorem Uh.lo_at{h:List Ob}(g:Uh h){i:Nat}(hi:i<49):yV h i=bgO i:=by
 have:=g.code i (by have:=g.lo;omega);unfold vY at this;rw[Ag om]at this;split at this
 ·assumption
 ·cases this
theorem Uh.hi_at{h:List Ob}(g:Uh h){i:Nat}(h1:49<=i)(h2:i<h.length):Uho h (yV h i) i:=by
 have:=g.code i h2;unfold vY at this;rw[Aa om]at this;split at this
 ·cases this
 ·rename_i hk;split at this
  ·rename_i hf;split at this
   ·rename_i hl;split at this
    ·rename_i hy;split at this
     ·rename_i ho;have hz:=cS hf;exact⟨by omega,hz 0,hz 1,hz 2,hz 3,hl,hy,ho⟩
     ·cases this
    ·rename_i hy;exact absurd this hy
   ·cases this
  ·rename_i hf;exact absurd this hf
theorem obAt_nat{h:List Ob}{n:Int}(hn:inH h n):yV h n=yV h ((n.toNat:Nat):Int):=by rfl
theorem has_obj{h:List Ob}{v:Vl}(hh:hasS h v=true)(hk:v.k=6):qA h v.r=true:=by
 simp only[hasS,Ah,Cc,Bd,Av]at hh;exact hh.2.resolve_left fun hn=>hn hk
theorem pB{h:List Ob}{v:Vl}(hk:(yD h v).kind≠0):v.k=6/\qA h v.r=true/\yD h v=yV h v.r:=by
 unfold yD at hk⊢;split at hk
 ·rename_i h1;exact⟨h1.1,h1.2,Ag h1⟩
 ·exact absurd rfl hk
theorem pC{h:List Ob}{v:Vl}(hv:v.k=6->qA h v.r=true)(hk:v.k=6):yD h v=yV h v.r:=Ag ⟨hk,hv hk⟩
theorem objS_no{h:List Ob}{v:Vl}(hk:¬v.k=6):yD h v=ob0:=Aa fun hh=>hk hh.1
theorem Usable_ok(h:List Ob)(vs:List Vl)(hh:HpIn h)(hin:∀v∈vs,VlIn v)(hl:vs.length<=2000000):Fx 4 [hpD md h,vsD vs] (.v (.bool (gZ h vs))):=by
 refine yM zO Tryz.func4 rfl rfl rfl rfl rfl rfl ?_;intros;refine zK 100 ?_;refine zB ?_;refine zB (zE zO [] 200 rfl ?_);refine zF ?_;refine zS _ (Problem_ok _ ao) rfl ?_;refine zF ?_;refine zC (zA (zT rfl (fun c1=>?_) (fun c1=>?_)))
 ·replace c1:¬(jI h).1=0:=by simpa using c1
  refine zK 300 ?_;refine zN (zM ?_);exact u1 rfl (u5 (by rw[gZ,Cl c1];rfl))
 ·replace c1:(jI h).1=0:=by simpa using c1
  refine zJ (zA (zB (zK 400 ?_)));refine zQ ?_;refine yB (ι:=Al vs (hasS h)) [2,11,12] [0] 450 (fun x=>[(13,.v (.int .i64 x.k))]) (fun _=>[]) (fun x=>vs.length-x.k) ⟨0,Aq _,fun j x hj=>by omega⟩ ?_;refine⟨⟨yK,yH,rfl,rfl⟩,fun x=>?_⟩;have hk:=x.le;refine zK 500 ?_;refine zB (zX (fun c4=>?_) (fun c4=>?_))
  ·
   refine zJ (zA (zB (zQ (zK 600 ?_))));refine zB (zE zO [] 700 rfl ?_);refine zF ?_;refine zS _ (Has_ok _ _ (hin _ (qT c4 vl0))) rfl ?_;refine zF ?_;refine zC (zA (zT rfl (fun c6=>?_) (fun c6=>?_)))
   ·simp only[Bd]at c6;refine zK 800 ?_;refine zN (zP (zM (yL (zP (zM ?_)))));exact u1 rfl (u5 (by rw[gZ,Al.no (p:=hasS h) (e:=vl0) c4 c6,Bool.and_false]))
   ·simp only[Be]at c6;refine zJ (zL (zA (yO zO [] 900 ?_)));exact zR (x.next (e:=vl0) c4 c6) ⟨yK,yH,rfl,rfl⟩ (by show vs.length-(x.k+1)<vs.length-x.k;omega)
  ·
   refine yF (zZ (yA (zW (zA (zK 1000 ?_)))));refine zN ?_;exact u1 rfl (u5 (by rw[gZ,Bo c1,x.yes c4];rfl))
variable{md me:Bool}
structure St where
 k:Int
 v:Vl
 c:Int
 s:ByteArray
 w:Vl
 l:List Vl
def stD(s:St):List D:= .v (.int .i64 s.k)::(vlD s.v++(.v (.int .i64 s.c):: .v (.string s.s)::(vlD s.w++[.sl false 7 s.l vlD vl0])))
def raS(c:Int)(m:ByteArray):St:=⟨1,vl0,c,m,vl0,[]⟩
def vlS(v:Vl):St:=⟨0,v,0,ByteArray.empty,vl0,[]⟩
theorem mQ(c:Int)(m:ByteArray):Fx 18 [.v (.int .i64 c),.v (.string m)] (.agg (stD (raS c m))):=by
 refine yM zO Tryz.func18 rfl rfl rfl rfl rfl rfl ?_;intros;refine zK 100 ?_;refine zK 200 ?_;refine zN ?_;exact u1 rfl (SubP.agg nq9)
variable{md me:Bool}
section
variable{h:List Ob}{v:Vl}{b:Bool}{l:List Vl}{k:Nat}
end
end Go.Proofs.YtmakjjodkiedmaaGreatDoor
