/-Part 18 of the proof. -/
import Derived.Test.YtpmjepoceakikaaGreatDoorM17
namespace Go.Proofs.YtpmjepoceakikaaGreatDoor
open Go.RowKit
variable{md me:Bool}
def qU0:List ByteArray:=[⟨#[97,114,103,115]⟩,⟨#[99,97,117,115,101]⟩,⟨#[99,111,110,116,101,120,116]⟩,⟨#[116,114,97,99,101]⟩]
def vI0:List ByteArray:=qU0++[⟨#[109,101,109,98,101,114,115]⟩]
abbrev midV(l:List Vl):List Vl:=(l.drop (Int.toNat 1)).take ((3:Int).toNat-Int.toNat 1)
def cauP(h:List Ob)(v:Vl):Bool:= !(!decide (v.k=0)&& !excS h v)
def mkP(h:List Ob)(v:Vl):Bool:= !(((!decide ((zU h v).kind=1)|| !decide (((zU h v).items.length:Int)=2))|| !decide (((zU h v).items.getD (Int.toNat 0) vl0).k=4))|| !decide (((zU h v).items.getD (Int.toNat 1) vl0).k=2))
def memP(h:List Ob)(i:Int)(v:Vl):Bool:= !(!excS h v||decide (i<=v.r))
def vH0(o:Ob)(w:List ByteArray):Bool:=decide ((o.names.length:Int)<w.length)|| !decide (((o.names.drop (Int.toNat 0)).take ((w.length:Int).toNat-Int.toNat 0))=w)
def wA(h:List Ob)(o:Ob)(i:Int):Bool:=
 if hasB (yI h o.cls).order 48=true then
  (if vH0 o vI0=true then false
  else if(midV o.items).all (cauP h)=false then false
  else if(!decide ((zU h (o.items.getD (Int.toNat 0) vl0)).kind=1)|| !decide ((zU h (o.items.getD (Int.toNat 3) vl0)).kind=1))=true then false
  else if(zU h (o.items.getD (Int.toNat 3) vl0)).items.all (mkP h)=false then false
  else if(zU h (o.items.getD (Int.toNat 4) vl0)).items.all (memP h i)=false then false
  else(decide ((zU h (o.items.getD (Int.toNat 4) vl0)).kind=1)&&decide ((0:Int)<(zU h (o.items.getD (Int.toNat 4) vl0)).items.length))&&decide ((0:Int)<(zU h (o.items.getD (Int.toNat 0) vl0)).items.length))
 else
  (if vH0 o qU0=true then false
  else if(midV o.items).all (cauP h)=false then false
  else if(!decide ((zU h (o.items.getD (Int.toNat 0) vl0)).kind=1)|| !decide ((zU h (o.items.getD (Int.toNat 3) vl0)).kind=1))=true then false
  else if(zU h (o.items.getD (Int.toNat 3) vl0)).items.all (mkP h)=false then false
  else true)
theorem mQ{o:Ob}{w:List ByteArray}(h:vH0 o w=false):w.length<=o.names.length:=by
 simp only[vH0,De,Ay]at h;omega
theorem mid_len(l:List Vl):(midV l).length<=2:=by
 show((l.drop 1).take (3-1)).length<=2;rw[At];omega
theorem qM1{P:Program}{E:Pn}{K:DS->Prop}{p:Prop}{r:Out}(hr:r.sat P E K)(hp:p:=by first|rfl|(intro hh;simp only[Bo,Ay]at hh;refine⟨by decide,?_,?_⟩<;>(simp only[Af,An,Aw]at hh⊢;omega))):(Out.need p r).sat P E K:=⟨hp,hr⟩
theorem bJ0{P:Program}{E:Pn}{K:DS->Prop}{p:Prop}{r:Out}(hr:r.sat P E K)(hp:p:=by(refine⟨by decide,?_⟩;show _<(h.getD n.toNat ob0).items.length;have:=mQ c6w;simp only[qU0,vI0,Af,An,Aw]at this;omega)):(Out.need p r).sat P E K:=⟨hp,hr⟩
theorem qL1{P:Program}{E:Pn}{K:DS->Prop}{p:Prop}{r:Out}(hr:r.sat P E K)(hp:p:=by(refine⟨by decide,?_⟩;show _<(h.getD n.toNat ob0).items.length;have:=mQ c6w;first|(simp only[vI0,qU0,Af,An,Aw]at this;omega)|exact absurd c24 (by rw[c4];decide))):(Out.need p r).sat P E K:=⟨hp,hr⟩
set_option maxHeartbeats 1000000 in
theorem exceptionOk_ok(h:List Ob)(n:Int)(hn:inH h n)(hh:HpIn h)(hc:inH h (yI h n).cls)(hit:(yI h n).items.length=(yI h n).names.length):Fx 121 [hpD md h,.v (.int .i64 n)] (.v (.bool (wA h (yI h n) n))):=by
 have hO:ObIn (h.getD n.toNat ob0):=hh.at n;have hil:=hO.il;have hnl:=hO.nl;have hit:(h.getD n.toNat ob0).items.length=(h.getD n.toNat ob0).names.length:=hit;have htl:=(jU0 hh ((h.getD n.toNat ob0).items.getD (Int.toNat 3) vl0)).il;have hml:=(jU0 hh ((h.getD n.toNat ob0).items.getD (Int.toNat 4) vl0)).il;have hmd:=mid_len (h.getD n.toNat ob0).items;refine yF zJ Tryz.func121 rfl rfl rfl rfl rfl rfl ?_;intros;refine zK 100 ?_;refine zB (zE zJ [] 200 rfl ?_);repeat(first|refine zH ?_|refine zT (by exact hn) ?_)
 refine zC (zA ?_);refine zB (zE zJ [23] 300 rfl ?_);repeat(first|refine zH ?_|refine zT (by first|rfl|exact trivial) ?_)
 refine zC (zA ?_);refine zB (zE zJ [] 400 rfl ?_);repeat(first|refine zH ?_|refine zT (by exact hc) ?_)
 refine zQ _ (uX _ _) rfl ?_;repeat(first|refine zH ?_|refine zT (by exact hc) ?_)
 refine zC (zA (zB (zK 500 ?_)));refine zW rfl (fun c4=>?_) (fun c4=>?_)
 ·
  refine zE zJ [] 600 rfl ?_;repeat(first|refine zH ?_|refine zT (by first|rfl|decide|(show 4+1<=1073741824;omega)) ?_)
  refine zC (zA (zB ?_));refine zB (zE zJ [] 700 rfl ?_);repeat(first|refine zH ?_|refine qM1 ?_)
  refine yN _ (fun hg13=>(bM _ vI0).args ⟨u6 _,SubP.ownSl (k:=200) rfl,trivial⟩) rfl ?_;repeat(first|refine zH ?_|refine qM1 ?_)
  refine zC (zA (zW rfl (fun c6=>?_) (fun c6=>?_)))
  ·have c6w:vH0 (h.getD n.toNat ob0) vI0=true:=c6;refine zK 800 ?_;refine zM (zP ?_);exact u4 rfl (u7 (by rw[wA,Ab c4,Ab c6w]))
  ·have c6w:vH0 (h.getD n.toNat ob0) vI0=false:=c6;refine zL (zA ?_);refine zB (zX zJ [] mK12 900 yT kr rfl ?_);repeat(first|refine zH ?_|refine bJ0 ?_)
   refine zQ _ (jH _ _) rfl ?_;repeat(first|refine zH ?_|refine bJ0 ?_)
   refine zQ _ (jH _ _) rfl ?_;repeat(first|refine zH ?_|refine bJ0 ?_)
   refine zC (zA (zB ?_));refine zB (zE zJ [] 1000 rfl ?_);repeat(first|refine zH ?_|refine zT (by(refine⟨by decide,by decide,?_⟩;have:=mQ c6w;simp only[qU0,vI0,Af,An,Aw]at this;omega)) ?_)
   refine zC (zA (zO ?_));refine yC (ι:=Al (midV (h.getD n.toNat ob0).items) (cauP h)) [1,2,5,7,8,9,66,67] [0,105,712,713] 1050 (fun x=>[(68,.v (.int .i64 x.k))]) (fun _=>[]) (fun x=>(midV (h.getD n.toNat ob0).items).length-x.k) ⟨0,Ap _,fun j x hj=>by omega⟩ ?_;refine⟨⟨yG,yE,rfl,rfl⟩,fun x=>?_⟩;have hk:=x.le;refine zK 1100 ?_;refine zB (zY (fun c10=>?_) (fun c10=>?_))
   ·
    refine zL (zA (zB (zO (zK 1200 ?_))));refine zB (zE zJ [] 1300 rfl ?_);refine zF ?_;refine yN _ (fun hg6=>wV _ _) rfl ?_;refine zF ?_;refine zC (zA (zW rfl (fun c12=>?_) (fun c12=>?_)))
    ·
     refine zK 1400 ?_;refine zM (zR (zP (yS (zR (zP ?_)))));exact u4 rfl (u7 (by rw[wA,Ab c4,Aa (by rw[c6w];decide),Ab (Al.no (p:=cauP h) (e:=vl0) c10 (congrArg Bool.not c12))]))
    ·
     refine zL (zN (zA (yM zJ [] 1500 ?_)));exact zS (x.next (e:=vl0) c10 (congrArg Bool.not c12)) ⟨yG,yE,rfl,rfl⟩ (by have c10b:x.k<(midV (h.getD n.toNat ob0).items).length:=c10;show(midV (h.getD n.toNat ob0).items).length-(x.k+1)<(midV (h.getD n.toNat ob0).items).length-x.k;omega)
   ·
    refine yD (yA (yB (zZ (zA (zB (zK 1600 ?_))))));refine zW rfl (fun c15=>?_) (fun c15=>?_)
    ·
     refine zK 1700 ?_;refine zM (zP ?_);exact u4 rfl (u7 (by rw[wA,Ab c4,Aa (by rw[c6w];decide),Aa (by rw[x.yes c10];decide),Ab c15]))
    ·
     refine zL (zA (zB (zK 1800 ?_)));refine zO ?_;have hA:=x.yes c10;refine yC (ι:=Al (zU h ((h.getD n.toNat ob0).items.getD (Int.toNat 3) vl0)).items (mkP h)) [1,2,5,7,8,91,92] [0,105,712] 1850 (fun x=>[(93,.v (.int .i64 x.k))]) (fun _=>[]) (fun x=>(zU h ((h.getD n.toNat ob0).items.getD (Int.toNat 3) vl0)).items.length-x.k) ⟨0,Ap _,fun j x hj=>by omega⟩ ?_;refine⟨⟨yG,yE,rfl,rfl⟩,fun x=>?_⟩;have hk:=x.le;refine zK 1900 ?_;refine zB (zY (fun c18=>?_) (fun c18=>?_))
     ·
      refine zL (zA (zB (zO (zK 2000 ?_))));refine zB (zE zJ [] 2100 rfl ?_);refine zF ?_;refine zQ _ (jH _ _) rfl ?_;refine zf (zA ?_);refine zB (zE zJ [] 2200 rfl ?_);repeat(first|refine zH ?_|refine zT (by first|(intro hh;simp only[Bo,De,Bz,Ao]at hh;refine⟨by decide,?_⟩;omega)|omega) ?_)
      refine zC (zA (zW rfl (fun c21=>?_) (fun c21=>?_)))
      ·
       refine zK 2300 ?_;refine zM (zR (zP (yS (zR (zP ?_)))));exact u4 rfl (u7 (by rw[wA,Ab c4,Aa (by rw[c6w];decide),Aa (by rw[hA];decide),Aa (by rw[c15];decide),Ab (Al.no (p:=mkP h) (e:=vl0) c18 (congrArg Bool.not c21))]))
      ·
       refine zL (zN (zA (yM zJ [] 2400 ?_)));exact zS (x.next (e:=vl0) c18 (congrArg Bool.not c21)) ⟨yG,yE,rfl,rfl⟩ (by show(zU h ((h.getD n.toNat ob0).items.getD (Int.toNat 3) vl0)).items.length-(x.k+1)<(zU h ((h.getD n.toNat ob0).items.getD (Int.toNat 3) vl0)).items.length-x.k;omega)
     ·
      refine yD (yA (yB (zZ (zA (zB (zK 2500 ?_))))));refine zW rfl (fun c24=>?_) (fun c24=>?_)
      ·
       refine zK 2600 ?_;refine zM (zP ?_);exact absurd c24 (by rw[c4];decide)
      ·
       refine zL (zA ?_);refine zB (zX zJ [] mK6 2700 yT kr rfl ?_);repeat(first|refine zH ?_|refine qL1 ?_)
       refine zQ _ (jH _ _) rfl ?_;repeat(first|refine zH ?_|refine qL1 ?_)
       refine zC (zA (zB (zK 2800 ?_)));refine zO ?_;have hB:=x.yes c18;refine yC (ι:=Al (zU h ((h.getD n.toNat ob0).items.getD (Int.toNat 4) vl0)).items (memP h n)) [1,2,8,15,135,136] [0,712,2506] 2850 (fun x=>[(137,.v (.int .i64 x.k))]) (fun _=>[]) (fun x=>(zU h ((h.getD n.toNat ob0).items.getD (Int.toNat 4) vl0)).items.length-x.k) ⟨0,Ap _,fun j x hj=>by omega⟩ ?_;refine⟨⟨yG,yE,rfl,rfl⟩,fun x=>?_⟩;have hk:=x.le;refine zK 2900 ?_;refine zB (zY (fun c28=>?_) (fun c28=>?_))
       ·
        refine zL (zA (zB (zO (zK 3000 ?_))));refine zB (zE zJ [] 3100 rfl ?_);refine zF ?_;refine zQ _ (wV _ _) rfl ?_;refine zF ?_;refine zC (zA (zW rfl (fun c30=>?_) (fun c30=>?_)))
        ·
         refine zK 3200 ?_;refine zM (zR (zP (yS (zR (zP ?_)))));exact u4 rfl (u7 (by rw[wA,Ab c4,Aa (by rw[c6w];decide),Aa (by rw[hA];decide),Aa (by rw[c15];decide),Aa (by rw[hB];decide),Ab (Al.no (p:=memP h n) (e:=vl0) c28 (congrArg Bool.not c30))]))
        ·
         refine zL (zN (zA (yM zJ [] 3300 ?_)));exact zS (x.next (e:=vl0) c28 (congrArg Bool.not c30)) ⟨yG,yE,rfl,rfl⟩ (by show(zU h ((h.getD n.toNat ob0).items.getD (Int.toNat 4) vl0)).items.length-(x.k+1)<(zU h ((h.getD n.toNat ob0).items.getD (Int.toNat 4) vl0)).items.length-x.k;omega)
       ·
        refine yD (yA (yB (zZ (zA (zK 3400 ?_)))));refine zM ?_;exact u4 rfl (u7 (by rw[wA,Ab c4,Aa (by rw[c6w];decide),Aa (by rw[hA];decide),Aa (by rw[c15];decide),Aa (by rw[hB];decide),Aa (by rw[x.yes c28];decide)]))
 ·
  refine zL (zA (zB ?_));refine zB (zE zJ [] 700 rfl ?_);repeat(first|refine zH ?_|refine qM1 ?_)
  refine yN _ (fun hg13=>(bM _ qU0).args ⟨u6 _,SubP.ownSl (k:=200) rfl,trivial⟩) rfl ?_;repeat(first|refine zH ?_|refine qM1 ?_)
  refine zC (zA (zW rfl (fun c6=>?_) (fun c6=>?_)))
  ·have c6w:vH0 (h.getD n.toNat ob0) qU0=true:=c6;refine zK 800 ?_;refine zM (zP ?_);exact u4 rfl (u7 (by rw[wA,Aa (by rw[c4];decide),Ab c6w]))
  ·have c6w:vH0 (h.getD n.toNat ob0) qU0=false:=c6;refine zL (zA ?_);refine zB (zX zJ [] mK12 900 yT kr rfl ?_);repeat(first|refine zH ?_|refine bJ0 ?_)
   refine zQ _ (jH _ _) rfl ?_;repeat(first|refine zH ?_|refine bJ0 ?_)
   refine zQ _ (jH _ _) rfl ?_;repeat(first|refine zH ?_|refine bJ0 ?_)
   refine zC (zA (zB ?_));refine zB (zE zJ [] 1000 rfl ?_);repeat(first|refine zH ?_|refine zT (by(refine⟨by decide,by decide,?_⟩;have:=mQ c6w;simp only[qU0,vI0,Af,An,Aw]at this;omega)) ?_)
   refine zC (zA (zO ?_));refine yC (ι:=Al (midV (h.getD n.toNat ob0).items) (cauP h)) [1,2,5,7,8,9,66,67] [0,105,712,713] 1050 (fun x=>[(68,.v (.int .i64 x.k))]) (fun _=>[]) (fun x=>(midV (h.getD n.toNat ob0).items).length-x.k) ⟨0,Ap _,fun j x hj=>by omega⟩ ?_;refine⟨⟨yG,yE,rfl,rfl⟩,fun x=>?_⟩;have hk:=x.le;refine zK 1100 ?_;refine zB (zY (fun c10=>?_) (fun c10=>?_))
   ·
    refine zL (zA (zB (zO (zK 1200 ?_))));refine zB (zE zJ [] 1300 rfl ?_);refine zF ?_;refine yN _ (fun hg6=>wV _ _) rfl ?_;refine zF ?_;refine zC (zA (zW rfl (fun c12=>?_) (fun c12=>?_)))
    ·
     refine zK 1400 ?_;refine zM (zR (zP (yS (zR (zP ?_)))));exact u4 rfl (u7 (by rw[wA,Aa (by rw[c4];decide),Aa (by rw[c6w];decide),Ab (Al.no (p:=cauP h) (e:=vl0) c10 (congrArg Bool.not c12))]))
    ·
     refine zL (zN (zA (yM zJ [] 1500 ?_)));exact zS (x.next (e:=vl0) c10 (congrArg Bool.not c12)) ⟨yG,yE,rfl,rfl⟩ (by have c10b:x.k<(midV (h.getD n.toNat ob0).items).length:=c10;show(midV (h.getD n.toNat ob0).items).length-(x.k+1)<(midV (h.getD n.toNat ob0).items).length-x.k;omega)
   ·
    refine yD (yA (yB (zZ (zA (zB (zK 1600 ?_))))));refine zW rfl (fun c15=>?_) (fun c15=>?_)
    ·
     refine zK 1700 ?_;refine zM (zP ?_);exact u4 rfl (u7 (by rw[wA,Aa (by rw[c4];decide),Aa (by rw[c6w];decide),Aa (by rw[x.yes c10];decide),Ab c15]))
    ·
     refine zL (zA (zB (zK 1800 ?_)));refine zO ?_;have hA:=x.yes c10;refine yC (ι:=Al (zU h ((h.getD n.toNat ob0).items.getD (Int.toNat 3) vl0)).items (mkP h)) [1,2,5,7,8,91,92] [0,105,712] 1850 (fun x=>[(93,.v (.int .i64 x.k))]) (fun _=>[]) (fun x=>(zU h ((h.getD n.toNat ob0).items.getD (Int.toNat 3) vl0)).items.length-x.k) ⟨0,Ap _,fun j x hj=>by omega⟩ ?_;refine⟨⟨yG,yE,rfl,rfl⟩,fun x=>?_⟩;have hk:=x.le;refine zK 1900 ?_;refine zB (zY (fun c18=>?_) (fun c18=>?_))
     ·
      refine zL (zA (zB (zO (zK 2000 ?_))));refine zB (zE zJ [] 2100 rfl ?_);refine zF ?_;refine zQ _ (jH _ _) rfl ?_;refine zf (zA ?_);refine zB (zE zJ [] 2200 rfl ?_);repeat(first|refine zH ?_|refine zT (by first|(intro hh;simp only[Bo,De,Bz,Ao]at hh;refine⟨by decide,?_⟩;omega)|omega) ?_)
      refine zC (zA (zW rfl (fun c21=>?_) (fun c21=>?_)))
      ·
       refine zK 2300 ?_;refine zM (zR (zP (yS (zR (zP ?_)))));exact u4 rfl (u7 (by rw[wA,Aa (by rw[c4];decide),Aa (by rw[c6w];decide),Aa (by rw[hA];decide),Aa (by rw[c15];decide),Ab (Al.no (p:=mkP h) (e:=vl0) c18 (congrArg Bool.not c21))]))
      ·
       refine zL (zN (zA (yM zJ [] 2400 ?_)));exact zS (x.next (e:=vl0) c18 (congrArg Bool.not c21)) ⟨yG,yE,rfl,rfl⟩ (by show(zU h ((h.getD n.toNat ob0).items.getD (Int.toNat 3) vl0)).items.length-(x.k+1)<(zU h ((h.getD n.toNat ob0).items.getD (Int.toNat 3) vl0)).items.length-x.k;omega)
     ·
      refine yD (yA (yB (zZ (zA (zB (zK 2500 ?_))))));refine zW rfl (fun c24=>?_) (fun c24=>?_)
      ·
       refine zK 2600 ?_;refine zM (zP ?_);exact u4 rfl (u7 (by rw[wA,Aa (by rw[c4];decide),Aa (by rw[c6w];decide),Aa (by rw[hA];decide),Aa (by rw[c15];decide),Aa (by rw[x.yes c18];decide)]))
      ·
       refine zL (zA ?_);refine zB (zX zJ [] mK6 2700 yT kr rfl ?_);repeat(first|refine zH ?_|refine qL1 ?_)
       refine zQ _ (jH _ _) rfl ?_;repeat(first|refine zH ?_|refine qL1 ?_)
       refine zC (zA (zB (zK 2800 ?_)));refine zO ?_;have hB:=x.yes c18;refine yC (ι:=Al (zU h ((h.getD n.toNat ob0).items.getD (Int.toNat 4) vl0)).items (memP h n)) [1,2,8,15,135,136] [0,712,2506] 2850 (fun x=>[(137,.v (.int .i64 x.k))]) (fun _=>[]) (fun x=>(zU h ((h.getD n.toNat ob0).items.getD (Int.toNat 4) vl0)).items.length-x.k) ⟨0,Ap _,fun j x hj=>by omega⟩ ?_;refine⟨⟨yG,yE,rfl,rfl⟩,fun x=>?_⟩;have hk:=x.le;refine zK 2900 ?_;refine zB (zY (fun c28=>?_) (fun c28=>?_))
       ·
        refine zL (zA (zB (zO (zK 3000 ?_))));refine zB (zE zJ [] 3100 rfl ?_);refine zF ?_;refine zQ _ (wV _ _) rfl ?_;refine zF ?_;refine zC (zA (zW rfl (fun c30=>?_) (fun c30=>?_)))
        ·
         refine zK 3200 ?_;refine zM (zR (zP (yS (zR (zP ?_)))));exact absurd c24 (by rw[c4];decide)
        ·
         refine zL (zN (zA (yM zJ [] 3300 ?_)));exact zS (x.next (e:=vl0) c28 (congrArg Bool.not c30)) ⟨yG,yE,rfl,rfl⟩ (by show(zU h ((h.getD n.toNat ob0).items.getD (Int.toNat 4) vl0)).items.length-(x.k+1)<(zU h ((h.getD n.toNat ob0).items.getD (Int.toNat 4) vl0)).items.length-x.k;omega)
       ·
        refine yD (yA (yB (zZ (zA (zK 3400 ?_)))));refine zM ?_;exact absurd c24 (by rw[c4];decide)
variable{md me:Bool}
structure Vs(h:List Ob)(o:Ob):Prop where
 ok:∀v∈o.keys++o.items,qB (fixV o v)=true
 cls:yU h o.cls=true
 refs:∀r∈o.refs,yU h r=true
 order:∀r∈o.order,yU h r=true
 vals:∀v∈o.keys++o.items,v.k=6->yU h v.r=true
 weak:o.kind=18->o.state≠0->yU h (IntKind.i64.wrap (o.state-1))=true
theorem dP:∀{l:List Vl}{v:Vl},v∈l->v.k=6->v.r∈jM l
 |[],_,h,_=>by cases h
 |x::l,v,h,hk=>by
  rw[jM];rcases Bl.1 h with rfl|h
  ·rw[Ab hk];simp
  ·split
   ·exact Az _ (dP h hk)
   ·exact dP h hk
theorem kZ{h:List Ob}{o:Ob}(hv:jZ h o=0):Vs h o:=by
 unfold jZ at hv;split at hv
 ·rename_i h1;split at hv
  ·rename_i h2;rw[Be]at h1 h2
   have hm:∀r,(r=o.cls\/r∈o.refs\/r∈o.order)->yU h r=true:=fun r hr=>h2 r (by
    unfold vJ gP;refine As.2 (.inl (As.2 (.inl ?_)));rcases hr with rfl|hr|hr
    ·simp
    ·simp[hr]
    ·simp[hr])
   refine⟨h1,hm _ (.inl rfl),fun r hr=>hm r (.inr (.inl hr)),fun r hr=>hm r (.inr (.inr hr)),fun v hv hk=>h2 _ ?_,fun hk hs=>h2 _ ?_⟩
   ·unfold vJ;exact As.2 (.inl (As.2 (.inr (dP hv hk))))
   ·unfold vJ;rw[Ab ⟨hk,hs⟩];simp
  ·cases hv
 ·cases hv
theorem vR0{o:Ob}(hs:jB o=0):(o.items.length:Int)=cntS o/\0<=o.code/\0<=o.state/\o.state<=xH o.kind/\(o.kind≠9->o.order=[]):=by
 unfold jB at hs;split at hs
 ·split at hs
  ·cases hs
  ·rename_i h2;rw[Bool.not_eq_true]at h2;simp only[vH,De,Bz,Ao,Ay]at h2;obtain⟨⟨⟨⟨h3,h4⟩,h5⟩,h6⟩,h7⟩:=h2;refine⟨h3,by omega,by omega,by omega,fun hk=>?_⟩;rw[Ca hk,Bool.not_false,Ds,Ay]at h7;exact Bf om
 ·cases hs
theorem kG(k:Int)(c:UInt8)(hu:jS k≠⟨#[]⟩/\yO0 (jS k)≠42/\yO0 (jS k)≠61/\yO0 (jS k)≠58){o:Ob}(hk:o.kind=k):cntS o=IntKind.i64.wrap (IntKind.u8.wrap (yO0 (jS k)-48)):=by
 unfold cntS;rw[hk,Aa hu.1,Aa hu.2.1,Aa hu.2.2.1,Aa hu.2.2.2]
theorem cnt5{o:Ob}(hk:o.kind=5):cntS o=3:=by rw[kG 5 0 (by decide+kernel) hk];decide+kernel
theorem cnt8{o:Ob}(hk:o.kind=8):cntS o=2:=by rw[kG 8 0 (by decide+kernel) hk];decide+kernel
theorem cnt14{o:Ob}(hk:o.kind=14):cntS o=1:=by rw[kG 14 0 (by decide+kernel) hk];decide+kernel
theorem cnt15{o:Ob}(hk:o.kind=15):cntS o=2:=by rw[kG 15 0 (by decide+kernel) hk];decide+kernel
theorem cnt16{o:Ob}(hk:o.kind=16):cntS o=2:=by rw[kG 16 0 (by decide+kernel) hk];decide+kernel
theorem gT1{o:Ob}(hk:o.kind=19):cntS o=2:=by rw[kG 19 0 (by decide+kernel) hk];decide+kernel
theorem gS1{o:Ob}(hk:o.kind=20):cntS o=1:=by rw[kG 20 0 (by decide+kernel) hk];decide+kernel
theorem cnt10{o:Ob}(hk:o.kind=10):cntS o=o.names.length:=by
 unfold cntS;rw[hk,Aa (by decide+kernel),Aa (by decide+kernel),Ab (by decide+kernel)]
def xY1(n:Int):Bool:=decide (n=0)||decide (28<=n)
def celP(h:List Ob)(r:Int):Bool:=decide ((yI h r).kind=6)
def basP(h:List Ob)(i r:Int):Bool:= !((decide (i<=r)|| !decide ((yI h r).kind=9))|| !xY1 r)
abbrev itm(o:Ob)(k:Int):Vl:=o.items.getD k.toNat vl0
def supT(h:List Ob)(o:Ob)(k:Int):Bool:=(decide ((zU h (itm o 0)).kind=9)&&yU h k)&&hasB (yI h k).order (itm o 0).r
def qU(h:List Ob)(o:Ob)(i:Int):Bool:=
 if o.kind=5 then rngS o
 else if o.kind=7 then(if o.refs.all (celP h)=true then decide ((yI h o.cls).kind=11)else false)
 else if o.kind=8 then xP0 h (itm o 0)
 else if o.kind=14 then xP0 h (itm o 0)
 else if o.kind=9 then(if o.refs.all (basP h i)=true then(decide (1<=(o.refs.length:Int))&&decide ((o.refs.length:Int)<=8))else false)
 else if o.kind=10 then(decide ((yI h o.cls).kind=9)&&xY1 o.cls)&&(!hasB (yI h o.cls).order 28||wA h o i)
 else if o.kind=15 then(if(zU h (itm o 1)).kind=10 then supT h o (zU h (itm o 1)).cls else if(zU h (itm o 1)).kind=9 then supT h o (itm o 1).r else false)
 else if o.kind=16 then(if(zU h (itm o 0)).kind=3 then(decide ((itm o 1).k=2)&& !(itm o 1).nn)else if(zU h (itm o 0)).kind=4 then(decide ((itm o 1).k=2)&& !(itm o 1).nn)
  else if(zU h (itm o 0)).kind=0 then((decide ((itm o 0).k=4)||decide ((itm o 0).k=5))&&decide ((itm o 1).k=0))
  else(((decide ((zU h (itm o 0)).kind=1)||decide ((zU h (itm o 0)).kind=2))||decide ((zU h (itm o 0)).kind=5))&&decide ((itm o 1).k=0)))
 else if o.kind=18 then(if 0<o.state then(decide ((yI h (o.state-1)).kind=10)&&decide (49<=(yI h (o.state-1)).cls))else true)
 else if o.kind=19 then decide ((zU h (itm o 0)).kind=17)
 else if o.kind=20 then(decide ((itm o 0).k=2)&& !(itm o 0).nn)
 else true
theorem cC{n:Int}(h0:0<n)(h1:n<=9223372036854775807):IntKind.i64.wrap (n-1)=n-1:=InI.wrap ⟨by omega,by omega⟩
theorem qK1{P:Program}{E:Pn}{K:DS->Prop}{p:Prop}{r:Out}(hr:r.sat P E K)(hp:p:=by first|(refine⟨by decide,?_⟩;show _<(h.getD n.toNat ob0).items.length;first|(have:=cnt8 c13;omega)|(have:=cnt14 c14;omega))):(Out.need p r).sat P E K:=⟨hp,hr⟩
theorem vQ0{P:Program}{E:Pn}{K:DS->Prop}{p:Prop}{r:Out}(hr:r.sat P E K)(hp:p:=by first|(intro hh;simp only[Aj]at hh;exact yR hh.2)):(Out.need p r).sat P E K:=⟨hp,hr⟩
theorem qJ1{P:Program}{E:Pn}{K:DS->Prop}{p:Prop}{r:Out}(hr:r.sat P E K)(hp:p:=by first|(refine⟨by decide,?_⟩;show _<(h.getD n.toNat ob0).items.length;have:=cnt16 c36;omega)|(intro _;(refine⟨by decide,?_⟩;show _<(h.getD n.toNat ob0).items.length;have:=cnt16 c36;omega))):(Out.need p r).sat P E K:=⟨hp,hr⟩
set_option maxHeartbeats 1000000 in
theorem links_ok(h:List Ob)(n:Int)(hn:inH h n)(hh:HpIn h)(hv:jZ h (yI h n)=0)(hs:jB (yI h n)=0):Fx 72 [hpD md h,.v (.int .i64 n)] (.v (.bool (qU h (yI h n) n))):=by
 have hO:ObIn (h.getD n.toNat ob0):=hh.at n;have hil:=hO.il;have hrl:=hO.rl;have hst:=hO.st;have hV:Vs h (h.getD n.toNat ob0):=kZ hv;have hS:((h.getD n.toNat ob0).items.length:Int)=cntS (h.getD n.toNat ob0):=(vR0 hs).1;have hcl:inH h (h.getD n.toNat ob0).cls:=yR hV.cls;refine yF zJ Tryz.func72 rfl rfl rfl rfl rfl rfl ?_;intros;refine zK 100 ?_;refine zB (zE zJ [] 200 rfl ?_);repeat(first|refine zH ?_|refine zT (by exact hn) ?_)
 refine zC (zA (zB (zK 300 ?_)));refine zO (zK 400 ?_);refine zY (fun c3=>?_) (fun c3=>?_)
 ·
  refine zB (zE zJ [] 500 rfl ?_);refine zF ?_;refine zQ _ (RangeOk_ok (h.getD n.toNat ob0) (by have:=cnt5 c3;omega) hil) rfl ?_;refine zf (zA (zM (zR (zP ?_))));exact u4 rfl (u7 (by rw[qU,Ab c3]<;>rfl))
 ·
  refine zK 600 ?_;refine zY (fun c5=>?_) (fun c5=>?_)
  ·
   refine zB (zK 700 ?_);refine zO ?_;refine yC (ι:=Al (h.getD n.toNat ob0).refs (celP h)) [2,5,30,31] [0,105] 750 (fun x=>[(32,.v (.int .i64 x.k))]) (fun _=>[]) (fun x=>(h.getD n.toNat ob0).refs.length-x.k) ⟨0,Ap _,fun j x hj=>by omega⟩ ?_;refine⟨⟨yG,yE,rfl,rfl⟩,fun x=>?_⟩;have hk:=x.le;refine zK 800 ?_;refine zB (zY (fun c7=>?_) (fun c7=>?_))
   ·
    refine zL (zA (zB (zO (zK 900 ?_))));refine zB (zE zJ [] 1000 rfl ?_);repeat(first|refine zH ?_|refine zT (by exact yR (hV.refs _ (jK c7 0))) ?_)
    refine zC (zA (zW rfl (fun c9=>?_) (fun c9=>?_)))
    ·simp only[Bo]at c9;refine zK 1100 ?_;refine zM (zR (zP (yS (zR (zP (zR (zP ?_)))))));exact u4 rfl (u7 (by rw[qU,Aa c3,Ab c5,Aa (by rw[Al.no (p:=celP h) (e:=(0:Int)) c7 c9];decide)]<;>rfl))
    ·simp only[Bz]at c9;refine zL (zN (zA (yM zJ [] 1200 ?_)));exact zS (x.next (e:=(0:Int)) c7 c9) ⟨yG,yE,rfl,rfl⟩ (by show(h.getD n.toNat ob0).refs.length-(x.k+1)<(h.getD n.toNat ob0).refs.length-x.k;omega)
   ·
    refine yD (yA (yB (zZ (zA ?_))));refine zB (zE zJ [] 1300 rfl ?_);repeat(first|refine zH ?_|refine zT (by exact hcl) ?_)
    refine zC (zA (zM (zR (zP ?_))));exact u4 rfl (u7 (by rw[qU,Aa c3,Ab c5,Ab (x.yes c7)]<;>rfl))
  ·
   refine zB (zK 1400 ?_);refine zY (fun c13=>?_) (fun c13=>?_)
   ·
    refine zL (zA (zY (fun c13x=>?_) (fun c13x=>?_)))
    ·
     refine zB (zX zJ [] [[],[],[1],[1,2],[1,2,3],(rgN 5),(rgN 6)] 1600 yT kr rfl ?_);repeat(first|refine zH ?_|refine qK1 ?_)
     refine zQ _ (mP _ _) rfl ?_;repeat(first|refine zH ?_|refine qK1 ?_)
     refine zC (zA (zM (zR (zP ?_))));exact u4 rfl (u7 (by rw[qU,Aa c3,Aa c5,Ab c13]<;>rfl))
    ·
     simp_all
   ·
    refine yM zJ [] 1500 ?_;refine zA (zY (fun c14=>?_) (fun c14=>?_))
    ·
     refine zB (zX zJ [] [[],[],[1],[1,2],[1,2,3],(rgN 5),(rgN 6)] 1600 yT kr rfl ?_);repeat(first|refine zH ?_|refine qK1 ?_)
     refine zQ _ (mP _ _) rfl ?_;repeat(first|refine zH ?_|refine qK1 ?_)
     refine zC (zA (zM (zR (zP ?_))));exact u4 rfl (u7 (by rw[qU,Aa c3,Aa c5,Aa c13,Ab c14]<;>rfl))
    ·
     refine zK 1700 ?_;refine zY (fun c16=>?_) (fun c16=>?_)
     ·
      refine zB (zK 1800 ?_);refine zO ?_;refine yC (ι:=Al (h.getD n.toNat ob0).refs (basP h n)) [1,2,5,64,65] [0,105] 1850 (fun x=>[(66,.v (.int .i64 x.k))]) (fun _=>[]) (fun x=>(h.getD n.toNat ob0).refs.length-x.k) ⟨0,Ap _,fun j x hj=>by omega⟩ ?_;refine⟨⟨yG,yE,rfl,rfl⟩,fun x=>?_⟩;have hk:=x.le;refine zK 1900 ?_;refine zB (zY (fun c18=>?_) (fun c18=>?_))
      ·
       refine zL (zA (zB (zO (zK 2000 ?_))));refine zB (zE zJ [] 2100 rfl ?_);refine zF ?_;refine yN _ (fun hg6=>qC0 _ _ (yR (hV.refs _ (jK c18 0)))) rfl ?_;refine zF ?_;refine yN _ (fun hg11=>yT1 _) rfl ?_;refine zF ?_;refine zC (zA (zW rfl (fun c20=>?_) (fun c20=>?_)))
       ·
        refine zK 2200 ?_;refine zM (zR (zP (yS (zR (zP (zR (zP ?_)))))));exact u4 rfl (u7 (by rw[qU,Aa c3,Aa c5,Aa c13,Aa c14,Ab c16,Aa (by rw[Al.no (p:=basP h n) (e:=(0:Int)) c18 (congrArg Bool.not c20)];decide)]<;>rfl))
       ·
        refine zL (zN (zA (yM zJ [] 2300 ?_)));exact zS (x.next (e:=(0:Int)) c18 (congrArg Bool.not c20)) ⟨yG,yE,rfl,rfl⟩ (by show(h.getD n.toNat ob0).refs.length-(x.k+1)<(h.getD n.toNat ob0).refs.length-x.k;omega)
      ·
       refine yD (yA (yB (zZ (zA (zK 2400 ?_)))));refine zM (zR (zP ?_));exact u4 rfl (u7 (by rw[qU,Aa c3,Aa c5,Aa c13,Aa c14,Ab c16,Ab (x.yes c18)]<;>rfl))
     ·
      refine zK 2500 ?_;refine zY (fun c24=>?_) (fun c24=>?_)
      ·
       refine zB (zE zJ [] 2600 rfl ?_);repeat(first|refine zH ?_|refine zT (by first|exact hcl|(intro _;exact hcl)) ?_)
       refine zQ _ (qC0 _ _ hcl) rfl ?_;repeat(first|refine zH ?_|refine zT (by first|exact hcl|(intro _;exact hcl)) ?_)
       refine yN _ (fun hg7=>yT1 _) rfl ?_;repeat(first|refine zH ?_|refine zT (by first|exact hcl|(intro _;exact hcl)) ?_)
       refine yN _ (fun hg17=>uX _ _) rfl ?_;repeat(first|refine zH ?_|refine zT (by first|exact hcl|(intro _;exact hcl)) ?_)
       refine yN _ (fun hg22=>exceptionOk_ok _ _ hn hh hcl (by have:=cnt10 c24;show(h.getD n.toNat ob0).items.length=(h.getD n.toNat ob0).names.length;omega)) rfl ?_;repeat(first|refine zH ?_|refine zT (by first|exact hcl|(intro _;exact hcl)) ?_)
       refine zC (zA (zM (zR (zP ?_))));exact u4 rfl (u7 (by rw[qU,Aa c3,Aa c5,Aa c13,Aa c14,Aa c16,Ab c24]<;>rfl))
      ·
       refine zK 2700 ?_;refine zY (fun c26=>?_) (fun c26=>?_)
       ·
        refine zB (zX zJ [] [[],[0],[0,1],[0,1,2],[],[4],[4,5],[4,5,6],[],[],[0,1,2,3,8,9],(rgN 11)] 2800 yT kr rfl ?_);repeat(first|refine zH ?_|refine zT (by(refine⟨by decide,?_⟩;show _<(h.getD n.toNat ob0).items.length;have:=cnt15 c26;first|omega|(rw[show Int.toNat 0=0 from rfl];omega))) ?_)
        refine zC (zA (zK 2900 ?_));refine zB ?_;refine zB (zE zJ [] 3000 rfl ?_);refine zF ?_;refine zQ _ (jH _ _) rfl ?_;refine zF ?_;refine zC (zA (zK 3100 ?_));refine zO (zK 3300 ?_);refine zY (fun c32=>?_) (fun c32=>?_)
        ·
         refine yM zJ [] 3400 ?_;refine zN (zA ?_);refine zB (zX zJ [] mK13 3600 yT kr rfl ?_);repeat(first|refine zH ?_|refine vQ0 ?_)
         refine zQ _ (jH _ _) rfl ?_;repeat(first|refine zH ?_|refine vQ0 ?_)
         refine yN _ (fun hg8=>uR _ _) rfl ?_;repeat(first|refine zH ?_|refine vQ0 ?_)
         refine yN _ (fun hg19=>uX _ _) rfl ?_;repeat(first|refine zH ?_|refine vQ0 ?_)
         refine zC (zA (zM (zR (zP ?_))));exact u4 rfl (u7 (by rw[qU,Aa c3,Aa c5,Aa c13,Aa c14,Aa c16,Aa c24,Ab c26,Ab c32]<;>rfl))
        ·
         refine zK 3500 ?_;refine zY (fun c34=>?_) (fun c34=>?_)
         ·
          refine zL (zN (zA ?_));refine zB (zX zJ [] mK13 3600 yT kr rfl ?_);repeat(first|refine zH ?_|refine vQ0 ?_)
          refine zQ _ (jH _ _) rfl ?_;repeat(first|refine zH ?_|refine vQ0 ?_)
          refine yN _ (fun hg8=>uR _ _) rfl ?_;repeat(first|refine zH ?_|refine vQ0 ?_)
          refine yN _ (fun hg19=>uX _ _) rfl ?_;repeat(first|refine zH ?_|refine vQ0 ?_)
          refine zC (zA (zM (zR (zP ?_))));exact u4 rfl (u7 (by rw[qU,Aa c3,Aa c5,Aa c13,Aa c14,Aa c16,Aa c24,Ab c26,Aa c32,Ab c34]<;>rfl))
         ·
          refine zK 3600 ?_;refine zM (zR (zP (zR (zP ?_))));exact u4 rfl (u7 (by rw[qU,Aa c3,Aa c5,Aa c13,Aa c14,Aa c16,Aa c24,Ab c26,Aa c32,Aa c34]<;>rfl))
       ·
        refine zK 3700 ?_;refine zY (fun c36=>?_) (fun c36=>?_)
        ·
         refine zB (zX zJ [] mK6 3800 yT kr rfl ?_);repeat(first|refine zH ?_|refine zT (by(refine⟨by decide,?_⟩;show _<(h.getD n.toNat ob0).items.length;have:=cnt16 c36;omega)) ?_)
         refine zQ _ (jH _ _) rfl ?_;repeat(first|refine zH ?_|refine zT (by(refine⟨by decide,?_⟩;show _<(h.getD n.toNat ob0).items.length;have:=cnt16 c36;omega)) ?_)
         refine zC (zA (zK 3900 ?_));refine zO (zB (zK 4100 ?_));refine zY (fun c40=>?_) (fun c40=>?_)
         ·
          refine zL (zA (zY (fun c40x=>?_) (fun c40x=>?_)))
          ·
           refine zB (zE zJ [] 4300 rfl ?_);repeat(first|refine zH ?_|refine qJ1 ?_)
           refine zC (zA (zM (zR (zR (zP ?_)))));exact u4 rfl (u7 (by rw[qU,Aa c3,Aa c5,Aa c13,Aa c14,Aa c16,Aa c24,Aa c26,Ab c36,Ab c40]<;>rfl))
          ·
           simp_all
         ·
          refine yM zJ [] 4200 ?_;refine zA (zY (fun c41=>?_) (fun c41=>?_))
          ·
           refine zB (zE zJ [] 4300 rfl ?_);repeat(first|refine zH ?_|refine qJ1 ?_)
           refine zC (zA (zM (zR (zR (zP ?_)))));exact u4 rfl (u7 (by rw[qU,Aa c3,Aa c5,Aa c13,Aa c14,Aa c16,Aa c24,Aa c26,Ab c36,Aa c40,Ab c41]<;>rfl))
          ·
           refine zK 4400 ?_;refine zY (fun c43=>?_) (fun c43=>?_)
           ·
            refine zB (zE zJ [] 4500 rfl ?_);repeat(first|refine zH ?_|refine qJ1 ?_)
            refine zC (zA (zM (zR (zR (zP ?_)))));exact u4 rfl (u7 (by rw[qU,Aa c3,Aa c5,Aa c13,Aa c14,Aa c16,Aa c24,Aa c26,Ab c36,Aa c40,Aa c41,Ab c43]<;>rfl))
           ·
            refine zB (zE zJ [] 4500 rfl ?_);repeat(first|refine zH ?_|refine qJ1 ?_)
            refine zC (zA (zM (zR (zR (zP ?_)))));exact u4 rfl (u7 (by rw[qU,Aa c3,Aa c5,Aa c13,Aa c14,Aa c16,Aa c24,Aa c26,Ab c36,Aa c40,Aa c41,Aa c43]<;>rfl))
        ·
         refine zK 4600 ?_;refine zY (fun c45=>?_) (fun c45=>?_)
         ·
          refine zK 4700 ?_;refine zY (fun c46=>?_) (fun c46=>?_)
          ·
           refine zB (zE zJ [] 4800 rfl ?_);repeat(first|refine zH ?_|refine zT (by first|exact ini (by omega) (by omega)|(have h1:=hV.weak c45 (by omega);rw[cC c46 om]at h1;exact yR h1)) ?_)
           refine zC (zA (zK 4900 ?_));refine zM (zR (zP ?_));exact u4 rfl (u7 (by rw[qU,Aa c3,Aa c5,Aa c13,Aa c14,Aa c16,Aa c24,Aa c26,Aa c36,Ab c45,Ab c46]<;>rfl))
          ·
           refine zL (zN (zA (zK 5400 ?_)));refine zM ?_;exact u4 rfl (u7 (by rw[qU,Aa c3,Aa c5,Aa c13,Aa c14,Aa c16,Aa c24,Aa c26,Aa c36,Ab c45,Aa (Int.not_lt.2 c46)]<;>rfl))
         ·
          refine zK 5000 ?_;refine zY (fun c49=>?_) (fun c49=>?_)
          ·
           refine zB (zX zJ [] [[],[],[1],[1,2],[1,2,3],(rgN 5),(rgN 6),(rgN 7),(rgN 8)] 5100 yT kr rfl ?_);repeat(first|refine zH ?_|refine zT (by(refine⟨by decide,?_⟩;show _<(h.getD n.toNat ob0).items.length;have:=gT1 c49;omega)) ?_)
           refine zQ _ (jH _ _) rfl ?_;repeat(first|refine zH ?_|refine zT (by(refine⟨by decide,?_⟩;show _<(h.getD n.toNat ob0).items.length;have:=gT1 c49;omega)) ?_)
           refine zC (zA (zM (zR (zP ?_))));exact u4 rfl (u7 (by rw[qU,Aa c3,Aa c5,Aa c13,Aa c14,Aa c16,Aa c24,Aa c26,Aa c36,Aa c45,Ab c49]<;>rfl))
          ·
           refine zK 5200 ?_;refine zY (fun c51=>?_) (fun c51=>?_)
           ·
            refine zB (zE zJ [] 5300 rfl ?_);repeat(first|refine zH ?_|refine zT (by first|(refine⟨by decide,?_⟩;show _<(h.getD n.toNat ob0).items.length;have:=gS1 c51;omega)|(intro _;(refine⟨by decide,?_⟩;show _<(h.getD n.toNat ob0).items.length;have:=gS1 c51;omega))) ?_)
            refine zC (zA (zM (zR (zP ?_))));exact u4 rfl (u7 (by rw[qU,Aa c3,Aa c5,Aa c13,Aa c14,Aa c16,Aa c24,Aa c26,Aa c36,Aa c45,Aa c49,Ab c51]<;>rfl))
           ·
            refine zL (zN (zA (zK 5400 ?_)));refine zM ?_;exact u4 rfl (u7 (by rw[qU,Aa c3,Aa c5,Aa c13,Aa c14,Aa c16,Aa c24,Aa c26,Aa c36,Aa c45,Aa c49,Aa c51]<;>rfl))
variable{md me:Bool}
def fldsL:List ByteArray:=[⟨#[111,98,106,101,99,116]⟩,⟨#[99,108,97,115,115,58,111,98,106,101,99,116]⟩,⟨#[110,105,108,95,116,121,112,101,58,111,98,106,101,99,116]⟩,⟨#[98,111,111,108,58,111,98,106,101,99,116]⟩,⟨#[105,110,116,58,111,98,106,101,99,116]⟩,⟨#[114,97,116,105,111,58,111,98,106,101,99,116]⟩,⟨#[116,101,120,116,58,111,98,106,101,99,116]⟩,⟨#[98,121,116,101,115,58,111,98,106,101,99,116]⟩,⟨#[116,117,112,108,101,58,111,98,106,101,99,116]⟩,⟨#[108,105,115,116,58,111,98,106,101,99,116]⟩,⟨#[100,105,99,116,58,111,98,106,101,99,116]⟩,⟨#[115,101,116,58,111,98,106,101,99,116]⟩,⟨#[114,97,110,103,101,58,111,98,106,101,99,116]⟩,⟨#[99,101,108,108,58,111,98,106,101,99,116]⟩,⟨#[102,117,110,99,116,105,111,110,58,111,98,106,101,99,116]⟩,⟨#[98,117,105,108,116,105,110,58,111,98,106,101,99,116]⟩,⟨#[109,101,116,104,111,100,58,111,98,106,101,99,116]⟩,⟨#[109,111,100,117,108,101,58,111,98,106,101,99,116]⟩,⟨#[112,114,111,112,101,114,116,121,58,111,98,106,101,99,116]⟩,⟨#[115,116,97,116,105,99,58,111,98,106,101,99,116]⟩,⟨#[99,108,97,115,115,95,109,101,116,104,111,100,58,111,98,106,101,99,116]⟩,⟨#[115,117,112,101,114,95,116,121,112,101,58,111,98,106,101,99,116]⟩,⟨#[105,116,101,114,97,116,111,114,58,111,98,106,101,99,116]⟩,⟨#[103,101,110,101,114,97,116,111,114,58,111,98,106,101,99,116]⟩,⟨#[119,101,97,107,58,111,98,106,101,99,116]⟩,⟨#[116,97,115,107,58,111,98,106,101,99,116]⟩,⟨#[116,105,109,101,114,58,111,98,106,101,99,116]⟩,⟨#[112,97,115,115,95,116,121,112,101,58,111,98,106,101,99,116]⟩,⟨#[82,97,105,115,101,100,58,111,98,106,101,99,116]⟩,⟨#[69,120,105,116,58,82,97,105,115,101,100]⟩,⟨#[67,97,110,99,101,108,58,82,97,105,115,101,100]⟩,⟨#[69,114,114,111,114,58,82,97,105,115,101,100]⟩,⟨#[84,121,112,101,69,114,114,111,114,58,69,114,114,111,114]⟩,⟨#[86,97,108,117,101,69,114,114,111,114,58,69,114,114,111,114]⟩,⟨#[78,97,109,101,69,114,114,111,114,58,69,114,114,111,114]⟩,⟨#[85,110,98,111,117,110,100,69,114,114,111,114,58,78,97,109,101,69,114,114,111,114]⟩,⟨#[65,116,116,114,105,98,117,116,101,69,114,114,111,114,58,69,114,114,111,114]⟩,⟨#[76,111,111,107,117,112,69,114,114,111,114,58,69,114,114,111,114]⟩,⟨#[73,110,100,101,120,69,114,114,111,114,58,76,111,111,107,117,112,69,114,114,111,114]⟩,⟨#[75,101,121,69,114,114,111,114,58,76,111,111,107,117,112,69,114,114,111,114]⟩,⟨#[65,114,105,116,104,109,101,116,105,99,69,114,114,111,114,58,69,114,114,111,114]⟩,⟨#[68,105,118,105,115,105,111,110,69,114,114,111,114,58,65,114,105,116,104,109,101,116,105,99,69,114,114,111,114]⟩,⟨#[76,105,109,105,116,69,114,114,111,114,58,69,114,114,111,114]⟩,⟨#[82,101,99,117,114,115,105,111,110,69,114,114,111,114,58,76,105,109,105,116,69,114,114,111,114]⟩,⟨#[65,115,115,101,114,116,105,111,110,69,114,114,111,114,58,69,114,114,111,114]⟩,⟨#[73,109,112,111,114,116,69,114,114,111,114,58,69,114,114,111,114]⟩,⟨#[83,116,111,112,69,114,114,111,114,58,69,114,114,111,114]⟩,⟨#[83,116,97,116,101,69,114,114,111,114,58,69,114,114,111,114]⟩,⟨#[71,114,111,117,112,69,114,114,111,114,58,69,114,114,111,114]⟩]
def nmL:List ByteArray:=[⟨#[111,98,106,101,99,116]⟩,⟨#[99,108,97,115,115]⟩,⟨#[110,105,108,95,116,121,112,101]⟩,⟨#[98,111,111,108]⟩,⟨#[105,110,116]⟩,⟨#[114,97,116,105,111]⟩,⟨#[116,101,120,116]⟩,⟨#[98,121,116,101,115]⟩,⟨#[116,117,112,108,101]⟩,⟨#[108,105,115,116]⟩,⟨#[100,105,99,116]⟩,⟨#[115,101,116]⟩,⟨#[114,97,110,103,101]⟩,⟨#[99,101,108,108]⟩,⟨#[102,117,110,99,116,105,111,110]⟩,⟨#[98,117,105,108,116,105,110]⟩,⟨#[109,101,116,104,111,100]⟩,⟨#[109,111,100,117,108,101]⟩,⟨#[112,114,111,112,101,114,116,121]⟩,⟨#[115,116,97,116,105,99]⟩,⟨#[99,108,97,115,115,95,109,101,116,104,111,100]⟩,⟨#[115,117,112,101,114,95,116,121,112,101]⟩,⟨#[105,116,101,114,97,116,111,114]⟩,⟨#[103,101,110,101,114,97,116,111,114]⟩,⟨#[119,101,97,107]⟩,⟨#[116,97,115,107]⟩,⟨#[116,105,109,101,114]⟩,⟨#[112,97,115,115,95,116,121,112,101]⟩,⟨#[82,97,105,115,101,100]⟩,⟨#[69,120,105,116]⟩,⟨#[67,97,110,99,101,108]⟩,⟨#[69,114,114,111,114]⟩,⟨#[84,121,112,101,69,114,114,111,114]⟩,⟨#[86,97,108,117,101,69,114,114,111,114]⟩,⟨#[78,97,109,101,69,114,114,111,114]⟩,⟨#[85,110,98,111,117,110,100,69,114,114,111,114]⟩,⟨#[65,116,116,114,105,98,117,116,101,69,114,114,111,114]⟩,⟨#[76,111,111,107,117,112,69,114,114,111,114]⟩,⟨#[73,110,100,101,120,69,114,114,111,114]⟩,⟨#[75,101,121,69,114,114,111,114]⟩,⟨#[65,114,105,116,104,109,101,116,105,99,69,114,114,111,114]⟩,⟨#[68,105,118,105,115,105,111,110,69,114,114,111,114]⟩,⟨#[76,105,109,105,116,69,114,114,111,114]⟩,⟨#[82,101,99,117,114,115,105,111,110,69,114,114,111,114]⟩,⟨#[65,115,115,101,114,116,105,111,110,69,114,114,111,114]⟩,⟨#[73,109,112,111,114,116,69,114,114,111,114]⟩,⟨#[83,116,111,112,69,114,114,111,114]⟩,⟨#[83,116,97,116,101,69,114,114,111,114]⟩,⟨#[71,114,111,117,112,69,114,114,111,114]⟩]
def bsL:List ByteArray:=[⟨#[]⟩,⟨#[111,98,106,101,99,116]⟩,⟨#[111,98,106,101,99,116]⟩,⟨#[111,98,106,101,99,116]⟩,⟨#[111,98,106,101,99,116]⟩,⟨#[111,98,106,101,99,116]⟩,⟨#[111,98,106,101,99,116]⟩,⟨#[111,98,106,101,99,116]⟩,⟨#[111,98,106,101,99,116]⟩,⟨#[111,98,106,101,99,116]⟩,⟨#[111,98,106,101,99,116]⟩,⟨#[111,98,106,101,99,116]⟩,⟨#[111,98,106,101,99,116]⟩,⟨#[111,98,106,101,99,116]⟩,⟨#[111,98,106,101,99,116]⟩,⟨#[111,98,106,101,99,116]⟩,⟨#[111,98,106,101,99,116]⟩,⟨#[111,98,106,101,99,116]⟩,⟨#[111,98,106,101,99,116]⟩,⟨#[111,98,106,101,99,116]⟩,⟨#[111,98,106,101,99,116]⟩,⟨#[111,98,106,101,99,116]⟩,⟨#[111,98,106,101,99,116]⟩,⟨#[111,98,106,101,99,116]⟩,⟨#[111,98,106,101,99,116]⟩,⟨#[111,98,106,101,99,116]⟩,⟨#[111,98,106,101,99,116]⟩,⟨#[111,98,106,101,99,116]⟩,⟨#[111,98,106,101,99,116]⟩,⟨#[82,97,105,115,101,100]⟩,⟨#[82,97,105,115,101,100]⟩,⟨#[82,97,105,115,101,100]⟩,⟨#[69,114,114,111,114]⟩,⟨#[69,114,114,111,114]⟩,⟨#[69,114,114,111,114]⟩,⟨#[78,97,109,101,69,114,114,111,114]⟩,⟨#[69,114,114,111,114]⟩,⟨#[69,114,114,111,114]⟩,⟨#[76,111,111,107,117,112,69,114,114,111,114]⟩,⟨#[76,111,111,107,117,112,69,114,114,111,114]⟩,⟨#[69,114,114,111,114]⟩,⟨#[65,114,105,116,104,109,101,116,105,99,69,114,114,111,114]⟩,⟨#[69,114,114,111,114]⟩,⟨#[76,105,109,105,116,69,114,114,111,114]⟩,⟨#[69,114,114,111,114]⟩,⟨#[69,114,114,111,114]⟩,⟨#[69,114,114,111,114]⟩,⟨#[69,114,114,111,114]⟩,⟨#[69,114,114,111,114]⟩]
def dvL:List Bool:=[false,true,true,true,true,true,true,true,true,true,true,true,true,true,true,true,true,true,true,true,true,true,true,true,true,true,true,true,true,true,true,true,true,true,true,true,true,true,true,true,true,true,true,true,true,true,true,true,true]
def ixL:List Int:=[0,0,0,0,0,0,0,0,0,0,0,0,0,0,0,0,0,0,0,0,0,0,0,0,0,0,0,0,0,28,28,28,31,31,31,34,31,31,37,37,31,40,31,42,31,31,31,31,31]
def odL:List (List Int):=[[0],[1,0],[2,0],[3,0],[4,0],[5,0],[6,0],[7,0],[8,0],[9,0],[10,0],[11,0],[12,0],[13,0],[14,0],[15,0],[16,0],[17,0],[18,0],[19,0],[20,0],[21,0],[22,0],[23,0],[24,0],[25,0],[26,0],[27,0],[28,0],[29,28,0],[30,28,0],[31,28,0],[32,31,28,0],[33,31,28,0],[34,31,28,0],[35,34,31,28,0],[36,31,28,0],[37,31,28,0],[38,37,31,28,0],[39,37,31,28,0],[40,31,28,0],[41,40,31,28,0],[42,31,28,0],[43,42,31,28,0],[44,31,28,0],[45,31,28,0],[46,31,28,0],[47,31,28,0],[48,31,28,0]]
def nmB(k:Nat):ByteArray:=nmL.getD k ByteArray.empty
def bsB(k:Nat):ByteArray:=bsL.getD k ByteArray.empty
def dvB(k:Nat):Bool:=dvL.getD k false
def ixB(k:Nat):Int:=ixL.getD k 0
def odB(k:Nat):List Int:=odL.getD k []
def nmS(k:Nat):List ByteArray:=(List.range k).map nmB
def bgO(k:Nat):Ob:=⟨9,nmB k,0,if dvB k then [ixB k]else [],odB k,[],[],[],0,0⟩
def bgS(k:Nat):List Ob:=(List.range k).map bgO
theorem bK(k:Nat):(bgS k).length=k:=by simp[bgS]
theorem tY(k:Nat):(bgS (k+1)).map obD=(bgS k).map obD++[obD (bgO k)]:=by rw[bgS,List.range_succ,Ad,Ad];rfl
theorem tQ(k:Nat):(nmS (k+1)).map sD=(nmS k).map sD++[sD (nmB k)]:=by rw[nmS,List.range_succ,Ad,Ad];rfl
theorem xE0:fldsL.length=49:=by decide+kernel
def kC0(p:ByteArray):List ByteArray:=(Lib.fields p.data.toList).map fun l=>⟨l.toArray⟩
theorem Fields_ok(p:ByteArray){l:List ByteArray}(h:kC0 p=l)(hp:p.size<4294967281)(hl:l.length<=9223372036854775807)(ha:p.data.toList.all (fun b=>decide (b.toNat<128))=true):Fx 105 [.v (.string p)] (ssD l):=by
 subst h;refine zM1 (t:=9) ⟨_,Tryz.func105,rfl,rfl⟩ hl fun w s vs hg hv=>?_;rw[tZ hv];obtain⟨G,g1,g2,_⟩:=hg;refine(Any.strings_Fields_core Tryz.laysFields kr p w hp (fun j b hb=>Ag (Be.1 ha b (Bi hb))) fun c hc=>(g2 _ _ _ (g1.space c hc)).1).mono ?_;rintro e w' ⟨rfl,rfl⟩;refine⟨?_,?_⟩
 ·simp only[kC0,Ar]
 ·simp only[kC0,Cp];rfl
theorem Cut_ok(p q:ByteArray)(hp:p.size<4294967281){a b:ByteArray}{c:Bool}(h:Lib.cut p.data.toList q.data.toList=(a.data.toList,b.data.toList,c)):Fx 106 [.v (.string p),.v (.string q)] (.tup [.v (.string a),.v (.string b),.v (.bool c)]):=by
 refine⟨⟨_,Tryz.func106,rfl,rfl⟩,fun w s vs hlt hg hv=>?_⟩;rw[uZ0 hv];obtain⟨G,g1,g2,_⟩:=hg;obtain⟨m,hm⟩:=g1.maxLen;refine(Any.strings_Cut Tryz.laysCut p q m w hp (g2 _ _ _ hm).1).mono ?_;rintro e w' ⟨rfl,n,rfl⟩;rw[h];exact⟨s,_,rfl,⟨_,rfl,rfl,rfl,rfl,trivial⟩,PStp.ofBelow hlt (below_drewN (Below.refl _ _) n)⟩
def bgK(k:Nat):Bool:=decide (Lib.cut (fldsL.getD k ByteArray.empty).data.toList [58]=((nmB k).data.toList,(bsB k).data.toList,dvB k))&&decide ((fldsL.getD k ByteArray.empty).size<=100)
 &&(if dvB k then decide (ixI (nmS k) (bsB k)=ixB k)&&decide (0<=ixB k)&&decide (ixB k<(k:Int))&&decide (odB k=(k:Int)::odB (ixB k).toNat)else decide (odB k=[(k:Int)]))
theorem bgK_all:(List.range 49).all bgK=true:=by decide+kernel
theorem yM1{k:Nat}(h:k<49):bgK k=true:=Be.1 bgK_all k (Ct.2 h)
theorem cutK{k:Nat}(h:k<49):Lib.cut (fldsL.getD k ByteArray.empty).data.toList [58]=((nmB k).data.toList,(bsB k).data.toList,dvB k)/\(fldsL.getD k ByteArray.empty).size<=100:=by
 have:=yM1 h;simp only[bgK,Aj,Ao]at this;exact this.1
theorem ixK{k:Nat}(h:k<49)(hd:dvB k=true):ixI (nmS k) (bsB k)=ixB k/\0<=ixB k/\ixB k<(k:Int)/\odB k=(k:Int)::odB (ixB k).toNat:=by
 have:=yM1 h;simp only[bgK,Aj,Ao,Ab hd]at this;exact⟨this.2.1.1.1,this.2.1.1.2,this.2.1.2,this.2.2⟩
theorem odK{k:Nat}(h:k<49)(hd:dvB k=false):odB k=[(k:Int)]:=by
 have:=yM1 h;rw[bgK,Aa (by rw[hd];decide)]at this;simp only[Aj,Ao]at this;exact this.2
theorem rowK{k j:Nat}(h:j<k):((bgS k).map obD).getD j []=obD (bgO j):=by
 have e:((bgS k).map obD)[j]?=some (obD (bgO j)):=by rw[bgS,Cp,Cc,List.getElem?_range h];rfl
 rw[Ac,e];rfl
theorem Cut_at(k:Nat)(h:k<49):Fx 106 [.v (.string (fldsL.getD k ByteArray.empty)),.v (.string ⟨#[58]⟩)] (.tup [.v (.string (nmB k)),.v (.string (bsB k)),.v (.bool (dvB k))]):=
 Cut_ok _ _ (by have:=(cutK h).2;omega) (cutK h).1
theorem odL_len(k:Nat):(odB k).length<=10:=by
 by_cases h:k<49
 ·exact Ag (Be.1 (show(List.range 49).all (fun k=>decide ((odB k).length<=10))=true by decide+kernel) k (Ct.2 h))
 ·have:odB k=[]:=by rw[odB,Ac,Dq (by show 49<=k;omega)];rfl
  rw[this];decide
theorem nmS_len(k:Nat):(nmS k).length=k:=by simp[nmS]
theorem bgRow0{k:Nat}(h:k<49)(hd:dvB k=false){K:Nat}:SubPs [.v (.int .i64 9),.v (.string (nmB k)),.v (.int .i64 0),.v (.slice none 0 0),.own K 1 [[.v (.int .i64 k)]],.v (.slice none 0 0),.v (.slice none 0 0),.v (.slice none 0 0),.v (.int .i64 0),.v (.int .i64 0)] (obD (bgO k)):=
 ⟨u6 _,u6 _,u6 _,u12 (by show(if dvB k then _ else _)=_;rw[Aa (by rw[hd];decide)]),SubP.ownSl (by show _=(odB k).map iD;rw[odK h hd];rfl),u12 rfl,u12 rfl,u12 rfl,u6 _,u6 _,trivial⟩
theorem bgRow1{k:Nat}(h:k<49)(hd:dvB k=true){K:Nat}{rows:List (List D)}(hr:rows=[[.v (.int .i64 k)]]++(odB (ixB k).toNat).map iD):SubPs [.v (.int .i64 9),.v (.string (nmB k)),.v (.int .i64 0),.slr false 1 [[.v (.int .i64 (ixI (nmS k) (bsB k)))]],.own K 1 rows,.v (.slice none 0 0),.v (.slice none 0 0),.v (.slice none 0 0),.v (.int .i64 0),.v (.int .i64 0)] (obD (bgO k)):=
 ⟨u6 _,u6 _,u6 _,u18 (by show _=(if dvB k then [ixB k]else []).map iD;rw[Ab hd,(ixK h hd).1];rfl),SubP.ownSl (by show _=(odB k).map iD;rw[(ixK h hd).2.2.2,hr];rfl),u12 rfl,u12 rfl,u12 rfl,u6 _,u6 _,trivial⟩
theorem qI1{P:Program}{E:Pn}{K:DS->Prop}{p:Prop}{r:Out}(hr:r.sat P E K)(hp:p:=by first|rfl|(have h1:=nmS_len x.k;have h2:=bK x.k;simp only[Ar,An,Aw];omega)):(Out.need p r).sat P E K:=⟨hp,hr⟩
set_option maxHeartbeats 1000000 in
theorem Begin_ok:Fx 66 [] (hpD false (bgS 49)):=by
 refine yF zJ Tryz.func66 rfl rfl rfl rfl rfl rfl ?_;intros;refine zK 100 ?_;refine zK 200 ?_;refine zK 300 ?_;refine xJ 100 0 43 10 rfl rfl ?_;refine yZ 2 9 1 rfl ?_;refine zB ?_;refine zB (zE zJ [] 400 rfl ?_);refine zF ?_;refine zQ _ (Fields_ok _ (l:=fldsL) (by decide+kernel) (by decide+kernel) (by decide+kernel) (by decide+kernel)) rfl ?_;refine zf (zA (zO ?_));refine yC (ι:=Up 49 (fun _=>true)) [0,1,10,11] [0] 450 (fun x=>[(12,.v (.int .i64 x.k)),(2,.own 301 1 ((nmS x.k).map sD))]) (fun x=>[(301,.row 9 1 ((nmS x.k).map sD).length),(100,.box 24 [.own 300 10 ((bgS x.k).map obD)]),(300,.row 43 10 ((bgS x.k).map obD).length)]) (fun x=>49-x.k) ⟨0,Ap _,fun j hj=>by omega⟩ ?_;refine⟨⟨yG,yE,rfl,rfl⟩,fun x=>?_⟩;have hk:=x.le;refine zK 500 ?_;refine zB (zW rfl (fun c4=>?_) (fun c4=>?_))
 ·replace c4:=Ag c4
  have hk9:x.k<49:=by have:=xE0;omega
  refine zL (zA (zB (zO (zK 600 ?_))));refine zB (zE zJ [] 700 rfl ?_);refine zF ?_;refine zQ _ (Cut_at x.k hk9) rfl ?_;refine zF ?_;refine zC (zA (ev_R zJ [25] 800 ?_));refine zB (zK 900 ?_);refine zY (fun c8=>?_) (fun c8=>?_)
  ·
   refine zB (zE zJ [] 1000 rfl ?_);refine zF ?_;refine zQ _ ((yI0 (nmS x.k) (bsB x.k)).args ⟨SubP.ownSl rfl,u6 _,trivial⟩) rfl ?_;refine zf (zA ?_);refine zX zJ [38] [[],[0],[],[2],[],[4],[],[4,5,6],[4,5,6,7],[4,5,6,7,8],[2,3,4,5,6,7,8,9],[0,1,2,3],(rgN 12),(rgN 13),(rgN 14)] 1100 yT kr rfl ?_;refine zF ?_;refine sat_pick (obD (bgO (ixB x.k).toNat)) ⟨?_,?_,?_⟩ ?_
   ·show 0<=ixI (nmS x.k) (bsB x.k);rw[(ixK hk9 c8).1];exact(ixK hk9 c8).2.1
   ·show(ixI (nmS x.k) (bsB x.k)).toNat<((bgS x.k).map obD).length;rw[(ixK hk9 c8).1,Ar,bK];have:=(ixK hk9 c8).2;omega
   ·show((bgS x.k).map obD).getD (ixI (nmS x.k) (bsB x.k)).toNat []=_;rw[(ixK hk9 c8).1];exact rowK (by have:=(ixK hk9 c8).2;omega)
   repeat(first|refine zG ?_|refine sat_imp (by exact fun hh=>hh) ?_|refine zT (by first|rfl|(have hod:=odL_len (ixB x.k).toNat;simp only[Ar,An,Aw,bgO];omega)) ?_)
   refine zC (zA ?_);refine zB (zE zJ [] 1200 rfl ?_);repeat(first|refine zH ?_|refine qI1 ?_)
   refine zC (zA ?_);refine zE zJ [] 1300 rfl ?_;repeat(first|refine zH ?_|refine qI1 ?_)
   refine zC (zN (zA (yM zJ [] 1400 ?_)));exact zS (x.next hk9 rfl) ⟨⟨u0 _,Sub.own (by show _=(nmS (x.k+1)).map sD;rw[tQ];rfl),by repeat(first|exact trivial|exact u0 _|refine⟨?_,?_⟩)⟩,⟨⟨rfl,rfl,by show _=((nmS (x.k+1)).map sD).length;rw[tQ];rfl⟩,⟨rfl,Sub.ownRows (by show RowsP _ ((bgS (x.k+1)).map obD);rw[tY];exact(RowsP.refl _).append ⟨bgRow1 hk9 c8 rfl,trivial⟩),rfl,trivial⟩,⟨rfl,rfl,by show _=((bgS (x.k+1)).map obD).length;rw[tY,Af,Af];rfl⟩,by repeat(first|exact trivial|exact u15 rfl|refine⟨?_,?_⟩)⟩,rfl,rfl⟩ (by show 49-(x.k+1)<49-x.k;omega)
  ·
   refine zL (zA ?_);refine zB (zE zJ [] 1200 rfl ?_);repeat(first|refine zH ?_|refine qI1 ?_)
   refine zC (zA ?_);refine zE zJ [] 1300 rfl ?_;repeat(first|refine zH ?_|refine qI1 ?_)
   refine zC (zN (zA (yM zJ [] 1400 ?_)));exact zS (x.next hk9 rfl) ⟨⟨u0 _,Sub.own (by show _=(nmS (x.k+1)).map sD;rw[tQ];rfl),by repeat(first|exact trivial|exact u0 _|refine⟨?_,?_⟩)⟩,⟨⟨rfl,rfl,by show _=((nmS (x.k+1)).map sD).length;rw[tQ];rfl⟩,⟨rfl,Sub.ownRows (by show RowsP _ ((bgS (x.k+1)).map obD);rw[tY];exact(RowsP.refl _).append ⟨bgRow0 hk9 c8,trivial⟩),rfl,trivial⟩,⟨rfl,rfl,by show _=((bgS (x.k+1)).map obD).length;rw[tY,Af,Af];rfl⟩,by repeat(first|exact trivial|exact u15 rfl|refine⟨?_,?_⟩)⟩,rfl,rfl⟩ (by show 49-(x.k+1)<49-x.k;omega)
 ·replace c4:=of_decide_eq_false c4
  have hxk:x.k=49:=by have:=xE0;omega
  refine yD (yA (yB (zZ (zA (zK 1500 ?_)))));refine zM ?_;exact u4 rfl (u20 ⟨SubP.ownSl (by rw[hxk]),trivial⟩)
variable{md me:Bool}
def sumN(f:Nat->Nat):Nat->Nat
 |0=>0
 |k+1=>sumN f k+f k
theorem jA0{f:Nat->Nat}{B:Nat}(h:∀i,f i<=B):∀k,sumN f k<=k*B
 |0=>by simp[sumN]
 |k+1=>by rw[sumN,Bm];have:=jA0 h k;have:=h k;omega
def fstC:List Int->Int
 |[]=>0
 |c::l=>if c=0 then fstC l else c
theorem kB0:∀{l:List Int}{k:Nat},(∀j,j<k->l.getD j 0=0)->l.getD k 0≠0->fstC l=l.getD k 0
 |[],k,_,h=>absurd (by simp) h
 |c::l,0,_,h=>by rw[fstC,Aa (by simpa using h)];rfl
 |c::l,k+1,h,hk=>by
  have h0:c=0:=by simpa using h 0 (by omega)
  rw[fstC,Ab h0,kB0 (l:=l) (k:=k) (fun j hj=>by simpa using h (j+1) om) (by simpa using hk)];simp
theorem xB0:∀{l:List Int},(∀j,j<l.length->l.getD j 0=0)->fstC l=0
 |[],_=>rfl
 |c::l,h=>by
  have h0:c=0:=by simpa using h 0 (by simp)
  rw[fstC,Ab h0];exact xB0 fun j hj=>by simpa using h (j+1) (by simp;omega)
def bC(h:List Ob)(o:Ob):List Int:=[jB o,uL o,cU0 o,jZ h o]
noncomputable def uY (h:List Ob) (i:Nat):Int:=
 if(i:Int)<49 then(if yI h i=bgO i then 0 else 19)
 else if(yI h i).kind<0\/21<=(yI h i).kind then 5
 else if fstC (bC h (yI h i))=0 then
  (if qU h (yI h i) i=true then(if keyS h (yI h i)=0 then(if jJ h (yI h i) i=true then 0 else 19)else keyS h (yI h i))else 13)
 else fstC (bC h (yI h i))
def nodN(h:List Ob)(i:Nat):Nat:=if(i:Int)<49 then(yI h i).refs.length else(yI h i).items.length+(yI h i).keys.length+(yI h i).refs.length
abbrev kvs(o:Ob):List Vl:=o.items++o.keys
def bytO(o:Ob)(k:Nat):Nat:=sumN (fun j=>((kvs o).getD j vl0).s.size) k
theorem bytO_succ(o:Ob)(k:Nat):bytO o (k+1)=bytO o k+((kvs o).getD k vl0).s.size:=rfl
def bytN(h:List Ob)(i:Nat):Nat:=if(i:Int)<49 then 0 else bytO (yI h i) (kvs (yI h i)).length
noncomputable def qJ (h:List Ob):Int×Int:=
 if 5000<(h.length:Int)then(2,-1)else if(h.length:Int)<49 then(9,-1)
 else match (List.range h.length).find? (fun i=> !decide (uY h i=0))with
  |some i=>(uY h i,i)
  |none=>if 20000<sumN (nodN h) h.length\/200000<sumN (bytN h) h.length then(14,-1)else(0,0)
def prD(p:Int×Int):D:= .agg [.v (.int .i64 p.1),.v (.int .i64 p.2)]
noncomputable abbrev okI (h:List Ob) (i:Nat):Bool:=decide (uY h i=0)
theorem bL0{h:List Ob}(h1:¬5000<(h.length:Int))(h2:¬(h.length:Int)<49)(x:Up h.length (okI h))(hk:x.k<h.length){c:Int}(hc:uY h x.k=c)(hne:c≠0):qJ h=(c,(x.k:Int)):=by
 subst hc;have:(List.range h.length).find? (fun i=> !decide (uY h i=0))=some x.k:=by
  rw[List.find?_range_eq_some];exact⟨by simpa using hne,Ct.2 hk,fun j hj=>by have:=x.all j hj;simpa using this⟩
 rw[qJ,Aa h1,Aa h2,this]
theorem cE0{h:List Ob}(h1:¬5000<(h.length:Int))(h2:¬(h.length:Int)<49)(x:Up h.length (okI h))(hk:¬x.k<h.length):qJ h=if 20000<sumN (nodN h) h.length\/200000<sumN (bytN h) h.length then(14,-1)else(0,0):=by
 have:(List.range h.length).find? (fun i=> !decide (uY h i=0))=none:=by
  rw[List.find?_range_eq_none];exact fun j hj=>by have:=x.all j om;simpa using this
 rw[qJ,Aa h1,Aa h2,this]
theorem gW1{k:Nat}(hk:(k:Int)<49):(bgS 49).getD k ob0=bgO k:=by
 have e:(bgS 49)[k]?=some (bgO k):=by rw[bgS,Cc,List.getElem?_range (by omega)];rfl
 rw[Ac,e];rfl
theorem nodN_le{h:List Ob}(hh:HpIn h)(i:Nat):nodN h i<=6000000:=by
 have hO:ObIn (yI h i):=hh.at i;have h1:=hO.il;have h2:=hO.kl;have h3:=hO.rl;unfold nodN;split<;>omega
theorem bytO_le{o:Ob}(hO:ObIn o)(k:Nat):bytO o k<=k*2000000:=
 jA0 (fun j=>by
  have:VlIn ((kvs o).getD j vl0):=dE (fun v hv=>(As.1 hv).elim (hO.iv v) (hO.kv v)) j;exact this.s) k
theorem dQ0{o:Ob}(hO:ObIn o){k:Nat}(hk:k<=(kvs o).length):bytO o k<=8000000000000:=by
 have h1:=bytO_le hO k;have h2:(kvs o).length=o.items.length+o.keys.length:=Af;have h3:=hO.il;have h4:=hO.kl;omega
theorem bytN_le{h:List Ob}(hh:HpIn h)(i:Nat):bytN h i<=8000000000000:=by
 unfold bytN;split
 ·omega
 ·exact dQ0 (hh.at i) (Aq _)
set_option maxHeartbeats 2000000 in
theorem Problem_ok(h:List Ob)(hh:HpIn h):Fx 21 [hpD md h] (prD (qJ h)):=by
 have hlh:=hh.len;refine yF zJ Tryz.func21 rfl rfl rfl rfl rfl rfl ?_;intros;refine zK 100 ?_;refine zB ?_;refine zB (zE zJ [] 200 rfl ?_);repeat(first|refine zH ?_|refine zT (by first|omega|(simp only[Ar];omega)) ?_)
 refine zC (zA (zW rfl (fun c1=>?_) (fun c1=>?_)))
 ·replace c1:=Ag c1
  refine zB (zE zJ [] 300 rfl ?_);refine zF ?_;refine zQ _ (mA _ _) rfl ?_;refine zf (zA (zM (zP ?_)));exact u4 rfl (u9 (by rw[qJ,Ab c1];rfl))
 ·replace c1:=of_decide_eq_false c1
  refine zL (zA (zB (zK 400 ?_)));refine zW rfl (fun c3=>?_) (fun c3=>?_)
  ·replace c3:=Ag c3
   refine zB (zE zJ [] 500 rfl ?_);refine zF ?_;refine zQ _ (mA _ _) rfl ?_;refine zf (zA (zM (zP ?_)));exact u4 rfl (u9 (by rw[qJ,Aa c1,Ab c3];rfl))
  ·replace c3:=of_decide_eq_false c3
   refine zL (zA ?_);refine zB (zE zJ [] 600 rfl ?_);refine zF ?_;refine zQ _ (Begin_ok) rfl ?_;refine zF ?_;refine zC (zA (zK 700 ?_));refine zB (zK 800 ?_);refine zO ?_;refine yC (ι:=Up h.length (okI h)) [1,2,3,25,26] [0,1,401] 850 (fun x=>[(27,.v (.int .i64 x.k)),(4,.v (.int .i64 (sumN (nodN h) x.k:Nat))),(5,.v (.int .i64 (sumN (bytN h) x.k:Nat)))]) (fun _=>[]) (fun x=>h.length-x.k) ⟨0,Ap _,fun j hj=>by omega⟩ ?_;refine⟨⟨yG,yE,rfl,rfl⟩,fun x=>?_⟩;have hk:=x.le;refine zK 900 ?_;refine zB (zW rfl (fun c8=>?_) (fun c8=>?_))
   ·replace c8:=Ag c8
    replace c8:x.k<h.length:=by omega
    have hn:inH h (x.k:Int):=⟨by omega,by omega⟩;have hO:ObIn (h.getD (x.k:Int).toNat ob0):=hh.at x.k;have hil:=hO.il;have hkl:=hO.kl;have hrl:=hO.rl;have hb4:=jA0 (nodN_le hh) x.k;have hb5:=jA0 (bytN_le hh) x.k;have hvl:(kvs (h.getD (x.k:Int).toNat ob0)).length=(h.getD (x.k:Int).toNat ob0).items.length+(h.getD (x.k:Int).toNat ob0).keys.length:=Af;refine zL (zA (zB (zO (zK 1000 ?_))));refine zB (zK 1100 ?_);refine zW rfl (fun c10=>?_) (fun c10=>?_)
    ·replace c10:=Ag c10
     refine zB ?_;refine zB (zX zJ [] [[],[],[1],[],[1,2,3],[1,2,3,4],(rgN 6),(rgN 7)] 1200 yT kr rfl ?_);repeat(first|refine zH ?_|refine zT (by first|exact⟨by omega,by show _<(bgS 49).length;rw[bK];omega⟩|(simp only[bK];omega)) ?_)
     refine zQ _ (SameObject_ok _ _) rfl ?_;repeat(first|refine zH ?_|refine zT (by first|exact⟨by omega,by show _<(bgS 49).length;rw[bK];omega⟩|(simp only[bK];omega)) ?_)
     refine zC (zA (zW rfl (fun c11=>?_) (fun c11=>?_)))
     ·replace c11:(!decide ((h.getD (x.k:Int).toNat ob0)=(bgS 49).getD x.k ob0))=true:=c11
      rw[gW1 c10]at c11
      replace c11:¬yI h x.k=bgO x.k:=by simpa using c11
      refine zB (zE zJ [] 1300 rfl ?_);refine zF ?_;refine zQ _ (mA _ _) rfl ?_;refine zf (zA (zM (zP (zP (zR (zP (yS (zR (zP ?_)))))))));exact u4 rfl (u9 (by rw[bL0 c1 c3 x c8 (by unfold uY;rw[Ab c10,Aa c11]) de];rfl))
     ·replace c11:(!decide ((h.getD (x.k:Int).toNat ob0)=(bgS 49).getD x.k ob0))=false:=c11
      rw[gW1 c10]at c11
      replace c11:yI h x.k=bgO x.k:=by simpa using c11
      refine zL (zA (zK 1400 ?_));refine yD (yA (zZ (zA (yM zJ [] 3600 ?_))));exact zS (x.next c8 (Bh (show uY h x.k=0 by unfold uY;exact by rw[Ab c10,Ab c11]))) ⟨⟨u21 (by show _=((x.k+1:Nat):Int);push_cast;rfl),u21 (by show _=((sumN (nodN h) (x.k+1):Nat):Int);rw[sumN,nodN,Ab c10];push_cast;rfl),u21 (by show _=((sumN (bytN h) (x.k+1):Nat):Int);rw[sumN,bytN,Ab c10,Cj]),by repeat(first|exact trivial|exact u0 _|refine⟨?_,?_⟩)⟩,yE,rfl,rfl⟩ (by show h.length-(x.k+1)<h.length-x.k;omega)
    ·replace c10:=of_decide_eq_false c10
     refine zL (zA (zB (zK 1500 ?_)));refine zW rfl (fun c14=>?_) (fun c14=>?_)
     ·try simp only[Ao,Cl]at c14
      refine zB (zE zJ [] 1600 rfl ?_);refine zF ?_;refine zQ _ (mA _ _) rfl ?_;refine zf (zA (zM (zP (zR (zP (yS (zR (zP ?_))))))));exact u4 rfl (u9 (by rw[bL0 c1 c3 x c8 (by unfold uY;rw[Aa c10,Ab c14]) de];rfl))
     ·have c14n:=c14;try simp only[Ay,De]at c14n
      replace c14:¬((h.getD (x.k:Int).toNat ob0).kind<0\/21<=(h.getD (x.k:Int).toNat ob0).kind):=by omega
      have hkd:0<=(h.getD (x.k:Int).toNat ob0).kind/\(h.getD (x.k:Int).toNat ob0).kind<21:=by omega
      refine zL (zA (zB ?_));refine zB (zX zJ [] [[],[],[0,1],[],[],(rgN 5),[],[],(rgN 8),[],[],(rgN 11),(rgN 12),(rgN 13),[]] 1700 yT kr rfl ?_);refine zF ?_;refine zQ _ (shape_ok _ _ ao ao) rfl ?_;refine zF ?_;refine zQ _ (sizes_ok _ _ ao ao ao) rfl ?_;refine zF ?_;refine zQ _ (names_ok _ _ ao ao) rfl ?_;refine zF ?_;refine zQ _ (values_ok _ _ ao ao) rfl ?_;refine zf (zA ?_);refine yK [1,2,3,4,5,6,7,25,26,27] [0,1,401,903] 1710 [(71,isD (bC h (h.getD (x.k:Int).toNat ob0))),(72,.v (.int .i64 4)),(73,.v (.int .i64 0))] [] ?_;refine⟨⟨⟨u13 rfl,u0 _,u0 _,by repeat(first|exact trivial|exact u0 _|refine⟨?_,?_⟩)⟩,yE,rfl,rfl⟩,?_⟩;refine zO ?_;refine yC (ι:=Up 4 (fun j=>decide ((bC h (h.getD (x.k:Int).toNat ob0)).getD j 0=0))) [1,2,3,4,5,6,7,25,26,27,71,72] [0,1,401,903] 1750 (fun y=>[(73,.v (.int .i64 y.k))]) (fun _=>[]) (fun y=>4-y.k) ⟨0,Ap _,fun j hj=>by omega⟩ ?_;refine⟨⟨yG,yE,rfl,rfl⟩,fun y=>?_⟩;have hky:=y.le;refine zK 1800 ?_;refine zB (zW rfl (fun c17=>?_) (fun c17=>?_))
      ·replace c17:=Ag c17
       replace c17:y.k<4:=by omega
       have hy:∀j,j<y.k->(bC h (h.getD (x.k:Int).toNat ob0)).getD j 0=0:=fun j hj=>Ag (y.all j hj);refine zL (zA (zB (zO ?_)));refine zB (zE zJ [] 1900 rfl ?_);repeat(first|refine zH ?_|refine zT (by exact⟨by omega,by show _<4;omega⟩) ?_)
       refine zC (zA (zK 2000 ?_));refine zW rfl (fun c19=>?_) (fun c19=>?_)
       ·replace c19:¬(bC h (h.getD (x.k:Int).toNat ob0)).getD y.k 0=0:=by simpa using c19
        refine zB (zE zJ [] 2100 rfl ?_);refine zF ?_;refine zQ _ (mA _ _) rfl ?_;refine zf (zA (zM (zR (zP (yS (zR (zP (zR (zP (yS (zR (zP ?_))))))))))));exact u4 rfl (u9 (by rw[bL0 c1 c3 x c8 (by unfold uY;rw[Aa c10,Aa c14,Aa (by rw[kB0 hy c19];exact c19),kB0 hy c19]) (c19)];rfl))
       ·replace c19:(bC h (h.getD (x.k:Int).toNat ob0)).getD y.k 0=0:=by simpa using c19
        refine zL (zN (zA (yM zJ [] 2200 ?_)));exact zS (y.next c17 (Bh c19)) ⟨⟨u21 (by show _=((y.k+1:Nat):Int);push_cast;rfl),by repeat(first|exact trivial|exact u0 _|refine⟨?_,?_⟩)⟩,yE,rfl,rfl⟩ (by show 4-(y.k+1)<4-y.k;omega)
      ·replace c17:=of_decide_eq_false c17
       have hyk4:y.k=4:=by omega
       have hy:∀j,j<4->(bC h (h.getD (x.k:Int).toNat ob0)).getD j 0=0:=fun j hj=>Ag (y.all j om);have h4:fstC (bC h (h.getD (x.k:Int).toNat ob0))=0:=xB0 hy;have hsh:jB (h.getD (x.k:Int).toNat ob0)=0:=hy 0 om;have hvs:jZ h (h.getD (x.k:Int).toNat ob0)=0:=hy 3 om;have hV:Vs h (h.getD (x.k:Int).toNat ob0):=kZ hvs;refine yD (yA (yB (zZ (zA (zB ?_)))));refine zB (zE zJ [] 2300 rfl ?_);refine zF ?_;refine zQ _ (links_ok _ _ ao ao ao ao) rfl ?_;refine zF ?_;refine zC (zA (zW rfl (fun c22=>?_) (fun c22=>?_)))
       ·replace c22:¬qU h (yI h x.k) x.k=true:=by simpa using c22
        refine zB (zE zJ [] 2400 rfl ?_);refine zF ?_;refine zQ _ (mA _ _) rfl ?_;refine zf (zA (zM (zP (zR (zP (yS (zR (zP ?_))))))));exact u4 rfl (u9 (by rw[bL0 c1 c3 x c8 (by unfold uY;rw[Aa c10,Aa c14,Ab h4,Aa c22]) de];rfl))
       ·replace c22:qU h (yI h x.k) x.k=true:=by simpa using c22
        refine zL (zA (zB ?_));refine zB (zE zJ [] 2500 rfl ?_);refine zF ?_;refine zQ _ (keyRule_ok _ _ ao ao) rfl ?_;refine zF ?_;refine zC (zA (zK 2600 ?_));refine zW rfl (fun c25=>?_) (fun c25=>?_)
        ·replace c25:¬keyS h (yI h x.k)=0:=by simpa using c25
         refine zB (zE zJ [] 2700 rfl ?_);refine zF ?_;refine zQ _ (mA _ _) rfl ?_;refine zf (zA (zM (zP (zR (zP (yS (zR (zP ?_))))))));exact u4 rfl (u9 (by rw[bL0 c1 c3 x c8 (by unfold uY;rw[Aa c10,Aa c14,Ab h4,Ab c22,Aa c25]) (c25)];rfl))
        ·replace c25:keyS h (yI h x.k)=0:=by simpa using c25
         refine zL (zA (zB ?_));refine zB (zE zJ [] 2800 rfl ?_);refine zF ?_;refine zQ _ (orderOk_ok _ _ hn hh (fun _ r hr=>yR (hV.refs r hr))) rfl ?_;refine zF ?_;refine zC (zA (zW rfl (fun c27=>?_) (fun c27=>?_)))
         ·replace c27:¬jJ h (yI h x.k) x.k=true:=by simpa using c27
          refine zB (zE zJ [] 2900 rfl ?_);refine zF ?_;refine zQ _ (mA _ _) rfl ?_;refine zf (zA (zM (zP (zR (zP (yS (zR (zP ?_))))))));exact u4 rfl (u9 (by rw[bL0 c1 c3 x c8 (by unfold uY;rw[Aa c10,Aa c14,Ab h4,Ab c22,Ab c25,Aa c27]) de];rfl))
         ·replace c27:jJ h (yI h x.k) x.k=true:=by simpa using c27
          refine zL (zA (zK 3000 ?_));refine zB (zX zJ [118] [[],[0],[0,1],[],[3],(rgN 5),(rgN 6),[]] 3100 yT kr rfl ?_);repeat(first|refine zH ?_|refine zT (by first|rfl|omega|(simp only[Ar];omega)) ?_)
          refine qR _ _ _ (kK _ ao) ?_;repeat(first|refine zH ?_|refine zT (by first|rfl|omega|(simp only[Ar];omega)) ?_)
          refine zC (zA ?_);refine yK [1,2,3,4,5,25,26,27] [0,1,401] 3110 [(121,.sl false 7 (kvs (h.getD (x.k:Int).toNat ob0)) vlD vl0),(122,.v (.int .i64 (kvs (h.getD (x.k:Int).toNat ob0)).length)),(123,.v (.int .i64 0))] [] ?_;refine⟨⟨⟨u5 (by rw[<-Ad]),u21 (by simp),u0 _,by repeat(first|exact trivial|exact u0 _|refine⟨?_,?_⟩)⟩,yE,rfl,rfl⟩,?_⟩;refine zO ?_;refine yC (ι:=Up (kvs (h.getD (x.k:Int).toNat ob0)).length (fun _=>true)) [1,2,3,4,25,26,27,121,122] [0,1,401] 3150 (fun z=>[(123,.v (.int .i64 z.k)),(5,.v (.int .i64 ((sumN (bytN h) x.k+bytO (h.getD (x.k:Int).toNat ob0) z.k:Nat):Int)))]) (fun _=>[]) (fun z=>(kvs (h.getD (x.k:Int).toNat ob0)).length-z.k) ⟨0,Ap _,fun j hj=>by omega⟩ ?_;refine⟨⟨yG,yE,rfl,rfl⟩,fun z=>?_⟩;have hkz:=z.le;refine zK 3200 ?_;refine zB (zW rfl (fun c31=>?_) (fun c31=>?_))
          ·replace c31:=Ag c31
           replace c31:z.k<(kvs (h.getD (x.k:Int).toNat ob0)).length:=by omega
           have hb6:=dQ0 hO z.le;have hvz:VlIn ((kvs (h.getD (x.k:Int).toNat ob0)).getD z.k vl0):=dE (fun v hv=>(As.1 hv).elim (hO.iv v) (hO.kv v)) z.k;have hvs6:((kvs (h.getD (x.k:Int).toNat ob0)).getD (z.k:Int).toNat vl0).s.size<=2000000:=hvz.s;refine zL (zA (zB (zO (zK 3300 ?_))));refine zE zJ [] 3400 rfl ?_;repeat(first|refine zH ?_|refine zT (by first|exact ini (by omega) (by omega)|omega) ?_)
           refine zC (zN (zA (yM zJ [] 3500 ?_)));exact zS (z.next c31 rfl) ⟨⟨u21 (by show _=((z.k+1:Nat):Int);push_cast;rfl),u21 (by show _=((sumN (bytN h) x.k+bytO (h.getD (x.k:Int).toNat ob0) (z.k+1):Nat):Int);rw[bytO_succ];simp only[Ah];push_cast;omega),by repeat(first|exact trivial|exact u0 _|refine⟨?_,?_⟩)⟩,yE,rfl,rfl⟩ (by show(kvs (h.getD (x.k:Int).toNat ob0)).length-(z.k+1)<(kvs (h.getD (x.k:Int).toNat ob0)).length-z.k;omega)
          ·replace c31:=of_decide_eq_false c31
           have hyk:z.k=(kvs (h.getD (x.k:Int).toNat ob0)).length:=by have:=z.le;omega
           refine yD (yA (yB (zZ (zN (zA (yM zJ [] 3600 ?_))))));exact zS (x.next c8 (Bh (show uY h x.k=0 by unfold uY;exact by rw[Aa c10,Aa c14,Ab h4,Ab c22,Ab c25,Ab c27]))) ⟨⟨u21 (by show _=((x.k+1:Nat):Int);push_cast;rfl),u21 (by show _=((sumN (nodN h) (x.k+1):Nat):Int);rw[sumN,nodN,Aa c10];push_cast;rfl),u21 (by show _=((sumN (bytN h) (x.k+1):Nat):Int);rw[sumN,bytN,Aa c10];rw[show bytO (yI h x.k) (kvs (yI h x.k)).length=bytO (h.getD (x.k:Int).toNat ob0) z.k from(congrArg (bytO (h.getD (x.k:Int).toNat ob0)) hyk).symm];try (push_cast;rfl)),by repeat(first|exact trivial|exact u0 _|refine⟨?_,?_⟩)⟩,yE,rfl,rfl⟩ (by show h.length-(x.k+1)<h.length-x.k;omega)
   ·replace c8:=of_decide_eq_false c8
    replace c8:¬x.k<h.length:=by omega
    have hxk:x.k=h.length:=by omega
    refine yD (yA (yB (zZ (zA (zB (zK 3700 ?_))))));refine zW rfl (fun c36=>?_) (fun c36=>?_)
    ·try simp only[Ao,Cl]at c36
     refine zB (zE zJ [] 3800 rfl ?_);refine zF ?_;refine zQ _ (mA _ _) rfl ?_;refine zf (zA (zM (zP ?_)));exact u4 rfl (u9 (by rw[cE0 c1 c3 x c8,Ab (by rw[hxk]at c36;omega)];rfl))
    ·try simp only[Ay,De]at c36
     refine zL (zA (zK 3900 ?_));refine zM ?_;exact u4 rfl (u9 (by rw[cE0 c1 c3 x c8,Aa (by rw[hxk]at c36;omega)];rfl))
variable{md me:Bool}
noncomputable def dF (h:List Ob) (vs:List Vl):Bool:=decide ((qJ h).1=0)&&vs.all (uB h)
theorem xA0:∀{l:List Int},fstC l=0->∀j,l.getD j 0=0
 |[],_,j=>by simp
 |c::l,h,j=>by
  rw[fstC]at h;split at h
  ·rename_i h0
   match j with
   |0=>simpa using h0
   |j+1=>simpa using xA0 h j
  ·rename_i h0;exact absurd h h0
structure Uh(h:List Ob):Prop where
 lo:49<=h.length
 hi:h.length<=6000
 code:∀i,i<h.length->uY h i=0
theorem gN1{h:List Ob}(hp:(qJ h).1=0):h.length<=5000:=by
 unfold qJ at hp;split at hp
 ·exact absurd hp de
 ·omega
theorem vI1{h:List Ob}(hp:(qJ h).1=0):Uh h:=by
 unfold qJ at hp;split at hp
 ·exact absurd hp de
 ·rename_i h1;split at hp
  ·exact absurd hp de
  ·rename_i h2;split at hp
   ·rename_i i hi;rw[List.find?_range_eq_some]at hi;exact absurd hp (by simpa using hi.1)
   ·rename_i hn;rw[List.find?_range_eq_none]at hn;exact⟨by omega,by omega,fun i hi=>by simpa using hn i hi⟩
structure Uho(h:List Ob)(o:Ob)(i:Nat):Prop where
 kind:0<=o.kind/\o.kind<21
 shape:jB o=0
 sizes:uL o=0
 names:cU0 o=0
 vals:jZ h o=0
 links:qU h o i=true
 keys:keyS h o=0
 order:jJ h o i=true
theorem Uh.lo_at{h:List Ob}(g:Uh h){i:Nat}(hi:i<49):yI h i=bgO i:=by
 have:=g.code i (by have:=g.lo;omega);unfold uY at this;rw[Ab om]at this;split at this
 ·assumption
 ·cases this
theorem Uh.hi_at{h:List Ob}(g:Uh h){i:Nat}(h1:49<=i)(h2:i<h.length):Uho h (yI h i) i:=by
 have:=g.code i h2;unfold uY at this;rw[Aa om]at this;split at this
 ·cases this
 ·rename_i hk;split at this
  ·rename_i hf;split at this
   ·rename_i hl;split at this
    ·rename_i hy;split at this
     ·rename_i ho;have hz:=xA0 hf;exact⟨by omega,hz 0,hz 1,hz 2,hz 3,hl,hy,ho⟩
     ·cases this
    ·rename_i hy;exact absurd this hy
   ·cases this
  ·rename_i hf;exact absurd this hf
theorem xW{h:List Ob}{n:Int}(hn:inH h n):yI h n=yI h ((n.toNat:Nat):Int):=by rfl
theorem Uh.cls{h:List Ob}(g:Uh h){n:Int}(hn:inH h n)(hk:(yI h n).kind=10):inH h (yI h n).cls:=by
 by_cases h49:n.toNat<49
 ·have:=g.lo_at h49;rw[show yI h n=bgO n.toNat from this]at hk;exact absurd hk (by show ¬(9:Int)=10;decide)
 ·exact yR (kZ (g.hi_at om hn.2).vals).cls
theorem Uh.items{h:List Ob}(g:Uh h){n:Int}(hn:inH h n){v:Vl}(hv:v∈(yI h n).items)(hk:v.k=6):yU h v.r=true:=by
 by_cases h49:n.toNat<49
 ·rw[show yI h n=bgO n.toNat from g.lo_at h49]at hv;exact absurd hv (by show ¬v∈([]:List Vl);simp)
 ·exact(kZ (g.hi_at om hn.2).vals).vals v (As.2 (.inr hv)) hk
theorem uF{h:List Ob}{v:Vl}(hh:uB h v=true)(hk:v.k=6):yU h v.r=true:=by
 simp only[uB,Aj,Cl,Bo,Ay]at hh;exact hh.2.resolve_left fun hn=>hn hk
theorem jV{h:List Ob}{v:Vl}(hk:(zU h v).kind≠0):v.k=6/\yU h v.r=true/\zU h v=yI h v.r:=by
 unfold zU at hk⊢;split at hk
 ·rename_i h1;exact⟨h1.1,h1.2,Ab h1⟩
 ·exact absurd rfl hk
theorem xV{h:List Ob}{v:Vl}(hv:v.k=6->yU h v.r=true)(hk:v.k=6):zU h v=yI h v.r:=Ab ⟨hk,hv hk⟩
theorem wE{h:List Ob}{v:Vl}(hk:¬v.k=6):zU h v=ob0:=Aa fun hh=>hk hh.1
theorem Usable_ok(h:List Ob)(vs:List Vl)(hh:HpIn h)(hin:∀v∈vs,VlIn v)(hl:vs.length<=2000000):Fx 4 [hpD md h,vsD vs] (.v (.bool (dF h vs))):=by
 refine yF zJ Tryz.func4 rfl rfl rfl rfl rfl rfl ?_;intros;refine zK 100 ?_;refine zB ?_;refine zB (zE zJ [] 200 rfl ?_);refine zF ?_;refine zQ _ (Problem_ok _ ao) rfl ?_;refine zF ?_;refine zC (zA (zW rfl (fun c1=>?_) (fun c1=>?_)))
 ·replace c1:¬(qJ h).1=0:=by simpa using c1
  refine zK 300 ?_;refine zM (zP ?_);exact u4 rfl (u7 (by rw[dF,Ca c1];rfl))
 ·replace c1:(qJ h).1=0:=by simpa using c1
  refine zL (zA (zB (zK 400 ?_)));refine zO ?_;refine yC (ι:=Al vs (uB h)) [2,11,12] [0] 450 (fun x=>[(13,.v (.int .i64 x.k))]) (fun _=>[]) (fun x=>vs.length-x.k) ⟨0,Ap _,fun j x hj=>by omega⟩ ?_;refine⟨⟨yG,yE,rfl,rfl⟩,fun x=>?_⟩;have hk:=x.le;refine zK 500 ?_;refine zB (zY (fun c4=>?_) (fun c4=>?_))
  ·
   refine zL (zA (zB (zO (zK 600 ?_))));refine zB (zE zJ [] 700 rfl ?_);refine zF ?_;refine zQ _ (Has_ok _ _ (hin _ (jK c4 vl0))) rfl ?_;refine zF ?_;refine zC (zA (zW rfl (fun c6=>?_) (fun c6=>?_)))
   ·simp only[Bo]at c6;refine zK 800 ?_;refine zM (zR (zP (yS (zR (zP ?_)))));exact u4 rfl (u7 (by rw[dF,Al.no (p:=uB h) (e:=vl0) c4 c6,Bool.and_false]))
   ·simp only[Bz]at c6;refine zL (zN (zA (yM zJ [] 900 ?_)));exact zS (x.next (e:=vl0) c4 c6) ⟨yG,yE,rfl,rfl⟩ (by show vs.length-(x.k+1)<vs.length-x.k;omega)
  ·
   refine yD (yA (yB (zZ (zA (zK 1000 ?_)))));refine zM ?_;exact u4 rfl (u7 (by rw[dF,Bh c1,x.yes c4];rfl))
variable{md me:Bool}
structure St where
 k:Int
 v:Vl
 c:Int
 s:ByteArray
 w:Vl
 l:List Vl
def stD(s:St):List D:= .v (.int .i64 s.k)::(vlD s.v++(.v (.int .i64 s.c):: .v (.string s.s)::(vlD s.w++[.sl false 7 s.l vlD vl0])))
def smSt(a b:St):Bool:=((((decide (a.k=b.k)&&decide (a.c=b.c))&&decide (a.s=b.s))&&decide (a.v=b.v))&&decide (a.w=b.w))&&decide (a.l=b.l)
theorem smSt_self(a:St):smSt a a=true:=by simp[smSt]
def raS(c:Int)(m:ByteArray):St:=⟨1,vl0,c,m,vl0,[]⟩
def vlS(v:Vl):St:=⟨0,v,0,ByteArray.empty,vl0,[]⟩
theorem kY(c:Int)(m:ByteArray):Fx 37 [.v (.int .i64 c),.v (.string m)] (.agg (stD (raS c m))):=by
 refine yF zJ Tryz.func37 rfl rfl rfl rfl rfl rfl ?_;intros;refine zK 100 ?_;refine zK 200 ?_;refine zM ?_;exact u4 rfl (u20 nz)
theorem jO(v:Vl):Fx 34 [.agg (vlD v)] (.agg (stD (vlS v))):=by
 refine yF zJ Tryz.func34 rfl rfl rfl rfl rfl rfl ?_;intros;refine zK 100 ?_;refine zK 200 ?_;refine zM ?_;exact u4 rfl (u20 nz)
theorem SameStep_ok(a b:St):Fx 9 [.agg (stD a),.agg (stD b)] (.v (.bool (smSt a b))):=by
 refine yF zJ Tryz.func9 rfl rfl rfl rfl rfl rfl ?_;intros;refine zK 100 ?_;refine zB (zE zJ [] 200 rfl ?_);refine zF ?_;refine yN _ (fun hg24=>vV a.v b.v) rfl ?_;refine zF ?_;refine yN _ (fun hg31=>vV a.w b.w) rfl ?_;refine zF ?_;refine yN _ (fun hg38=>gK a.l b.l) rfl ?_;refine zf (zA (zM ?_));exact u4 rfl (u6 _)
variable{md me:Bool}
section
variable{h:List Ob}{v:Vl}{b:Bool}{l:List Vl}{k:Nat}
end
end Go.Proofs.YtpmjepoceakikaaGreatDoor
