/-Part 18 of the proof. -/
import Derived.Test.YtammfbdgjnkolaaGreatDoorM17
namespace Go.Proofs.YtammfbdgjnkolaaGreatDoor
open Go.RowKit
variable{md me:Bool}
def jA0:List ByteArray:=[⟨#[97,114,103,115]⟩,⟨#[99,97,117,115,101]⟩,⟨#[99,111,110,116,101,120,116]⟩,⟨#[116,114,97,99,101]⟩]
def vH0:List ByteArray:=jA0++[⟨#[109,101,109,98,101,114,115]⟩]
abbrev midV(l:List Vl):List Vl:=(l.drop (Int.toNat 1)).take ((3:Int).toNat-Int.toNat 1)
def cauP(h:List Ob)(v:Vl):Bool:= !(!decide (v.k=0)&& !excS h v)
def mkP(h:List Ob)(v:Vl):Bool:= !(((!decide ((zT h v).kind=1)|| !decide (((zT h v).items.length:Int)=2))|| !decide (((zT h v).items.getD (Int.toNat 0) vl0).k=4))|| !decide (((zT h v).items.getD (Int.toNat 1) vl0).k=2))
def memP(h:List Ob)(i:Int)(v:Vl):Bool:= !(!excS h v||decide (i<=v.r))
def vG0(o:Ob)(w:List ByteArray):Bool:=decide ((o.names.length:Int)<w.length)|| !decide (((o.names.drop (Int.toNat 0)).take ((w.length:Int).toNat-Int.toNat 0))=w)
def xL(h:List Ob)(o:Ob)(i:Int):Bool:=
 if hasB (yJ h o.cls).order 48=true then
  (if vG0 o vH0=true then false
  else if(midV o.items).all (cauP h)=false then false
  else if(!decide ((zT h (o.items.getD (Int.toNat 0) vl0)).kind=1)|| !decide ((zT h (o.items.getD (Int.toNat 3) vl0)).kind=1))=true then false
  else if(zT h (o.items.getD (Int.toNat 3) vl0)).items.all (mkP h)=false then false
  else if(zT h (o.items.getD (Int.toNat 4) vl0)).items.all (memP h i)=false then false
  else(decide ((zT h (o.items.getD (Int.toNat 4) vl0)).kind=1)&&decide ((0:Int)<(zT h (o.items.getD (Int.toNat 4) vl0)).items.length))&&decide ((0:Int)<(zT h (o.items.getD (Int.toNat 0) vl0)).items.length))
 else
  (if vG0 o jA0=true then false
  else if(midV o.items).all (cauP h)=false then false
  else if(!decide ((zT h (o.items.getD (Int.toNat 0) vl0)).kind=1)|| !decide ((zT h (o.items.getD (Int.toNat 3) vl0)).kind=1))=true then false
  else if(zT h (o.items.getD (Int.toNat 3) vl0)).items.all (mkP h)=false then false
  else true)
theorem pB{o:Ob}{w:List ByteArray}(h:vG0 o w=false):w.length<=o.names.length:=by
 simp only[vG0,Dt,Ay]at h;omega
theorem mid_len(l:List Vl):(midV l).length<=2:=by
 show((l.drop 1).take (3-1)).length<=2;rw[As];omega
theorem jE1{P:Program}{E:Pn}{K:DS->Prop}{p:Prop}{r:Out}(hr:r.sat P E K)(hp:p:=by first|rfl|(intro hh;simp only[Bq,Ay]at hh;refine⟨by decide,?_,?_⟩<;>(simp only[Ae,Am,Au]at hh⊢;omega))):(Out.need p r).sat P E K:=⟨hp,hr⟩
theorem bR0{P:Program}{E:Pn}{K:DS->Prop}{p:Prop}{r:Out}(hr:r.sat P E K)(hp:p:=by(refine⟨by decide,?_⟩;show _<(h.getD n.toNat ob0).items.length;have:=pB c6w;simp only[jA0,vH0,Ae,Am,Au]at this;omega)):(Out.need p r).sat P E K:=⟨hp,hr⟩
theorem jD1{P:Program}{E:Pn}{K:DS->Prop}{p:Prop}{r:Out}(hr:r.sat P E K)(hp:p:=by(refine⟨by decide,?_⟩;show _<(h.getD n.toNat ob0).items.length;have:=pB c6w;first|(simp only[vH0,jA0,Ae,Am,Au]at this;omega)|exact absurd c24 (by rw[c4];decide))):(Out.need p r).sat P E K:=⟨hp,hr⟩
set_option maxHeartbeats 1000000 in
theorem exceptionOk_ok(h:List Ob)(n:Int)(hn:inH h n)(hh:HpIn h)(hc:inH h (yJ h n).cls)(hit:(yJ h n).items.length=(yJ h n).names.length):Fx 117 [hpD md h,.v (.int .i64 n)] (.v (.bool (xL h (yJ h n) n))):=by
 have hO:ObIn (h.getD n.toNat ob0):=hh.at n;have hil:=hO.il;have hnl:=hO.nl;have hit:(h.getD n.toNat ob0).items.length=(h.getD n.toNat ob0).names.length:=hit;have htl:=(jV0 hh ((h.getD n.toNat ob0).items.getD (Int.toNat 3) vl0)).il;have hml:=(jV0 hh ((h.getD n.toNat ob0).items.getD (Int.toNat 4) vl0)).il;have hmd:=mid_len (h.getD n.toNat ob0).items;refine yD zJ Tryz.func117 rfl rfl rfl rfl rfl rfl ?_;intros;refine zK 100 ?_;refine zB (zE zJ [] 200 rfl ?_);repeat(first|refine zH ?_|refine zW (by exact hn) ?_)
 refine zC (zA ?_);refine zB (zE zJ [23] 300 rfl ?_);repeat(first|refine zH ?_|refine zW (by first|rfl|exact trivial) ?_)
 refine zC (zA ?_);refine zB (zE zJ [] 400 rfl ?_);repeat(first|refine zH ?_|refine zW (by exact hc) ?_)
 refine zQ _ (uV _ _) rfl ?_;repeat(first|refine zH ?_|refine zW (by exact hc) ?_)
 refine zC (zA (zB (zK 500 ?_)));refine zU rfl (fun c4=>?_) (fun c4=>?_)
 ·
  refine zE zJ [] 600 rfl ?_;repeat(first|refine zH ?_|refine zW (by first|rfl|decide|(show 4+1<=1073741824;omega)) ?_)
  refine zC (zA (zB ?_));refine zB (zE zJ [] 700 rfl ?_);repeat(first|refine zH ?_|refine jE1 ?_)
  refine yR _ (fun hg13=>(bP _ vH0).args ⟨u6 _,SubP.ownSl (k:=200) rfl,trivial⟩) rfl ?_;repeat(first|refine zH ?_|refine jE1 ?_)
  refine zC (zA (zU rfl (fun c6=>?_) (fun c6=>?_)))
  ·have c6w:vG0 (h.getD n.toNat ob0) vH0=true:=c6;refine zK 800 ?_;refine zL (zO ?_);exact u4 rfl (u7 (by rw[xL,Ab c4,Ab c6w]))
  ·have c6w:vG0 (h.getD n.toNat ob0) vH0=false:=c6;refine zM (zA ?_);refine zB (zX zJ [] mK13 900 yP kr rfl ?_);repeat(first|refine zH ?_|refine bR0 ?_)
   refine zQ _ (jL _ _) rfl ?_;repeat(first|refine zH ?_|refine bR0 ?_)
   refine zQ _ (jL _ _) rfl ?_;repeat(first|refine zH ?_|refine bR0 ?_)
   refine zC (zA (zB ?_));refine zB (zE zJ [] 1000 rfl ?_);repeat(first|refine zH ?_|refine zW (by(refine⟨by decide,by decide,?_⟩;have:=pB c6w;simp only[jA0,vH0,Ae,Am,Au]at this;omega)) ?_)
   refine zC (zA (zP ?_));refine yC (ι:=Al (midV (h.getD n.toNat ob0).items) (cauP h)) [1,2,5,7,8,9,66,67] [0,105,712,713] 1050 (fun x=>[(68,.v (.int .i64 x.k))]) (fun _=>[]) (fun x=>(midV (h.getD n.toNat ob0).items).length-x.k) ⟨0,Aq _,fun j x hj=>by omega⟩ ?_;refine⟨⟨yG,yF,rfl,rfl⟩,fun x=>?_⟩;have hk:=x.le;refine zK 1100 ?_;refine zB (zZ (fun c10=>?_) (fun c10=>?_))
   ·
    refine zM (zA (zB (zP (zK 1200 ?_))));refine zB (zE zJ [] 1300 rfl ?_);refine zF ?_;refine yR _ (fun hg6=>wY _ _) rfl ?_;refine zF ?_;refine zC (zA (zU rfl (fun c12=>?_) (fun c12=>?_)))
    ·
     refine zK 1400 ?_;refine zL (zR (zO (yQ (zR (zO ?_)))));exact u4 rfl (u7 (by rw[xL,Ab c4,Aa (by rw[c6w];decide),Ab (Al.no (p:=cauP h) (e:=vl0) c10 (congrArg Bool.not c12))]))
    ·
     refine zM (zN (zA (yM zJ [] 1500 ?_)));exact zS (x.next (e:=vl0) c10 (congrArg Bool.not c12)) ⟨yG,yF,rfl,rfl⟩ (by have c10b:x.k<(midV (h.getD n.toNat ob0).items).length:=c10;show(midV (h.getD n.toNat ob0).items).length-(x.k+1)<(midV (h.getD n.toNat ob0).items).length-x.k;omega)
   ·
    refine yE (yA (yB (zY (zA (zB (zK 1600 ?_))))));refine zU rfl (fun c15=>?_) (fun c15=>?_)
    ·
     refine zK 1700 ?_;refine zL (zO ?_);exact u4 rfl (u7 (by rw[xL,Ab c4,Aa (by rw[c6w];decide),Aa (by rw[x.yes c10];decide),Ab c15]))
    ·
     refine zM (zA (zB (zK 1800 ?_)));refine zP ?_;have hA:=x.yes c10;refine yC (ι:=Al (zT h ((h.getD n.toNat ob0).items.getD (Int.toNat 3) vl0)).items (mkP h)) [1,2,5,7,8,91,92] [0,105,712] 1850 (fun x=>[(93,.v (.int .i64 x.k))]) (fun _=>[]) (fun x=>(zT h ((h.getD n.toNat ob0).items.getD (Int.toNat 3) vl0)).items.length-x.k) ⟨0,Aq _,fun j x hj=>by omega⟩ ?_;refine⟨⟨yG,yF,rfl,rfl⟩,fun x=>?_⟩;have hk:=x.le;refine zK 1900 ?_;refine zB (zZ (fun c18=>?_) (fun c18=>?_))
     ·
      refine zM (zA (zB (zP (zK 2000 ?_))));refine zB (zE zJ [] 2100 rfl ?_);refine zF ?_;refine zQ _ (jL _ _) rfl ?_;refine zf (zA ?_);refine zB (zE zJ [] 2200 rfl ?_);repeat(first|refine zH ?_|refine zW (by first|(intro hh;simp only[Bq,Dt,Cb,Ap]at hh;refine⟨by decide,?_⟩;omega)|omega) ?_)
      refine zC (zA (zU rfl (fun c21=>?_) (fun c21=>?_)))
      ·
       refine zK 2300 ?_;refine zL (zR (zO (yQ (zR (zO ?_)))));exact u4 rfl (u7 (by rw[xL,Ab c4,Aa (by rw[c6w];decide),Aa (by rw[hA];decide),Aa (by rw[c15];decide),Ab (Al.no (p:=mkP h) (e:=vl0) c18 (congrArg Bool.not c21))]))
      ·
       refine zM (zN (zA (yM zJ [] 2400 ?_)));exact zS (x.next (e:=vl0) c18 (congrArg Bool.not c21)) ⟨yG,yF,rfl,rfl⟩ (by show(zT h ((h.getD n.toNat ob0).items.getD (Int.toNat 3) vl0)).items.length-(x.k+1)<(zT h ((h.getD n.toNat ob0).items.getD (Int.toNat 3) vl0)).items.length-x.k;omega)
     ·
      refine yE (yA (yB (zY (zA (zB (zK 2500 ?_))))));refine zU rfl (fun c24=>?_) (fun c24=>?_)
      ·
       refine zK 2600 ?_;refine zL (zO ?_);exact absurd c24 (by rw[c4];decide)
      ·
       refine zM (zA ?_);refine zB (zX zJ [] mK8 2700 yP kr rfl ?_);repeat(first|refine zH ?_|refine jD1 ?_)
       refine zQ _ (jL _ _) rfl ?_;repeat(first|refine zH ?_|refine jD1 ?_)
       refine zC (zA (zB (zK 2800 ?_)));refine zP ?_;have hB:=x.yes c18;refine yC (ι:=Al (zT h ((h.getD n.toNat ob0).items.getD (Int.toNat 4) vl0)).items (memP h n)) [1,2,8,15,135,136] [0,712,2506] 2850 (fun x=>[(137,.v (.int .i64 x.k))]) (fun _=>[]) (fun x=>(zT h ((h.getD n.toNat ob0).items.getD (Int.toNat 4) vl0)).items.length-x.k) ⟨0,Aq _,fun j x hj=>by omega⟩ ?_;refine⟨⟨yG,yF,rfl,rfl⟩,fun x=>?_⟩;have hk:=x.le;refine zK 2900 ?_;refine zB (zZ (fun c28=>?_) (fun c28=>?_))
       ·
        refine zM (zA (zB (zP (zK 3000 ?_))));refine zB (zE zJ [] 3100 rfl ?_);refine zF ?_;refine zQ _ (wY _ _) rfl ?_;refine zF ?_;refine zC (zA (zU rfl (fun c30=>?_) (fun c30=>?_)))
        ·
         refine zK 3200 ?_;refine zL (zR (zO (yQ (zR (zO ?_)))));exact u4 rfl (u7 (by rw[xL,Ab c4,Aa (by rw[c6w];decide),Aa (by rw[hA];decide),Aa (by rw[c15];decide),Aa (by rw[hB];decide),Ab (Al.no (p:=memP h n) (e:=vl0) c28 (congrArg Bool.not c30))]))
        ·
         refine zM (zN (zA (yM zJ [] 3300 ?_)));exact zS (x.next (e:=vl0) c28 (congrArg Bool.not c30)) ⟨yG,yF,rfl,rfl⟩ (by show(zT h ((h.getD n.toNat ob0).items.getD (Int.toNat 4) vl0)).items.length-(x.k+1)<(zT h ((h.getD n.toNat ob0).items.getD (Int.toNat 4) vl0)).items.length-x.k;omega)
       ·
        refine yE (yA (yB (zY (zA (zK 3400 ?_)))));refine zL ?_;exact u4 rfl (u7 (by rw[xL,Ab c4,Aa (by rw[c6w];decide),Aa (by rw[hA];decide),Aa (by rw[c15];decide),Aa (by rw[hB];decide),Aa (by rw[x.yes c28];decide)]))
 ·
  refine zM (zA (zB ?_));refine zB (zE zJ [] 700 rfl ?_);repeat(first|refine zH ?_|refine jE1 ?_)
  refine yR _ (fun hg13=>(bP _ jA0).args ⟨u6 _,SubP.ownSl (k:=200) rfl,trivial⟩) rfl ?_;repeat(first|refine zH ?_|refine jE1 ?_)
  refine zC (zA (zU rfl (fun c6=>?_) (fun c6=>?_)))
  ·have c6w:vG0 (h.getD n.toNat ob0) jA0=true:=c6;refine zK 800 ?_;refine zL (zO ?_);exact u4 rfl (u7 (by rw[xL,Aa (by rw[c4];decide),Ab c6w]))
  ·have c6w:vG0 (h.getD n.toNat ob0) jA0=false:=c6;refine zM (zA ?_);refine zB (zX zJ [] mK13 900 yP kr rfl ?_);repeat(first|refine zH ?_|refine bR0 ?_)
   refine zQ _ (jL _ _) rfl ?_;repeat(first|refine zH ?_|refine bR0 ?_)
   refine zQ _ (jL _ _) rfl ?_;repeat(first|refine zH ?_|refine bR0 ?_)
   refine zC (zA (zB ?_));refine zB (zE zJ [] 1000 rfl ?_);repeat(first|refine zH ?_|refine zW (by(refine⟨by decide,by decide,?_⟩;have:=pB c6w;simp only[jA0,vH0,Ae,Am,Au]at this;omega)) ?_)
   refine zC (zA (zP ?_));refine yC (ι:=Al (midV (h.getD n.toNat ob0).items) (cauP h)) [1,2,5,7,8,9,66,67] [0,105,712,713] 1050 (fun x=>[(68,.v (.int .i64 x.k))]) (fun _=>[]) (fun x=>(midV (h.getD n.toNat ob0).items).length-x.k) ⟨0,Aq _,fun j x hj=>by omega⟩ ?_;refine⟨⟨yG,yF,rfl,rfl⟩,fun x=>?_⟩;have hk:=x.le;refine zK 1100 ?_;refine zB (zZ (fun c10=>?_) (fun c10=>?_))
   ·
    refine zM (zA (zB (zP (zK 1200 ?_))));refine zB (zE zJ [] 1300 rfl ?_);refine zF ?_;refine yR _ (fun hg6=>wY _ _) rfl ?_;refine zF ?_;refine zC (zA (zU rfl (fun c12=>?_) (fun c12=>?_)))
    ·
     refine zK 1400 ?_;refine zL (zR (zO (yQ (zR (zO ?_)))));exact u4 rfl (u7 (by rw[xL,Aa (by rw[c4];decide),Aa (by rw[c6w];decide),Ab (Al.no (p:=cauP h) (e:=vl0) c10 (congrArg Bool.not c12))]))
    ·
     refine zM (zN (zA (yM zJ [] 1500 ?_)));exact zS (x.next (e:=vl0) c10 (congrArg Bool.not c12)) ⟨yG,yF,rfl,rfl⟩ (by have c10b:x.k<(midV (h.getD n.toNat ob0).items).length:=c10;show(midV (h.getD n.toNat ob0).items).length-(x.k+1)<(midV (h.getD n.toNat ob0).items).length-x.k;omega)
   ·
    refine yE (yA (yB (zY (zA (zB (zK 1600 ?_))))));refine zU rfl (fun c15=>?_) (fun c15=>?_)
    ·
     refine zK 1700 ?_;refine zL (zO ?_);exact u4 rfl (u7 (by rw[xL,Aa (by rw[c4];decide),Aa (by rw[c6w];decide),Aa (by rw[x.yes c10];decide),Ab c15]))
    ·
     refine zM (zA (zB (zK 1800 ?_)));refine zP ?_;have hA:=x.yes c10;refine yC (ι:=Al (zT h ((h.getD n.toNat ob0).items.getD (Int.toNat 3) vl0)).items (mkP h)) [1,2,5,7,8,91,92] [0,105,712] 1850 (fun x=>[(93,.v (.int .i64 x.k))]) (fun _=>[]) (fun x=>(zT h ((h.getD n.toNat ob0).items.getD (Int.toNat 3) vl0)).items.length-x.k) ⟨0,Aq _,fun j x hj=>by omega⟩ ?_;refine⟨⟨yG,yF,rfl,rfl⟩,fun x=>?_⟩;have hk:=x.le;refine zK 1900 ?_;refine zB (zZ (fun c18=>?_) (fun c18=>?_))
     ·
      refine zM (zA (zB (zP (zK 2000 ?_))));refine zB (zE zJ [] 2100 rfl ?_);refine zF ?_;refine zQ _ (jL _ _) rfl ?_;refine zf (zA ?_);refine zB (zE zJ [] 2200 rfl ?_);repeat(first|refine zH ?_|refine zW (by first|(intro hh;simp only[Bq,Dt,Cb,Ap]at hh;refine⟨by decide,?_⟩;omega)|omega) ?_)
      refine zC (zA (zU rfl (fun c21=>?_) (fun c21=>?_)))
      ·
       refine zK 2300 ?_;refine zL (zR (zO (yQ (zR (zO ?_)))));exact u4 rfl (u7 (by rw[xL,Aa (by rw[c4];decide),Aa (by rw[c6w];decide),Aa (by rw[hA];decide),Aa (by rw[c15];decide),Ab (Al.no (p:=mkP h) (e:=vl0) c18 (congrArg Bool.not c21))]))
      ·
       refine zM (zN (zA (yM zJ [] 2400 ?_)));exact zS (x.next (e:=vl0) c18 (congrArg Bool.not c21)) ⟨yG,yF,rfl,rfl⟩ (by show(zT h ((h.getD n.toNat ob0).items.getD (Int.toNat 3) vl0)).items.length-(x.k+1)<(zT h ((h.getD n.toNat ob0).items.getD (Int.toNat 3) vl0)).items.length-x.k;omega)
     ·
      refine yE (yA (yB (zY (zA (zB (zK 2500 ?_))))));refine zU rfl (fun c24=>?_) (fun c24=>?_)
      ·
       refine zK 2600 ?_;refine zL (zO ?_);exact u4 rfl (u7 (by rw[xL,Aa (by rw[c4];decide),Aa (by rw[c6w];decide),Aa (by rw[hA];decide),Aa (by rw[c15];decide),Aa (by rw[x.yes c18];decide)]))
      ·
       refine zM (zA ?_);refine zB (zX zJ [] mK8 2700 yP kr rfl ?_);repeat(first|refine zH ?_|refine jD1 ?_)
       refine zQ _ (jL _ _) rfl ?_;repeat(first|refine zH ?_|refine jD1 ?_)
       refine zC (zA (zB (zK 2800 ?_)));refine zP ?_;have hB:=x.yes c18;refine yC (ι:=Al (zT h ((h.getD n.toNat ob0).items.getD (Int.toNat 4) vl0)).items (memP h n)) [1,2,8,15,135,136] [0,712,2506] 2850 (fun x=>[(137,.v (.int .i64 x.k))]) (fun _=>[]) (fun x=>(zT h ((h.getD n.toNat ob0).items.getD (Int.toNat 4) vl0)).items.length-x.k) ⟨0,Aq _,fun j x hj=>by omega⟩ ?_;refine⟨⟨yG,yF,rfl,rfl⟩,fun x=>?_⟩;have hk:=x.le;refine zK 2900 ?_;refine zB (zZ (fun c28=>?_) (fun c28=>?_))
       ·
        refine zM (zA (zB (zP (zK 3000 ?_))));refine zB (zE zJ [] 3100 rfl ?_);refine zF ?_;refine zQ _ (wY _ _) rfl ?_;refine zF ?_;refine zC (zA (zU rfl (fun c30=>?_) (fun c30=>?_)))
        ·
         refine zK 3200 ?_;refine zL (zR (zO (yQ (zR (zO ?_)))));exact absurd c24 (by rw[c4];decide)
        ·
         refine zM (zN (zA (yM zJ [] 3300 ?_)));exact zS (x.next (e:=vl0) c28 (congrArg Bool.not c30)) ⟨yG,yF,rfl,rfl⟩ (by show(zT h ((h.getD n.toNat ob0).items.getD (Int.toNat 4) vl0)).items.length-(x.k+1)<(zT h ((h.getD n.toNat ob0).items.getD (Int.toNat 4) vl0)).items.length-x.k;omega)
       ·
        refine yE (yA (yB (zY (zA (zK 3400 ?_)))));refine zL ?_;exact absurd c24 (by rw[c4];decide)
variable{md me:Bool}
structure Vs(h:List Ob)(o:Ob):Prop where
 ok:∀v∈o.keys++o.items,qH (fixV o v)=true
 cls:qA h o.cls=true
 refs:∀r∈o.refs,qA h r=true
 order:∀r∈o.order,qA h r=true
 vals:∀v∈o.keys++o.items,v.k=6->qA h v.r=true
 weak:o.kind=18->o.state≠0->qA h (IntKind.i64.wrap (o.state-1))=true
theorem dU:∀{l:List Vl}{v:Vl},v∈l->v.k=6->v.r∈jU l
 |[],_,h,_=>by cases h
 |x::l,v,h,hk=>by
  rw[jU];rcases Bi.1 h with rfl|h
  ·rw[Ab hk];simp
  ·split
   ·exact Be _ (dU h hk)
   ·exact dU h hk
theorem tH{h:List Ob}{o:Ob}(hv:vH h o=0):Vs h o:=by
 unfold vH at hv;split at hv
 ·rename_i h1;split at hv
  ·rename_i h2;rw[Bl]at h1 h2
   have hm:∀r,(r=o.cls\/r∈o.refs\/r∈o.order)->qA h r=true:=fun r hr=>h2 r (by
    unfold vV kE;refine Av.2 (.inl (Av.2 (.inl ?_)));rcases hr with rfl|hr|hr
    ·simp
    ·simp[hr]
    ·simp[hr])
   refine⟨h1,hm _ (.inl rfl),fun r hr=>hm r (.inr (.inl hr)),fun r hr=>hm r (.inr (.inr hr)),fun v hv hk=>h2 _ ?_,fun hk hs=>h2 _ ?_⟩
   ·unfold vV;exact Av.2 (.inl (Av.2 (.inr (dU hv hk))))
   ·unfold vV;rw[Ab ⟨hk,hs⟩];simp
  ·cases hv
 ·cases hv
theorem gN0{o:Ob}(hs:jY o=0):(o.items.length:Int)=cntS o/\0<=o.code/\0<=o.state/\o.state<=mJ o.kind/\(o.kind≠9->o.order=[]):=by
 unfold jY at hs;split at hs
 ·split at hs
  ·cases hs
  ·rename_i h2;rw[Et]at h2;simp only[wT,Dt,Cb,Ap,Ay]at h2;obtain⟨⟨⟨⟨h3,h4⟩,h5⟩,h6⟩,h7⟩:=h2;refine⟨h3,by omega,by omega,by omega,fun hk=>?_⟩;rw[Ce hk,Bool.not_false,Dm,Ay]at h7;exact Bm om
 ·cases hs
theorem pY(k:Int)(c:UInt8)(hu:uI k≠⟨#[]⟩/\yT0 (uI k)≠42/\yT0 (uI k)≠61/\yT0 (uI k)≠58){o:Ob}(hk:o.kind=k):cntS o=IntKind.i64.wrap (IntKind.u8.wrap (yT0 (uI k)-48)):=by
 unfold cntS;rw[hk,Aa hu.1,Aa hu.2.1,Aa hu.2.2.1,Aa hu.2.2.2]
theorem cnt5{o:Ob}(hk:o.kind=5):cntS o=3:=by rw[pY 5 0 (by decide+kernel) hk];decide+kernel
theorem cnt8{o:Ob}(hk:o.kind=8):cntS o=2:=by rw[pY 8 0 (by decide+kernel) hk];decide+kernel
theorem cnt14{o:Ob}(hk:o.kind=14):cntS o=1:=by rw[pY 14 0 (by decide+kernel) hk];decide+kernel
theorem cnt15{o:Ob}(hk:o.kind=15):cntS o=2:=by rw[pY 15 0 (by decide+kernel) hk];decide+kernel
theorem jT1{o:Ob}(hk:o.kind=16):cntS o=2:=by rw[pY 16 0 (by decide+kernel) hk];decide+kernel
theorem kO1{o:Ob}(hk:o.kind=19):cntS o=2:=by rw[pY 19 0 (by decide+kernel) hk];decide+kernel
theorem kN1{o:Ob}(hk:o.kind=20):cntS o=1:=by rw[pY 20 0 (by decide+kernel) hk];decide+kernel
theorem cnt10{o:Ob}(hk:o.kind=10):cntS o=o.names.length:=by
 unfold cntS;rw[hk,Aa (by decide+kernel),Aa (by decide+kernel),Ab (by decide+kernel)]
def gR1(n:Int):Bool:=decide (n=0)||decide (28<=n)
def celP(h:List Ob)(r:Int):Bool:=decide ((yJ h r).kind=6)
def basP(h:List Ob)(i r:Int):Bool:= !((decide (i<=r)|| !decide ((yJ h r).kind=9))|| !gR1 r)
abbrev itm(o:Ob)(k:Int):Vl:=o.items.getD k.toNat vl0
def supT(h:List Ob)(o:Ob)(k:Int):Bool:=(decide ((zT h (itm o 0)).kind=9)&&qA h k)&&hasB (yJ h k).order (itm o 0).r
def jN(h:List Ob)(o:Ob)(i:Int):Bool:=
 if o.kind=5 then rngS o
 else if o.kind=7 then(if o.refs.all (celP h)=true then decide ((yJ h o.cls).kind=11)else false)
 else if o.kind=8 then qA1 h (itm o 0)
 else if o.kind=14 then qA1 h (itm o 0)
 else if o.kind=9 then(if o.refs.all (basP h i)=true then(decide (1<=(o.refs.length:Int))&&decide ((o.refs.length:Int)<=8))else false)
 else if o.kind=10 then(decide ((yJ h o.cls).kind=9)&&gR1 o.cls)&&(!hasB (yJ h o.cls).order 28||xL h o i)
 else if o.kind=15 then(if(zT h (itm o 1)).kind=10 then supT h o (zT h (itm o 1)).cls else if(zT h (itm o 1)).kind=9 then supT h o (itm o 1).r else false)
 else if o.kind=16 then(if(zT h (itm o 0)).kind=3 then(decide ((itm o 1).k=2)&& !(itm o 1).nn)else if(zT h (itm o 0)).kind=4 then(decide ((itm o 1).k=2)&& !(itm o 1).nn)
  else if(zT h (itm o 0)).kind=0 then((decide ((itm o 0).k=4)||decide ((itm o 0).k=5))&&decide ((itm o 1).k=0))
  else(((decide ((zT h (itm o 0)).kind=1)||decide ((zT h (itm o 0)).kind=2))||decide ((zT h (itm o 0)).kind=5))&&decide ((itm o 1).k=0)))
 else if o.kind=18 then(if 0<o.state then(decide ((yJ h (o.state-1)).kind=10)&&decide (49<=(yJ h (o.state-1)).cls))else true)
 else if o.kind=19 then decide ((zT h (itm o 0)).kind=17)
 else if o.kind=20 then(decide ((itm o 0).k=2)&& !(itm o 0).nn)
 else true
theorem vF0{n:Int}(h0:0<n)(h1:n<=9223372036854775807):IntKind.i64.wrap (n-1)=n-1:=InI.wrap ⟨by omega,by omega⟩
theorem jC1{P:Program}{E:Pn}{K:DS->Prop}{p:Prop}{r:Out}(hr:r.sat P E K)(hp:p:=by first|(refine⟨by decide,?_⟩;show _<(h.getD n.toNat ob0).items.length;first|(have:=cnt8 c13;omega)|(have:=cnt14 c14;omega))):(Out.need p r).sat P E K:=⟨hp,hr⟩
theorem vP0{P:Program}{E:Pn}{K:DS->Prop}{p:Prop}{r:Out}(hr:r.sat P E K)(hp:p:=by first|(intro hh;simp only[Aj]at hh;exact yW hh.2)):(Out.need p r).sat P E K:=⟨hp,hr⟩
theorem jB1{P:Program}{E:Pn}{K:DS->Prop}{p:Prop}{r:Out}(hr:r.sat P E K)(hp:p:=by first|(refine⟨by decide,?_⟩;show _<(h.getD n.toNat ob0).items.length;have:=jT1 c36;omega)|(intro _;(refine⟨by decide,?_⟩;show _<(h.getD n.toNat ob0).items.length;have:=jT1 c36;omega))):(Out.need p r).sat P E K:=⟨hp,hr⟩
set_option maxHeartbeats 1000000 in
theorem links_ok(h:List Ob)(n:Int)(hn:inH h n)(hh:HpIn h)(hv:vH h (yJ h n)=0)(hs:jY (yJ h n)=0):Fx 56 [hpD md h,.v (.int .i64 n)] (.v (.bool (jN h (yJ h n) n))):=by
 have hO:ObIn (h.getD n.toNat ob0):=hh.at n;have hil:=hO.il;have hrl:=hO.rl;have hst:=hO.st;have hV:Vs h (h.getD n.toNat ob0):=tH hv;have hS:((h.getD n.toNat ob0).items.length:Int)=cntS (h.getD n.toNat ob0):=(gN0 hs).1;have hcl:inH h (h.getD n.toNat ob0).cls:=yW hV.cls;refine yD zJ Tryz.func56 rfl rfl rfl rfl rfl rfl ?_;intros;refine zK 100 ?_;refine zB (zE zJ [] 200 rfl ?_);repeat(first|refine zH ?_|refine zW (by exact hn) ?_)
 refine zC (zA (zB (zK 300 ?_)));refine zP (zK 400 ?_);refine zZ (fun c3=>?_) (fun c3=>?_)
 ·
  refine zB (zE zJ [] 500 rfl ?_);refine zF ?_;refine zQ _ (RangeOk_ok (h.getD n.toNat ob0) (by have:=cnt5 c3;omega) hil) rfl ?_;refine zf (zA (zL (zR (zO ?_))));exact u4 rfl (u7 (by rw[jN,Ab c3]<;>rfl))
 ·
  refine zK 600 ?_;refine zZ (fun c5=>?_) (fun c5=>?_)
  ·
   refine zB (zK 700 ?_);refine zP ?_;refine yC (ι:=Al (h.getD n.toNat ob0).refs (celP h)) [2,5,30,31] [0,105] 750 (fun x=>[(32,.v (.int .i64 x.k))]) (fun _=>[]) (fun x=>(h.getD n.toNat ob0).refs.length-x.k) ⟨0,Aq _,fun j x hj=>by omega⟩ ?_;refine⟨⟨yG,yF,rfl,rfl⟩,fun x=>?_⟩;have hk:=x.le;refine zK 800 ?_;refine zB (zZ (fun c7=>?_) (fun c7=>?_))
   ·
    refine zM (zA (zB (zP (zK 900 ?_))));refine zB (zE zJ [] 1000 rfl ?_);repeat(first|refine zH ?_|refine zW (by exact yW (hV.refs _ (jH c7 0))) ?_)
    refine zC (zA (zU rfl (fun c9=>?_) (fun c9=>?_)))
    ·simp only[Bq]at c9;refine zK 1100 ?_;refine zL (zR (zO (yQ (zR (zO (zR (zO ?_)))))));exact u4 rfl (u7 (by rw[jN,Aa c3,Ab c5,Aa (by rw[Al.no (p:=celP h) (e:=(0:Int)) c7 c9];decide)]<;>rfl))
    ·simp only[Cb]at c9;refine zM (zN (zA (yM zJ [] 1200 ?_)));exact zS (x.next (e:=(0:Int)) c7 c9) ⟨yG,yF,rfl,rfl⟩ (by show(h.getD n.toNat ob0).refs.length-(x.k+1)<(h.getD n.toNat ob0).refs.length-x.k;omega)
   ·
    refine yE (yA (yB (zY (zA ?_))));refine zB (zE zJ [] 1300 rfl ?_);repeat(first|refine zH ?_|refine zW (by exact hcl) ?_)
    refine zC (zA (zL (zR (zO ?_))));exact u4 rfl (u7 (by rw[jN,Aa c3,Ab c5,Ab (x.yes c7)]<;>rfl))
  ·
   refine zB (zK 1400 ?_);refine zZ (fun c13=>?_) (fun c13=>?_)
   ·
    refine zM (zA (zZ (fun c13x=>?_) (fun c13x=>?_)))
    ·
     refine zB (zX zJ [] [[],[],[1],[1,2],[1,2,3],(rgN 5),(rgN 6)] 1600 yP kr rfl ?_);repeat(first|refine zH ?_|refine jC1 ?_)
     refine zQ _ (mZ _ _) rfl ?_;repeat(first|refine zH ?_|refine jC1 ?_)
     refine zC (zA (zL (zR (zO ?_))));exact u4 rfl (u7 (by rw[jN,Aa c3,Aa c5,Ab c13]<;>rfl))
    ·
     simp_all
   ·
    refine yM zJ [] 1500 ?_;refine zA (zZ (fun c14=>?_) (fun c14=>?_))
    ·
     refine zB (zX zJ [] [[],[],[1],[1,2],[1,2,3],(rgN 5),(rgN 6)] 1600 yP kr rfl ?_);repeat(first|refine zH ?_|refine jC1 ?_)
     refine zQ _ (mZ _ _) rfl ?_;repeat(first|refine zH ?_|refine jC1 ?_)
     refine zC (zA (zL (zR (zO ?_))));exact u4 rfl (u7 (by rw[jN,Aa c3,Aa c5,Aa c13,Ab c14]<;>rfl))
    ·
     refine zK 1700 ?_;refine zZ (fun c16=>?_) (fun c16=>?_)
     ·
      refine zB (zK 1800 ?_);refine zP ?_;refine yC (ι:=Al (h.getD n.toNat ob0).refs (basP h n)) [1,2,5,64,65] [0,105] 1850 (fun x=>[(66,.v (.int .i64 x.k))]) (fun _=>[]) (fun x=>(h.getD n.toNat ob0).refs.length-x.k) ⟨0,Aq _,fun j x hj=>by omega⟩ ?_;refine⟨⟨yG,yF,rfl,rfl⟩,fun x=>?_⟩;have hk:=x.le;refine zK 1900 ?_;refine zB (zZ (fun c18=>?_) (fun c18=>?_))
      ·
       refine zM (zA (zB (zP (zK 2000 ?_))));refine zB (zE zJ [] 2100 rfl ?_);refine zF ?_;refine yR _ (fun hg6=>qH0 _ _ (yW (hV.refs _ (jH c18 0)))) rfl ?_;refine zF ?_;refine yR _ (fun hg11=>qK1 _) rfl ?_;refine zF ?_;refine zC (zA (zU rfl (fun c20=>?_) (fun c20=>?_)))
       ·
        refine zK 2200 ?_;refine zL (zR (zO (yQ (zR (zO (zR (zO ?_)))))));exact u4 rfl (u7 (by rw[jN,Aa c3,Aa c5,Aa c13,Aa c14,Ab c16,Aa (by rw[Al.no (p:=basP h n) (e:=(0:Int)) c18 (congrArg Bool.not c20)];decide)]<;>rfl))
       ·
        refine zM (zN (zA (yM zJ [] 2300 ?_)));exact zS (x.next (e:=(0:Int)) c18 (congrArg Bool.not c20)) ⟨yG,yF,rfl,rfl⟩ (by show(h.getD n.toNat ob0).refs.length-(x.k+1)<(h.getD n.toNat ob0).refs.length-x.k;omega)
      ·
       refine yE (yA (yB (zY (zA (zK 2400 ?_)))));refine zL (zR (zO ?_));exact u4 rfl (u7 (by rw[jN,Aa c3,Aa c5,Aa c13,Aa c14,Ab c16,Ab (x.yes c18)]<;>rfl))
     ·
      refine zK 2500 ?_;refine zZ (fun c24=>?_) (fun c24=>?_)
      ·
       refine zB (zE zJ [] 2600 rfl ?_);repeat(first|refine zH ?_|refine zW (by first|exact hcl|(intro _;exact hcl)) ?_)
       refine zQ _ (qH0 _ _ hcl) rfl ?_;repeat(first|refine zH ?_|refine zW (by first|exact hcl|(intro _;exact hcl)) ?_)
       refine yR _ (fun hg7=>qK1 _) rfl ?_;repeat(first|refine zH ?_|refine zW (by first|exact hcl|(intro _;exact hcl)) ?_)
       refine yR _ (fun hg17=>uV _ _) rfl ?_;repeat(first|refine zH ?_|refine zW (by first|exact hcl|(intro _;exact hcl)) ?_)
       refine yR _ (fun hg22=>exceptionOk_ok _ _ hn hh hcl (by have:=cnt10 c24;show(h.getD n.toNat ob0).items.length=(h.getD n.toNat ob0).names.length;omega)) rfl ?_;repeat(first|refine zH ?_|refine zW (by first|exact hcl|(intro _;exact hcl)) ?_)
       refine zC (zA (zL (zR (zO ?_))));exact u4 rfl (u7 (by rw[jN,Aa c3,Aa c5,Aa c13,Aa c14,Aa c16,Ab c24]<;>rfl))
      ·
       refine zK 2700 ?_;refine zZ (fun c26=>?_) (fun c26=>?_)
       ·
        refine zB (zX zJ [] [[],[0],[0,1],[0,1,2],[],[4],[4,5],[4,5,6],[],[],[0,1,2,3,8,9],(rgN 11)] 2800 yP kr rfl ?_);repeat(first|refine zH ?_|refine zW (by(refine⟨by decide,?_⟩;show _<(h.getD n.toNat ob0).items.length;have:=cnt15 c26;first|omega|(rw[show Int.toNat 0=0 from rfl];omega))) ?_)
        refine zC (zA (zK 2900 ?_));refine zB ?_;refine zB (zE zJ [] 3000 rfl ?_);refine zF ?_;refine zQ _ (jL _ _) rfl ?_;refine zF ?_;refine zC (zA (zK 3100 ?_));refine zP (zK 3300 ?_);refine zZ (fun c32=>?_) (fun c32=>?_)
        ·
         refine yM zJ [] 3400 ?_;refine zN (zA ?_);refine zB (zX zJ [] mK14 3600 yP kr rfl ?_);repeat(first|refine zH ?_|refine vP0 ?_)
         refine zQ _ (jL _ _) rfl ?_;repeat(first|refine zH ?_|refine vP0 ?_)
         refine yR _ (fun hg8=>uQ _ _) rfl ?_;repeat(first|refine zH ?_|refine vP0 ?_)
         refine yR _ (fun hg19=>uV _ _) rfl ?_;repeat(first|refine zH ?_|refine vP0 ?_)
         refine zC (zA (zL (zR (zO ?_))));exact u4 rfl (u7 (by rw[jN,Aa c3,Aa c5,Aa c13,Aa c14,Aa c16,Aa c24,Ab c26,Ab c32]<;>rfl))
        ·
         refine zK 3500 ?_;refine zZ (fun c34=>?_) (fun c34=>?_)
         ·
          refine zM (zN (zA ?_));refine zB (zX zJ [] mK14 3600 yP kr rfl ?_);repeat(first|refine zH ?_|refine vP0 ?_)
          refine zQ _ (jL _ _) rfl ?_;repeat(first|refine zH ?_|refine vP0 ?_)
          refine yR _ (fun hg8=>uQ _ _) rfl ?_;repeat(first|refine zH ?_|refine vP0 ?_)
          refine yR _ (fun hg19=>uV _ _) rfl ?_;repeat(first|refine zH ?_|refine vP0 ?_)
          refine zC (zA (zL (zR (zO ?_))));exact u4 rfl (u7 (by rw[jN,Aa c3,Aa c5,Aa c13,Aa c14,Aa c16,Aa c24,Ab c26,Aa c32,Ab c34]<;>rfl))
         ·
          refine zK 3600 ?_;refine zL (zR (zO (zR (zO ?_))));exact u4 rfl (u7 (by rw[jN,Aa c3,Aa c5,Aa c13,Aa c14,Aa c16,Aa c24,Ab c26,Aa c32,Aa c34]<;>rfl))
       ·
        refine zK 3700 ?_;refine zZ (fun c36=>?_) (fun c36=>?_)
        ·
         refine zB (zX zJ [] mK8 3800 yP kr rfl ?_);repeat(first|refine zH ?_|refine zW (by(refine⟨by decide,?_⟩;show _<(h.getD n.toNat ob0).items.length;have:=jT1 c36;omega)) ?_)
         refine zQ _ (jL _ _) rfl ?_;repeat(first|refine zH ?_|refine zW (by(refine⟨by decide,?_⟩;show _<(h.getD n.toNat ob0).items.length;have:=jT1 c36;omega)) ?_)
         refine zC (zA (zK 3900 ?_));refine zP (zB (zK 4100 ?_));refine zZ (fun c40=>?_) (fun c40=>?_)
         ·
          refine zM (zA (zZ (fun c40x=>?_) (fun c40x=>?_)))
          ·
           refine zB (zE zJ [] 4300 rfl ?_);repeat(first|refine zH ?_|refine jB1 ?_)
           refine zC (zA (zL (zR (zR (zO ?_)))));exact u4 rfl (u7 (by rw[jN,Aa c3,Aa c5,Aa c13,Aa c14,Aa c16,Aa c24,Aa c26,Ab c36,Ab c40]<;>rfl))
          ·
           simp_all
         ·
          refine yM zJ [] 4200 ?_;refine zA (zZ (fun c41=>?_) (fun c41=>?_))
          ·
           refine zB (zE zJ [] 4300 rfl ?_);repeat(first|refine zH ?_|refine jB1 ?_)
           refine zC (zA (zL (zR (zR (zO ?_)))));exact u4 rfl (u7 (by rw[jN,Aa c3,Aa c5,Aa c13,Aa c14,Aa c16,Aa c24,Aa c26,Ab c36,Aa c40,Ab c41]<;>rfl))
          ·
           refine zK 4400 ?_;refine zZ (fun c43=>?_) (fun c43=>?_)
           ·
            refine zB (zE zJ [] 4500 rfl ?_);repeat(first|refine zH ?_|refine jB1 ?_)
            refine zC (zA (zL (zR (zR (zO ?_)))));exact u4 rfl (u7 (by rw[jN,Aa c3,Aa c5,Aa c13,Aa c14,Aa c16,Aa c24,Aa c26,Ab c36,Aa c40,Aa c41,Ab c43]<;>rfl))
           ·
            refine zB (zE zJ [] 4500 rfl ?_);repeat(first|refine zH ?_|refine jB1 ?_)
            refine zC (zA (zL (zR (zR (zO ?_)))));exact u4 rfl (u7 (by rw[jN,Aa c3,Aa c5,Aa c13,Aa c14,Aa c16,Aa c24,Aa c26,Ab c36,Aa c40,Aa c41,Aa c43]<;>rfl))
        ·
         refine zK 4600 ?_;refine zZ (fun c45=>?_) (fun c45=>?_)
         ·
          refine zK 4700 ?_;refine zZ (fun c46=>?_) (fun c46=>?_)
          ·
           refine zB (zE zJ [] 4800 rfl ?_);repeat(first|refine zH ?_|refine zW (by first|exact ini (by omega) (by omega)|(have h1:=hV.weak c45 (by omega);rw[vF0 c46 om]at h1;exact yW h1)) ?_)
           refine zC (zA (zK 4900 ?_));refine zL (zR (zO ?_));exact u4 rfl (u7 (by rw[jN,Aa c3,Aa c5,Aa c13,Aa c14,Aa c16,Aa c24,Aa c26,Aa c36,Ab c45,Ab c46]<;>rfl))
          ·
           refine zM (zN (zA (zK 5400 ?_)));refine zL ?_;exact u4 rfl (u7 (by rw[jN,Aa c3,Aa c5,Aa c13,Aa c14,Aa c16,Aa c24,Aa c26,Aa c36,Ab c45,Aa (Int.not_lt.2 c46)]<;>rfl))
         ·
          refine zK 5000 ?_;refine zZ (fun c49=>?_) (fun c49=>?_)
          ·
           refine zB (zX zJ [] [[],[],[1],[1,2],[1,2,3],(rgN 5),(rgN 6),(rgN 7),(rgN 8)] 5100 yP kr rfl ?_);repeat(first|refine zH ?_|refine zW (by(refine⟨by decide,?_⟩;show _<(h.getD n.toNat ob0).items.length;have:=kO1 c49;omega)) ?_)
           refine zQ _ (jL _ _) rfl ?_;repeat(first|refine zH ?_|refine zW (by(refine⟨by decide,?_⟩;show _<(h.getD n.toNat ob0).items.length;have:=kO1 c49;omega)) ?_)
           refine zC (zA (zL (zR (zO ?_))));exact u4 rfl (u7 (by rw[jN,Aa c3,Aa c5,Aa c13,Aa c14,Aa c16,Aa c24,Aa c26,Aa c36,Aa c45,Ab c49]<;>rfl))
          ·
           refine zK 5200 ?_;refine zZ (fun c51=>?_) (fun c51=>?_)
           ·
            refine zB (zE zJ [] 5300 rfl ?_);repeat(first|refine zH ?_|refine zW (by first|(refine⟨by decide,?_⟩;show _<(h.getD n.toNat ob0).items.length;have:=kN1 c51;omega)|(intro _;(refine⟨by decide,?_⟩;show _<(h.getD n.toNat ob0).items.length;have:=kN1 c51;omega))) ?_)
            refine zC (zA (zL (zR (zO ?_))));exact u4 rfl (u7 (by rw[jN,Aa c3,Aa c5,Aa c13,Aa c14,Aa c16,Aa c24,Aa c26,Aa c36,Aa c45,Aa c49,Ab c51]<;>rfl))
           ·
            refine zM (zN (zA (zK 5400 ?_)));refine zL ?_;exact u4 rfl (u7 (by rw[jN,Aa c3,Aa c5,Aa c13,Aa c14,Aa c16,Aa c24,Aa c26,Aa c36,Aa c45,Aa c49,Aa c51]<;>rfl))
variable{md me:Bool}
def fldsL:List ByteArray:=[⟨#[111,98,106,101,99,116]⟩,⟨#[99,108,97,115,115,58,111,98,106,101,99,116]⟩,⟨#[110,105,108,95,116,121,112,101,58,111,98,106,101,99,116]⟩,⟨#[98,111,111,108,58,111,98,106,101,99,116]⟩,⟨#[105,110,116,58,111,98,106,101,99,116]⟩,⟨#[114,97,116,105,111,58,111,98,106,101,99,116]⟩,⟨#[116,101,120,116,58,111,98,106,101,99,116]⟩,⟨#[98,121,116,101,115,58,111,98,106,101,99,116]⟩,⟨#[116,117,112,108,101,58,111,98,106,101,99,116]⟩,⟨#[108,105,115,116,58,111,98,106,101,99,116]⟩,⟨#[100,105,99,116,58,111,98,106,101,99,116]⟩,⟨#[115,101,116,58,111,98,106,101,99,116]⟩,⟨#[114,97,110,103,101,58,111,98,106,101,99,116]⟩,⟨#[99,101,108,108,58,111,98,106,101,99,116]⟩,⟨#[102,117,110,99,116,105,111,110,58,111,98,106,101,99,116]⟩,⟨#[98,117,105,108,116,105,110,58,111,98,106,101,99,116]⟩,⟨#[109,101,116,104,111,100,58,111,98,106,101,99,116]⟩,⟨#[109,111,100,117,108,101,58,111,98,106,101,99,116]⟩,⟨#[112,114,111,112,101,114,116,121,58,111,98,106,101,99,116]⟩,⟨#[115,116,97,116,105,99,58,111,98,106,101,99,116]⟩,⟨#[99,108,97,115,115,95,109,101,116,104,111,100,58,111,98,106,101,99,116]⟩,⟨#[115,117,112,101,114,95,116,121,112,101,58,111,98,106,101,99,116]⟩,⟨#[105,116,101,114,97,116,111,114,58,111,98,106,101,99,116]⟩,⟨#[103,101,110,101,114,97,116,111,114,58,111,98,106,101,99,116]⟩,⟨#[119,101,97,107,58,111,98,106,101,99,116]⟩,⟨#[116,97,115,107,58,111,98,106,101,99,116]⟩,⟨#[116,105,109,101,114,58,111,98,106,101,99,116]⟩,⟨#[112,97,115,115,95,116,121,112,101,58,111,98,106,101,99,116]⟩,⟨#[82,97,105,115,101,100,58,111,98,106,101,99,116]⟩,⟨#[69,120,105,116,58,82,97,105,115,101,100]⟩,⟨#[67,97,110,99,101,108,58,82,97,105,115,101,100]⟩,⟨#[69,114,114,111,114,58,82,97,105,115,101,100]⟩,⟨#[84,121,112,101,69,114,114,111,114,58,69,114,114,111,114]⟩,⟨#[86,97,108,117,101,69,114,114,111,114,58,69,114,114,111,114]⟩,⟨#[78,97,109,101,69,114,114,111,114,58,69,114,114,111,114]⟩,⟨#[85,110,98,111,117,110,100,69,114,114,111,114,58,78,97,109,101,69,114,114,111,114]⟩,⟨#[65,116,116,114,105,98,117,116,101,69,114,114,111,114,58,69,114,114,111,114]⟩,⟨#[76,111,111,107,117,112,69,114,114,111,114,58,69,114,114,111,114]⟩,⟨#[73,110,100,101,120,69,114,114,111,114,58,76,111,111,107,117,112,69,114,114,111,114]⟩,⟨#[75,101,121,69,114,114,111,114,58,76,111,111,107,117,112,69,114,114,111,114]⟩,⟨#[65,114,105,116,104,109,101,116,105,99,69,114,114,111,114,58,69,114,114,111,114]⟩,⟨#[68,105,118,105,115,105,111,110,69,114,114,111,114,58,65,114,105,116,104,109,101,116,105,99,69,114,114,111,114]⟩,⟨#[76,105,109,105,116,69,114,114,111,114,58,69,114,114,111,114]⟩,⟨#[82,101,99,117,114,115,105,111,110,69,114,114,111,114,58,76,105,109,105,116,69,114,114,111,114]⟩,⟨#[65,115,115,101,114,116,105,111,110,69,114,114,111,114,58,69,114,114,111,114]⟩,⟨#[73,109,112,111,114,116,69,114,114,111,114,58,69,114,114,111,114]⟩,⟨#[83,116,111,112,69,114,114,111,114,58,69,114,114,111,114]⟩,⟨#[83,116,97,116,101,69,114,114,111,114,58,69,114,114,111,114]⟩,⟨#[71,114,111,117,112,69,114,114,111,114,58,69,114,114,111,114]⟩]
def nmL:List ByteArray:=[⟨#[111,98,106,101,99,116]⟩,⟨#[99,108,97,115,115]⟩,⟨#[110,105,108,95,116,121,112,101]⟩,⟨#[98,111,111,108]⟩,⟨#[105,110,116]⟩,⟨#[114,97,116,105,111]⟩,⟨#[116,101,120,116]⟩,⟨#[98,121,116,101,115]⟩,⟨#[116,117,112,108,101]⟩,⟨#[108,105,115,116]⟩,⟨#[100,105,99,116]⟩,⟨#[115,101,116]⟩,⟨#[114,97,110,103,101]⟩,⟨#[99,101,108,108]⟩,⟨#[102,117,110,99,116,105,111,110]⟩,⟨#[98,117,105,108,116,105,110]⟩,⟨#[109,101,116,104,111,100]⟩,⟨#[109,111,100,117,108,101]⟩,⟨#[112,114,111,112,101,114,116,121]⟩,⟨#[115,116,97,116,105,99]⟩,⟨#[99,108,97,115,115,95,109,101,116,104,111,100]⟩,⟨#[115,117,112,101,114,95,116,121,112,101]⟩,⟨#[105,116,101,114,97,116,111,114]⟩,⟨#[103,101,110,101,114,97,116,111,114]⟩,⟨#[119,101,97,107]⟩,⟨#[116,97,115,107]⟩,⟨#[116,105,109,101,114]⟩,⟨#[112,97,115,115,95,116,121,112,101]⟩,⟨#[82,97,105,115,101,100]⟩,⟨#[69,120,105,116]⟩,⟨#[67,97,110,99,101,108]⟩,⟨#[69,114,114,111,114]⟩,⟨#[84,121,112,101,69,114,114,111,114]⟩,⟨#[86,97,108,117,101,69,114,114,111,114]⟩,⟨#[78,97,109,101,69,114,114,111,114]⟩,⟨#[85,110,98,111,117,110,100,69,114,114,111,114]⟩,⟨#[65,116,116,114,105,98,117,116,101,69,114,114,111,114]⟩,⟨#[76,111,111,107,117,112,69,114,114,111,114]⟩,⟨#[73,110,100,101,120,69,114,114,111,114]⟩,⟨#[75,101,121,69,114,114,111,114]⟩,⟨#[65,114,105,116,104,109,101,116,105,99,69,114,114,111,114]⟩,⟨#[68,105,118,105,115,105,111,110,69,114,114,111,114]⟩,⟨#[76,105,109,105,116,69,114,114,111,114]⟩,⟨#[82,101,99,117,114,115,105,111,110,69,114,114,111,114]⟩,⟨#[65,115,115,101,114,116,105,111,110,69,114,114,111,114]⟩,⟨#[73,109,112,111,114,116,69,114,114,111,114]⟩,⟨#[83,116,111,112,69,114,114,111,114]⟩,⟨#[83,116,97,116,101,69,114,114,111,114]⟩,⟨#[71,114,111,117,112,69,114,114,111,114]⟩]
def bsL:List ByteArray:=[⟨#[]⟩,⟨#[111,98,106,101,99,116]⟩,⟨#[111,98,106,101,99,116]⟩,⟨#[111,98,106,101,99,116]⟩,⟨#[111,98,106,101,99,116]⟩,⟨#[111,98,106,101,99,116]⟩,⟨#[111,98,106,101,99,116]⟩,⟨#[111,98,106,101,99,116]⟩,⟨#[111,98,106,101,99,116]⟩,⟨#[111,98,106,101,99,116]⟩,⟨#[111,98,106,101,99,116]⟩,⟨#[111,98,106,101,99,116]⟩,⟨#[111,98,106,101,99,116]⟩,⟨#[111,98,106,101,99,116]⟩,⟨#[111,98,106,101,99,116]⟩,⟨#[111,98,106,101,99,116]⟩,⟨#[111,98,106,101,99,116]⟩,⟨#[111,98,106,101,99,116]⟩,⟨#[111,98,106,101,99,116]⟩,⟨#[111,98,106,101,99,116]⟩,⟨#[111,98,106,101,99,116]⟩,⟨#[111,98,106,101,99,116]⟩,⟨#[111,98,106,101,99,116]⟩,⟨#[111,98,106,101,99,116]⟩,⟨#[111,98,106,101,99,116]⟩,⟨#[111,98,106,101,99,116]⟩,⟨#[111,98,106,101,99,116]⟩,⟨#[111,98,106,101,99,116]⟩,⟨#[111,98,106,101,99,116]⟩,⟨#[82,97,105,115,101,100]⟩,⟨#[82,97,105,115,101,100]⟩,⟨#[82,97,105,115,101,100]⟩,⟨#[69,114,114,111,114]⟩,⟨#[69,114,114,111,114]⟩,⟨#[69,114,114,111,114]⟩,⟨#[78,97,109,101,69,114,114,111,114]⟩,⟨#[69,114,114,111,114]⟩,⟨#[69,114,114,111,114]⟩,⟨#[76,111,111,107,117,112,69,114,114,111,114]⟩,⟨#[76,111,111,107,117,112,69,114,114,111,114]⟩,⟨#[69,114,114,111,114]⟩,⟨#[65,114,105,116,104,109,101,116,105,99,69,114,114,111,114]⟩,⟨#[69,114,114,111,114]⟩,⟨#[76,105,109,105,116,69,114,114,111,114]⟩,⟨#[69,114,114,111,114]⟩,⟨#[69,114,114,111,114]⟩,⟨#[69,114,114,111,114]⟩,⟨#[69,114,114,111,114]⟩,⟨#[69,114,114,111,114]⟩]
def dvL:List Bool:=[false,true,true,true,true,true,true,true,true,true,true,true,true,true,true,true,true,true,true,true,true,true,true,true,true,true,true,true,true,true,true,true,true,true,true,true,true,true,true,true,true,true,true,true,true,true,true,true,true]
def ixL:List Int:=[0,0,0,0,0,0,0,0,0,0,0,0,0,0,0,0,0,0,0,0,0,0,0,0,0,0,0,0,0,28,28,28,31,31,31,34,31,31,37,37,31,40,31,42,31,31,31,31,31]
def odL:List (List Int):=[[0],[1,0],[2,0],[3,0],[4,0],[5,0],[6,0],[7,0],[8,0],[9,0],[10,0],[11,0],[12,0],[13,0],[14,0],[15,0],[16,0],[17,0],[18,0],[19,0],[20,0],[21,0],[22,0],[23,0],[24,0],[25,0],[26,0],[27,0],[28,0],[29,28,0],[30,28,0],[31,28,0],[32,31,28,0],[33,31,28,0],[34,31,28,0],[35,34,31,28,0],[36,31,28,0],[37,31,28,0],[38,37,31,28,0],[39,37,31,28,0],[40,31,28,0],[41,40,31,28,0],[42,31,28,0],[43,42,31,28,0],[44,31,28,0],[45,31,28,0],[46,31,28,0],[47,31,28,0],[48,31,28,0]]
def nmB(k:Nat):ByteArray:=nmL.getD k ByteArray.empty
def bsB(k:Nat):ByteArray:=bsL.getD k ByteArray.empty
def dvB(k:Nat):Bool:=dvL.getD k false
def ixB(k:Nat):Int:=ixL.getD k 0
def odB(k:Nat):List Int:=odL.getD k []
def nmS(k:Nat):List ByteArray:=(List.range k).map nmB
def bgO(k:Nat):Ob:=⟨9,nmB k,0,if dvB k then [ixB k]else [],odB k,[],[],[],0,0⟩
def bgS(k:Nat):List Ob:=(List.range k).map bgO
theorem bM(k:Nat):(bgS k).length=k:=by simp[bgS]
theorem cD(k:Nat):(bgS (k+1)).map obD=(bgS k).map obD++[obD (bgO k)]:=by rw[bgS,Ec,Ad,Ad];rfl
theorem tS(k:Nat):(nmS (k+1)).map sD=(nmS k).map sD++[sD (nmB k)]:=by rw[nmS,Ec,Ad,Ad];rfl
theorem xD0:fldsL.length=49:=by decide+kernel
def kF0(p:ByteArray):List ByteArray:=(Lib.fields p.data.toList).map fun l=>⟨l.toArray⟩
theorem Fields_ok(p:ByteArray){l:List ByteArray}(h:kF0 p=l)(hp:p.size<4294967281)(hl:l.length<=9223372036854775807)(ha:p.data.toList.all (fun b=>decide (b.toNat<128))=true):Fx 100 [.v (.string p)] (ssD l):=by
 subst h;refine zZ1 (t:=9) ⟨_,Tryz.func100,rfl,rfl⟩ hl fun w s vs hg hv=>?_;rw[cE hv];obtain⟨G,g1,g2,_⟩:=hg;refine(Any.strings_Fields_core Tryz.laysFields kr p w hp (fun j b hb=>Ag (Bl.1 ha b (Bg hb))) fun c hc=>(g2 _ _ _ (g1.space c hc)).1).mono ?_;rintro e w' ⟨rfl,rfl⟩;refine⟨?_,?_⟩
 ·simp only[kF0,An]
 ·simp only[kF0,Cw];rfl
theorem Cut_ok(p q:ByteArray)(hp:p.size<4294967281){a b:ByteArray}{c:Bool}(h:Lib.cut p.data.toList q.data.toList=(a.data.toList,b.data.toList,c)):Fx 101 [.v (.string p),.v (.string q)] (.tup [.v (.string a),.v (.string b),.v (.bool c)]):=by
 refine⟨⟨_,Tryz.func101,rfl,rfl⟩,fun w s vs hlt hg hv=>?_⟩;rw[uY0 hv];obtain⟨G,g1,g2,_⟩:=hg;obtain⟨m,hm⟩:=g1.maxLen;refine(Any.strings_Cut Tryz.laysCut p q m w hp (g2 _ _ _ hm).1).mono ?_;rintro e w' ⟨rfl,n,rfl⟩;rw[h];exact⟨s,_,rfl,⟨_,rfl,rfl,rfl,rfl,trivial⟩,PStp.ofBelow hlt (below_drewN (Below.refl _ _) n)⟩
def bgK(k:Nat):Bool:=decide (Lib.cut (fldsL.getD k ByteArray.empty).data.toList [58]=((nmB k).data.toList,(bsB k).data.toList,dvB k))&&decide ((fldsL.getD k ByteArray.empty).size<=100)
 &&(if dvB k then decide (ixI (nmS k) (bsB k)=ixB k)&&decide (0<=ixB k)&&decide (ixB k<(k:Int))&&decide (odB k=(k:Int)::odB (ixB k).toNat)else decide (odB k=[(k:Int)]))
theorem bgK_all:(List.range 49).all bgK=true:=by decide+kernel
theorem qD1{k:Nat}(h:k<49):bgK k=true:=Bl.1 bgK_all k (Ct.2 h)
theorem cutK{k:Nat}(h:k<49):Lib.cut (fldsL.getD k ByteArray.empty).data.toList [58]=((nmB k).data.toList,(bsB k).data.toList,dvB k)/\(fldsL.getD k ByteArray.empty).size<=100:=by
 have:=qD1 h;simp only[bgK,Aj,Ap]at this;exact this.1
theorem ixK{k:Nat}(h:k<49)(hd:dvB k=true):ixI (nmS k) (bsB k)=ixB k/\0<=ixB k/\ixB k<(k:Int)/\odB k=(k:Int)::odB (ixB k).toNat:=by
 have:=qD1 h;simp only[bgK,Aj,Ap,Ab hd]at this;exact⟨this.2.1.1.1,this.2.1.1.2,this.2.1.2,this.2.2⟩
theorem odK{k:Nat}(h:k<49)(hd:dvB k=false):odB k=[(k:Int)]:=by
 have:=qD1 h;rw[bgK,Aa (by rw[hd];decide)]at this;simp only[Aj,Ap]at this;exact this.2
theorem rowK{k j:Nat}(h:j<k):((bgS k).map obD).getD j []=obD (bgO j):=by
 have e:((bgS k).map obD)[j]?=some (obD (bgO j)):=by rw[bgS,Cw,Bx,Ew h];rfl
 rw[Af,e];rfl
theorem Cut_at(k:Nat)(h:k<49):Fx 101 [.v (.string (fldsL.getD k ByteArray.empty)),.v (.string ⟨#[58]⟩)] (.tup [.v (.string (nmB k)),.v (.string (bsB k)),.v (.bool (dvB k))]):=
 Cut_ok _ _ (by have:=(cutK h).2;omega) (cutK h).1
theorem odL_len(k:Nat):(odB k).length<=10:=by
 by_cases h:k<49
 ·exact Ag (Bl.1 (show(List.range 49).all (fun k=>decide ((odB k).length<=10))=true by decide+kernel) k (Ct.2 h))
 ·have:odB k=[]:=by rw[odB,Af,Cz (by show 49<=k;omega)];rfl
  rw[this];decide
theorem nmS_len(k:Nat):(nmS k).length=k:=by simp[nmS]
theorem bgRow0{k:Nat}(h:k<49)(hd:dvB k=false){K:Nat}:SubPs [.v (.int .i64 9),.v (.string (nmB k)),.v (.int .i64 0),.v (.slice none 0 0),.own K 1 [[.v (.int .i64 k)]],.v (.slice none 0 0),.v (.slice none 0 0),.v (.slice none 0 0),.v (.int .i64 0),.v (.int .i64 0)] (obD (bgO k)):=
 ⟨u6 _,u6 _,u6 _,u12 (by show(if dvB k then _ else _)=_;rw[Aa (by rw[hd];decide)]),SubP.ownSl (by show _=(odB k).map iD;rw[odK h hd];rfl),u12 rfl,u12 rfl,u12 rfl,u6 _,u6 _,trivial⟩
theorem bgRow1{k:Nat}(h:k<49)(hd:dvB k=true){K:Nat}{rows:List (List D)}(hr:rows=[[.v (.int .i64 k)]]++(odB (ixB k).toNat).map iD):SubPs [.v (.int .i64 9),.v (.string (nmB k)),.v (.int .i64 0),.slr false 1 [[.v (.int .i64 (ixI (nmS k) (bsB k)))]],.own K 1 rows,.v (.slice none 0 0),.v (.slice none 0 0),.v (.slice none 0 0),.v (.int .i64 0),.v (.int .i64 0)] (obD (bgO k)):=
 ⟨u6 _,u6 _,u6 _,u18 (by show _=(if dvB k then [ixB k]else []).map iD;rw[Ab hd,(ixK h hd).1];rfl),SubP.ownSl (by show _=(odB k).map iD;rw[(ixK h hd).2.2.2,hr];rfl),u12 rfl,u12 rfl,u12 rfl,u6 _,u6 _,trivial⟩
theorem jA1{P:Program}{E:Pn}{K:DS->Prop}{p:Prop}{r:Out}(hr:r.sat P E K)(hp:p:=by first|rfl|(have h1:=nmS_len x.k;have h2:=bM x.k;simp only[An,Am,Au];omega)):(Out.need p r).sat P E K:=⟨hp,hr⟩
set_option maxHeartbeats 1000000 in
theorem Begin_ok:Fx 50 [] (hpD false (bgS 49)):=by
 refine yD zJ Tryz.func50 rfl rfl rfl rfl rfl rfl ?_;intros;refine zK 100 ?_;refine zK 200 ?_;refine zK 300 ?_;refine vN 100 0 50 10 rfl rfl ?_;refine yY 2 9 1 rfl ?_;refine zB ?_;refine zB (zE zJ [] 400 rfl ?_);refine zF ?_;refine zQ _ (Fields_ok _ (l:=fldsL) (by decide+kernel) (by decide+kernel) (by decide+kernel) (by decide+kernel)) rfl ?_;refine zf (zA (zP ?_));refine yC (ι:=Up 49 (fun _=>true)) [0,1,10,11] [0] 450 (fun x=>[(12,.v (.int .i64 x.k)),(2,.own 301 1 ((nmS x.k).map sD))]) (fun x=>[(301,.row 9 1 ((nmS x.k).map sD).length),(100,.box 24 [.own 300 10 ((bgS x.k).map obD)]),(300,.row 50 10 ((bgS x.k).map obD).length)]) (fun x=>49-x.k) ⟨0,Aq _,fun j hj=>by omega⟩ ?_;refine⟨⟨yG,yF,rfl,rfl⟩,fun x=>?_⟩;have hk:=x.le;refine zK 500 ?_;refine zB (zU rfl (fun c4=>?_) (fun c4=>?_))
 ·replace c4:=Ag c4
  have hk9:x.k<49:=by have:=xD0;omega
  refine zM (zA (zB (zP (zK 600 ?_))));refine zB (zE zJ [] 700 rfl ?_);refine zF ?_;refine zQ _ (Cut_at x.k hk9) rfl ?_;refine zF ?_;refine zC (zA (ev_R zJ [25] 800 ?_));refine zB (zK 900 ?_);refine zZ (fun c8=>?_) (fun c8=>?_)
  ·
   refine zB (zE zJ [] 1000 rfl ?_);refine zF ?_;refine zQ _ ((yM0 (nmS x.k) (bsB x.k)).args ⟨SubP.ownSl rfl,u6 _,trivial⟩) rfl ?_;refine zf (zA ?_);refine zX zJ [38] [[],[0],[],[2],[],[4],[],[4,5,6],[4,5,6,7],[4,5,6,7,8],[2,3,4,5,6,7,8,9],[0,1,2,3],(rgN 12),(rgN 13),(rgN 14)] 1100 yP kr rfl ?_;refine zF ?_;refine sat_pick (obD (bgO (ixB x.k).toNat)) ⟨?_,?_,?_⟩ ?_
   ·show 0<=ixI (nmS x.k) (bsB x.k);rw[(ixK hk9 c8).1];exact(ixK hk9 c8).2.1
   ·show(ixI (nmS x.k) (bsB x.k)).toNat<((bgS x.k).map obD).length;rw[(ixK hk9 c8).1,An,bM];have:=(ixK hk9 c8).2;omega
   ·show((bgS x.k).map obD).getD (ixI (nmS x.k) (bsB x.k)).toNat []=_;rw[(ixK hk9 c8).1];exact rowK (by have:=(ixK hk9 c8).2;omega)
   repeat(first|refine zG ?_|refine sat_imp (by exact fun hh=>hh) ?_|refine zW (by first|rfl|(have hod:=odL_len (ixB x.k).toNat;simp only[An,Am,Au,bgO];omega)) ?_)
   refine zC (zA ?_);refine zB (zE zJ [] 1200 rfl ?_);repeat(first|refine zH ?_|refine jA1 ?_)
   refine zC (zA ?_);refine zE zJ [] 1300 rfl ?_;repeat(first|refine zH ?_|refine jA1 ?_)
   refine zC (zN (zA (yM zJ [] 1400 ?_)));exact zS (x.next hk9 rfl) ⟨⟨u0 _,Sub.own (by show _=(nmS (x.k+1)).map sD;rw[tS];rfl),by repeat(first|exact trivial|exact u0 _|refine⟨?_,?_⟩)⟩,⟨⟨rfl,rfl,by show _=((nmS (x.k+1)).map sD).length;rw[tS];rfl⟩,⟨rfl,Sub.ownRows (by show RowsP _ ((bgS (x.k+1)).map obD);rw[cD];exact(RowsP.refl _).append ⟨bgRow1 hk9 c8 rfl,trivial⟩),rfl,trivial⟩,⟨rfl,rfl,by show _=((bgS (x.k+1)).map obD).length;rw[cD,Ae,Ae];rfl⟩,by repeat(first|exact trivial|exact u15 rfl|refine⟨?_,?_⟩)⟩,rfl,rfl⟩ (by show 49-(x.k+1)<49-x.k;omega)
  ·
   refine zM (zA ?_);refine zB (zE zJ [] 1200 rfl ?_);repeat(first|refine zH ?_|refine jA1 ?_)
   refine zC (zA ?_);refine zE zJ [] 1300 rfl ?_;repeat(first|refine zH ?_|refine jA1 ?_)
   refine zC (zN (zA (yM zJ [] 1400 ?_)));exact zS (x.next hk9 rfl) ⟨⟨u0 _,Sub.own (by show _=(nmS (x.k+1)).map sD;rw[tS];rfl),by repeat(first|exact trivial|exact u0 _|refine⟨?_,?_⟩)⟩,⟨⟨rfl,rfl,by show _=((nmS (x.k+1)).map sD).length;rw[tS];rfl⟩,⟨rfl,Sub.ownRows (by show RowsP _ ((bgS (x.k+1)).map obD);rw[cD];exact(RowsP.refl _).append ⟨bgRow0 hk9 c8,trivial⟩),rfl,trivial⟩,⟨rfl,rfl,by show _=((bgS (x.k+1)).map obD).length;rw[cD,Ae,Ae];rfl⟩,by repeat(first|exact trivial|exact u15 rfl|refine⟨?_,?_⟩)⟩,rfl,rfl⟩ (by show 49-(x.k+1)<49-x.k;omega)
 ·replace c4:=of_decide_eq_false c4
  have hxk:x.k=49:=by have:=xD0;omega
  refine yE (yA (yB (zY (zA (zK 1500 ?_)))));refine zL ?_;exact u4 rfl (u20 ⟨SubP.ownSl (by rw[hxk]),trivial⟩)
variable{md me:Bool}
def sumN(f:Nat->Nat):Nat->Nat
 |0=>0
 |k+1=>sumN f k+f k
theorem jH0{f:Nat->Nat}{B:Nat}(h:∀i,f i<=B):∀k,sumN f k<=k*B
 |0=>by simp[sumN]
 |k+1=>by rw[sumN,Bo];have:=jH0 h k;have:=h k;omega
def fstC:List Int->Int
 |[]=>0
 |c::l=>if c=0 then fstC l else c
theorem kE0:∀{l:List Int}{k:Nat},(∀j,j<k->l.getD j 0=0)->l.getD k 0≠0->fstC l=l.getD k 0
 |[],k,_,h=>absurd (by simp) h
 |c::l,0,_,h=>by rw[fstC,Aa (by simpa using h)];rfl
 |c::l,k+1,h,hk=>by
  have h0:c=0:=by simpa using h 0 (by omega)
  rw[fstC,Ab h0,kE0 (l:=l) (k:=k) (fun j hj=>by simpa using h (j+1) om) (by simpa using hk)];simp
theorem xA0:∀{l:List Int},(∀j,j<l.length->l.getD j 0=0)->fstC l=0
 |[],_=>rfl
 |c::l,h=>by
  have h0:c=0:=by simpa using h 0 (by simp)
  rw[fstC,Ab h0];exact xA0 fun j hj=>by simpa using h (j+1) (by simp;omega)
def uG0(h:List Ob)(o:Ob):List Int:=[jY o,wD o,zL1 o,vH h o]
noncomputable def xP (h:List Ob) (i:Nat):Int:=
 if(i:Int)<49 then(if yJ h i=bgO i then 0 else 19)
 else if(yJ h i).kind<0\/21<=(yJ h i).kind then 5
 else if fstC (uG0 h (yJ h i))=0 then
  (if jN h (yJ h i) i=true then(if keyS h (yJ h i)=0 then(if vR h (yJ h i) i=true then 0 else 19)else keyS h (yJ h i))else 13)
 else fstC (uG0 h (yJ h i))
def nodN(h:List Ob)(i:Nat):Nat:=if(i:Int)<49 then(yJ h i).refs.length else(yJ h i).items.length+(yJ h i).keys.length+(yJ h i).refs.length
abbrev kvs(o:Ob):List Vl:=o.items++o.keys
def bytO(o:Ob)(k:Nat):Nat:=sumN (fun j=>((kvs o).getD j vl0).s.size) k
theorem bytO_succ(o:Ob)(k:Nat):bytO o (k+1)=bytO o k+((kvs o).getD k vl0).s.size:=rfl
def bytN(h:List Ob)(i:Nat):Nat:=if(i:Int)<49 then 0 else bytO (yJ h i) (kvs (yJ h i)).length
noncomputable def qE (h:List Ob):Int×Int:=
 if 5000<(h.length:Int)then(2,-1)else if(h.length:Int)<49 then(9,-1)
 else match (List.range h.length).find? (fun i=> !decide (xP h i=0))with
  |some i=>(xP h i,i)
  |none=>if 20000<sumN (nodN h) h.length\/200000<sumN (bytN h) h.length then(14,-1)else(0,0)
def prD(p:Int×Int):D:= .agg [.v (.int .i64 p.1),.v (.int .i64 p.2)]
noncomputable abbrev okI (h:List Ob) (i:Nat):Bool:=decide (xP h i=0)
theorem bT0{h:List Ob}(h1:¬5000<(h.length:Int))(h2:¬(h.length:Int)<49)(x:Up h.length (okI h))(hk:x.k<h.length){c:Int}(hc:xP h x.k=c)(hne:c≠0):qE h=(c,(x.k:Int)):=by
 subst hc;have:(List.range h.length).find? (fun i=> !decide (xP h i=0))=some x.k:=by
  rw[List.find?_range_eq_some];exact⟨by simpa using hne,Ct.2 hk,fun j hj=>by have:=x.all j hj;simpa using this⟩
 rw[qE,Aa h1,Aa h2,this]
theorem cR0{h:List Ob}(h1:¬5000<(h.length:Int))(h2:¬(h.length:Int)<49)(x:Up h.length (okI h))(hk:¬x.k<h.length):qE h=if 20000<sumN (nodN h) h.length\/200000<sumN (bytN h) h.length then(14,-1)else(0,0):=by
 have:(List.range h.length).find? (fun i=> !decide (xP h i=0))=none:=by
  rw[List.find?_range_eq_none];exact fun j hj=>by have:=x.all j om;simpa using this
 rw[qE,Aa h1,Aa h2,this]
theorem kQ1{k:Nat}(hk:(k:Int)<49):(bgS 49).getD k ob0=bgO k:=by
 have e:(bgS 49)[k]?=some (bgO k):=by rw[bgS,Bx,Ew (by omega)];rfl
 rw[Af,e];rfl
theorem nodN_le{h:List Ob}(hh:HpIn h)(i:Nat):nodN h i<=6000000:=by
 have hO:ObIn (yJ h i):=hh.at i;have h1:=hO.il;have h2:=hO.kl;have h3:=hO.rl;unfold nodN;split<;>omega
theorem bytO_le{o:Ob}(hO:ObIn o)(k:Nat):bytO o k<=k*2000000:=
 jH0 (fun j=>by
  have:VlIn ((kvs o).getD j vl0):=dI (fun v hv=>(Av.1 hv).elim (hO.iv v) (hO.kv v)) j;exact this.s) k
theorem bB0{o:Ob}(hO:ObIn o){k:Nat}(hk:k<=(kvs o).length):bytO o k<=8000000000000:=by
 have h1:=bytO_le hO k;have h2:(kvs o).length=o.items.length+o.keys.length:=Ae;have h3:=hO.il;have h4:=hO.kl;omega
theorem bytN_le{h:List Ob}(hh:HpIn h)(i:Nat):bytN h i<=8000000000000:=by
 unfold bytN;split
 ·omega
 ·exact bB0 (hh.at i) (Ar _)
set_option maxHeartbeats 2000000 in
theorem Problem_ok(h:List Ob)(hh:HpIn h):Fx 13 [hpD md h] (prD (qE h)):=by
 have hlh:=hh.len;refine yD zJ Tryz.func13 rfl rfl rfl rfl rfl rfl ?_;intros;refine zK 100 ?_;refine zB ?_;refine zB (zE zJ [] 200 rfl ?_);repeat(first|refine zH ?_|refine zW (by first|omega|(simp only[An];omega)) ?_)
 refine zC (zA (zU rfl (fun c1=>?_) (fun c1=>?_)))
 ·replace c1:=Ag c1
  refine zB (zE zJ [] 300 rfl ?_);refine zF ?_;refine zQ _ (mD _ _) rfl ?_;refine zf (zA (zL (zO ?_)));exact u4 rfl (u9 (by rw[qE,Ab c1];rfl))
 ·replace c1:=of_decide_eq_false c1
  refine zM (zA (zB (zK 400 ?_)));refine zU rfl (fun c3=>?_) (fun c3=>?_)
  ·replace c3:=Ag c3
   refine zB (zE zJ [] 500 rfl ?_);refine zF ?_;refine zQ _ (mD _ _) rfl ?_;refine zf (zA (zL (zO ?_)));exact u4 rfl (u9 (by rw[qE,Aa c1,Ab c3];rfl))
  ·replace c3:=of_decide_eq_false c3
   refine zM (zA ?_);refine zB (zE zJ [] 600 rfl ?_);refine zF ?_;refine zQ _ (Begin_ok) rfl ?_;refine zF ?_;refine zC (zA (zK 700 ?_));refine zB (zK 800 ?_);refine zP ?_;refine yC (ι:=Up h.length (okI h)) [1,2,3,25,26] [0,1,401] 850 (fun x=>[(27,.v (.int .i64 x.k)),(4,.v (.int .i64 (sumN (nodN h) x.k:Nat))),(5,.v (.int .i64 (sumN (bytN h) x.k:Nat)))]) (fun _=>[]) (fun x=>h.length-x.k) ⟨0,Aq _,fun j hj=>by omega⟩ ?_;refine⟨⟨yG,yF,rfl,rfl⟩,fun x=>?_⟩;have hk:=x.le;refine zK 900 ?_;refine zB (zU rfl (fun c8=>?_) (fun c8=>?_))
   ·replace c8:=Ag c8
    replace c8:x.k<h.length:=by omega
    have hn:inH h (x.k:Int):=⟨by omega,by omega⟩;have hO:ObIn (h.getD (x.k:Int).toNat ob0):=hh.at x.k;have hil:=hO.il;have hkl:=hO.kl;have hrl:=hO.rl;have hb4:=jH0 (nodN_le hh) x.k;have hb5:=jH0 (bytN_le hh) x.k;have hvl:(kvs (h.getD (x.k:Int).toNat ob0)).length=(h.getD (x.k:Int).toNat ob0).items.length+(h.getD (x.k:Int).toNat ob0).keys.length:=Ae;refine zM (zA (zB (zP (zK 1000 ?_))));refine zB (zK 1100 ?_);refine zU rfl (fun c10=>?_) (fun c10=>?_)
    ·replace c10:=Ag c10
     refine zB ?_;refine zB (zX zJ [] [[],[],[1],[],[1,2,3],[1,2,3,4],(rgN 6),(rgN 7)] 1200 yP kr rfl ?_);repeat(first|refine zH ?_|refine zW (by first|exact⟨by omega,by show _<(bgS 49).length;rw[bM];omega⟩|(simp only[bM];omega)) ?_)
     refine zQ _ (SameObject_ok _ _) rfl ?_;repeat(first|refine zH ?_|refine zW (by first|exact⟨by omega,by show _<(bgS 49).length;rw[bM];omega⟩|(simp only[bM];omega)) ?_)
     refine zC (zA (zU rfl (fun c11=>?_) (fun c11=>?_)))
     ·replace c11:(!decide ((h.getD (x.k:Int).toNat ob0)=(bgS 49).getD x.k ob0))=true:=c11
      rw[kQ1 c10]at c11
      replace c11:¬yJ h x.k=bgO x.k:=by simpa using c11
      refine zB (zE zJ [] 1300 rfl ?_);refine zF ?_;refine zQ _ (mD _ _) rfl ?_;refine zf (zA (zL (zO (zO (zR (zO (yQ (zR (zO ?_)))))))));exact u4 rfl (u9 (by rw[bT0 c1 c3 x c8 (by unfold xP;rw[Ab c10,Aa c11]) de];rfl))
     ·replace c11:(!decide ((h.getD (x.k:Int).toNat ob0)=(bgS 49).getD x.k ob0))=false:=c11
      rw[kQ1 c10]at c11
      replace c11:yJ h x.k=bgO x.k:=by simpa using c11
      refine zM (zA (zK 1400 ?_));refine yE (yA (zY (zA (yM zJ [] 3600 ?_))));exact zS (x.next c8 (Bf (show xP h x.k=0 by unfold xP;exact by rw[Ab c10,Ab c11]))) ⟨⟨u21 (by show _=((x.k+1:Nat):Int);push_cast;rfl),u21 (by show _=((sumN (nodN h) (x.k+1):Nat):Int);rw[sumN,nodN,Ab c10];push_cast;rfl),u21 (by show _=((sumN (bytN h) (x.k+1):Nat):Int);rw[sumN,bytN,Ab c10,Ck]),by repeat(first|exact trivial|exact u0 _|refine⟨?_,?_⟩)⟩,yF,rfl,rfl⟩ (by show h.length-(x.k+1)<h.length-x.k;omega)
    ·replace c10:=of_decide_eq_false c10
     refine zM (zA (zB (zK 1500 ?_)));refine zU rfl (fun c14=>?_) (fun c14=>?_)
     ·try simp only[Ap,Dl]at c14
      refine zB (zE zJ [] 1600 rfl ?_);refine zF ?_;refine zQ _ (mD _ _) rfl ?_;refine zf (zA (zL (zO (zR (zO (yQ (zR (zO ?_))))))));exact u4 rfl (u9 (by rw[bT0 c1 c3 x c8 (by unfold xP;rw[Aa c10,Ab c14]) de];rfl))
     ·have c14n:=c14;try simp only[Ay,Dt]at c14n
      replace c14:¬((h.getD (x.k:Int).toNat ob0).kind<0\/21<=(h.getD (x.k:Int).toNat ob0).kind):=by omega
      have hkd:0<=(h.getD (x.k:Int).toNat ob0).kind/\(h.getD (x.k:Int).toNat ob0).kind<21:=by omega
      refine zM (zA (zB ?_));refine zB (zX zJ [] [[],[],[0,1],[],[],(rgN 5),[],[],(rgN 8),[],[],(rgN 11),(rgN 12),(rgN 13),[]] 1700 yP kr rfl ?_);refine zF ?_;refine zQ _ (shape_ok _ _ ao ao) rfl ?_;refine zF ?_;refine zQ _ (sizes_ok _ _ ao ao ao) rfl ?_;refine zF ?_;refine zQ _ (names_ok _ _ ao ao) rfl ?_;refine zF ?_;refine zQ _ (values_ok _ _ ao ao) rfl ?_;refine zf (zA ?_);refine yL [1,2,3,4,5,6,7,25,26,27] [0,1,401,903] 1710 [(71,isD (uG0 h (h.getD (x.k:Int).toNat ob0))),(72,.v (.int .i64 4)),(73,.v (.int .i64 0))] [] ?_;refine⟨⟨⟨u13 rfl,u0 _,u0 _,by repeat(first|exact trivial|exact u0 _|refine⟨?_,?_⟩)⟩,yF,rfl,rfl⟩,?_⟩;refine zP ?_;refine yC (ι:=Up 4 (fun j=>decide ((uG0 h (h.getD (x.k:Int).toNat ob0)).getD j 0=0))) [1,2,3,4,5,6,7,25,26,27,71,72] [0,1,401,903] 1750 (fun y=>[(73,.v (.int .i64 y.k))]) (fun _=>[]) (fun y=>4-y.k) ⟨0,Aq _,fun j hj=>by omega⟩ ?_;refine⟨⟨yG,yF,rfl,rfl⟩,fun y=>?_⟩;have hky:=y.le;refine zK 1800 ?_;refine zB (zU rfl (fun c17=>?_) (fun c17=>?_))
      ·replace c17:=Ag c17
       replace c17:y.k<4:=by omega
       have hy:∀j,j<y.k->(uG0 h (h.getD (x.k:Int).toNat ob0)).getD j 0=0:=fun j hj=>Ag (y.all j hj);refine zM (zA (zB (zP ?_)));refine zB (zE zJ [] 1900 rfl ?_);repeat(first|refine zH ?_|refine zW (by exact⟨by omega,by show _<4;omega⟩) ?_)
       refine zC (zA (zK 2000 ?_));refine zU rfl (fun c19=>?_) (fun c19=>?_)
       ·replace c19:¬(uG0 h (h.getD (x.k:Int).toNat ob0)).getD y.k 0=0:=by simpa using c19
        refine zB (zE zJ [] 2100 rfl ?_);refine zF ?_;refine zQ _ (mD _ _) rfl ?_;refine zf (zA (zL (zR (zO (yQ (zR (zO (zR (zO (yQ (zR (zO ?_))))))))))));exact u4 rfl (u9 (by rw[bT0 c1 c3 x c8 (by unfold xP;rw[Aa c10,Aa c14,Aa (by rw[kE0 hy c19];exact c19),kE0 hy c19]) (c19)];rfl))
       ·replace c19:(uG0 h (h.getD (x.k:Int).toNat ob0)).getD y.k 0=0:=by simpa using c19
        refine zM (zN (zA (yM zJ [] 2200 ?_)));exact zS (y.next c17 (Bf c19)) ⟨⟨u21 (by show _=((y.k+1:Nat):Int);push_cast;rfl),by repeat(first|exact trivial|exact u0 _|refine⟨?_,?_⟩)⟩,yF,rfl,rfl⟩ (by show 4-(y.k+1)<4-y.k;omega)
      ·replace c17:=of_decide_eq_false c17
       have hyk4:y.k=4:=by omega
       have hy:∀j,j<4->(uG0 h (h.getD (x.k:Int).toNat ob0)).getD j 0=0:=fun j hj=>Ag (y.all j om);have h4:fstC (uG0 h (h.getD (x.k:Int).toNat ob0))=0:=xA0 hy;have hsh:jY (h.getD (x.k:Int).toNat ob0)=0:=hy 0 om;have hvs:vH h (h.getD (x.k:Int).toNat ob0)=0:=hy 3 om;have hV:Vs h (h.getD (x.k:Int).toNat ob0):=tH hvs;refine yE (yA (yB (zY (zA (zB ?_)))));refine zB (zE zJ [] 2300 rfl ?_);refine zF ?_;refine zQ _ (links_ok _ _ ao ao ao ao) rfl ?_;refine zF ?_;refine zC (zA (zU rfl (fun c22=>?_) (fun c22=>?_)))
       ·replace c22:¬jN h (yJ h x.k) x.k=true:=by simpa using c22
        refine zB (zE zJ [] 2400 rfl ?_);refine zF ?_;refine zQ _ (mD _ _) rfl ?_;refine zf (zA (zL (zO (zR (zO (yQ (zR (zO ?_))))))));exact u4 rfl (u9 (by rw[bT0 c1 c3 x c8 (by unfold xP;rw[Aa c10,Aa c14,Ab h4,Aa c22]) de];rfl))
       ·replace c22:jN h (yJ h x.k) x.k=true:=by simpa using c22
        refine zM (zA (zB ?_));refine zB (zE zJ [] 2500 rfl ?_);refine zF ?_;refine zQ _ (keyRule_ok _ _ ao ao) rfl ?_;refine zF ?_;refine zC (zA (zK 2600 ?_));refine zU rfl (fun c25=>?_) (fun c25=>?_)
        ·replace c25:¬keyS h (yJ h x.k)=0:=by simpa using c25
         refine zB (zE zJ [] 2700 rfl ?_);refine zF ?_;refine zQ _ (mD _ _) rfl ?_;refine zf (zA (zL (zO (zR (zO (yQ (zR (zO ?_))))))));exact u4 rfl (u9 (by rw[bT0 c1 c3 x c8 (by unfold xP;rw[Aa c10,Aa c14,Ab h4,Ab c22,Aa c25]) (c25)];rfl))
        ·replace c25:keyS h (yJ h x.k)=0:=by simpa using c25
         refine zM (zA (zB ?_));refine zB (zE zJ [] 2800 rfl ?_);refine zF ?_;refine zQ _ (orderOk_ok _ _ hn hh (fun _ r hr=>yW (hV.refs r hr))) rfl ?_;refine zF ?_;refine zC (zA (zU rfl (fun c27=>?_) (fun c27=>?_)))
         ·replace c27:¬vR h (yJ h x.k) x.k=true:=by simpa using c27
          refine zB (zE zJ [] 2900 rfl ?_);refine zF ?_;refine zQ _ (mD _ _) rfl ?_;refine zf (zA (zL (zO (zR (zO (yQ (zR (zO ?_))))))));exact u4 rfl (u9 (by rw[bT0 c1 c3 x c8 (by unfold xP;rw[Aa c10,Aa c14,Ab h4,Ab c22,Ab c25,Aa c27]) de];rfl))
         ·replace c27:vR h (yJ h x.k) x.k=true:=by simpa using c27
          refine zM (zA (zK 3000 ?_));refine zB (zX zJ [118] [[],[0],[0,1],[],[3],(rgN 5),(rgN 6),[]] 3100 yP kr rfl ?_);repeat(first|refine zH ?_|refine zW (by first|rfl|omega|(simp only[An];omega)) ?_)
          refine jJ _ _ _ (kP _ ao) ?_;repeat(first|refine zH ?_|refine zW (by first|rfl|omega|(simp only[An];omega)) ?_)
          refine zC (zA ?_);refine yL [1,2,3,4,5,25,26,27] [0,1,401] 3110 [(121,.sl false 7 (kvs (h.getD (x.k:Int).toNat ob0)) vlD vl0),(122,.v (.int .i64 (kvs (h.getD (x.k:Int).toNat ob0)).length)),(123,.v (.int .i64 0))] [] ?_;refine⟨⟨⟨u5 (by rw[<-Ad]),u21 (by simp),u0 _,by repeat(first|exact trivial|exact u0 _|refine⟨?_,?_⟩)⟩,yF,rfl,rfl⟩,?_⟩;refine zP ?_;refine yC (ι:=Up (kvs (h.getD (x.k:Int).toNat ob0)).length (fun _=>true)) [1,2,3,4,25,26,27,121,122] [0,1,401] 3150 (fun z=>[(123,.v (.int .i64 z.k)),(5,.v (.int .i64 ((sumN (bytN h) x.k+bytO (h.getD (x.k:Int).toNat ob0) z.k:Nat):Int)))]) (fun _=>[]) (fun z=>(kvs (h.getD (x.k:Int).toNat ob0)).length-z.k) ⟨0,Aq _,fun j hj=>by omega⟩ ?_;refine⟨⟨yG,yF,rfl,rfl⟩,fun z=>?_⟩;have hkz:=z.le;refine zK 3200 ?_;refine zB (zU rfl (fun c31=>?_) (fun c31=>?_))
          ·replace c31:=Ag c31
           replace c31:z.k<(kvs (h.getD (x.k:Int).toNat ob0)).length:=by omega
           have hb6:=bB0 hO z.le;have hvz:VlIn ((kvs (h.getD (x.k:Int).toNat ob0)).getD z.k vl0):=dI (fun v hv=>(Av.1 hv).elim (hO.iv v) (hO.kv v)) z.k;have hvs6:((kvs (h.getD (x.k:Int).toNat ob0)).getD (z.k:Int).toNat vl0).s.size<=2000000:=hvz.s;refine zM (zA (zB (zP (zK 3300 ?_))));refine zE zJ [] 3400 rfl ?_;repeat(first|refine zH ?_|refine zW (by first|exact ini (by omega) (by omega)|omega) ?_)
           refine zC (zN (zA (yM zJ [] 3500 ?_)));exact zS (z.next c31 rfl) ⟨⟨u21 (by show _=((z.k+1:Nat):Int);push_cast;rfl),u21 (by show _=((sumN (bytN h) x.k+bytO (h.getD (x.k:Int).toNat ob0) (z.k+1):Nat):Int);rw[bytO_succ];simp only[Ak];push_cast;omega),by repeat(first|exact trivial|exact u0 _|refine⟨?_,?_⟩)⟩,yF,rfl,rfl⟩ (by show(kvs (h.getD (x.k:Int).toNat ob0)).length-(z.k+1)<(kvs (h.getD (x.k:Int).toNat ob0)).length-z.k;omega)
          ·replace c31:=of_decide_eq_false c31
           have hyk:z.k=(kvs (h.getD (x.k:Int).toNat ob0)).length:=by have:=z.le;omega
           refine yE (yA (yB (zY (zN (zA (yM zJ [] 3600 ?_))))));exact zS (x.next c8 (Bf (show xP h x.k=0 by unfold xP;exact by rw[Aa c10,Aa c14,Ab h4,Ab c22,Ab c25,Ab c27]))) ⟨⟨u21 (by show _=((x.k+1:Nat):Int);push_cast;rfl),u21 (by show _=((sumN (nodN h) (x.k+1):Nat):Int);rw[sumN,nodN,Aa c10];push_cast;rfl),u21 (by show _=((sumN (bytN h) (x.k+1):Nat):Int);rw[sumN,bytN,Aa c10];rw[show bytO (yJ h x.k) (kvs (yJ h x.k)).length=bytO (h.getD (x.k:Int).toNat ob0) z.k from(congrArg (bytO (h.getD (x.k:Int).toNat ob0)) hyk).symm];try (push_cast;rfl)),by repeat(first|exact trivial|exact u0 _|refine⟨?_,?_⟩)⟩,yF,rfl,rfl⟩ (by show h.length-(x.k+1)<h.length-x.k;omega)
   ·replace c8:=of_decide_eq_false c8
    replace c8:¬x.k<h.length:=by omega
    have hxk:x.k=h.length:=by omega
    refine yE (yA (yB (zY (zA (zB (zK 3700 ?_))))));refine zU rfl (fun c36=>?_) (fun c36=>?_)
    ·try simp only[Ap,Dl]at c36
     refine zB (zE zJ [] 3800 rfl ?_);refine zF ?_;refine zQ _ (mD _ _) rfl ?_;refine zf (zA (zL (zO ?_)));exact u4 rfl (u9 (by rw[cR0 c1 c3 x c8,Ab (by rw[hxk]at c36;omega)];rfl))
    ·try simp only[Ay,Dt]at c36
     refine zM (zA (zK 3900 ?_));refine zL ?_;exact u4 rfl (u9 (by rw[cR0 c1 c3 x c8,Aa (by rw[hxk]at c36;omega)];rfl))
variable{md me:Bool}
noncomputable def dJ (h:List Ob) (vs:List Vl):Bool:=decide ((qE h).1=0)&&vs.all (hasS h)
theorem wZ0:∀{l:List Int},fstC l=0->∀j,l.getD j 0=0
 |[],_,j=>by simp
 |c::l,h,j=>by
  rw[fstC]at h;split at h
  ·rename_i h0
   match j with
   |0=>simpa using h0
   |j+1=>simpa using wZ0 h j
  ·rename_i h0;exact absurd h h0
structure Uh(h:List Ob):Prop where
 lo:49<=h.length
 hi:h.length<=6000
 code:∀i,i<h.length->xP h i=0
theorem kG1{h:List Ob}(hp:(qE h).1=0):h.length<=5000:=by
 unfold qE at hp;split at hp
 ·exact absurd hp de
 ·omega
theorem vX1{h:List Ob}(hp:(qE h).1=0):Uh h:=by
 unfold qE at hp;split at hp
 ·exact absurd hp de
 ·rename_i h1;split at hp
  ·exact absurd hp de
  ·rename_i h2;split at hp
   ·rename_i i hi;rw[List.find?_range_eq_some]at hi;exact absurd hp (by simpa using hi.1)
   ·rename_i hn;rw[List.find?_range_eq_none]at hn;exact⟨by omega,by omega,fun i hi=>by simpa using hn i hi⟩
structure Uho(h:List Ob)(o:Ob)(i:Nat):Prop where
 kind:0<=o.kind/\o.kind<21
 shape:jY o=0
 sizes:wD o=0
 names:zL1 o=0
 vals:vH h o=0
 links:jN h o i=true
 keys:keyS h o=0
 order:vR h o i=true
theorem Uh.lo_at{h:List Ob}(g:Uh h){i:Nat}(hi:i<49):yJ h i=bgO i:=by
 have:=g.code i (by have:=g.lo;omega);unfold xP at this;rw[Ab om]at this;split at this
 ·assumption
 ·cases this
theorem Uh.hi_at{h:List Ob}(g:Uh h){i:Nat}(h1:49<=i)(h2:i<h.length):Uho h (yJ h i) i:=by
 have:=g.code i h2;unfold xP at this;rw[Aa om]at this;split at this
 ·cases this
 ·rename_i hk;split at this
  ·rename_i hf;split at this
   ·rename_i hl;split at this
    ·rename_i hy;split at this
     ·rename_i ho;have hz:=wZ0 hf;exact⟨by omega,hz 0,hz 1,hz 2,hz 3,hl,hy,ho⟩
     ·cases this
    ·rename_i hy;exact absurd this hy
   ·cases this
  ·rename_i hf;exact absurd this hf
theorem wE{h:List Ob}{n:Int}(hn:inH h n):yJ h n=yJ h ((n.toNat:Nat):Int):=by rfl
theorem Uh.cls{h:List Ob}(g:Uh h){n:Int}(hn:inH h n)(hk:(yJ h n).kind=10):inH h (yJ h n).cls:=by
 by_cases h49:n.toNat<49
 ·have:=g.lo_at h49;rw[show yJ h n=bgO n.toNat from this]at hk;exact absurd hk (by show ¬(9:Int)=10;decide)
 ·exact yW (tH (g.hi_at om hn.2).vals).cls
theorem Uh.items{h:List Ob}(g:Uh h){n:Int}(hn:inH h n){v:Vl}(hv:v∈(yJ h n).items)(hk:v.k=6):qA h v.r=true:=by
 by_cases h49:n.toNat<49
 ·rw[show yJ h n=bgO n.toNat from g.lo_at h49]at hv;exact absurd hv (by show ¬v∈([]:List Vl);simp)
 ·exact(tH (g.hi_at om hn.2).vals).vals v (Av.2 (.inr hv)) hk
theorem zM0{h:List Ob}{v:Vl}(hh:hasS h v=true)(hk:v.k=6):qA h v.r=true:=by
 simp only[hasS,Aj,Dl,Bq,Ay]at hh;exact hh.2.resolve_left fun hn=>hn hk
theorem jR{h:List Ob}{v:Vl}(hk:(zT h v).kind≠0):v.k=6/\qA h v.r=true/\zT h v=yJ h v.r:=by
 unfold zT at hk⊢;split at hk
 ·rename_i h1;exact⟨h1.1,h1.2,Ab h1⟩
 ·exact absurd rfl hk
theorem wA{h:List Ob}{v:Vl}(hv:v.k=6->qA h v.r=true)(hk:v.k=6):zT h v=yJ h v.r:=Ab ⟨hk,hv hk⟩
theorem jU0{h:List Ob}{v:Vl}(hk:¬v.k=6):zT h v=ob0:=Aa fun hh=>hk hh.1
theorem Usable_ok(h:List Ob)(vs:List Vl)(hh:HpIn h)(hin:∀v∈vs,VlIn v)(hl:vs.length<=2000000):Fx 4 [hpD md h,vsD vs] (.v (.bool (dJ h vs))):=by
 refine yD zJ Tryz.func4 rfl rfl rfl rfl rfl rfl ?_;intros;refine zK 100 ?_;refine zB ?_;refine zB (zE zJ [] 200 rfl ?_);refine zF ?_;refine zQ _ (Problem_ok _ ao) rfl ?_;refine zF ?_;refine zC (zA (zU rfl (fun c1=>?_) (fun c1=>?_)))
 ·replace c1:¬(qE h).1=0:=by simpa using c1
  refine zK 300 ?_;refine zL (zO ?_);exact u4 rfl (u7 (by rw[dJ,Ce c1];rfl))
 ·replace c1:(qE h).1=0:=by simpa using c1
  refine zM (zA (zB (zK 400 ?_)));refine zP ?_;refine yC (ι:=Al vs (hasS h)) [2,11,12] [0] 450 (fun x=>[(13,.v (.int .i64 x.k))]) (fun _=>[]) (fun x=>vs.length-x.k) ⟨0,Aq _,fun j x hj=>by omega⟩ ?_;refine⟨⟨yG,yF,rfl,rfl⟩,fun x=>?_⟩;have hk:=x.le;refine zK 500 ?_;refine zB (zZ (fun c4=>?_) (fun c4=>?_))
  ·
   refine zM (zA (zB (zP (zK 600 ?_))));refine zB (zE zJ [] 700 rfl ?_);refine zF ?_;refine zQ _ (Has_ok _ _ (hin _ (jH c4 vl0))) rfl ?_;refine zF ?_;refine zC (zA (zU rfl (fun c6=>?_) (fun c6=>?_)))
   ·simp only[Bq]at c6;refine zK 800 ?_;refine zL (zR (zO (yQ (zR (zO ?_)))));exact u4 rfl (u7 (by rw[dJ,Al.no (p:=hasS h) (e:=vl0) c4 c6,Bool.and_false]))
   ·simp only[Cb]at c6;refine zM (zN (zA (yM zJ [] 900 ?_)));exact zS (x.next (e:=vl0) c4 c6) ⟨yG,yF,rfl,rfl⟩ (by show vs.length-(x.k+1)<vs.length-x.k;omega)
  ·
   refine yE (yA (yB (zY (zA (zK 1000 ?_)))));refine zL ?_;exact u4 rfl (u7 (by rw[dJ,Bf c1,x.yes c4];rfl))
variable{md me:Bool}
structure St where
 k:Int
 v:Vl
 c:Int
 s:ByteArray
 w:Vl
 l:List Vl
def stD(s:St):List D:= .v (.int .i64 s.k)::(vlD s.v++(.v (.int .i64 s.c):: .v (.string s.s)::(vlD s.w++[.sl false 7 s.l vlD vl0])))
def raS(c:Int)(m:ByteArray):St:=⟨1,vl0,c,m,vl0,[]⟩
def vlS(v:Vl):St:=⟨0,v,0,ByteArray.empty,vl0,[]⟩
theorem gP(c:Int)(m:ByteArray):Fx 72 [.v (.int .i64 c),.v (.string m)] (.agg (stD (raS c m))):=by
 refine yD zJ Tryz.func72 rfl rfl rfl rfl rfl rfl ?_;intros;refine zK 100 ?_;refine zK 200 ?_;refine zL ?_;exact u4 rfl (u20 nz)
theorem yH0(v:Vl):Fx 27 [.agg (vlD v)] (.agg (stD (vlS v))):=by
 refine yD zJ Tryz.func27 rfl rfl rfl rfl rfl rfl ?_;intros;refine zK 100 ?_;refine zK 200 ?_;refine zL ?_;exact u4 rfl (u20 nz)
variable{md me:Bool}
section
variable{h:List Ob}{v:Vl}{b:Bool}{l:List Vl}{k:Nat}
end
variable{md me:Bool}
def txV(s:ByteArray):Vl:=⟨4,false,[],false,[],s,0⟩
def rfV(r:Int):Vl:=⟨6,false,[],false,[],ByteArray.empty,r⟩
theorem heapText_ok(s:ByteArray):Fx 68 [.v (.string s)] (.agg (vlD (txV s))):=by
 refine yD zJ Tryz.func68 rfl rfl rfl rfl rfl rfl ?_;intros;refine zK 100 ?_;refine zK 200 ?_;refine zL ?_;exact u4 rfl (u20 nz)
theorem T_ok(s:ByteArray):Fx 84 [.v (.string s)] (.agg (vlD (txV s))):=by
 refine yD zJ Tryz.func84 rfl rfl rfl rfl rfl rfl ?_;intros;refine zK 100 ?_;refine zK 200 ?_;refine zL ?_;exact u4 rfl (u20 nz)
theorem heapRef_ok(r:Int):Fx 127 [.v (.int .i64 r)] (.agg (vlD (rfV r))):=by
 refine yD zJ Tryz.func127 rfl rfl rfl rfl rfl rfl ?_;intros;refine zK 100 ?_;refine zK 200 ?_;refine zL ?_;exact u4 rfl (u20 nz)
theorem O_ok(r:Int):Fx 194 [.v (.int .i64 r)] (.agg (vlD (rfV r))):=by
 refine yD zJ Tryz.func194 rfl rfl rfl rfl rfl rfl ?_;intros;refine zK 100 ?_;refine zK 200 ?_;refine zL ?_;exact u4 rfl (u20 nz)
end Go.Proofs.YtammfbdgjnkolaaGreatDoor
