/-Part 16 of the proof. -/
import Derived.Test.YtammfbdgjnkolaaGreatDoorM15
namespace Go.Proofs.YtammfbdgjnkolaaGreatDoor
open Go.RowKit
variable{md me:Bool}
structure ObIn(o:Ob):Prop where
 kd: -9223372036854775808<=o.kind/\o.kind<=9223372036854775807
 cl: -9223372036854775808<=o.cls/\o.cls<=9223372036854775807
 co: -9223372036854775808<=o.code/\o.code<=9223372036854775807
 st: -9223372036854775808<=o.state/\o.state<=9223372036854775807
 nm:o.name.size<=2000000
 rl:o.refs.length<=2000000
 ol:o.order.length<=2000000
 nl:o.names.length<=2000000
 il:o.items.length<=2000000
 kl:o.keys.length<=2000000
 ns:∀s∈o.names,s.size<=2000000
 iv:∀v∈o.items,VlIn v
 kv:∀v∈o.keys,VlIn v
theorem zH1:ObIn ob0:=⟨by decide,by decide,by decide,by decide,by decide,by decide,by decide,by decide,by decide,by decide,(fun _ h=>by cases h),(fun _ h=>by cases h),(fun _ h=>by cases h)⟩
structure HpIn(h:List Ob):Prop where
 ob:∀o∈h,ObIn o
 len:h.length<=2000000
theorem HpIn.at{h:List Ob}(hh:HpIn h)(n:Int):ObIn (yJ h n):=by
 show ObIn (h.getD n.toNat ob0);rw[Af]
 cases hq:h[n.toNat]? with
 |none=>exact zH1
 |some o=>exact hh.ob o (Bg hq)
theorem VlIn.zero{v:Vl}(h:VlIn v):VlIn {v with k:=0}:=⟨(by decide:(-9223372036854775808:Int)<=0),(by decide:(0:Int)<=9223372036854775807),h.r1,h.r2,h.nl,h.dl,h.nn,h.dn,h.s⟩
theorem jY1:VlIn vl0:=⟨by decide,by decide,by decide,by decide,(fun _ h=>by cases h),(fun _ h=>by cases h),by decide,by decide,by decide⟩
theorem dI{l:List Vl}(h:∀v∈l,VlIn v)(n:Nat):VlIn (l.getD n vl0):=by
 rw[Af]
 cases hq:l[n]? with
 |none=>exact jY1
 |some v=>exact h v (Bg hq)
def lettersB:ByteArray:=⟨#[110,99,114,97,107,100,115]⟩
def bD(b:Bool):List D:=[.v (.bool b)]
def xJ0(o:Ob):List Bool:=[decide (o.name=⟨#[]⟩),decide (o.cls=0),decide ((o.refs.length:Int)=0),decide ((o.names.length:Int)=0),decide ((o.keys.length:Int)=0),decide (o.code=0),decide (o.state=0)]
def ltP(o:Ob)(i:Nat):Bool:= !(!((xJ0 o).getD ((i:Int)).toNat false)&& !(Lib.contains (uI o.kind).data.toList (lettersB.extract ((i:Int)).toNat ((i:Int)+1).toNat).data.toList))
abbrev yT0(u:ByteArray):Int:=(bAt u ((u.size:Int)-1).toNat:Nat)
def cntS(o:Ob):Int:=if uI o.kind=⟨#[]⟩then 0 else if yT0 (uI o.kind)=42 then o.items.length else if yT0 (uI o.kind)=61 then o.names.length else if yT0 (uI o.kind)=58 then o.keys.length else IntKind.i64.wrap (IntKind.u8.wrap (yT0 (uI o.kind)-48))
def wT(o:Ob):Bool:=((((!decide ((o.items.length:Int)=cntS o)||decide (o.code<0))||decide (o.state<0))||decide (mJ o.kind<o.state))||(!decide (o.kind=9)&&decide (0<(o.order.length:Int))))
def jY(o:Ob):Int:=if(List.range 7).all (ltP o)=true then(if wT o=true then 6 else 0)else 6
theorem vI0(k:Int):(uI k).size<=100:=by
 have h:∀u∈usesL,u.size<=100:=by decide+kernel
 show(usesL.getD k.toNat ByteArray.empty).size<=100;rw[Af]
 cases hq:usesL[k.toNat]? with
 |none=>decide
 |some u=>exact h u (Bg hq)
theorem mT0{u:ByteArray}(h:¬u=⟨#[]⟩):0<u.size:=by
 rcases Bz u.size with h0|h0
 ·exact absurd (cS h0) h
 ·exact h0
def kF(o:Ob):Bool:=if o.kind=11 then dotS o.name else wK o.name
def mx3(a b c:Int):Int:=if(if a<b then b else a)<c then c else(if a<b then b else a)
def wD(o:Ob):Int:=if(Lib.contains (uI o.kind).data.toList [110]&& !kF o)=true then 7 else if(decide (1000<mx3 o.items.length o.keys.length o.refs.length)||decide (200<(o.names.length:Int)))=true then 2 else 0
structure Sc{α β:Type}(l:List α)(F:List α->List α->β)where
 k:Nat
 le:k<=l.length
 eq:F (l.take k) (l.drop k)=F [] l
theorem uR0{α:Type}{l:List α}{k:Nat}(h:k<l.length)(e:α):l.drop k=l.getD (k:Int).toNat e::l.drop (k+1):=by rw[wW h,Cd h]
theorem jP{α:Type}{l:List α}{k:Nat}(h:k<l.length)(e:α):l.take (k+1)=l.take k++[l.getD (k:Int).toNat e]:=by rw[wW h,Dh h]
def Sc.start{α β:Type}(l:List α)(F:List α->List α->β):Sc l F:=⟨0,Aq _,rfl⟩
def Sc.next{α β:Type}{l:List α}{F:List α->List α->β}{e:α}(x:Sc l F)(h1:x.k<l.length)(h2:F (l.take x.k) (l.getD (x.k:Int).toNat e::l.drop (x.k+1))=F (l.take x.k++[l.getD (x.k:Int).toNat e]) (l.drop (x.k+1))):Sc l F:=⟨x.k+1,by omega,by
 rw[jP h1 e,<-h2,<-uR0 h1 e];exact x.eq⟩
theorem Sc.here{α β:Type}{l:List α}{F:List α->List α->β}{e:α}(x:Sc l F)(h1:x.k<l.length){n:β}(h2:F (l.take x.k) (l.getD (x.k:Int).toNat e::l.drop (x.k+1))=n):n=F [] l:=by
 rw[<-h2,<-uR0 h1 e];exact x.eq
theorem Sc.done{α β:Type}{l:List α}{F:List α->List α->β}(x:Sc l F)(h1:¬x.k<l.length){n:β}(h2:F l []=n):n=F [] l:=by
 have:=x.eq;rw[Ai om,Bd om,h2]at this;exact this
def nmF:List ByteArray->List ByteArray->Int
 |_,[]=>0
 |seen,s::r=>if wK s=false then 7 else if hasB seen s=true then 8 else nmF (seen++[s]) r
def zL1(o:Ob):Int:=nmF [] o.names
def fixV(o:Ob)(v:Vl):Vl:=if v.k=9/\(o.kind=6\/o.kind=17)then{v with k:=0}else v
def jU:List Vl->List Int
 |[]=>[]
 |v::l=>if v.k=6 then v.r::jU l else jU l
theorem jQ:∀l m:List Vl,jU (l++m)=jU l++jU m
 |[],_=>rfl
 |v::l,m=>by
  rw[List.cons_append,jU,jU,jQ l m];split<;>rfl
theorem kS:∀l:List Vl,(jU l).length<=l.length
 |[]=>Ar _
 |v::l=>by
  rw[jU];split
  ·simp;exact kS l
  ·simp;have:=kS l;omega
def kE(o:Ob):List Int:=[o.cls]++o.refs++o.order
def vV(o:Ob):List Int:=(kE o++jU (o.keys++o.items))++(if o.kind=18/\o.state≠0 then [IntKind.i64.wrap (o.state-1)]else [])
def vH(h:List Ob)(o:Ob):Int:=if((o.keys++o.items).all fun v=>qH (fixV o v))=true then(if(vV o).all (qA h)=true then 0 else 4)else 6
theorem gG1{P:Program}{E:Pn}{K:DS->Prop}{p:Prop}{r:Out}(hr:r.sat P E K)(hp:p:=by first|exact trivial|omega|exact ini (by omega) (by omega)|(intro hh;simp at hh;exact ini om om)|(intro hh;simp at hh⊢;omega)|(simp at*;omega)|(simp_all;done)|(intro hh;exact⟨by omega,by omega,by show(x.k:Int)+1<=((lettersB.size:Nat):Int);have:lettersB.size=7:=rfl;omega⟩)):(Out.need p r).sat P E K:=⟨hp,hr⟩
theorem shape_ok(h:List Ob)(n:Int)(hn:inH h n)(hk:0<=(h.getD n.toNat ob0).kind/\(h.getD n.toNat ob0).kind<21):Fx 52 [hpD md h,.v (.int .i64 n)] (.v (.int .i64 (jY (h.getD n.toNat ob0)))):=by
 have hus:=vI0 (h.getD n.toNat ob0).kind;refine yD zJ Tryz.func52 rfl rfl rfl rfl rfl rfl ?_;intros;refine zK 100 ?_;refine zB (zE zJ [] 200 rfl ?_);repeat(first|refine zH ?_|refine zW (by exact hn) ?_)
 refine zC (zA ?_);refine zB (zE zJ [] 300 rfl ?_);refine zF ?_;refine zQ _ (tI0 _ hk) rfl ?_;refine zF ?_;refine zC (zA (zK 400 ?_));refine zK 500 ?_;refine zB (zK 600 ?_);refine zP ?_;refine yC (ι:=Up 7 (ltP (h.getD n.toNat ob0))) [5,6,7] [105] 650 (fun x=>[(47,.v (.int .i64 x.k)),(46,.v (.int .i64 7)),(8,.sl false 1 (xJ0 (h.getD n.toNat ob0)) bD false),(45,.sl false 1 (xJ0 (h.getD n.toNat ob0)) bD false)]) (fun _=>[]) (fun x=>7-x.k) ⟨0,Aq _,fun j hj=>by omega⟩ ?_;refine⟨⟨yG,yF,rfl,rfl⟩,fun x=>?_⟩;have hk7:=x.le;have hem:(xJ0 (h.getD n.toNat ob0)).length=7:=rfl;refine zK 700 ?_;refine zB (zU rfl (fun c6=>?_) (fun c6=>?_))
 ·replace c6:x.k<7:=by have:=Ag c6;omega
  refine zM (zA (zB (zP (zK 800 ?_))));refine zB (zE zJ [] 900 rfl ?_);repeat(first|refine zH ?_|refine gG1 ?_)
  refine yR _ (fun hg12=>yP0 _ _ om) rfl ?_;repeat(first|refine zH ?_|refine gG1 ?_)
  refine zC (zA (zU rfl (fun c8=>?_) (fun c8=>?_)))
  ·
   refine zK 1000 ?_;refine zL (zR (zO (yQ (zR (zO ?_)))));exact u4 rfl (u10 (by rw[jY,Up.no (p:=ltP (h.getD n.toNat ob0)) c6 (congrArg Bool.not c8)];rfl))
  ·
   refine zM (zN (zA (yM zJ [] 1100 ?_)));exact zS (x.next om (congrArg Bool.not c8)) ⟨yG,yF,rfl,rfl⟩ (by show 7-(x.k+1)<7-x.k;omega)
 ·replace c6:¬x.k<7:=by have:=of_decide_eq_false c6;omega
  refine yE (yA (yB (zY (zA (zK 1200 ?_)))));refine zB (zK 1300 ?_);refine zZ (fun c12=>?_) (fun c12=>?_)
  ·
   refine zB (zE zJ [] 1400 rfl ?_);repeat(first|refine zH ?_|refine zW (by first|exact ini (by have:=mT0 c12;omega) om|(have:=mT0 c12;omega)) ?_)
   refine zC (zA (zK 1500 ?_));refine zP (zK 1700 ?_);refine zZ (fun c16=>?_) (fun c16=>?_)
   ·
    refine yM zJ [] 1800 ?_;refine zN (zA (zB ?_));refine zB (zX zJ [] mK3 2300 yP kr rfl ?_);refine zF ?_;refine yR _ (fun hg20=>wN _) rfl ?_;refine zF ?_;refine zC (zA (zU rfl (fun c22=>?_) (fun c22=>?_)))
    ·
     refine zK 2400 ?_;refine zL (zO ?_);exact u4 rfl (u10 (by rw[jY,Ab (x.yes c6),(show wT (h.getD n.toNat ob0)=true from(by rw[wT,cntS,Aa c12,Ab c16];exact c22))];rfl))
    ·
     refine zM (zA (zK 2500 ?_));refine zL ?_;exact u4 rfl (u10 (by rw[jY,Ab (x.yes c6),(show wT (h.getD n.toNat ob0)=false from(by rw[wT,cntS,Aa c12,Ab c16];exact c22))];rfl))
   ·
    refine zK 1900 ?_;refine zZ (fun c18=>?_) (fun c18=>?_)
    ·
     refine yM zJ [] 2000 ?_;refine zN (zA (zB ?_));refine zB (zX zJ [] mK3 2300 yP kr rfl ?_);refine zF ?_;refine yR _ (fun hg20=>wN _) rfl ?_;refine zF ?_;refine zC (zA (zU rfl (fun c22=>?_) (fun c22=>?_)))
     ·
      refine zK 2400 ?_;refine zL (zO ?_);exact u4 rfl (u10 (by rw[jY,Ab (x.yes c6),(show wT (h.getD n.toNat ob0)=true from(by rw[wT,cntS,Aa c12,Aa c16,Ab c18];exact c22))];rfl))
     ·
      refine zM (zA (zK 2500 ?_));refine zL ?_;exact u4 rfl (u10 (by rw[jY,Ab (x.yes c6),(show wT (h.getD n.toNat ob0)=false from(by rw[wT,cntS,Aa c12,Aa c16,Ab c18];exact c22))];rfl))
    ·
     refine zK 2100 ?_;refine zZ (fun c20=>?_) (fun c20=>?_)
     ·
      refine yM zJ [] 2200 ?_;refine zN (zA (zB ?_));refine zB (zX zJ [] mK3 2300 yP kr rfl ?_);refine zF ?_;refine yR _ (fun hg20=>wN _) rfl ?_;refine zF ?_;refine zC (zA (zU rfl (fun c22=>?_) (fun c22=>?_)))
      ·
       refine zK 2400 ?_;refine zL (zO ?_);exact u4 rfl (u10 (by rw[jY,Ab (x.yes c6),(show wT (h.getD n.toNat ob0)=true from(by rw[wT,cntS,Aa c12,Aa c16,Aa c18,Ab c20];exact c22))];rfl))
      ·
       refine zM (zA (zK 2500 ?_));refine zL ?_;exact u4 rfl (u10 (by rw[jY,Ab (x.yes c6),(show wT (h.getD n.toNat ob0)=false from(by rw[wT,cntS,Aa c12,Aa c16,Aa c18,Ab c20];exact c22))];rfl))
     ·
      refine yM zJ [] 2200 ?_;refine zN (zA (zB ?_));refine zB (zX zJ [] mK3 2300 yP kr rfl ?_);refine zF ?_;refine yR _ (fun hg20=>wN _) rfl ?_;refine zF ?_;refine zC (zA (zU rfl (fun c22=>?_) (fun c22=>?_)))
      ·
       refine zK 2400 ?_;refine zL (zO ?_);exact u4 rfl (u10 (by rw[jY,Ab (x.yes c6),(show wT (h.getD n.toNat ob0)=true from(by rw[wT,cntS,Aa c12,Aa c16,Aa c18,Aa c20];exact c22))];rfl))
      ·
       refine zM (zA (zK 2500 ?_));refine zL ?_;exact u4 rfl (u10 (by rw[jY,Ab (x.yes c6),(show wT (h.getD n.toNat ob0)=false from(by rw[wT,cntS,Aa c12,Aa c16,Aa c18,Aa c20];exact c22))];rfl))
  ·
   refine zM (zA (zB ?_));refine zB (zX zJ [] mK3 2300 yP kr rfl ?_);refine zF ?_;refine yR _ (fun hg20=>wN _) rfl ?_;refine zF ?_;refine zC (zA (zU rfl (fun c22=>?_) (fun c22=>?_)))
   ·
    refine zK 2400 ?_;refine zL (zO ?_);exact u4 rfl (u10 (by rw[jY,Ab (x.yes c6),(show wT (h.getD n.toNat ob0)=true from(by rw[wT,cntS,Ab c12];exact c22))];rfl))
   ·
    refine zM (zA (zK 2500 ?_));refine zL ?_;exact u4 rfl (u10 (by rw[jY,Ab (x.yes c6),(show wT (h.getD n.toNat ob0)=false from(by rw[wT,cntS,Ab c12];exact c22))];rfl))
theorem sizes_ok(h:List Ob)(n:Int)(hn:inH h n)(hk:0<=(h.getD n.toNat ob0).kind/\(h.getD n.toNat ob0).kind<21)(hh:HpIn h):Fx 53 [hpD md h,.v (.int .i64 n)] (.v (.int .i64 (wD (h.getD n.toNat ob0)))):=by
 have hus:=vI0 (h.getD n.toNat ob0).kind;have hnm:=(show ObIn (h.getD n.toNat ob0)from hh.at n).nm;refine yD zJ Tryz.func53 rfl rfl rfl rfl rfl rfl ?_;intros;refine zK 100 ?_;refine zB (zE zJ [] 200 rfl ?_);repeat(first|refine zH ?_|refine zW (by exact hn) ?_)
 refine zC (zA (zB ?_));refine zB (zE zJ [] 300 rfl ?_);refine zF ?_;refine zQ _ (tI0 _ hk) rfl ?_;refine zF ?_;refine zQ _ (yP0 _ _ om) rfl ?_;refine zF ?_;refine zC (zA (zU rfl (fun c2=>?_) (fun c2=>?_)))
 ·
  refine zB (zE zJ [] 400 rfl ?_);refine zF ?_;refine zQ _ (yK0 _) rfl ?_;refine zF ?_;refine zC (zA (zB (zK 500 ?_)));refine zZ (fun c4=>?_) (fun c4=>?_)
  ·
   refine zE zJ [] 600 rfl ?_;refine zF ?_;refine zQ _ (yO0 _ ao) rfl ?_;refine zF ?_;refine zC (zA (zK 700 ?_));refine zU rfl (fun c6=>?_) (fun c6=>?_)
   ·simp only[Bq]at c6;refine zK 800 ?_;refine zL (zO ?_);exact u4 rfl (u10 (by rw[wD,show(Lib.contains (uI (h.getD n.toNat ob0).kind).data.toList [110]&& !kF (h.getD n.toNat ob0))=true from(by rw[c2,kF,Ab c4,c6];rfl)];rfl))
   ·simp only[Cb]at c6;refine zM (zA (zB (zK 900 ?_)));refine zU rfl (fun c8=>?_) (fun c8=>?_)
    ·
     refine zK 1000 ?_;refine zL (zO ?_);exact u4 rfl (u10 (by rw[wD,show(Lib.contains (uI (h.getD n.toNat ob0).kind).data.toList [110]&& !kF (h.getD n.toNat ob0))=false from(by rw[c2,kF,Ab c4,c6];rfl)];rw[Aa de];show _=if(_:Bool)=true then _ else _;unfold mx3;rw[c8];rfl))
    ·
     refine zM (zA (zK 1100 ?_));refine zL ?_;exact u4 rfl (u10 (by rw[wD,show(Lib.contains (uI (h.getD n.toNat ob0).kind).data.toList [110]&& !kF (h.getD n.toNat ob0))=false from(by rw[c2,kF,Ab c4,c6];rfl)];rw[Aa de];show _=if(_:Bool)=true then _ else _;unfold mx3;rw[c8];rfl))
  ·
   refine zM (zA (zK 700 ?_));refine zU rfl (fun c6=>?_) (fun c6=>?_)
   ·simp only[Bq]at c6;refine zK 800 ?_;refine zL (zO ?_);exact u4 rfl (u10 (by rw[wD,show(Lib.contains (uI (h.getD n.toNat ob0).kind).data.toList [110]&& !kF (h.getD n.toNat ob0))=true from(by rw[c2,kF,Aa c4,c6];rfl)];rfl))
   ·simp only[Cb]at c6;refine zM (zA (zB (zK 900 ?_)));refine zU rfl (fun c8=>?_) (fun c8=>?_)
    ·
     refine zK 1000 ?_;refine zL (zO ?_);exact u4 rfl (u10 (by rw[wD,show(Lib.contains (uI (h.getD n.toNat ob0).kind).data.toList [110]&& !kF (h.getD n.toNat ob0))=false from(by rw[c2,kF,Aa c4,c6];rfl)];rw[Aa de];show _=if(_:Bool)=true then _ else _;unfold mx3;rw[c8];rfl))
    ·
     refine zM (zA (zK 1100 ?_));refine zL ?_;exact u4 rfl (u10 (by rw[wD,show(Lib.contains (uI (h.getD n.toNat ob0).kind).data.toList [110]&& !kF (h.getD n.toNat ob0))=false from(by rw[c2,kF,Aa c4,c6];rfl)];rw[Aa de];show _=if(_:Bool)=true then _ else _;unfold mx3;rw[c8];rfl))
 ·
  refine zM (zA (zB (zK 900 ?_)));refine zU rfl (fun c8=>?_) (fun c8=>?_)
  ·
   refine zK 1000 ?_;refine zL (zO ?_);exact u4 rfl (u10 (by rw[wD,show(Lib.contains (uI (h.getD n.toNat ob0).kind).data.toList [110]&& !kF (h.getD n.toNat ob0))=false from(by rw[c2];rfl)];rw[Aa de];show _=if(_:Bool)=true then _ else _;unfold mx3;rw[c8];rfl))
  ·
   refine zM (zA (zK 1100 ?_));refine zL ?_;exact u4 rfl (u10 (by rw[wD,show(Lib.contains (uI (h.getD n.toNat ob0).kind).data.toList [110]&& !kF (h.getD n.toNat ob0))=false from(by rw[c2];rfl)];rw[Aa de];show _=if(_:Bool)=true then _ else _;unfold mx3;rw[c8];rfl))
theorem names_ok(h:List Ob)(n:Int)(hn:inH h n)(hh:HpIn h):Fx 54 [hpD md h,.v (.int .i64 n)] (.v (.int .i64 (zL1 (h.getD n.toNat ob0)))):=by
 have hnl:=(show ObIn (h.getD n.toNat ob0)from hh.at n).nl;refine yD zJ Tryz.func54 rfl rfl rfl rfl rfl rfl ?_;intros;refine zK 100 ?_;refine zB (zE zJ [] 200 rfl ?_);repeat(first|refine zH ?_|refine zW (by exact hn) ?_)
 refine zC (zA (zB (zK 300 ?_)));refine zP ?_;refine yC (ι:=Sc (h.getD n.toNat ob0).names nmF) [5,14,15] [] 350 (fun x=>[(16,.v (.int .i64 x.k))]) (fun _=>[]) (fun x=>(h.getD n.toNat ob0).names.length-x.k) (Sc.start _ _) ?_;refine⟨⟨yG,yF,rfl,rfl⟩,fun x=>?_⟩;have hk:=x.le;refine zK 400 ?_;refine zB (zZ (fun c3=>?_) (fun c3=>?_))
 ·
  refine zM (zA (zB (zP (zK 500 ?_))));refine zB ?_;refine zB (zE zJ [] 600 rfl ?_);refine zF ?_;refine zQ _ (yK0 _) rfl ?_;refine zF ?_;refine zC (zA (zZ (fun c5=>?_) (fun c5=>?_)))
  ·
   refine zK 700 ?_;refine zL (zO (zR (zO (yQ (zR (zO ?_))))));exact u4 rfl (u10 (x.here (e:=ByteArray.empty) c3 (by rw[nmF,Ab c5])))
  ·
   refine zM (zA ?_);refine zB (zE zJ [] 800 rfl ?_);refine zF ?_;refine zQ _ (HasString_ok _ _) rfl ?_;refine zF ?_;refine zC (zA (zU rfl (fun c7=>?_) (fun c7=>?_)))
   ·
    refine zK 900 ?_;refine zL (zR (zO (yQ (zR (zO ?_)))));exact u4 rfl (u10 (x.here (e:=ByteArray.empty) c3 (by rw[nmF,Aa (by rw[c5];decide),Ab (show hasB ((h.getD n.toNat ob0).names.take x.k) _=true from c7)])))
   ·
    refine zM (zN (zA (yM zJ [] 1000 ?_)));exact zS (x.next (e:=ByteArray.empty) c3 (by rw[nmF,Aa (by rw[c5];decide),Aa (by rw[show hasB ((h.getD n.toNat ob0).names.take x.k) _=false from c7];decide)])) ⟨yG,yF,rfl,rfl⟩ (by show(h.getD n.toNat ob0).names.length-(x.k+1)<(h.getD n.toNat ob0).names.length-x.k;omega)
 ·
  refine yE (yA (yB (zY (zA (zK 1100 ?_)))));refine zL ?_;exact u4 rfl (u10 (x.done c3 rfl))
end Go.Proofs.YtammfbdgjnkolaaGreatDoor
