/-Part 16 of the proof. -/
import Derived.Test.YtmakjjodkiedmaaGreatDoorM15
namespace Go.Proofs.YtmakjjodkiedmaaGreatDoor
open Go.RowKit
variable{md me:Bool}
structure ObIn(o:Ob):Prop where
 kd: -9223372036854775808<=o.kind/\o.kind<=9223372036854775807
 cl: -9223372036854775808<=o.cls/\o.cls<=9223372036854775807
 co: -9223372036854775808<=o.code/\o.code<=9223372036854775807
 st: -9223372036854775808<=o.state/\o.state<=9223372036854775807
 nm:o.name.size<=2000000
 rl:o.refs.length<=2000000
 ol:o.order.length<=2000000
 nl:o.names.length<=2000000
 il:o.items.length<=2000000
 kl:o.keys.length<=2000000
 ns:∀s∈o.names,s.size<=2000000
 iv:∀v∈o.items,VlIn v
 kv:∀v∈o.keys,VlIn v
theorem kF0:ObIn ob0:=⟨by decide,by decide,by decide,by decide,by decide,by decide,by decide,by decide,by decide,by decide,(fun _ h=>by cases h),(fun _ h=>by cases h),(fun _ h=>by cases h)⟩
structure HpIn(h:List Ob):Prop where
 ob:∀o∈h,ObIn o
 len:h.length<=2000000
theorem HpIn.at{h:List Ob}(hh:HpIn h)(n:Int):ObIn (yV h n):=by
 show ObIn (h.getD n.toNat ob0);rw[Aj]
 cases hq:h[n.toNat]? with
 |none=>exact kF0
 |some o=>exact hh.ob o (Aw hq)
theorem VlIn.zero{v:Vl}(h:VlIn v):VlIn {v with k:=0}:=⟨(by decide:(-9223372036854775808:Int)<=0),(by decide:(0:Int)<=9223372036854775807),h.r1,h.r2,h.nl,h.dl,h.nn,h.dn,h.s⟩
theorem vl0_in:VlIn vl0:=⟨by decide,by decide,by decide,by decide,(fun _ h=>by cases h),(fun _ h=>by cases h),by decide,by decide,by decide⟩
theorem gY{l:List Vl}(h:∀v∈l,VlIn v)(n:Nat):VlIn (l.getD n vl0):=by
 rw[Aj]
 cases hq:l[n]? with
 |none=>exact vl0_in
 |some v=>exact h v (Aw hq)
def lettersB:ByteArray:=⟨#[110,99,114,97,107,100,115]⟩
def bD(b:Bool):List D:=[.v (.bool b)]
def jM0(o:Ob):List Bool:=[decide (o.name=⟨#[]⟩),decide (o.cls=0),decide ((o.refs.length:Int)=0),decide ((o.names.length:Int)=0),decide ((o.keys.length:Int)=0),decide (o.code=0),decide (o.state=0)]
def ltP(o:Ob)(i:Nat):Bool:= !(!((jM0 o).getD ((i:Int)).toNat false)&& !(Lib.contains (uW o.kind).data.toList (lettersB.extract ((i:Int)).toNat ((i:Int)+1).toNat).data.toList))
abbrev cJ(u:ByteArray):Int:=(bAt u ((u.size:Int)-1).toNat:Nat)
def cntS(o:Ob):Int:=if uW o.kind=⟨#[]⟩then 0 else if cJ (uW o.kind)=42 then o.items.length else if cJ (uW o.kind)=61 then o.names.length else if cJ (uW o.kind)=58 then o.keys.length else IntKind.i64.wrap (IntKind.u8.wrap (cJ (uW o.kind)-48))
def uX(o:Ob):Bool:=((((!decide ((o.items.length:Int)=cntS o)||decide (o.code<0))||decide (o.state<0))||decide (xF o.kind<o.state))||(!decide (o.kind=9)&&decide (0<(o.order.length:Int))))
def jZ(o:Ob):Int:=if(List.range 7).all (ltP o)=true then(if uX o=true then 6 else 0)else 6
theorem tT(k:Int):(uW k).size<=100:=by
 have h:∀u∈usesL,u.size<=100:=by decide+kernel
 show(usesL.getD k.toNat ByteArray.empty).size<=100;rw[Aj]
 cases hq:usesL[k.toNat]? with
 |none=>decide
 |some u=>exact h u (Aw hq)
theorem qE0{u:ByteArray}(h:¬u=⟨#[]⟩):0<u.size:=by
 rcases Bp u.size with h0|h0
 ·exact absurd (mX h0) h
 ·exact h0
def xL(o:Ob):Bool:=if o.kind=11 then dotS o.name else wJ o.name
def mx3(a b c:Int):Int:=if(if a<b then b else a)<c then c else(if a<b then b else a)
def wB(o:Ob):Int:=if(Lib.contains (uW o.kind).data.toList [110]&& !xL o)=true then 7 else if(decide (1000<mx3 o.items.length o.keys.length o.refs.length)||decide (200<(o.names.length:Int)))=true then 2 else 0
structure Sc{α β:Type}(l:List α)(F:List α->List α->β)where
 k:Nat
 le:k<=l.length
 eq:F (l.take k) (l.drop k)=F [] l
theorem xB0{α:Type}{l:List α}{k:Nat}(h:k<l.length)(e:α):l.drop k=l.getD (k:Int).toNat e::l.drop (k+1):=by rw[mB h,Dk h]
theorem qY{α:Type}{l:List α}{k:Nat}(h:k<l.length)(e:α):l.take (k+1)=l.take k++[l.getD (k:Int).toNat e]:=by rw[mB h,Df h]
def Sc.start{α β:Type}(l:List α)(F:List α->List α->β):Sc l F:=⟨0,Aq _,rfl⟩
def Sc.next{α β:Type}{l:List α}{F:List α->List α->β}{e:α}(x:Sc l F)(h1:x.k<l.length)(h2:F (l.take x.k) (l.getD (x.k:Int).toNat e::l.drop (x.k+1))=F (l.take x.k++[l.getD (x.k:Int).toNat e]) (l.drop (x.k+1))):Sc l F:=⟨x.k+1,by omega,by
 rw[qY h1 e,<-h2,<-xB0 h1 e];exact x.eq⟩
theorem Sc.here{α β:Type}{l:List α}{F:List α->List α->β}{e:α}(x:Sc l F)(h1:x.k<l.length){n:β}(h2:F (l.take x.k) (l.getD (x.k:Int).toNat e::l.drop (x.k+1))=n):n=F [] l:=by
 rw[<-h2,<-xB0 h1 e];exact x.eq
theorem Sc.done{α β:Type}{l:List α}{F:List α->List α->β}(x:Sc l F)(h1:¬x.k<l.length){n:β}(h2:F l []=n):n=F [] l:=by
 have:=x.eq;rw[Am om,Bq om,h2]at this;exact this
def nmF:List ByteArray->List ByteArray->Int
 |_,[]=>0
 |seen,s::r=>if wJ s=false then 7 else if hasB seen s=true then 8 else nmF (seen++[s]) r
def wA0(o:Ob):Int:=nmF [] o.names
def fixV(o:Ob)(v:Vl):Vl:=if v.k=9/\(o.kind=6\/o.kind=17)then{v with k:=0}else v
def jD:List Vl->List Int
 |[]=>[]
 |v::l=>if v.k=6 then v.r::jD l else jD l
theorem jA:∀l m:List Vl,jD (l++m)=jD l++jD m
 |[],_=>rfl
 |v::l,m=>by
  rw[List.cons_append,jD,jD,jA l m];split<;>rfl
theorem wR:∀l:List Vl,(jD l).length<=l.length
 |[]=>Ap _
 |v::l=>by
  rw[jD];split
  ·simp;exact wR l
  ·simp;have:=wR l;omega
def wI(o:Ob):List Int:=[o.cls]++o.refs++o.order
def uI(o:Ob):List Int:=(wI o++jD (o.keys++o.items))++(if o.kind=18/\o.state≠0 then [IntKind.i64.wrap (o.state-1)]else [])
def uA(h:List Ob)(o:Ob):Int:=if((o.keys++o.items).all fun v=>yR (fixV o v))=true then(if(uI o).all (qA h)=true then 0 else 4)else 6
theorem pG0{P:Program}{E:Pn}{K:DS->Prop}{p:Prop}{r:Out}(hr:r.sat P E K)(hp:p:=by first|exact trivial|omega|exact ini (by omega) (by omega)|(intro hh;simp at hh;exact ini om om)|(intro hh;simp at hh⊢;omega)|(simp at*;omega)|(simp_all;done)|(intro hh;exact⟨by omega,by omega,by show(x.k:Int)+1<=((lettersB.size:Nat):Int);have:lettersB.size=7:=rfl;omega⟩)):(Out.need p r).sat P E K:=⟨hp,hr⟩
theorem shape_ok(h:List Ob)(n:Int)(hn:inH h n)(hk:0<=(h.getD n.toNat ob0).kind/\(h.getD n.toNat ob0).kind<21):Fx 49 [hpD md h,.v (.int .i64 n)] (.v (.int .i64 (jZ (h.getD n.toNat ob0)))):=by
 have hus:=tT (h.getD n.toNat ob0).kind;refine yM zO Tryz.func49 rfl rfl rfl rfl rfl rfl ?_;intros;refine zK 100 ?_;refine zB (zE zO [] 200 rfl ?_);repeat(first|refine zH ?_|refine zU (by exact hn) ?_)
 refine zC (zA ?_);refine zB (zE zO [] 300 rfl ?_);refine zF ?_;refine zS _ (uV0 _ hk) rfl ?_;refine zF ?_;refine zC (zA (zK 400 ?_));refine zK 500 ?_;refine zB (zK 600 ?_);refine zQ ?_;refine yB (ι:=Up 7 (ltP (h.getD n.toNat ob0))) [5,6,7] [105] 650 (fun x=>[(47,.v (.int .i64 x.k)),(46,.v (.int .i64 7)),(8,.sl false 1 (jM0 (h.getD n.toNat ob0)) bD false),(45,.sl false 1 (jM0 (h.getD n.toNat ob0)) bD false)]) (fun _=>[]) (fun x=>7-x.k) ⟨0,Aq _,fun j hj=>by omega⟩ ?_;refine⟨⟨yK,yH,rfl,rfl⟩,fun x=>?_⟩;have hk7:=x.le;have hem:(jM0 (h.getD n.toNat ob0)).length=7:=rfl;refine zK 700 ?_;refine zB (zT rfl (fun c6=>?_) (fun c6=>?_))
 ·replace c6:x.k<7:=by have:=Ar c6;omega
  refine zJ (zA (zB (zQ (zK 800 ?_))));refine zB (zE zO [] 900 rfl ?_);repeat(first|refine zH ?_|refine pG0 ?_)
  refine yP _ (fun hg12=>dI _ _ om) rfl ?_;repeat(first|refine zH ?_|refine pG0 ?_)
  refine zC (zA (zT rfl (fun c8=>?_) (fun c8=>?_)))
  ·
   refine zK 1000 ?_;refine zN (zP (zM (yL (zP (zM ?_)))));exact u1 rfl (u7 (by rw[jZ,Up.no (p:=ltP (h.getD n.toNat ob0)) c6 (congrArg Bool.not c8)];rfl))
  ·
   refine zJ (zL (zA (yO zO [] 1100 ?_)));exact zR (x.next om (congrArg Bool.not c8)) ⟨yK,yH,rfl,rfl⟩ (by show 7-(x.k+1)<7-x.k;omega)
 ·replace c6:¬x.k<7:=by have:=of_decide_eq_false c6;omega
  refine yF (zZ (yA (zW (zA (zK 1200 ?_)))));refine zB (zK 1300 ?_);refine zX (fun c12=>?_) (fun c12=>?_)
  ·
   refine zB (zE zO [] 1400 rfl ?_);repeat(first|refine zH ?_|refine zU (by first|exact ini (by have:=qE0 c12;omega) om|(have:=qE0 c12;omega)) ?_)
   refine zC (zA (zK 1500 ?_));refine zQ (zK 1700 ?_);refine zX (fun c16=>?_) (fun c16=>?_)
   ·
    refine yO zO [] 1800 ?_;refine zL (zA (zB ?_));refine zB (yE zO [] mK2 2300 yX kr rfl ?_);refine zF ?_;refine yP _ (fun hg20=>uS _) rfl ?_;refine zF ?_;refine zC (zA (zT rfl (fun c22=>?_) (fun c22=>?_)))
    ·
     refine zK 2400 ?_;refine zN (zM ?_);exact u1 rfl (u7 (by rw[jZ,Ag (x.yes c6),(show uX (h.getD n.toNat ob0)=true from(by rw[uX,cntS,Aa c12,Ag c16];exact c22))];rfl))
    ·
     refine zJ (zA (zK 2500 ?_));refine zN ?_;exact u1 rfl (u7 (by rw[jZ,Ag (x.yes c6),(show uX (h.getD n.toNat ob0)=false from(by rw[uX,cntS,Aa c12,Ag c16];exact c22))];rfl))
   ·
    refine zK 1900 ?_;refine zX (fun c18=>?_) (fun c18=>?_)
    ·
     refine yO zO [] 2000 ?_;refine zL (zA (zB ?_));refine zB (yE zO [] mK2 2300 yX kr rfl ?_);refine zF ?_;refine yP _ (fun hg20=>uS _) rfl ?_;refine zF ?_;refine zC (zA (zT rfl (fun c22=>?_) (fun c22=>?_)))
     ·
      refine zK 2400 ?_;refine zN (zM ?_);exact u1 rfl (u7 (by rw[jZ,Ag (x.yes c6),(show uX (h.getD n.toNat ob0)=true from(by rw[uX,cntS,Aa c12,Aa c16,Ag c18];exact c22))];rfl))
     ·
      refine zJ (zA (zK 2500 ?_));refine zN ?_;exact u1 rfl (u7 (by rw[jZ,Ag (x.yes c6),(show uX (h.getD n.toNat ob0)=false from(by rw[uX,cntS,Aa c12,Aa c16,Ag c18];exact c22))];rfl))
    ·
     refine zK 2100 ?_;refine zX (fun c20=>?_) (fun c20=>?_)
     ·
      refine yO zO [] 2200 ?_;refine zL (zA (zB ?_));refine zB (yE zO [] mK2 2300 yX kr rfl ?_);refine zF ?_;refine yP _ (fun hg20=>uS _) rfl ?_;refine zF ?_;refine zC (zA (zT rfl (fun c22=>?_) (fun c22=>?_)))
      ·
       refine zK 2400 ?_;refine zN (zM ?_);exact u1 rfl (u7 (by rw[jZ,Ag (x.yes c6),(show uX (h.getD n.toNat ob0)=true from(by rw[uX,cntS,Aa c12,Aa c16,Aa c18,Ag c20];exact c22))];rfl))
      ·
       refine zJ (zA (zK 2500 ?_));refine zN ?_;exact u1 rfl (u7 (by rw[jZ,Ag (x.yes c6),(show uX (h.getD n.toNat ob0)=false from(by rw[uX,cntS,Aa c12,Aa c16,Aa c18,Ag c20];exact c22))];rfl))
     ·
      refine yO zO [] 2200 ?_;refine zL (zA (zB ?_));refine zB (yE zO [] mK2 2300 yX kr rfl ?_);refine zF ?_;refine yP _ (fun hg20=>uS _) rfl ?_;refine zF ?_;refine zC (zA (zT rfl (fun c22=>?_) (fun c22=>?_)))
      ·
       refine zK 2400 ?_;refine zN (zM ?_);exact u1 rfl (u7 (by rw[jZ,Ag (x.yes c6),(show uX (h.getD n.toNat ob0)=true from(by rw[uX,cntS,Aa c12,Aa c16,Aa c18,Aa c20];exact c22))];rfl))
      ·
       refine zJ (zA (zK 2500 ?_));refine zN ?_;exact u1 rfl (u7 (by rw[jZ,Ag (x.yes c6),(show uX (h.getD n.toNat ob0)=false from(by rw[uX,cntS,Aa c12,Aa c16,Aa c18,Aa c20];exact c22))];rfl))
  ·
   refine zJ (zA (zB ?_));refine zB (yE zO [] mK2 2300 yX kr rfl ?_);refine zF ?_;refine yP _ (fun hg20=>uS _) rfl ?_;refine zF ?_;refine zC (zA (zT rfl (fun c22=>?_) (fun c22=>?_)))
   ·
    refine zK 2400 ?_;refine zN (zM ?_);exact u1 rfl (u7 (by rw[jZ,Ag (x.yes c6),(show uX (h.getD n.toNat ob0)=true from(by rw[uX,cntS,Ag c12];exact c22))];rfl))
   ·
    refine zJ (zA (zK 2500 ?_));refine zN ?_;exact u1 rfl (u7 (by rw[jZ,Ag (x.yes c6),(show uX (h.getD n.toNat ob0)=false from(by rw[uX,cntS,Ag c12];exact c22))];rfl))
theorem sizes_ok(h:List Ob)(n:Int)(hn:inH h n)(hk:0<=(h.getD n.toNat ob0).kind/\(h.getD n.toNat ob0).kind<21)(hh:HpIn h):Fx 50 [hpD md h,.v (.int .i64 n)] (.v (.int .i64 (wB (h.getD n.toNat ob0)))):=by
 have hus:=tT (h.getD n.toNat ob0).kind;have hnm:=(show ObIn (h.getD n.toNat ob0)from hh.at n).nm;refine yM zO Tryz.func50 rfl rfl rfl rfl rfl rfl ?_;intros;refine zK 100 ?_;refine zB (zE zO [] 200 rfl ?_);repeat(first|refine zH ?_|refine zU (by exact hn) ?_)
 refine zC (zA (zB ?_));refine zB (zE zO [] 300 rfl ?_);refine zF ?_;refine zS _ (uV0 _ hk) rfl ?_;refine zF ?_;refine zS _ (dI _ _ om) rfl ?_;refine zF ?_;refine zC (zA (zT rfl (fun c2=>?_) (fun c2=>?_)))
 ·
  refine zB (zE zO [] 400 rfl ?_);refine zF ?_;refine zS _ (dD _) rfl ?_;refine zF ?_;refine zC (zA (zB (zK 500 ?_)));refine zX (fun c4=>?_) (fun c4=>?_)
  ·
   refine zE zO [] 600 rfl ?_;refine zF ?_;refine zS _ (dH _ ao) rfl ?_;refine zF ?_;refine zC (zA (zK 700 ?_));refine zT rfl (fun c6=>?_) (fun c6=>?_)
   ·simp only[Bd]at c6;refine zK 800 ?_;refine zN (zM ?_);exact u1 rfl (u7 (by rw[wB,show(Lib.contains (uW (h.getD n.toNat ob0).kind).data.toList [110]&& !xL (h.getD n.toNat ob0))=true from(by rw[c2,xL,Ag c4,c6];rfl)];rfl))
   ·simp only[Be]at c6;refine zJ (zA (zB (zK 900 ?_)));refine zT rfl (fun c8=>?_) (fun c8=>?_)
    ·
     refine zK 1000 ?_;refine zN (zM ?_);exact u1 rfl (u7 (by rw[wB,show(Lib.contains (uW (h.getD n.toNat ob0).kind).data.toList [110]&& !xL (h.getD n.toNat ob0))=false from(by rw[c2,xL,Ag c4,c6];rfl)];rw[Aa de];show _=if(_:Bool)=true then _ else _;unfold mx3;rw[c8];rfl))
    ·
     refine zJ (zA (zK 1100 ?_));refine zN ?_;exact u1 rfl (u7 (by rw[wB,show(Lib.contains (uW (h.getD n.toNat ob0).kind).data.toList [110]&& !xL (h.getD n.toNat ob0))=false from(by rw[c2,xL,Ag c4,c6];rfl)];rw[Aa de];show _=if(_:Bool)=true then _ else _;unfold mx3;rw[c8];rfl))
  ·
   refine zJ (zA (zK 700 ?_));refine zT rfl (fun c6=>?_) (fun c6=>?_)
   ·simp only[Bd]at c6;refine zK 800 ?_;refine zN (zM ?_);exact u1 rfl (u7 (by rw[wB,show(Lib.contains (uW (h.getD n.toNat ob0).kind).data.toList [110]&& !xL (h.getD n.toNat ob0))=true from(by rw[c2,xL,Aa c4,c6];rfl)];rfl))
   ·simp only[Be]at c6;refine zJ (zA (zB (zK 900 ?_)));refine zT rfl (fun c8=>?_) (fun c8=>?_)
    ·
     refine zK 1000 ?_;refine zN (zM ?_);exact u1 rfl (u7 (by rw[wB,show(Lib.contains (uW (h.getD n.toNat ob0).kind).data.toList [110]&& !xL (h.getD n.toNat ob0))=false from(by rw[c2,xL,Aa c4,c6];rfl)];rw[Aa de];show _=if(_:Bool)=true then _ else _;unfold mx3;rw[c8];rfl))
    ·
     refine zJ (zA (zK 1100 ?_));refine zN ?_;exact u1 rfl (u7 (by rw[wB,show(Lib.contains (uW (h.getD n.toNat ob0).kind).data.toList [110]&& !xL (h.getD n.toNat ob0))=false from(by rw[c2,xL,Aa c4,c6];rfl)];rw[Aa de];show _=if(_:Bool)=true then _ else _;unfold mx3;rw[c8];rfl))
 ·
  refine zJ (zA (zB (zK 900 ?_)));refine zT rfl (fun c8=>?_) (fun c8=>?_)
  ·
   refine zK 1000 ?_;refine zN (zM ?_);exact u1 rfl (u7 (by rw[wB,show(Lib.contains (uW (h.getD n.toNat ob0).kind).data.toList [110]&& !xL (h.getD n.toNat ob0))=false from(by rw[c2];rfl)];rw[Aa de];show _=if(_:Bool)=true then _ else _;unfold mx3;rw[c8];rfl))
  ·
   refine zJ (zA (zK 1100 ?_));refine zN ?_;exact u1 rfl (u7 (by rw[wB,show(Lib.contains (uW (h.getD n.toNat ob0).kind).data.toList [110]&& !xL (h.getD n.toNat ob0))=false from(by rw[c2];rfl)];rw[Aa de];show _=if(_:Bool)=true then _ else _;unfold mx3;rw[c8];rfl))
theorem names_ok(h:List Ob)(n:Int)(hn:inH h n)(hh:HpIn h):Fx 51 [hpD md h,.v (.int .i64 n)] (.v (.int .i64 (wA0 (h.getD n.toNat ob0)))):=by
 have hnl:=(show ObIn (h.getD n.toNat ob0)from hh.at n).nl;refine yM zO Tryz.func51 rfl rfl rfl rfl rfl rfl ?_;intros;refine zK 100 ?_;refine zB (zE zO [] 200 rfl ?_);repeat(first|refine zH ?_|refine zU (by exact hn) ?_)
 refine zC (zA (zB (zK 300 ?_)));refine zQ ?_;refine yB (ι:=Sc (h.getD n.toNat ob0).names nmF) [5,14,15] [] 350 (fun x=>[(16,.v (.int .i64 x.k))]) (fun _=>[]) (fun x=>(h.getD n.toNat ob0).names.length-x.k) (Sc.start _ _) ?_;refine⟨⟨yK,yH,rfl,rfl⟩,fun x=>?_⟩;have hk:=x.le;refine zK 400 ?_;refine zB (zX (fun c3=>?_) (fun c3=>?_))
 ·
  refine zJ (zA (zB (zQ (zK 500 ?_))));refine zB ?_;refine zB (zE zO [] 600 rfl ?_);refine zF ?_;refine zS _ (dD _) rfl ?_;refine zF ?_;refine zC (zA (zX (fun c5=>?_) (fun c5=>?_)))
  ·
   refine zK 700 ?_;refine zN (zM (zP (zM (yL (zP (zM ?_))))));exact u1 rfl (u7 (x.here (e:=ByteArray.empty) c3 (by rw[nmF,Ag c5])))
  ·
   refine zJ (zA ?_);refine zB (zE zO [] 800 rfl ?_);refine zF ?_;refine zS _ (HasString_ok _ _) rfl ?_;refine zF ?_;refine zC (zA (zT rfl (fun c7=>?_) (fun c7=>?_)))
   ·
    refine zK 900 ?_;refine zN (zP (zM (yL (zP (zM ?_)))));exact u1 rfl (u7 (x.here (e:=ByteArray.empty) c3 (by rw[nmF,Aa (by rw[c5];decide),Ag (show hasB ((h.getD n.toNat ob0).names.take x.k) _=true from c7)])))
   ·
    refine zJ (zL (zA (yO zO [] 1000 ?_)));exact zR (x.next (e:=ByteArray.empty) c3 (by rw[nmF,Aa (by rw[c5];decide),Aa (by rw[show hasB ((h.getD n.toNat ob0).names.take x.k) _=false from c7];decide)])) ⟨yK,yH,rfl,rfl⟩ (by show(h.getD n.toNat ob0).names.length-(x.k+1)<(h.getD n.toNat ob0).names.length-x.k;omega)
 ·
  refine yF (zZ (yA (zW (zA (zK 1100 ?_)))));refine zN ?_;exact u1 rfl (u7 (x.done c3 rfl))
end Go.Proofs.YtmakjjodkiedmaaGreatDoor
