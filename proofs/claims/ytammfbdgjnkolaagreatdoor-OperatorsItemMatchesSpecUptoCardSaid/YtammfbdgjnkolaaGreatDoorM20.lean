/-Part 20 of the proof. -/
import Derived.Test.YtammfbdgjnkolaaGreatDoorM19
import Derived.Shelf.Spec.SlicesGrow
import Derived.Shelf.Strconv.Itoa3
import Derived.Shelf.Strconv.Quote
namespace Go.Proofs.YtammfbdgjnkolaaGreatDoor
open Go.RowKit
variable{md me:Bool}
def caI(f:Vl)(l:List Vl):St:=⟨2,vl0,0,ByteArray.empty,f,l⟩
def dnS:St:=⟨3,vl0,0,ByteArray.empty,vl0,[]⟩
def atS(l:List Vl)(i:Int):St:=if i<(l.length:Nat)then vlS (l.getD i.toNat vl0)else dnS
def chgT:ByteArray:=⟨#[99,111,110,116,97,105,110,101,114,32,99,104,97,110,103,101,100,32,100,117,114,105,110,103,32,105,116,101,114,97,116,105,111,110]⟩
def elmS(h:List Ob)(v z:Vl)(i:Int):St:=
 if v.k=4 then(if i<((ruL v.s).length:Nat)then vlS (txV (Utf8.encode ((ruL v.s).getD i.toNat 0)))else dnS)
 else if v.k=5 then(if i<(v.s.size:Nat)then vlS (nuV ((bAt v.s i.toNat:Nat):Int))else dnS)
 else if(zT h v).kind=3\/(zT h v).kind=4 then(if(nuV ((zT h v).keys.length:Nat)).nl=z.nl then atS (zT h v).keys i else raS 47 chgT)
 else atS (zT h v).items i
def elS(h:List Ob)(v:Vl):List Vl:=
 if v.k=4 then(itL v.s v.s.size 0).map fun c=>txV (Utf8.encode c.2)
 else if v.k=5 then(List.range v.s.size).map fun i=>nuV ((bAt v.s i:Nat):Int)
 else if(zT h v).kind=3\/(zT h v).kind=4 then(zT h v).keys
 else(zT h v).items
structure Itx{α:Type}(L:List α)where
 k:Nat
 r:List α
 eq:L.drop k=r
theorem yP1{α:Type}{L:List α}{k:Nat}{a:α}{r:List α}(h:L.drop k=a::r):L.drop (k+1)=r:=by
 rw[<-List.drop_drop,h];rfl
theorem gE0{α:Type}{L:List α}{k:Nat}{a:α}{r:List α}(h:L.drop k=a::r):L.take (k+1)=L.take k++[a]:=by
 have h1:L[k]?=some a:=by rw[<-List.head?_drop,h];rfl
 rw[List.take_add_one,h1];rfl
theorem mP0{α:Type}{L:List α}{k:Nat}(h:L.drop k=[]):L.take k=L:=by
 have h1:=Eb k L
 rwa[h,Cr]at h1
theorem mO0{α:Type}{L:List α}{k:Nat}{a:α}{r:List α}(h:L.drop k=a::r):(L.take (k+1)).length=(L.take k).length+1:=by
 rw[gE0 h,Ae];rfl
theorem obj_in{h:List Ob}(hh:HpIn h)(v:Vl):ObIn (zT h v):=by
 unfold zT;split
 ·exact hh.at v.r
 ·exact zH1
theorem by64(s:ByteArray)(i:Nat):IntKind.i64.wrap ((bAt s i:Nat):Int)=((bAt s i:Nat):Int):=InI.wrap ⟨by omega,by have:=xQ0 s i;omega⟩
theorem qA0{k n:Nat}(h:k<n):(List.range n).take (k+1)=(List.range n).take k++[k]:=by
 rw[List.take_add_one,Ew h];rfl
theorem qZ1{P:Program}{E:Pn}{K:DS->Prop}{p:Prop}{r:Out}(hr:r.sat P E K)(hp:p:=by first|rfl|(simp only[An,As,Du,Am,Au];omega)|(exact⟨by omega,by omega⟩)|exact Fa):(Out.need p r).sat P E K:=⟨hp,hr⟩
theorem Elements_ok(h:List Ob)(v:Vl)(hh:HpIn h)(hi:VlIn v):FnO Tryz.prog 34 [hpD md h,.agg (vlD v)] 29 7 ((elS h v).map vlD):=by
 have hsz:=hi.s;have hil:=wG v.s v.s.size 0;have hob:=obj_in hh v;refine bV Tryz.func34 rfl rfl rfl rfl rfl rfl ?_;intros;refine zK 100 ?_;refine zK 200 ?_;refine yY 5 29 7 rfl ?_;refine zB ?_;refine zB (zE zJ [] 300 rfl ?_);refine zF ?_;refine zQ _ (jL _ _) rfl ?_;refine zF ?_;refine zC (zA (zP (zK 500 ?_)));refine zZ (fun c4=>?_) (fun c4=>?_)
 ·
  refine zK 600 ?_;refine zP ?_;refine yC (ι:=Itx (itL v.s v.s.size 0)) [22] [] 650 (fun x=>[(5,.own 200 7 (((itL v.s v.s.size 0).take x.k).map (fun c:Int×Int=>vlD (txV (Utf8.encode c.2)))))]) (fun x=>[(200,.row 29 7 (((itL v.s v.s.size 0).take x.k).map (fun c:Int×Int=>vlD (txV (Utf8.encode c.2)))).length),(502,.itr x.r)]) (fun x=>x.r.length) ⟨0,_,rfl⟩ ?_;refine⟨⟨yG,yF,rfl,rfl⟩,fun x=>?_⟩;obtain⟨k,r,hr⟩:=x;rcases r with _|⟨⟨q,c⟩,r⟩
  ·refine zK 700 ?_;refine zB (zZ (fun c6=>?_) (fun c6=>?_))
   ·
    first|exact absurd c6 (by simp)|(simp at c6;done)|cases c6
   ·
    refine yE (yA (yB (zY (zN (zA (zK 1700 ?_))))));refine zL ?_;refine FinO.ret rfl rfl rfl ?_;unfold elS;rw[Ab c4,Cw];exact congrArg (List.map (fun c:Int×Int=>vlD (txV (Utf8.encode c.2)))) (mP0 hr)
  ·refine zK 700 ?_;refine zB (zZ (fun c6=>?_) (fun c6=>?_))
   ·
    refine zM (zA (zP (zK 800 ?_)));refine zE zJ [] 900 rfl ?_;repeat(first|refine zH ?_|refine qZ1 ?_)
    refine zQ _ (T_ok _) rfl ?_;repeat(first|refine zH ?_|refine qZ1 ?_)
    refine zC (zN ?_);exact zS (⟨k+1,r,yP1 hr⟩) ⟨⟨Sub.ownRows (by rw[gE0 hr,Ad];exact RowsP.refl _),yG⟩,⟨⟨rfl,rfl,by simp only[An,Ae];rw[mO0 hr];rfl⟩,rfl,yF⟩,rfl,rfl⟩ (by show r.length<((q,c)::r).length;simp)
   ·
    first|exact absurd c6 (by simp)|(simp at c6;done)|cases c6
 ·
  refine zK 1000 ?_;refine zZ (fun c9=>?_) (fun c9=>?_)
  ·
   refine zK 1100 ?_;refine zP ?_;refine yC (ι:={k:Nat//k<=v.s.size}) [3] [1] 1150 (fun x=>[(9,.v (.int .i64 x.1)),(5,.own 200 7 (((List.range v.s.size).take x.1).map (fun i:Nat=>vlD (nuV ((bAt v.s i:Nat):Int)))))]) (fun x=>[(200,.row 29 7 (((List.range v.s.size).take x.1).map (fun i:Nat=>vlD (nuV ((bAt v.s i:Nat):Int)))).length)]) (fun x=>v.s.size-x.1) ⟨0,Aq _⟩ ?_;refine⟨⟨yG,yF,rfl,rfl⟩,fun x=>?_⟩;have hk:x.1<=v.s.size:=x.2;refine zB (zK 1200 ?_);refine zZ (fun c11=>?_) (fun c11=>?_)
   ·
    refine zM (zA (zB (zP ?_)));refine zE zJ [] 1400 rfl ?_;repeat(first|refine zH ?_|refine qZ1 ?_)
    refine zQ _ (N_ok _ (by rw[by64];omega) (by rw[by64];have:=xQ0 v.s ((x.1:Nat):Int).toNat;omega)) rfl ?_;repeat(first|refine zH ?_|refine qZ1 ?_)
    refine zC (zN (zA (yM zJ [] 1500 ?_)));exact zS (⟨x.1+1,by omega⟩) ⟨⟨u21 (by push_cast;rfl),Sub.ownRows (by rw[qA0 c11,Ad];exact(RowsP.refl _).append ⟨by rw[by64,Ak];exact SubPs.refl _,trivial⟩),yG⟩,⟨⟨rfl,rfl,by simp only[Ae,An];rw[qA0 c11,Ae];rfl⟩,yF⟩,rfl,rfl⟩ (by show v.s.size-(x.1+1)<v.s.size-x.1;omega)
   ·
    refine yE (yA (yB (zY (zN (zA (zK 1700 ?_))))));refine zL ?_;refine FinO.ret rfl rfl rfl ?_;unfold elS;rw[Aa c4,Ab c9,Cw];exact congrArg (List.map (fun i:Nat=>vlD (nuV ((bAt v.s i:Nat):Int)))) (Ai (by rw[Du];omega))
  ·
   refine zK 1500 ?_;refine zZ (fun c14=>?_) (fun c14=>?_)
   ·
    refine zE zJ [63] 1600 rfl ?_;refine zF ?_;refine jJ _ _ _ (kP _ hob.kl) ?_;refine zF ?_;refine zC (zN (zA (zK 1700 ?_)));refine zL ?_;refine FinO.ret rfl rfl rfl ?_;unfold elS;rw[Aa c4,Aa c9,Ab c14]
   ·
    refine zE zJ [15] 1600 rfl ?_;refine zF ?_;refine jJ _ _ _ (kP _ hob.il) ?_;refine zF ?_;refine zC (zN (zA (zK 1700 ?_)));refine zL ?_;refine FinO.ret rfl rfl rfl ?_;unfold elS;rw[Aa c4,Aa c9,Aa (not_or.2 c14)]
variable{md me:Bool}
theorem bsZ(a:Array UInt8):(⟨a⟩:ByteArray).size=a.size:=rfl
end Go.Proofs.YtammfbdgjnkolaaGreatDoor
/-
  DERIVED:THE SHELF's CONTRACTS AT THIS DUMP,IN PLAIN WORDS (tools/lay-plain.mjs out of 'YtammfbdgjnkolaaGreatDoorShelf3.lean',which tools/lay-shelf.mjs wrote):THE SAME DECLARATIONS UNDER THE SAME NAMES:'import','namespace','open','def','theorem' AND NOTHING ELSE:no command of the shelf's:FOR A HAND-IN. Each laying:the table of numbers ('.._ren') and one theorem,a field a fact of the dump's own or the kernel's comparison;each contract:ONE APPLICATION.
-/
namespace Go.Proofs
open Go.Shelf
def Tryz.laysGrowV_ren:Go.Shelf.Ren:=⟨fun|4=>99|n=>n,fun|22=>33|25=>29|3=>3|4=>4|9=>9|20=>20|0=>0|n=>n,fun|n=>n⟩
theorem vE{α:Type}{a b:α}(h:a=b:=by kernel_rfl):some a=some b:=congrArg some h
theorem Tryz.laysGrowV:Go.Proofs.Lays8.n4 Tryz.prog Tryz.laysGrowV_ren:={
 mixed:=by kernel_rfl
 f4:=⟨Tryz.f99.name,by decide,Tryz.func99.trans vE⟩
 t0:=Tryz.underlying0
 a0:=Tryz.isAgg0
 z0:=Tryz.sizeOf0
 v0:=Tryz.zeroValue0
 t3:=Tryz.underlying3
 a3:=Tryz.isAgg3
 z3:=Tryz.sizeOf3
 v3:=Tryz.zeroValue3
 t4:=Tryz.underlying4
 a4:=Tryz.isAgg4
 z4:=Tryz.sizeOf4
 v4:=Tryz.zeroValue4
 t9:=Tryz.underlying9
 a9:=Tryz.isAgg9
 z9:=Tryz.sizeOf9
 v9:=Tryz.zeroValue9
 t20:=Tryz.underlying20
 a20:=Tryz.isAgg20
 z20:=Tryz.sizeOf20
 v20:=Tryz.zeroValue20
 t22:=Tryz.underlying33
 a22:=Tryz.isAgg33
 z22:=Tryz.sizeOf33
 v22:=Tryz.zeroValue33}
def Tryz.laysItoa_ren:Go.Shelf.Ren:=⟨fun|171=>196|243=>221|246=>239|283=>253|284=>254|285=>255|286=>256|129=>270|317=>269|318=>271|319=>272|320=>273|337=>281|338=>282|n=>n,fun|3=>3|9=>9|2=>2|4=>4|171=>271|0=>0|53=>165|37=>122|5=>5|173=>274|212=>283|51=>91|20=>20|213=>284|46=>153|232=>296|233=>297|n=>n,fun|17=>5|18=>11|19=>12|n=>n⟩
theorem Tryz.laysItoa:Go.Proofs.LaysM.n171 Tryz.prog Tryz.laysItoa_ren:={
 mixed:=by kernel_rfl
 f129:=Tryz.func270.trans vE
 f171:=Tryz.func196.trans vE
 f243:=Tryz.func221.trans vE
 f246:=Tryz.func239.trans vE
 f283:=Tryz.func253.trans vE
 f284:=Tryz.func254.trans vE
 f285:=Tryz.func255.trans vE
 f286:=Tryz.func256.trans vE
 f317:=Tryz.func269.trans vE
 f318:=Tryz.func271.trans vE
 f319:=Tryz.func272.trans vE
 f320:=Tryz.func273.trans vE
 f337:=Tryz.func281.trans vE
 f338:=Tryz.func282.trans vE
 t0:=Tryz.underlying0
 a0:=Tryz.isAgg0
 z0:=Tryz.sizeOf0
 v0:=Tryz.zeroValue0
 t2:=Tryz.underlying2
 a2:=Tryz.isAgg2
 z2:=Tryz.sizeOf2
 v2:=Tryz.zeroValue2
 t3:=Tryz.underlying3
 a3:=Tryz.isAgg3
 z3:=Tryz.sizeOf3
 v3:=Tryz.zeroValue3
 t4:=Tryz.underlying4
 a4:=Tryz.isAgg4
 z4:=Tryz.sizeOf4
 v4:=Tryz.zeroValue4
 t5:=Tryz.underlying5
 a5:=Tryz.isAgg5
 z5:=Tryz.sizeOf5
 v5:=Tryz.zeroValue5
 t9:=Tryz.underlying9
 a9:=Tryz.isAgg9
 z9:=Tryz.sizeOf9
 v9:=Tryz.zeroValue9
 t20:=Tryz.underlying20
 a20:=Tryz.isAgg20
 z20:=Tryz.sizeOf20
 v20:=Tryz.zeroValue20
 t37:=Tryz.underlying122
 a37:=Tryz.isAgg122
 z37:=Tryz.sizeOf122
 v37:=Tryz.zeroValue122
 t46:=Tryz.underlying153
 a46:=Tryz.isAgg153
 z46:=Tryz.sizeOf153
 v46:=Tryz.zeroValue153
 t51:=Tryz.underlying91
 a51:=Tryz.isAgg91
 z51:=Tryz.sizeOf91
 v51:=Tryz.zeroValue91
 t53:=Tryz.underlying165
 a53:=Tryz.isAgg165
 z53:=Tryz.sizeOf165
 v53:=Tryz.zeroValue165
 t171:=Tryz.underlying271
 a171:=Tryz.isAgg271
 z171:=Tryz.sizeOf271
 v171:=Tryz.zeroValue271
 t173:=Tryz.underlying274
 a173:=Tryz.isAgg274
 z173:=Tryz.sizeOf274
 v173:=Tryz.zeroValue274
 t212:=Tryz.underlying283
 a212:=Tryz.isAgg283
 z212:=Tryz.sizeOf283
 v212:=Tryz.zeroValue283
 t213:=Tryz.underlying284
 a213:=Tryz.isAgg284
 z213:=Tryz.sizeOf284
 t232:=Tryz.underlying296
 a232:=Tryz.isAgg296
 z232:=Tryz.sizeOf296
 v232:=Tryz.zeroValue296
 t233:=Tryz.underlying297
 a233:=Tryz.isAgg297
 z233:=Tryz.sizeOf297
 v233:=Tryz.zeroValue297
 g17:=by kernel_rfl
 g18:=by kernel_rfl
 g19:=by kernel_rfl
 i0:=by kernel_rfl
 i2:=by kernel_rfl
 i3:=by kernel_rfl
 i4:=by kernel_rfl
 i5:=by kernel_rfl
 i9:=by kernel_rfl
 i20:=by kernel_rfl
 i37:=by kernel_rfl
 i46:=by kernel_rfl
 i51:=by kernel_rfl
 i53:=by kernel_rfl
 i171:=by kernel_rfl
 i173:=by kernel_rfl
 i212:=by kernel_rfl
 i232:=by kernel_rfl
 i233:=by kernel_rfl
 m17:=by kernel_rfl
 m18:=by kernel_rfl
 m19:=by kernel_rfl}
def Tryz.laysQuote_ren:Go.Shelf.Ren:=⟨fun|177=>151|250=>197|289=>222|197=>240|323=>241|260=>257|339=>258|340=>259|242=>260|119=>261|345=>274|346=>275|278=>276|n=>n,fun|9=>9|5=>5|4=>4|3=>3|37=>122|21=>21|105=>255|46=>153|119=>185|0=>0|139=>199|138=>198|49=>242|234=>286|131=>287|51=>91|236=>25|n=>n,fun|3=>1|4=>2|20=>6|21=>7|22=>8|23=>9|24=>10|n=>n⟩
theorem Tryz.laysQuote:Go.Proofs.Lays.n177 Tryz.prog Tryz.laysQuote_ren:={
 mixed:=by kernel_rfl
 f119:=Tryz.func261.trans vE
 f177:=Tryz.func151.trans vE
 f197:=Tryz.func240.trans vE
 f242:=Tryz.func260.trans vE
 f250:=Tryz.func197.trans vE
 f260:=Tryz.func257.trans vE
 f278:=Tryz.func276.trans vE
 f289:=Tryz.func222.trans vE
 f323:=Tryz.func241.trans vE
 f339:=Tryz.func258.trans vE
 f340:=Tryz.func259.trans vE
 f345:=Tryz.func274.trans vE
 f346:=Tryz.func275.trans vE
 t0:=Tryz.underlying0
 a0:=Tryz.isAgg0
 z0:=Tryz.sizeOf0
 v0:=Tryz.zeroValue0
 t3:=Tryz.underlying3
 a3:=Tryz.isAgg3
 z3:=Tryz.sizeOf3
 v3:=Tryz.zeroValue3
 t4:=Tryz.underlying4
 a4:=Tryz.isAgg4
 z4:=Tryz.sizeOf4
 v4:=Tryz.zeroValue4
 t5:=Tryz.underlying5
 a5:=Tryz.isAgg5
 z5:=Tryz.sizeOf5
 v5:=Tryz.zeroValue5
 t9:=Tryz.underlying9
 a9:=Tryz.isAgg9
 z9:=Tryz.sizeOf9
 v9:=Tryz.zeroValue9
 t21:=Tryz.underlying21
 a21:=Tryz.isAgg21
 z21:=Tryz.sizeOf21
 v21:=Tryz.zeroValue21
 t37:=Tryz.underlying122
 a37:=Tryz.isAgg122
 z37:=Tryz.sizeOf122
 v37:=Tryz.zeroValue122
 t46:=Tryz.underlying153
 a46:=Tryz.isAgg153
 z46:=Tryz.sizeOf153
 v46:=Tryz.zeroValue153
 t49:=Tryz.underlying242
 a49:=Tryz.isAgg242
 z49:=Tryz.sizeOf242
 v49:=Tryz.zeroValue242
 t51:=Tryz.underlying91
 a51:=Tryz.isAgg91
 z51:=Tryz.sizeOf91
 v51:=Tryz.zeroValue91
 t105:=Tryz.underlying255
 a105:=Tryz.isAgg255
 z105:=Tryz.sizeOf255
 v105:=Tryz.zeroValue255
 t119:=Tryz.underlying185
 a119:=Tryz.isAgg185
 z119:=Tryz.sizeOf185
 t131:=Tryz.underlying287
 a131:=Tryz.isAgg287
 z131:=Tryz.sizeOf287
 v131:=Tryz.zeroValue287
 t138:=Tryz.underlying198
 a138:=Tryz.isAgg198
 z138:=Tryz.sizeOf198
 v138:=Tryz.zeroValue198
 t139:=Tryz.underlying199
 a139:=Tryz.isAgg199
 z139:=Tryz.sizeOf199
 v139:=Tryz.zeroValue199
 t234:=Tryz.underlying286
 a234:=Tryz.isAgg286
 z234:=Tryz.sizeOf286
 v234:=Tryz.zeroValue286
 t236:=Tryz.underlying25
 a236:=Tryz.isAgg25
 z236:=Tryz.sizeOf25
 v236:=Tryz.zeroValue25
 g3:=by kernel_rfl
 g4:=by kernel_rfl
 g20:=by kernel_rfl
 g21:=by kernel_rfl
 g22:=by kernel_rfl
 g23:=by kernel_rfl
 g24:=by kernel_rfl}
end Go.Proofs
namespace Go.Proofs.YtammfbdgjnkolaaGreatDoor
open Go.RowKit Go.Shelf
theorem grow_O{P:Program}{f:FuncId}{e:TypeId}{sz:Nat}(hb:Bod P f)(n:Nat)
  (h0:n=0->∀w,Calls P f #[.slice none 0 0,.int .i64 n] w fun r w'=>r= .returned (.slice none 0 0)/\w'=w)
  (h1:0<n->∀w:World,Calls P f #[.slice none 0 0,.int .i64 n] w fun r w'=>∃(cur:Array Value)(G:Nat),r= .returned (.slice (some ⟨w.heap.size,0,none⟩) 0 G)/\w'=w.drew.alloc (.cells cur e)/\cur.size=G*sz/\G<=maxLen):
  FnO P f [.v (.slice none 0 0),.v (.int .i64 n)] e sz []:=by
 refine⟨hb,fun w s vs hlt _ hv=>?_⟩
 match vs,hv with
 |[a,b],⟨ha,hb',_⟩=>
  have ha:a= .slice none 0 0:=ha;have hb':b= .int .i64 n:=hb';subst ha hb';rcases Bz n with hn|hn
  ·refine(h0 hn w).mono fun r w' hq=>?_;obtain⟨rfl,rfl⟩:=hq;refine⟨s,⟨fun _=>none,fun k m=>if k=0/\m=0 then some (.slice none 0 0)else none⟩,0,.slice none 0 0,rfl,?_,⟨fun m hm=>?_,_,rfl,.inl ⟨rfl,rfl⟩⟩,fun N hN=>?_,⟨Ex.refl _ _,hlt,rfl,rfl,rfl,Ar _,fun _ _=>rfl,fun _ _ h=> .inl h,fun _ _ h=> .inl h⟩⟩
   ·rw[TV.P];exact⟨⟨none,0,rfl,Ar _,by omega,(fun _ h=>by cases h),fun i row h=>by simp[D.pvss]at h⟩,rfl⟩
   ·have hm:0<m:=hm;exact Aa om
   ·cases hN
  ·refine(h1 hn w).mono fun r w' hq=>?_;obtain⟨cur,G,rfl,rfl,hc,hG⟩:=hq;have hnew:(w.drew.alloc (.cells cur e)).heap[w.heap.size]?=some (.cells cur e (0,0)):=heap_alloc_new w.drew _;have hold:∀N,N<w.heap.size->(w.drew.alloc (.cells cur e)).heap[N]?=w.heap[N]?:=fun N hN=>heap_alloc_old w.drew _ hN;have hsz:(w.drew.alloc (.cells cur e)).heap.size=w.heap.size+1:=by
    show(w.drew.heap.push _).size=_;rw[Array.size_push];rfl
   refine⟨s,⟨fun _=>none,fun k m=>if k=0/\m=0 then some (.slice (some ⟨w.heap.size,0,none⟩) 0 G)else none⟩,0,.slice (some ⟨w.heap.size,0,none⟩) 0 G,rfl,?_,⟨fun m hm=>?_,_,rfl,.inr ⟨w.heap.size,G,cur,rfl,.of hnew,Aq _,hG,hc,fun o _ h=>?_⟩⟩,fun N hN=>?_,⟨⟨fun _ _ h=>h,fun b o hs=>wH (hold b (hlt b o hs)),fun _ _ h=>h⟩,fun B o h=>?_,rfl,rfl,rfl,by omega,hold,fun _ _ h=> .inl h,fun _ _ h=> .inl h⟩⟩
   ·rw[TV.P];exact⟨⟨_,G,rfl,Aq _,by unfold maxLen at hG;omega,(fun _ h=>by cases h),fun i row h=>by simp[D.pvss]at h⟩,rfl⟩
   ·have hm:0<m:=hm;exact Aa om
   ·have:=hlt _ _ h;omega
   ·have hN:some w.heap.size=some N:=hN
    cases hN;exact Ar _
   ·have:=hlt B o h;omega
theorem GrowV_ok(n:Nat)(hn:n<=100000000):FnO Tryz.prog 99 [.v (.slice none 0 0),.v (.int .i64 n)] 29 7 []:=by
 refine grow_O ⟨_,Tryz.func99,rfl,rfl⟩ n (fun h w=>?_) fun h w=>?_
 ·subst h;exact Any8.slices_Grow_room Tryz.laysGrowV none 0 0 0 w om om om om
 ·obtain⟨ie,z,hu,hi,hz,hsz,hzc,hs0,hb0,hb1⟩:=(gZ (yI (t:=33) zJ (show fnd 33 TT=some (.sl 29 7) by rfl))).2.2.h
  have hx:=Any8.slices_Grow_grow Tryz.laysGrowV ie z hi hz om none 0 0 n [] w (Ar _) om (by
   have:=Nat.mul_le_mul (show 0+n<=100000000 by omega) hb1;omega) om (by simp) (fun _=>rfl) (fun _ h=>by cases h)
  refine hx.mono fun r w' hq=>?_;obtain⟨rfl,rfl⟩:=hq;have hG:n<=grownCap w (0+n) 0 (Tryz.laysGrowV_ren.t 25):=At om (grownCap_ge w (0+n) 0 _);refine⟨_,_,rfl,rfl,?_,grownCap_le_maxLen w _ _ _ (by unfold maxLen;omega)⟩;simp only[Array.size_append,Cl,Au,size_zeroCells,hzc];omega
open Go.RowKit
variable{md me:Bool}
def st0:St:=⟨0,vl0,0,ByteArray.empty,vl0,[]⟩
def stsD(l:List St):D:= .sl false 18 l stD st0
def vssD(l:List (List Vl)):D:= .sl false 1 l (fun x=>[vsD x]) []
def caS(f:Vl)(l:List Vl):St:=⟨2,vl0,0,ByteArray.empty,f,l⟩
def jX(h:List Ob)(v:Vl)(s:ByteArray)(l:List Vl):List St:=if(spS h v s).2.2=true then [caS (spS h v s).1 ((spS h v s).2.1++l)]else []
def ctL(L:List (List Vl))(k:Nat):List Vl:=(L.take k).flatten
theorem zY0{L:List (List Vl)}{k:Nat}(h:k<L.length):ctL L (k+1)=ctL L k++L.getD k []:=by
 unfold ctL;rw[List.take_add_one,Ac h,List.flatten_append,Af,Ac h];simp
theorem yS1(L:List (List Vl))(k:Nat):(ctL L k).length<=(ctL L L.length).length:=by
 unfold ctL;rw[List.take_length]
 conv=>rhs;rw[<-Eb k L,List.flatten_append,Ae]
 omega
theorem dP0(a b:List Vl):ctL [a,b] [a,b].length=a++b:=by simp[ctL]
theorem xP1(h:List Ob)(v:Vl)(s:ByteArray):(spS h v s).2.1.length<=1:=by
 unfold spS;repeat' split
 all_goals first|exact Ar _|exact Aq _
theorem xV(L:List (List Vl))(hl:(ctL L L.length).length<=100000000)(hL:L.length<=1000):FnO Tryz.prog 48 [vssD L] 29 7 ((ctL L L.length).map vlD):=by
 refine bV Tryz.func48 rfl rfl rfl rfl rfl rfl ?_;intros;refine zK 100 ?_;refine zK 200 ?_;refine zB (zK 300 ?_);refine zP ?_;refine yC (ι:={k:Nat//k<=L.length}) [0,9,10] [] 350 (fun x=>[(3,.v (.int .i64 ((ctL L x.1).length:Nat))),(11,.v (.int .i64 x.1))]) (fun _=>[]) (fun x=>L.length-x.1) ⟨0,Aq _⟩ ?_;refine⟨⟨yG,yF,rfl,rfl⟩,fun x=>?_⟩;have hk:x.1<=L.length:=x.2;have hf:=yS1 L (x.1+1);have hn:∀h:x.1<L.length,(ctL L (x.1+1)).length=(ctL L x.1).length+(L.getD ((x.1:Nat):Int).toNat []).length:=fun h=>by rw[zY0 h,Ae];rfl
 have hf0:=yS1 L x.1;refine zK 400 ?_;refine zB (zZ (fun c3=>?_) (fun c3=>?_))
 ·
  refine zM (zA (zB (zP (zK 500 ?_))));refine zB (zE zJ [] 600 rfl ?_);repeat(first|refine zH ?_|refine zW (by first|(have h9:=hn c3;exact ini om om)|exact Fa) ?_)
  refine zC (zA (zK 700 ?_));refine zZ (fun c6=>?_) (fun c6=>?_)
  ·
   omega
  ·
   refine zM (zN (zA (yM zJ [] 900 ?_)));exact zS (⟨x.1+1,by omega⟩) ⟨⟨u21 (by rw[zY0 c3,Ae];push_cast;rfl),u21 (by push_cast;rfl),yG⟩,yF,rfl,rfl⟩ (by show L.length-(x.1+1)<L.length-x.1;omega)
 ·
  refine yE (yA (yB (zY (zA ?_))));refine zB (zE zJ [24] 1000 rfl ?_);refine zF ?_;refine jJ _ _ _ (GrowV_ok _ (by have:=yS1 L x.1;omega)) ?_;refine zF ?_;refine zC (zA (zB (zK 1100 ?_)));refine zP ?_;refine yC (ι:={k:Nat//k<=L.length}) [25,26] [] 1150 (fun y=>[(27,.v (.int .i64 y.1)),(6,.own 401 7 ((ctL L y.1).map vlD))]) (fun y=>[(401,.row 29 7 ((ctL L y.1).map vlD).length)]) (fun y=>L.length-y.1) ⟨0,Aq _⟩ ?_;refine⟨⟨yG,yF,rfl,rfl⟩,fun y=>?_⟩;have hky:y.1<=L.length:=y.2;have hfy:=yS1 L (y.1+1);have hfy0:=yS1 L y.1;have hny:∀h:y.1<L.length,(ctL L (y.1+1)).length=(ctL L y.1).length+(L.getD ((y.1:Nat):Int).toNat []).length:=fun h=>by rw[zY0 h,Ae];rfl
  refine zK 1200 ?_;refine zB (zZ (fun c11=>?_) (fun c11=>?_))
  ·
   refine zM (zA (zB (zP (zK 1300 ?_))));refine zE zJ [] 1400 rfl ?_;repeat(first|refine zH ?_|refine zW (by first|(have:=hny c11;simp only[An];omega)|exact Fa) ?_)
   refine zC (zN (zA (yM zJ [] 1500 ?_)));exact zS (⟨y.1+1,by omega⟩) ⟨⟨u21 (by push_cast;rfl),Sub.own (by rw[zY0 c11,Ad];rfl),yG⟩,⟨⟨rfl,rfl,by show _=(List.map vlD (ctL L (y.1+1))).length;rw[zY0 c11];simp⟩,yF⟩,rfl,rfl⟩ (by show L.length-(y.1+1)<L.length-y.1;omega)
  ·
   refine yE (yA (yB (zY (zA (zK 1600 ?_)))));refine zL ?_;have e:y.1=L.length:=by omega
   exact FinO.ret rfl rfl (by rw[e]) (by rw[e])
theorem kD(h:List Ob)(v:Vl)(s:ByteArray)(l:List Vl)(hh:HpIn h)(g:Uh h)(hv:v.k=6->qA h v.r=true)(hl:l.length<=1000000):Fx 18 [hpD md h,.agg (vlD v),.v (.string s),vsD l] (stsD (jX h v s l)):=by
 refine yD zJ Tryz.func18 rfl rfl rfl rfl rfl rfl ?_;intros;refine zK 100 ?_;refine zB (zE zJ [] 200 rfl ?_);refine zF ?_;refine zQ _ (Special_ok _ _ _ ao ao ao) rfl ?_;refine zF ?_;refine zC (zA (zB (zK 300 ?_)));refine zZ (fun c2=>?_) (fun c2=>?_)
 ·
  refine zK 400 ?_;refine zL (zO ?_);exact u4 rfl (u12 (by rw[jX,Aa (by simp[c2])]))
 ·
  refine zM (zA ?_);refine zB (zX zJ [26] [[],[],[],[1,2],[1,2,3],(rgN 5),(rgN 6),(rgN 7)] 500 yP kr rfl ?_);refine zF ?_;refine jJ _ _ _ ((xV [(spS h v s).2.1,l] (by have:=xP1 h v s;rw[dP0,Ae];omega) (by show 2<=1000;omega)).args ⟨u18 rfl,trivial⟩) ?_;refine zf (zA (zL ?_));rw[jX,Ab (by simpa using c2)];exact u4 rfl (SubP.slrRows ⟨by repeat(first|exact trivial|exact u6 _|exact u12 rfl|exact SubP.ownSl (by rw[dP0];rfl)|refine⟨?_,?_⟩),trivial⟩)
theorem CallOf_ok(f:Vl)(l:List Vl):Fx 147 [.agg (vlD f),vsD l] (.agg (stD (caS f l))):=by
 refine yD zJ Tryz.func147 rfl rfl rfl rfl rfl rfl ?_;intros;refine zK 100 ?_;refine zK 200 ?_;refine zL ?_;exact u4 rfl (u20 nz)
theorem Specially_ok(h:List Ob)(v:Vl)(s:ByteArray)(l:List Vl)(hh:HpIn h)(g:Uh h)(hv:v.k=6->qA h v.r=true)(hl:l.length<=1000000):Fx 88 [hpD md h,.agg (vlD v),.v (.string s),vsD l] (.tup [.agg (stD (caS (spS h v s).1 ((spS h v s).2.1++l))),.v (.bool (spS h v s).2.2)]):=by
 refine yD zJ Tryz.func88 rfl rfl rfl rfl rfl rfl ?_;intros;refine zK 100 ?_;refine zB (zE zJ [] 200 rfl ?_);refine zF ?_;refine zQ _ (Method_ok _ _ _ ao ao ao) rfl ?_;refine zf (zA ?_);refine zB (zX zJ [25] [[],[],[],[1,2],[1,2,3],(rgN 5),[],(rgN 6),(rgN 8)] 300 yP kr rfl ?_);refine zF ?_;refine jJ _ _ _ ((xV [(spS h v s).2.1,l] (by have:=xP1 h v s;rw[dP0,Ae];omega) (by show 2<=1000;omega)).args ⟨u18 rfl,trivial⟩) ?_;refine zF ?_;refine zQ _ ((CallOf_ok _ ((spS h v s).2.1++l)).args ⟨u6 _,SubP.ownSl (by simp[ctL]),trivial⟩) rfl ?_;refine zf (zA (zL ?_));exact u4 rfl (u6 _)
theorem pA(h:List Ob)(v:Vl)(s:ByteArray)(l:List Vl)(hh:HpIn h)(g:Uh h)(hv:v.k=6->qA h v.r=true)(hl:l.length<=1000000):Fx 36 [hpD md h,.agg (vlD v),.v (.string s),vsD l] (stsD (jX h v s l)):=by
 refine yD zJ Tryz.func36 rfl rfl rfl rfl rfl rfl ?_;intros;refine zK 100 ?_;refine zB ?_;refine zB (zE zJ [] 200 rfl ?_);refine zF ?_;refine zQ _ (Specially_ok _ _ _ _ ao ao ao ao) rfl ?_;refine zF ?_;refine zC (zA (zK 300 ?_));refine zZ (fun c2=>?_) (fun c2=>?_)
 ·
  refine zK 400 ?_;refine zL (zO ?_);exact u4 rfl (u18 (by rw[jX,Ab (by simpa using c2)];rfl))
 ·
  refine zM (zA (zK 500 ?_));refine zL ?_;exact u4 rfl (u12 (by rw[jX,Aa (by simp[c2])]))
variable{md me:Bool}
def rD(b:Bool)(n:Nat):D:= .agg [.v (.bool b),qK n]
def qD(b:Bool)(n d:Nat):D:= .agg [.v (.bool b),qK n,qK d]
theorem fits_eq(n d:Nat):(decide (((dig n).length:Int)<=256)&&decide (((dig d).length:Int)<=256))=fitB n d:=by rw[yB1,yB1];rfl
theorem vO1{a b:Nat}(h:0<=cmpN a b):b<=a:=by
 rcases Br a b with h1|h1
 ·rw[xN0 h1]at h;omega
 ·exact h1
theorem cmp_le{a b:Nat}(h:¬0<=cmpN a b):a<=b:=by
 rcases Br b a with h1|h1
 ·rw[qP0 h1]at h;omega
 ·exact h1
theorem cmp_nge{a b:Nat}(h:¬0<=cmpN a b):¬b<=a:=fun h1=>by
 rcases Br b a with h2|h2
 ·rw[qP0 h2]at h;omega
 ·rw[dT0 om]at h;omega
theorem yV1(d:Nat):(cmpN d 1=0)↔d=1:=by
 unfold cmpN;constructor
 ·intro h;split at h
  ·cases h
  ·split at h
   ·cases h
   ·omega
 ·rintro rfl;rfl
theorem xU(b:Bool)(l:List Nat)(hg:Lg l)(hl:l.length<=100000000):Fx 135 [.agg [.v (.bool b),usD l]] (rD b (VL l)):=by
 refine yD zJ Tryz.func135 rfl rfl rfl rfl rfl rfl ?_;intros;refine zK 100 ?_;refine zB (zX zJ [] [[],[0],[],[2],[2,3],(rgN 5),(rgN 6)] 200 yP kr rfl ?_);refine zF ?_;refine zQ _ (qL1 _ ao ao) rfl ?_;refine zf (zA (zL ?_));exact u4 rfl (u6 _)
theorem Whole3_ok(b:Bool)(n:Nat):Fx 80 [rD b n] (qD b n 1):=by
 refine yD zJ Tryz.func80 rfl rfl rfl rfl rfl rfl ?_;intros;refine zK 100 ?_;refine zB (zX zJ [] [[],[],[0,1],[0,1,2]] 200 yP kr rfl ?_);refine zF ?_;refine zQ _ (dC 1 om om) rfl ?_;refine zf (zA (zL ?_));exact u4 rfl (u6 _)
theorem IntFits_ok(b:Bool)(n:Nat)(k:Int)(h:0<=k/\k<=1000):Fx 217 [rD b n,.v (.int .i64 k)] (.v (.bool (decide (((dig n).length:Int)<=2*k)))):=by
 refine yD zJ Tryz.func217 rfl rfl rfl rfl rfl rfl ?_;intros;refine zK 100 ?_;refine zK 200 ?_;refine zL ?_;exact u4 rfl (u6 _)
theorem RatioFits_ok(b:Bool)(n d:Nat):Fx 190 [qD b n d] (.v (.bool (fitB n d))):=by
 refine yD zJ Tryz.func190 rfl rfl rfl rfl rfl rfl ?_;intros;refine zK 100 ?_;refine zB (zE zJ [] 200 rfl ?_);refine zF ?_;refine zQ _ (IntFits_ok b n 128 om) rfl ?_;refine zf (zA (zL ?_));exact u4 rfl (u7 (fits_eq n d))
theorem Whole7b_ok(b:Bool)(n:Nat)(hl:(dig n).length<=100000000):Fx 144 [rD b n] (.agg (vlD (ivV b n))):=by
 refine yD zJ Tryz.func144 rfl rfl rfl rfl rfl rfl ?_;intros;refine zK 100 ?_;refine zB (zX zJ [] mK16 200 yP kr rfl ?_);refine zF ?_;refine zQ _ (yL0 _ ao) rfl ?_;refine zf (zA (zL ?_));exact u4 rfl (u20 (by rw[ivV];exact⟨u6 _,u7 (by rw[bJ]),u6 _,u6 _,u12 rfl,u6 _,u6 _,trivial⟩))
theorem yG0:Fx 95 [] (.agg (stD (raS 42 tooB))):=by
 refine yD zJ Tryz.func95 rfl rfl rfl rfl rfl rfl ?_;intros;refine zK 100 ?_;refine zB (zE zJ [] 200 rfl ?_);refine zF ?_;refine zQ _ (gP _ _) rfl ?_;refine zf (zA (zL ?_));exact u4 rfl (u6 _)
theorem Value7_ok(b:Bool)(n d:Nat)(hn:(dig n).length<=100000000)(hd:(dig d).length<=100000000):Fx 139 [qD b n d] (.tup [.agg (vlD (if fitB n d=true then raV b n d else vl0)),.v (.bool (fitB n d))]):=by
 refine yD zJ Tryz.func139 rfl rfl rfl rfl rfl rfl ?_;intros;refine zK 100 ?_;refine zB ?_;refine zB (zE zJ [] 200 rfl ?_);refine zF ?_;refine zQ _ (RatioFits_ok _ _ _) rfl ?_;refine zF ?_;refine zC (zA (zZ (fun c1=>?_) (fun c1=>?_)))
 ·
  refine zK 300 ?_;refine zL (zO ?_);have e1:fitB n d=false:=by simpa using c1
  exact u4 rfl (u19 ⟨u20 (by rw[Aa (by rw[e1];decide)];repeat(first|exact trivial|exact u6 _|exact u12 rfl|refine⟨?_,?_⟩)),u7 e1.symm,trivial⟩)
 ·
  refine zM (zA ?_);refine zB (zE zJ [] 400 rfl ?_);refine zF ?_;refine zQ _ (Whole7b_ok b n hn) rfl ?_;refine zf (zA (zB ?_));refine zB (zX zJ [] [[],[0],[],[0,1,2],[0,1,2,3]] 500 yP kr rfl ?_);refine zF ?_;refine zQ _ (dC 1 om om) rfl ?_;refine zF ?_;refine zQ _ (uR d 1 hd (by decide+kernel)) rfl ?_;refine zF ?_;refine zC (zA (zZ (fun c4=>?_) (fun c4=>?_)))
  ·
   refine zE zJ [] 600 rfl ?_;refine zF ?_;refine zQ _ (yL0 _ ao) rfl ?_;refine zF ?_;refine zC (zA (zK 700 ?_));refine zL ?_;have e1:fitB n d=true:=by simpa using c1
   have e2:¬d=1:=fun e=>absurd ((yV1 d).2 e) om;exact u4 rfl (u19 ⟨u20 (by rw[Ab e1,raV,Aa e2];repeat(first|exact trivial|exact u6 _|exact u12 rfl|refine⟨?_,?_⟩)),u7 e1.symm,trivial⟩)
  ·
   refine zM (zA (zK 700 ?_));refine zL ?_;have e1:fitB n d=true:=by simpa using c1
   have e2:d=1:=(yV1 d).1 om;exact u4 rfl (u19 ⟨u20 (by rw[Ab e1,raV,Ab e2,ivV];repeat(first|exact trivial|exact u6 _|exact u12 rfl|refine⟨?_,?_⟩)),u7 e1.symm,trivial⟩)
theorem number7_ok(b:Bool)(n d:Nat)(hn:(dig n).length<=100000000)(hd:(dig d).length<=100000000):Fx 79 [qD b n d] (.agg (stD (nuS b n d))):=by
 refine yD zJ Tryz.func79 rfl rfl rfl rfl rfl rfl ?_;intros;refine zK 100 ?_;refine zB (zE zJ [] 200 rfl ?_);refine zF ?_;refine zQ _ (Value7_ok _ _ _ ao ao) rfl ?_;refine zF ?_;refine zC (zA (zB (zK 300 ?_)));refine zZ (fun c2=>?_) (fun c2=>?_)
 ·
  refine zB (zE zJ [] 400 rfl ?_);refine zF ?_;refine zQ _ (yG0) rfl ?_;refine zf (zA (zL (zO ?_)));have e1:fitB n d=false:=by simpa using c2
  exact u4 rfl (u9 (by rw[nuS,Aa (by rw[e1];decide)];rfl))
 ·
  refine zM (zA ?_);refine zB (zE zJ [] 500 rfl ?_);refine zF ?_;refine zQ _ (yH0 _) rfl ?_;refine zf (zA (zL ?_));have e1:fitB n d=true:=by simpa using c2
  exact u4 rfl (u9 (by rw[nuS,Ab e1,Ab e1];rfl))
theorem integer7_ok(b:Bool)(n:Nat)(hn:(dig n).length<=100000000):Fx 30 [rD b n] (.agg (stD (nuS b n 1))):=by
 refine yD zJ Tryz.func30 rfl rfl rfl rfl rfl rfl ?_;intros;refine zK 100 ?_;refine zB (zE zJ [] 200 rfl ?_);refine zF ?_;refine zQ _ (Whole3_ok b n) rfl ?_;refine zF ?_;refine zQ _ (number7_ok b n 1 hn (by decide+kernel)) rfl ?_;refine zf (zA (zL ?_));exact u4 rfl (u6 _)
theorem IntMinus_ok(b:Bool)(n:Nat):Fx 141 [rD b n] (rD (!b&&decide (0<n)) n):=by
 refine yD zJ Tryz.func141 rfl rfl rfl rfl rfl rfl ?_;intros;refine zK 100 ?_;refine zK 200 ?_;refine zL ?_;exact u4 rfl (u20 ⟨u7 (by rw[bJ]),u6 _,trivial⟩)
theorem jD(b1 b2:Bool)(n1 n2:Nat)(h1:(dig n1).length<=100000000)(h2:(dig n2).length<=100000000):Fx 77 [rD b1 n1,rD b2 n2] (rD (plB b1 n1 b2 n2).1 (plB b1 n1 b2 n2).2):=by
 refine yD zJ Tryz.func77 rfl rfl rfl rfl rfl rfl ?_;intros;refine zK 100 ?_;refine zB (zP (zK 200 ?_));refine zZ (fun c1=>?_) (fun c1=>?_)
 ·
  refine zB (zX zJ [] mK9 300 yP kr rfl ?_);refine zF ?_;refine zQ _ (vC0 n1 n2 h1 h2) rfl ?_;refine zf (zA (zL (zR (zO ?_))));exact u4 rfl (u9 (by rw[plB,Ab (by simpa using c1)];rfl))
 ·
  refine zB (zE zJ [] 400 rfl ?_);refine zF ?_;refine zQ _ (uR _ _ ao ao) rfl ?_;refine zF ?_;refine zC (zA (zZ (fun c3=>?_) (fun c3=>?_)))
  ·
   refine zB (zX zJ [] mK9 500 yP kr rfl ?_);refine zF ?_;refine zQ _ (xT n1 n2 (vO1 om) h1) rfl ?_;refine zf (zA (zL (zR (zO ?_))));exact u4 rfl (u9 (by rw[plB,Aa (by simpa using c1),Ab (vO1 om)];rfl))
  ·
   refine zM (zN (zA ?_));refine zB (zX zJ [] mK9 600 yP kr rfl ?_);refine zF ?_;refine zQ _ (xT n2 n1 (cmp_le om) h2) rfl ?_;refine zf (zA (zL ?_));exact u4 rfl (u9 (by rw[plB,Aa (by simpa using c1),Aa (cmp_nge om)];rfl))
theorem I7_ok(v:Vl)(hg:Lg v.nl)(hl:v.nl.length<=100000000):Fx 75 [.agg (vlD v)] (rD v.nn (VL v.nl)):=by
 refine yD zJ Tryz.func75 rfl rfl rfl rfl rfl rfl ?_;intros;refine zK 100 ?_;refine zB (zE zJ [] 200 rfl ?_);refine zF ?_;refine zQ _ (xU _ _ ao ao) rfl ?_;refine zf (zA (zL ?_));exact u4 rfl (u6 _)
theorem xI(v:Vl):Fx 67 [.agg (vlD v)] (.agg (stD (vlS v))):=by
 refine yD zJ Tryz.func67 rfl rfl rfl rfl rfl rfl ?_;intros;refine zK 100 ?_;refine zK 200 ?_;refine zL ?_;exact u4 rfl (u20 nz)
theorem wF(c:Int)(s:ByteArray):Fx 63 [.v (.int .i64 c),.v (.string s)] (.agg (stD (raS c s))):=by
 refine yD zJ Tryz.func63 rfl rfl rfl rfl rfl rfl ?_;intros;refine zK 100 ?_;refine zK 200 ?_;refine zL ?_;exact u4 rfl (u20 nz)
theorem opLimit_ok:Fx 93 [] (.agg (stD (raS 42 tooB))):=by
 refine yD zJ Tryz.func93 rfl rfl rfl rfl rfl rfl ?_;intros;refine zK 100 ?_;refine zB (zE zJ [] 200 rfl ?_);refine zF ?_;refine zQ _ (wF _ _) rfl ?_;refine zf (zA (zL ?_));exact u4 rfl (u6 _)
variable{md me:Bool}
theorem zZ0(c:Int)(s:ByteArray):Fx 187 [.v (.int .i64 c),.v (.string s)] (.agg (stD (raS c s))):=by
 refine yD zJ Tryz.func187 rfl rfl rfl rfl rfl rfl ?_;intros;refine zK 100 ?_;refine zK 200 ?_;refine zL ?_;exact u4 rfl (u20 nz)
theorem cmpObject_ok(h:List Ob)(v:Vl)(hv:v.k=6->qA h v.r=true):Fx 216 [hpD md h,.agg (vlD v)] (.agg (obD (zT h v))):=by
 refine yD zJ Tryz.func216 rfl rfl rfl rfl rfl rfl ?_;intros;refine zK 100 ?_;refine zB (zK 200 ?_);refine zZ (fun c1=>?_) (fun c1=>?_)
 ·
  refine zK 300 ?_;refine zL (zO ?_);have e:zT h v=ob0:=jU0 c1;rw[e];exact u4 rfl (by repeat(first|exact trivial|exact u6 _|exact u12 rfl|refine u20 ?_|refine⟨?_,?_⟩))
 ·
  refine zM (zA ?_);refine zB (zE zJ [] 400 rfl ?_);repeat(first|refine zH ?_|refine zW (by exact yW (hv c1)) ?_)
  refine zC (zA (zL ?_));have e:zT h v=h.getD v.r.toNat ob0:=wA hv c1;rw[e];exact u4 rfl (by repeat(first|exact trivial|exact u6 _|exact u12 rfl|refine u20 ?_|refine⟨?_,?_⟩))
theorem bB{x y:Nat}(h:(lim x).length<(lim y).length):x<y:=by
 have h0:y≠0:=by intro e;subst e;rw[qI]at h;simp at h
 have h1:=mG x;have h2:=uV1 h0;exact Bt h1 (At (Bb om om) h2)
theorem qF{x y:Nat}(h:x<=y):(lim x).length<=(lim y).length:=by
 rcases Br (lim y).length (lim x).length with h1|h1
 ·have:=bB h1;omega
 ·exact h1
def cmpL(x y:Nat):Int:=if(lim x).length=(lim y).length then cmpN x y else((lim x).length:Int)-((lim y).length:Int)
theorem cmpL_ne{x y:Nat}(h:(lim x).length≠(lim y).length):cmpL x y=((lim x).length:Int)-((lim y).length:Int):=Aa h
theorem kW0{x y:Nat}(h:(lim x).length=(lim y).length):cmpL x y=cmpN x y:=Ab h
theorem vP1(x y:Nat):min (max (cmpL x y) (-1)) 1=cmpN x y:=by
 unfold cmpL;split
 ·unfold cmpN;split
  ·rfl
  ·split<;>rfl
 ·rename_i h;rcases Nat.lt_or_gt_of_ne h with h1|h1
  ·rw[cmpN,Ab (bB h1)];omega
  ·have:=bB h1;rw[cmpN,Aa om,Ab this];omega
theorem dU0(x y:Nat):cmpL x y<0↔x<y:=by
 have h:=vP1 x y;unfold cmpN at h;constructor
 ·intro h1;by_cases h2:x<y
  ·exact h2
  ·rw[Aa h2]at h;split at h<;>omega
 ·intro h1;rw[Ab h1]at h;omega
structure CpL(a b:Nat)where
 k:Nat
 le:k<=(lim a).length
 eq:(lim a).drop k=(lim b).drop k
def CpL.next{a b:Nat}(x:CpL a b)(hl:(lim a).length=(lim b).length)(h:0<x.k)(he:(lim a).getD (x.k-1) 0=(lim b).getD (x.k-1) 0):CpL a b:=⟨x.k-1,by have:=x.le;omega,by
 have h1:=x.le;rw[qQ om,qQ om]at he;rw[Cd om,Cd (l:=lim b) om,he,show x.k-1+1=x.k by omega,x.eq]⟩
theorem ltL_at{la lb:List Nat}{i:Nat}(ha:Lg la)(hl:la.length=lb.length)(hi:i<la.length)(hd:la.drop (i+1)=lb.drop (i+1))(h:la[i]<lb[i]):VL la<VL lb:=by
 rw[wQ la (i+1) om,wQ lb (i+1) om,hd,vQ hi,vQ (l:=lb) (m:=i) om];have h1:=L_lt (ha.take i);rw[As,De (Dn hi)]at h1;have h2:4294967296^i*(la[i]+1)<=4294967296^i*lb[i]:=Cv _ h;rw[Bv]at h2;omega
theorem vN1{a b k:Nat}(hl:(lim a).length=(lim b).length)(hk:0<k)(hk2:k<=(lim a).length)(hd:(lim a).drop k=(lim b).drop k)(h:(lim a).getD (k-1) 0<(lim b).getD (k-1) 0):a<b:=by
 rw[qQ om,qQ om]at h;have:=ltL_at (yV a) hl (i:=k-1) om (by rw[show k-1+1=k by omega];exact hd) h
 rwa[vF,vF]at this
theorem VL_take_ge{l:List Nat}{k:Nat}(h:l.length<=k):VL (l.take (k+1))=VL (l.take k):=by rw[Ai h,Ai (by omega)]
theorem jW{l:List Nat}{k:Nat}(h:l.length<=k):l.getD k 0=0:=by rw[Af,Cz h];rfl
theorem qL(l:List Nat)(k:Nat):VL (l.take (k+1))=VL (l.take k)+4294967296^k*l.getD k 0:=by
 rcases Br k l.length with h|h
 ·rw[vQ h,qQ h]
 ·rw[VL_take_ge h,jW h];omega
structure PlL(a b:List Nat)where
 k:Nat
 c:Nat
 o:List Nat
 eq:VL o+c*4294967296^k=VL (a.take k)+VL (b.take k)
 lo:o.length=k
 lg:Lg o
 hc:c<=1
 le:k<=a.length
def PlL.s{a b:List Nat}(x:PlL a b):Nat:=x.c+a.getD x.k 0+b.getD x.k 0
theorem pll_step{a b o:List Nat}{k c s:Nat}(h:VL o+c*4294967296^k=VL (a.take k)+VL (b.take k))(ho:o.length=k)(hs:s=c+a.getD k 0+b.getD k 0):
  VL (o++[s%4294967296])+s/4294967296*4294967296^(k+1)=VL (a.take (k+1))+VL (b.take (k+1)):=by
 rw[mL,ho,qL a,qL b,By];generalize 4294967296^k=B at*;have e:s=4294967296*(s/4294967296)+s%4294967296:=(Dd s 4294967296).symm;have e2:B*s=B*(4294967296*(s/4294967296))+B*(s%4294967296):=by rw[<-Bv,<-e]
 have e3:B*s=B*c+B*a.getD k 0+B*b.getD k 0:=by rw[hs,Bv,Bv]
 have e4:s/4294967296*(B*4294967296)=B*(4294967296*(s/4294967296)):=by rw[Aw,Bp]
 have e5:c*B=B*c:=Aw _ _;omega
theorem PlL.s_le{a b:List Nat}(x:PlL a b)(ha:Lg a)(hb:Lg b):x.s<=8589934591:=by
 have h1:=qG ha x.k;have h2:=qG hb x.k;have h3:=x.hc;unfold PlL.s;omega
def PlL.next{a b:List Nat}(x:PlL a b)(ha:Lg a)(hb:Lg b)(h:x.k<a.length):PlL a b:=⟨x.k+1,x.s/4294967296,x.o++[x.s%4294967296],pll_step x.eq x.lo rfl,by simp[x.lo],x.lg.snoc (Cx _ de),by have:=x.s_le ha hb;omega,h⟩
def PlL.start(a b:List Nat):PlL a b:=⟨0,0,[],by simp[VL],rfl,Lg.nil,Aq _,Aq _⟩
theorem PlL.fin{a b:List Nat}(x:PlL a b)(h:a.length<=x.k)(hl:b.length<=a.length):VL (x.o++[x.c])=VL a+VL b/\Lg (x.o++[x.c]):=by
 have h1:=x.eq;rw[Ai h,Ai om]at h1;refine⟨by rw[mL,x.lo,Aw];exact h1,x.lg.snoc (by have:=x.hc;omega)⟩
structure MiL(a b:List Nat)where
 k:Nat
 c:Nat
 o:List Nat
 eq:VL o+VL (b.take k)=VL (a.take k)+c*4294967296^k
 lo:o.length=k
 lg:Lg o
 hc:c<=1
 le:k<=a.length
def lsD(x y b:Nat):Nat:=(x+8589934592-y-b)%4294967296
def lsB(x y b:Nat):Nat:=if x<y+b then 1 else 0
theorem wN1{x y b:Nat}(hx:x<4294967296)(hy:y<4294967296)(hb:b<=1):lsD x y b+y+b=x+4294967296*lsB x y b:=by
 unfold lsD lsB;split<;>omega
theorem wM1(x y b:Nat):lsD x y b<4294967296:=Cx _ de
theorem uT1(x y b:Nat):lsB x y b<=1:=by unfold lsB;split<;>omega
theorem mil_step{a b o:List Nat}{k c y d:Nat}(h:VL o+VL (b.take k)=VL (a.take k)+c*4294967296^k)(ho:o.length=k)(hy:y+b.getD k 0+c=a.getD k 0+4294967296*d):
  VL (o++[y])+VL (b.take (k+1))=VL (a.take (k+1))+d*4294967296^(k+1):=by
 rw[mL,ho,qL a,qL b,By];generalize 4294967296^k=B at*;have e:B*y+B*b.getD k 0+B*c=B*a.getD k 0+B*(4294967296*d):=by rw[<-Bv,<-Bv,<-Bv,hy]
 have e4:d*(B*4294967296)=B*(4294967296*d):=by rw[Aw,Bp]
 have e5:c*B=B*c:=Aw _ _;omega
def MiL.next{a b:List Nat}(x:MiL a b)(ha:Lg a)(hb:Lg b)(h:x.k<a.length):MiL a b:=⟨x.k+1,lsB (a.getD x.k 0) (b.getD x.k 0) x.c,x.o++[lsD (a.getD x.k 0) (b.getD x.k 0) x.c],mil_step x.eq x.lo (wN1 (qG ha _) (qG hb _) x.hc),by simp[x.lo],x.lg.snoc (wM1 _ _ _),uT1 _ _ _,h⟩
def MiL.start(a b:List Nat):MiL a b:=⟨0,0,[],by simp[VL],rfl,Lg.nil,Aq _,Aq _⟩
theorem MiL.fin{a b:List Nat}(x:MiL a b)(h:a.length<=x.k)(hl:b.length<=a.length)(hle:VL b<=VL a):VL x.o=VL a-VL b:=by
 have hk:=x.le;have h1:=x.eq;have h2:=x.hc;have h3:=L_lt x.lg;rw[Ai h,Ai om]at h1;rw[x.lo]at h3;rcases Bz x.c with h4|h4
 ·rw[h4]at h1;omega
 ·rw[show x.c=1 by omega]at h1;omega
theorem wb32(v:BitVec 32):IntKind.u32.wrap (v.toNat:Int)=(v.toNat:Int):=by
 have:=v.isLt;simp only[IntKind.wrap,IntKind.signed,IntKind.bits,Ch,Az,if_false];omega
theorem gU0(v:BitVec 32):BitVec.ofInt 32 (v.toNat:Int)=v:=by rw[BitVec.ofInt_natCast,BitVec.ofNat_toNat,BitVec.setWidth_eq]
theorem vS1(x y:BitVec 32):bAnd .u32 (x.toNat:Int) (y.toNat:Int)=((x&&&y).toNat:Int):=by
 show IntKind.u32.wrap ((BitVec.ofInt 32 (x.toNat:Int)&&&BitVec.ofInt 32 (y.toNat:Int)).toNat:Int)=_;rw[gU0,gU0,wb32]
theorem bOr32(x y:BitVec 32):bOr .u32 (x.toNat:Int) (y.toNat:Int)=((x|||y).toNat:Int):=by
 show IntKind.u32.wrap ((BitVec.ofInt 32 (x.toNat:Int)|||BitVec.ofInt 32 (y.toNat:Int)).toNat:Int)=_;rw[gU0,gU0,wb32]
theorem bXor32(x y:BitVec 32):bXor .u32 (x.toNat:Int) (y.toNat:Int)=((x^^^y).toNat:Int):=by
 show IntKind.u32.wrap ((BitVec.ofInt 32 (x.toNat:Int)^^^BitVec.ofInt 32 (y.toNat:Int)).toNat:Int)=_;rw[gU0,gU0,wb32]
theorem vR1(x:BitVec 32):bNot .u32 (x.toNat:Int)=((~~~x).toNat:Int):=by
 show IntKind.u32.wrap ((BitVec.ofInt 32 4294967295^^^BitVec.ofInt 32 (x.toNat:Int)).toNat:Int)=_;rw[gU0,show BitVec.ofInt 32 4294967295=BitVec.allOnes 32 by decide,BitVec.allOnes_xor,wb32]
theorem top32(v:BitVec 32):v.toNat/2147483648=if v.msb then 1 else 0:=by
 have h:=v.isLt;rw[BitVec.msb_eq_decide];by_cases h1:2^(32-1)<=v.toNat
 ·rw[Bf h1,Ab rfl];omega
 ·rw[Ce h1,Aa de];omega
theorem wV1{x:Nat}(h:x<4294967296):(BitVec.ofNat 32 x).msb=decide (2147483648<=x):=by
 rw[BitVec.msb_eq_decide,BitVec.toNat_ofNat,Dr h]
theorem wS1{x:Nat}(h:x<4294967296):x=(BitVec.ofNat 32 x).toNat:=by rw[BitVec.toNat_ofNat,Dr h]
theorem sub32_lo{x y b:Nat}(hx:x<4294967296)(hy:y<4294967296)(hb:b<=1):IntKind.u32.wrap (IntKind.u32.wrap ((x:Int)-(y:Int))-(b:Int))=((lsD x y b:Nat):Int):=by
 simp only[IntKind.wrap,IntKind.signed,IntKind.bits,Ch,Az,if_false,lsD];omega
theorem sub32_hi{x y b:Nat}(hx:x<4294967296)(hy:y<4294967296)(hb:b<=1):
  Int.fdiv (bOr .u32 (bAnd .u32 (bNot .u32 (x:Int)) (y:Int)) (bAnd .u32 (bNot .u32 (bXor .u32 (x:Int) (y:Int))) ((lsD x y b:Nat):Int))) (2^min (Int.toNat 31) IntKind.u32.bits)=((lsB x y b:Nat):Int):=by
 have hd:lsD x y b<4294967296:=wM1 x y b;have hs:=wN1 hx hy hb;have m1:=wV1 hx;have m2:=wV1 hy;have m3:=wV1 hd;rw[show((x:Nat):Int)=((BitVec.ofNat 32 x).toNat:Int) by rw[<-wS1 hx],show((y:Nat):Int)=((BitVec.ofNat 32 y).toNat:Int) by rw[<-wS1 hy],show((lsD x y b:Nat):Int)=((BitVec.ofNat 32 (lsD x y b)).toNat:Int) by rw[<-wS1 hd],vR1,vS1,bXor32,vR1,vS1,bOr32];rw[show((2:Int)^min (Int.toNat 31) IntKind.u32.bits)=((2147483648:Nat):Int) by decide,Ep _ om,<-Int.natCast_ediv,top32];simp only[BitVec.msb_or,BitVec.msb_and,BitVec.msb_not,BitVec.msb_xor,m1,m2,m3];congr 1;unfold lsB at*;generalize lsD x y b=d at*;by_cases h1:2147483648<=x<;>by_cases h2:2147483648<=y<;>by_cases h3:2147483648<=d<;>by_cases h4:x<y+b<;>simp only[h1,h2,h3,h4,decide_true,decide_false,if_true,if_false,Bool.and_true,Bool.and_false,Bool.not_true,Bool.not_false,Bool.or_true,Bool.or_false,Dm,Ch,Bool.xor_true,Bool.xor_false,Bool.true_or,Bool.false_or]at hs⊢ <;>(first|rfl|omega)
variable{md me:Bool}
theorem jY0{x:Nat}(h:0<(lim x).length):(lim x).getD ((lim x).length-1) 0≠0:=by
 have h1:=lim_noLead x (Db.1 h)
 rwa[Em,<-qQ om]at h1
theorem zF0(x:Nat)(hx:(lim x).length<=600):Fx 268 [usD (lim x)] (.v (.bool true)):=by
 refine yD zJ Tryz.func268 rfl rfl rfl rfl rfl rfl ?_;intros;refine zK 100 ?_;refine zB (zE zJ [] 200 rfl ?_);repeat(first|refine zH ?_|refine zW (by first|exact trivial|omega|exact ini (by omega) (by omega)|(intro hh;simp at hh;exact ini om om)|(intro hh;simp at hh⊢;omega)|(simp at*;omega)|(simp_all;done)|(simp;intro _ h2;have:=Db.2 h2;omega)) ?_)
 refine zC (zA (zL ?_));exact u4 rfl (u7 (by simp;refine⟨by omega,?_⟩;by_cases h:lim x=[];exact Or.inl h;exact Or.inr (by have:=jY0 (x:=x) (Db.2 h);rwa[Af]at this)))
theorem wJ(x y:Nat)(hx:(lim x).length<=600)(hy:(lim y).length<=600):Fx 251 [usD (lim x),usD (lim y)] (faD 0 0):=by
 refine yD zJ Tryz.func251 rfl rfl rfl rfl rfl rfl ?_;intros;refine zK 100 ?_;refine zB (zP ?_);refine zB (zE zJ [] 200 rfl ?_);refine zF ?_;refine zQ _ (zF0 _ ao) rfl ?_;refine zF ?_;refine zC (zA (zZ (fun c1=>?_) (fun c1=>?_)))
 ·
  exact absurd c1 de
 ·
  refine zB (zE zJ [] 400 rfl ?_);refine zF ?_;refine zQ _ (zF0 _ ao) rfl ?_;refine zF ?_;refine zC (zA (zZ (fun c3=>?_) (fun c3=>?_)))
  ·
   exact absurd c3 de
  ·
   refine zM (zN (zA (zK 600 ?_)));refine zL ?_;exact u4 rfl (u6 _)
theorem jK(l:List Nat)(hg:Lg l)(hl:l.length<=100000000):Fx 277 [usD l] (usD (lim (VL l))):=by
 refine yD zJ Tryz.func277 rfl rfl rfl rfl rfl rfl ?_;intros;refine zK 100 ?_;refine zB (zP ?_);refine yC (ι:=TrmL l) [] [] 150 (fun x=>[(0,.sl false 1 x.r uD 0)]) (fun _=>[]) (fun x=>x.r.length) ⟨l,hg,rfl,Ar _⟩ ?_;refine⟨⟨yG,yF,rfl,rfl⟩,fun x=>?_⟩;have hk:=x.le;refine zB (zK 200 ?_);refine zZ (fun c1=>?_) (fun c1=>?_)
 ·
  refine zM (zA (zP (yM zJ [] 300 ?_)));refine zN ?_;have h9:=c1.2;rw[bQ]at h9;exact zS (x.next (by omega) (by omega)) ⟨(by repeat(first|exact Sub.of_eq (by rw[tX0];rfl)|refine⟨?_,?_⟩|exact lx)),yF,rfl,rfl⟩ (by show(x.r.take (x.r.length-1)).length<x.r.length;rw[As];omega)
 ·
  refine yE (yA (yB (zY (zA (zK 400 ?_)))));refine zL ?_;rw[bQ]at c1;have e:x.r=lim (VL l):=x.fin (fun hp h9=>by rw[h9,Bf (show(0:Int)<(x.r.length:Nat) by omega)]at c1;exact absurd c1 de);exact u4 rfl (u9 (by rw[e];rfl))
theorem wH0(l:List Nat)(hg:Lg l)(hl:l.length<=100000000)(h6:(lim (VL l)).length<=600):Fx 262 [usD l] (.tup [usD (lim (VL l)),faD 0 0]):=by
 refine yD zJ Tryz.func262 rfl rfl rfl rfl rfl rfl ?_;intros;refine zK 100 ?_;refine zB ?_;refine zB (zE zJ [] 200 rfl ?_);refine zF ?_;refine zQ _ (jK _ ao ao) rfl ?_;refine zF ?_;refine zC (zA (zK 300 ?_));refine zZ (fun c2=>?_) (fun c2=>?_)
 ·
  exact absurd c2 om
 ·
  refine zM (zA (zK 500 ?_));refine zL ?_;exact u4 rfl (u6 _)
theorem gC(a b:Nat)(ha:(lim a).length<=100000000)(hb:(lim b).length<=100000000):Fx 252 [usD (lim a),usD (lim b)] (.v (.int .i64 (cmpL a b))):=by
 refine yD zJ Tryz.func252 rfl rfl rfl rfl rfl rfl ?_;intros;refine zK 100 ?_;refine zB (zK 200 ?_);refine zZ (fun c1=>?_) (fun c1=>?_)
 ·
  refine zK 300 ?_;refine zL (zO ?_);exact u4 rfl (u10 (cmpL_ne om).symm)
 ·
  refine zM (zA (zB (zK 400 ?_)));refine zP ?_;refine yC (ι:=CpL a b) [0,1] [] 450 (fun x=>[(5,.v (.int .i64 ((x.k:Int)-1)))]) (fun _=>[]) (fun x=>x.k) ⟨(lim a).length,Ar _,by rw[Bd (Ar _),Bd om]⟩ ?_;refine⟨⟨yG,yF,rfl,rfl⟩,fun x=>?_⟩;have hk:=x.le;have hkt:((x.k:Int)-1).toNat=x.k-1:=by omega
  refine zB (zK 500 ?_);refine zZ (fun c4=>?_) (fun c4=>?_)
  ·
   refine zM (zA (zB (zP ?_)));refine zB (zX zJ [] mK2 700 yP kr rfl ?_);refine zF ?_;refine zC (zA (zZ (fun c6=>?_) (fun c6=>?_)))
   ·
    refine zB ?_;refine zB (zX zJ [] mK2 800 yP kr rfl ?_);refine zF ?_;refine zC (zA (zZ (fun c7=>?_) (fun c7=>?_)))
    ·
     refine zK 900 ?_;refine zL (zO (zR (zO (yQ (zR (zO ?_))))));rw[hkt]at c7;exact u4 rfl (u10 (by rw[kW0 om,xN0 (vN1 om om hk x.eq om)]))
    ·
     refine zM (zA (zK 1000 ?_));refine zL (zR (zO (yQ (zR (zO ?_)))));rw[hkt]at c6 c7;exact u4 rfl (u10 (by rw[kW0 om,qP0 (vN1 om om om x.eq.symm om)]))
   ·
    refine zM (zN (zA (yM zJ [] 800 ?_)));rw[hkt]at c6;exact zS (x.next (by omega) (by omega) (by omega)) ⟨(by repeat(first|exact u21 (by show(x.k:Int)-1-1=((x.k-1:Nat):Int)-1;omega)|refine⟨?_,?_⟩|exact lx)),yF,rfl,rfl⟩ (by show x.k-1<x.k;omega)
  ·
   refine yE (yA (yB (zY (zA (zK 1100 ?_)))));refine zL ?_;have hz:x.k=0:=by omega
   have he:=x.eq;rw[hz]at he;exact u4 rfl (u10 (by rw[kW0 om,dT0 (by have:=congrArg VL he;rwa[Do,Do,vF,vF]at this)]))
theorem wI0(a b:Nat)(ha:(lim a).length<=600)(hb:(lim b).length<=600):Fx 237 [usD (lim a),usD (lim b)] (.tup [.v (.int .i64 (cmpN a b)),faD 0 0]):=by
 refine yD zJ Tryz.func237 rfl rfl rfl rfl rfl rfl ?_;intros;refine zK 100 ?_;refine zB ?_;refine zB (zE zJ [] 200 rfl ?_);refine zF ?_;refine zQ _ (wJ _ _ ao ao) rfl ?_;refine zF ?_;refine zC (zA (zK 300 ?_));refine zZ (fun c2=>?_) (fun c2=>?_)
 ·
  exact absurd c2 de
 ·
  refine zM (zA ?_);refine zB (zE zJ [] 500 rfl ?_);refine zF ?_;refine zQ _ (gC _ _ ao ao) rfl ?_;refine zf (zA (zL ?_));exact u4 rfl (u19 ⟨u10 (by have h:=vP1 a b;generalize cmpL a b=c at*;rw[<-h];split<;>(try split)<;>(try split at*)<;>omega),u6 _,trivial⟩)
def I32(x:Int):Prop:=0<=x/\x<4294967296
theorem pS{l:List Nat}(h:Lg l)(i:Nat):I32 ((l.getD i 0:Nat):Int):=by
 have:=qG h i;exact⟨by omega,by omega⟩
theorem kE1:I32 0:=⟨by decide,by decide⟩
theorem qN1{l:List Nat}(h:Lg l)(i:Nat):Lg (l.drop i):=fun x hx=>h x (Dj hx)
theorem sub32_ok{x y b:Int}(hx:I32 x)(hy:I32 y)(hb:0<=b/\b<=1):IntKind.u32.wrap (IntKind.u32.wrap (x-y)-b)=((lsD x.toNat y.toNat b.toNat:Nat):Int)/\
  Int.fdiv (bOr .u32 (bAnd .u32 (bNot .u32 x) y) (bAnd .u32 (bNot .u32 (bXor .u32 x y)) ((lsD x.toNat y.toNat b.toNat:Nat):Int))) (2^min (Int.toNat 31) IntKind.u32.bits)=((lsB x.toNat y.toNat b.toNat:Nat):Int):=by
 obtain⟨x,rfl⟩:=Cy hx.1;obtain⟨y,rfl⟩:=Cy hy.1;obtain⟨b,rfl⟩:=Cy hb.1;have h1:=hx.2;have h2:=hy.2;have h3:=hb.2;simp only[Ak];exact⟨sub32_lo om om om,sub32_hi om om om⟩
theorem cF(x y b:Int)(hx:I32 x)(hy:I32 y)(hb:0<=b/\b<=1):Fx 280 [.v (.int .u32 x),.v (.int .u32 y),.v (.int .u32 b)] (.tup [.v (.int .u32 (lsD x.toNat y.toNat b.toNat:Nat)),.v (.int .u32 (lsB x.toNat y.toNat b.toNat:Nat))]):=by
 refine yD zJ Tryz.func280 rfl rfl rfl rfl rfl rfl ?_;intros;refine zK 100 ?_;refine zK 200 ?_;refine zK 300 ?_;refine zL ?_;obtain⟨e1,e2⟩:=sub32_ok hx hy hb;exact u4 rfl (u19 ⟨u10 e1,u10 (by rw[e1];exact e2),trivial⟩)
theorem CloneU_G(l:List Nat)(hl:l.length<=2000000):FnG Tryz.prog 61 [usD l] [] (.mo 0 l.length) [.mrow 91 1 (.map l uD 0)]:=by
 refine uE zJ Tryz.func61 rfl rfl rfl rfl rfl rfl rfl ?_;intros;refine zB (zE zJ [] 100 rfl ?_);repeat(first|refine zH ?_|refine zW (by exact qX hl) ?_)
 refine zC (zA (zB (zB ?_)));refine uT Tryz.underlying25 rfl rfl rfl fun c hc=>?_;refine zA (zU rfl (fun c1=>?_) (fun c1=>?_))
 ·
  refine zB (zE zJ [] 300 rfl ?_);repeat(first|refine zH ?_|refine zW (by exact qX hl) ?_)
  refine zC (zA ?_);refine yY 2 91 1 rfl ?_;refine zQ0 300 rfl ?_;refine zL (zO ?_);obtain rfl:=hc c1;exact u11 300 rfl rfl (u0 _) ⟨SubO.mr rfl,trivial⟩
 ·
  refine zM (zA ?_);refine zB (zE zJ [1005] 400 rfl ?_);repeat(first|refine zH ?_|refine zW (by first|rfl|exact qX hl|(simp only[MR.len,Au,An];omega)) ?_)
  refine zC (zA (zL ?_));exact u11 100 rfl rfl (Sub.mo (by rw[An,Cp])) ⟨SubO.mr rfl,trivial⟩
theorem qY1{P:Program}{E:Pn}{K:DS->Prop}{p:Prop}{r:Out}(hr:r.sat P E K)(hp:p:=by first|exact⟨hm,by rw[<-hm];exact c4⟩|exact⟨hm,by rw[<-hm];omega⟩|exact Fa):(Out.need p r).sat P E K:=⟨hp,hr⟩
theorem natSub0_ok(a b:Nat)(ha:(lim a).length<=100000)(hb:(lim b).length<=100000)(hle:b<=a):Fx 267 [usD (lim a),usD (lim b)] (usD (lim (a-b))):=by
 refine yD zJ Tryz.func267 rfl rfl rfl rfl rfl rfl ?_;intros;refine zK 100 ?_;refine zB (zE zJ [1010] 200 rfl ?_);refine zF ?_;refine yO _ _ (CloneU_G (lim a) om) rfl ?_;refine zF ?_;refine zC (zA (zK 300 ?_));refine zB (zK 400 ?_);refine zP ?_;refine yC (ι:=MiL (lim a) (lim b)) [1,5,12] [] 450 (fun x=>[(6,.v (.int .u32 x.c)),(13,.v (.int .i64 x.k))]) (fun x=>[(101,.mrow 91 1 (.map (x.o++(lim a).drop x.k) uD 0))]) (fun x=>(lim a).length-x.k) (MiL.start _ _) ?_;refine⟨⟨yG,yF,rfl,rfl⟩,fun x=>?_⟩;have hk:=x.le;have hlo:=x.lo;have hc1:=x.hc;have hm:(lim a).length=(MR.map (x.o++(lim a).drop x.k) uD 0).len:=by rw[MR.len,Ae,Bk];omega
 refine zK 500 ?_;refine zB (zZ (fun c4=>?_) (fun c4=>?_))
 ·
  refine zM (zA (zB (zP (zK 600 ?_))));refine zK 700 ?_;refine zB (zK 800 ?_);refine zZ (fun c7=>?_) (fun c7=>?_)
  ·
   refine yM zJ [] 900 ?_;refine zA ?_;refine zE zJ [] 1000 rfl ?_;repeat(first|refine zH ?_|refine qY1 ?_)
   refine zQ _ (cF _ _ _ (pS (vW1 x.lg (qN1 (yV a) _)) _) (by first|exact kE1|exact pS (yV b) _) ⟨by omega,by omega⟩) rfl ?_;repeat(first|refine zH ?_|refine qY1 ?_)
   refine zC (zN (zA (yM zJ [] 1100 ?_)));exact zS (x.next (yV a) (yV b) (by omega)) ⟨(by repeat(first|exact u21 (by(try simp only[Ak,vT0 x.lo]);(try rw[show Int.toNat 0=(lim b).getD x.k 0 from(jW (by omega)).symm]);rfl)|refine⟨?_,?_⟩|exact lx)),⟨SubO.mr (by(try simp only[Ak,vT0 x.lo]);(try rw[show Int.toNat 0=(lim b).getD x.k 0 from(jW (by omega)).symm]);exact jI0 x.lo om),yF⟩,rfl,rfl⟩ (by show(lim a).length-(x.k+1)<(lim a).length-x.k;omega)
  ·
   refine zM (zA ?_);refine zE zJ [] 1000 rfl ?_;repeat(first|refine zH ?_|refine qY1 ?_)
   refine zQ _ (cF _ _ _ (pS (vW1 x.lg (qN1 (yV a) _)) _) (by first|exact kE1|exact pS (yV b) _) ⟨by omega,by omega⟩) rfl ?_;repeat(first|refine zH ?_|refine qY1 ?_)
   refine zC (zN (zA (yM zJ [] 1100 ?_)));exact zS (x.next (yV a) (yV b) (by omega)) ⟨(by repeat(first|exact u21 (by(try simp only[Ak,vT0 x.lo]);(try rw[show Int.toNat 0=(lim b).getD x.k 0 from(jW (by omega)).symm]);rfl)|refine⟨?_,?_⟩|exact lx)),⟨SubO.mr (by(try simp only[Ak,vT0 x.lo]);(try rw[show Int.toNat 0=(lim b).getD x.k 0 from(jW (by omega)).symm]);exact jI0 x.lo om),yF⟩,rfl,rfl⟩ (by show(lim a).length-(x.k+1)<(lim a).length-x.k;omega)
 ·
  refine yE (yA (yB (zY (zA ?_))));refine qT 101 rfl (by repeat(first|exact trivial|exact hm|refine⟨?_,?_⟩)) (by repeat(first|exact trivial|refine⟨?_,?_⟩)) ?_;refine zB (zE zJ [] 1200 rfl ?_);refine zF ?_;refine zQ _ ((jK x.o x.lg om).args ⟨SubP.ownSl (by show List.map uD _=_;rw[Bd om,Cr]),trivial⟩) rfl ?_;refine zf (zA (zL ?_));have e:=x.fin om (qF hle) (by rw[vF,vF];exact hle);rw[vF,vF]at e;exact u4 rfl (u9 (by rw[e]))
theorem vU1{o:List Nat}{j y:Nat}(h:j<o.length):VL (o.set j y)+4294967296^j*o.getD j 0=VL o+4294967296^j*y:=by
 induction o generalizing j with
 |nil=>cases h
 |cons d o ih=>
  cases j with
  |zero=>simp[uU];omega
  |succ j=>
   have h1:=ih (j:=j) (by simpa using h);rw[List.set_cons_succ,uU,uU,List.getD_cons_succ,By];generalize 4294967296^j=B at*;have e1:B*4294967296*o.getD j 0=4294967296*(B*o.getD j 0):=by rw[Aw B,Bp]
   have e2:B*4294967296*y=4294967296*(B*y):=by rw[Aw B,Bp]
   omega
theorem tC{o:List Nat}{n:Nat}(h:VL (o.drop n)=0):o.getD n 0=0/\VL (o.drop (n+1))=0:=by
 rcases Br n o.length with h1|h1
 ·rw[Cd h1,uU]at h;rw[qQ h1];omega
 ·rw[jW h1,Bd om];exact⟨rfl,rfl⟩
structure MuO(a b:List Nat)where
 i:Nat
 o:List Nat
 eq:VL o=VL (a.take i)*VL b
 lo:o.length=a.length+b.length
 lg:Lg o
 hz:VL (o.drop (i+b.length))=0
 le:i<=a.length
structure MuI(a b:List Nat)(i:Nat)where
 k:Nat
 c:Nat
 o:List Nat
 eq:VL o+c*4294967296^(i+k)=VL (a.take i)*VL b+4294967296^i*(a.getD i 0*VL (b.take k))
 lo:o.length=a.length+b.length
 lg:Lg o
 hz:VL (o.drop (i+b.length))=0
 hc:c<4294967296
 le:k<=b.length
def MuO.start(a b:List Nat):MuO a b:=⟨0,List.replicate (a.length+b.length) 0,by simp[VL,mB0],by simp,cG _,by rw[List.drop_replicate,mB0],Aq _⟩
def MuI.start{a b:List Nat}(x:MuO a b):MuI a b x.i:=⟨0,0,x.o,by simp[VL,x.eq],x.lo,x.lg,x.hz,by decide,Aq _⟩
def MuI.s{a b:List Nat}{i:Nat}(x:MuI a b i):Nat:=x.c+a.getD i 0*b.getD x.k 0+x.o.getD (i+x.k) 0
theorem tT{x y:Nat}(hx:x<4294967296)(hy:y<4294967296):x*y<=18446744065119617025:=Nat.mul_le_mul (show x<=4294967295 by omega) (show y<=4294967295 by omega)
theorem MuI.s_lt{a b:List Nat}{i:Nat}(x:MuI a b i)(ha:Lg a)(hb:Lg b):x.s<18446744073709551616:=by
 have h1:=tT (qG ha i) (qG hb x.k);have h2:=qG x.lg (i+x.k);have h3:=x.hc;unfold MuI.s;omega
theorem mul_step{a b o:List Nat}{i k c s:Nat}(h:VL o+c*4294967296^(i+k)=VL (a.take i)*VL b+4294967296^i*(a.getD i 0*VL (b.take k)))(hj:i+k<o.length)(hs:s=c+a.getD i 0*b.getD k 0+o.getD (i+k) 0):
  VL (o.set (i+k) (s%4294967296))+s/4294967296*4294967296^(i+(k+1))=VL (a.take i)*VL b+4294967296^i*(a.getD i 0*VL (b.take (k+1))):=by
 have h1:=vU1 (y:=s%4294967296) hj;have e0:4294967296^i*(a.getD i 0*VL (b.take (k+1)))=4294967296^i*(a.getD i 0*VL (b.take k))+4294967296^(i+k)*(a.getD i 0*b.getD k 0):=by
  rw[qL b,Bv,Bv,Eo];congr 1;rw[Bp];congr 1;rw[<-Bp,<-Bp,Aw (a.getD i 0)]
 rw[e0,<-Ed i k 1,By];generalize 4294967296^(i+k)=B at*;generalize 4294967296^i*(a.getD i 0*VL (b.take k))=R at*;generalize VL (a.take i)*VL b=Q at*;generalize a.getD i 0*b.getD k 0=M at*;have e:s=4294967296*(s/4294967296)+s%4294967296:=(Dd s 4294967296).symm;have e2:B*s=B*(4294967296*(s/4294967296))+B*(s%4294967296):=by rw[<-Bv,<-e]
 have e3:B*s=B*c+B*M+B*o.getD (i+k) 0:=by rw[hs,Bv,Bv]
 have e4:s/4294967296*(B*4294967296)=B*(4294967296*(s/4294967296)):=by rw[Aw,Bp]
 have e5:c*B=B*c:=Aw _ _;omega
def MuI.next{a b:List Nat}{i:Nat}(x:MuI a b i)(ha:Lg a)(hb:Lg b)(hi:i<a.length)(h:x.k<b.length):MuI a b i:=⟨x.k+1,x.s/4294967296,x.o.set (i+x.k) (x.s%4294967296),mul_step x.eq (by rw[x.lo];omega) rfl,by rw[Bu,x.lo],x.lg.set _ (Cx _ de),by rw[List.drop_set_of_lt om];exact x.hz,by have:=x.s_lt ha hb;omega,h⟩
def MuI.fin{a b:List Nat}{i:Nat}(x:MuI a b i)(hi:i<a.length)(h:b.length<=x.k):MuO a b:=⟨i+1,x.o.set (i+b.length) x.c,by
 have hk:=x.le;have e:x.k=b.length:=by omega
 have h1:=x.eq;have h2:=vU1 (o:=x.o) (j:=i+b.length) (y:=x.c) (by rw[x.lo];omega);rw[(tC x.hz).1]at h2;rw[e,Ai (Ar _)]at h1;rw[qL a,Bo];have e5:x.c*4294967296^(i+b.length)=4294967296^(i+b.length)*x.c:=Aw _ _;rw[Bp];omega,by rw[Bu,x.lo],x.lg.set _ x.hc,by
 rw[List.drop_set_of_lt om,show i+1+b.length=i+b.length+1 by omega];exact(tC x.hz).2,hi⟩
theorem MuO.fin{a b:List Nat}(x:MuO a b)(h:a.length<=x.i):VL x.o=VL a*VL b:=by rw[x.eq,Ai h]
structure Sho(a:List Nat)(d:Nat)where
 k:Nat
 r:Nat
 o:List Nat
 eq:VL (o.drop k)*d+r=VL (a.drop k)
 lo:o.length=a.length
 lg:Lg o
 hr:r<d
 le:k<=a.length
def Sho.start(a:List Nat){d:Nat}(h:0<d):Sho a d:=⟨a.length,0,List.replicate a.length 0,by rw[List.drop_replicate,Nat.sub_self,Bd (Ar _)];simp[VL],by simp,cG _,h,Ar _⟩
def Sho.s{a:List Nat}{d:Nat}(x:Sho a d):Nat:=x.r*4294967296+a.getD (x.k-1) 0
theorem Sho.s_lt{a:List Nat}{d:Nat}(x:Sho a d)(ha:Lg a)(hd:d<4294967296):x.s/d<4294967296:=by
 have h1:=qG ha (x.k-1);have h2:=x.hr;rw[Dw om];unfold Sho.s;have:x.r*4294967296+4294967296<=d*4294967296:=by omega
 omega
def Sho.next{a:List Nat}{d:Nat}(x:Sho a d)(ha:Lg a)(hd:d<4294967296)(h:0<x.k):Sho a d:=⟨x.k-1,x.s%d,x.o.set (x.k-1) (x.s/d),by
 have hk:=x.le;have hl:=x.lo;have h1:=x.eq;have e:=Dd x.s d;rw[Cd (by rw[Bu];omega),Cd (l:=a) om,uU,uU,List.getElem_set_self,show x.k-1+1=x.k by omega,List.drop_set_of_lt om,<-h1,<-qQ (by omega:x.k-1<a.length)];rw[Bo,Aw (x.s/d),Bp];rw[Bv];unfold Sho.s at*;generalize VL (x.o.drop x.k)*d=Q at*;omega,by rw[Bu,x.lo],x.lg.set _ (x.s_lt ha hd),Cx _ (by have:=x.hr;omega),by have:=x.le;omega⟩
theorem Sho.fin{a:List Nat}{d:Nat}(x:Sho a d)(h:x.k=0):VL x.o=VL a/d/\x.r=VL a%d:=by
 have h1:=x.eq;have h2:=x.hr;rw[h,Do,Do]at h1;have hd:0<d:=by omega
 rw[<-h1];constructor
 ·rw[Aw,Nat.mul_add_div hd,Ei h2,Ck]
 ·rw[Aw,Nat.mul_add_mod,Dr h2]
variable{md me:Bool}
theorem hi32{e:Int}{s:Nat}(h:e=(s:Int)):Int.fdiv e (2^min (Int.toNat 32) IntKind.u64.bits)=((s/4294967296:Nat):Int):=by rw[h];exact cA de
theorem lo32{e:Int}{s:Nat}(h:e=(s:Int)):IntKind.u32.wrap e=((s%4294967296:Nat):Int):=by
 rw[h];simp only[IntKind.wrap,IntKind.signed,IntKind.bits,Ch,Az,if_false];omega
theorem vY{l:List Nat}{y:Nat}{e:Int}(h:e=(y:Int)):l.map uD++[[.v (.int .u32 e)]]=(l++[y]).map uD:=by rw[Ad,h];rfl
theorem vZ0{a b:List Nat}(x:PlL a b){e:Int}(h:e=(x.c:Int)+((a.getD x.k 0:Nat):Int)+((b.getD x.k 0:Nat):Int)):e=((x.s:Nat):Int):=by
 rw[h];unfold PlL.s;omega
theorem natAdd0_ok(a b:Nat)(ha:(lim a).length<=100000)(hb:(lim b).length<=100000):Fx 266 [usD (lim a),usD (lim b)] (usD (lim (a+b))):=by
 refine yD zJ Tryz.func266 rfl rfl rfl rfl rfl rfl ?_;intros;refine zK 100 ?_;refine zB (zK 200 ?_);refine zZ (fun c1=>?_) (fun c1=>?_)
 ·
  refine yM zJ [] 300 ?_;refine zA (ev_R zJ [1019] 400 ?_);refine qT 303 rfl (by repeat(first|exact trivial|exact rfl|refine⟨?_,?_⟩)) (by repeat(first|exact trivial|refine⟨?_,?_⟩)) ?_;refine zK 500 ?_;refine zB (zK 600 ?_);refine zP ?_;refine yC (ι:=PlL (lim b) (lim a)) [1,20,21] [] 650 (fun x=>[(22,.v (.int .i64 (x.k:Nat))),(6,.v (.int .u64 (x.c:Nat))),(5,.own 303 1 (x.o.map uD))]) (fun x=>[(303,.row 91 1 (x.o.map uD).length)]) (fun x=>(lim b).length-x.k) (PlL.start _ _) ?_;refine⟨⟨yG,yF,rfl,rfl⟩,fun x=>?_⟩;have hk:=x.le;have hk2:=x.lo;have hk3:=x.hc;have hk4:=qG (yV b) x.k;have hk5:=qG (yV a) x.k;refine zK 700 ?_;refine zB (zZ (fun c6=>?_) (fun c6=>?_))
  ·
   refine zM (zA (zB (zP (zK 800 ?_))));refine zK 900 ?_;refine zB (zK 1000 ?_);refine zZ (fun c9=>?_) (fun c9=>?_)
   ·
    refine yM zJ [] 1100 ?_;refine zA (zK 1200 ?_);refine yM zJ [] 1300 ?_;refine zN (zA (yM zJ [] 1400 ?_));have zb:= @jW (lim a) x.k;exact zS (x.next (yV b) (yV a) (by omega)) ⟨(by repeat(first|exact u21 (by show(x.k:Int)+1=((x.k+1:Nat):Int);omega)|exact u21 (hi32 (vZ0 x (by(try simp only[Ak]);simp only[IntKind.wrap,IntKind.signed,IntKind.bits,Ch,Az,if_false];omega)))|exact Sub.own (vY (lo32 (vZ0 x (by(try simp only[Ak]);simp only[IntKind.wrap,IntKind.signed,IntKind.bits,Ch,Az,if_false];omega))))|refine⟨?_,?_⟩|exact lx)),(by repeat(first|exact trivial|exact u15 rfl|exact⟨rfl,rfl,by show _=(List.map uD (x.o++_)).length;simp⟩|refine⟨?_,?_⟩)),rfl,rfl⟩ (by show(lim b).length-(x.k+1)<(lim b).length-x.k;omega)
   ·
    refine zM (zA (zK 1200 ?_));refine yM zJ [] 1300 ?_;refine zN (zA (yM zJ [] 1400 ?_));have zb:= @jW (lim a) x.k;exact zS (x.next (yV b) (yV a) (by omega)) ⟨(by repeat(first|exact u21 (by show(x.k:Int)+1=((x.k+1:Nat):Int);omega)|exact u21 (hi32 (vZ0 x (by(try simp only[Ak]);simp only[IntKind.wrap,IntKind.signed,IntKind.bits,Ch,Az,if_false];omega)))|exact Sub.own (vY (lo32 (vZ0 x (by(try simp only[Ak]);simp only[IntKind.wrap,IntKind.signed,IntKind.bits,Ch,Az,if_false];omega))))|refine⟨?_,?_⟩|exact lx)),(by repeat(first|exact trivial|exact u15 rfl|exact⟨rfl,rfl,by show _=(List.map uD (x.o++_)).length;simp⟩|refine⟨?_,?_⟩)),rfl,rfl⟩ (by show(lim b).length-(x.k+1)<(lim b).length-x.k;omega)
  ·
   refine yE (yA (yB (zY (zA ?_))));refine zB (zE zJ [] 1500 rfl ?_);refine zF ?_;refine zQ _ ((jK (x.o++[x.c]) (x.lg.snoc om) (by simp;omega)).args ⟨SubP.ownSl (vY (by simp only[IntKind.wrap,IntKind.signed,IntKind.bits,Ch,Az,if_false];omega)),trivial⟩) rfl ?_;refine zf (zA (zL ?_));have e:=(x.fin om om).1;rw[vF,vF]at e;exact u4 rfl (u9 (by rw[e];(try rw[Nat.add_comm])))
 ·
  refine zM (zA (ev_R zJ [1019] 400 ?_));refine qT 203 rfl (by repeat(first|exact trivial|exact rfl|refine⟨?_,?_⟩)) (by repeat(first|exact trivial|refine⟨?_,?_⟩)) ?_;refine zK 500 ?_;refine zB (zK 600 ?_);refine zP ?_;refine yC (ι:=PlL (lim a) (lim b)) [1,20,21] [] 650 (fun x=>[(22,.v (.int .i64 (x.k:Nat))),(6,.v (.int .u64 (x.c:Nat))),(5,.own 203 1 (x.o.map uD))]) (fun x=>[(203,.row 91 1 (x.o.map uD).length)]) (fun x=>(lim a).length-x.k) (PlL.start _ _) ?_;refine⟨⟨yG,yF,rfl,rfl⟩,fun x=>?_⟩;have hk:=x.le;have hk2:=x.lo;have hk3:=x.hc;have hk4:=qG (yV a) x.k;have hk5:=qG (yV b) x.k;refine zK 700 ?_;refine zB (zZ (fun c6=>?_) (fun c6=>?_))
  ·
   refine zM (zA (zB (zP (zK 800 ?_))));refine zK 900 ?_;refine zB (zK 1000 ?_);refine zZ (fun c9=>?_) (fun c9=>?_)
   ·
    refine yM zJ [] 1100 ?_;refine zA (zK 1200 ?_);refine yM zJ [] 1300 ?_;refine zN (zA (yM zJ [] 1400 ?_));have zb:= @jW (lim b) x.k;exact zS (x.next (yV a) (yV b) (by omega)) ⟨(by repeat(first|exact u21 (by show(x.k:Int)+1=((x.k+1:Nat):Int);omega)|exact u21 (hi32 (vZ0 x (by(try simp only[Ak]);simp only[IntKind.wrap,IntKind.signed,IntKind.bits,Ch,Az,if_false];omega)))|exact Sub.own (vY (lo32 (vZ0 x (by(try simp only[Ak]);simp only[IntKind.wrap,IntKind.signed,IntKind.bits,Ch,Az,if_false];omega))))|refine⟨?_,?_⟩|exact lx)),(by repeat(first|exact trivial|exact u15 rfl|exact⟨rfl,rfl,by show _=(List.map uD (x.o++_)).length;simp⟩|refine⟨?_,?_⟩)),rfl,rfl⟩ (by show(lim a).length-(x.k+1)<(lim a).length-x.k;omega)
   ·
    refine zM (zA (zK 1200 ?_));refine yM zJ [] 1300 ?_;refine zN (zA (yM zJ [] 1400 ?_));have zb:= @jW (lim b) x.k;exact zS (x.next (yV a) (yV b) (by omega)) ⟨(by repeat(first|exact u21 (by show(x.k:Int)+1=((x.k+1:Nat):Int);omega)|exact u21 (hi32 (vZ0 x (by(try simp only[Ak]);simp only[IntKind.wrap,IntKind.signed,IntKind.bits,Ch,Az,if_false];omega)))|exact Sub.own (vY (lo32 (vZ0 x (by(try simp only[Ak]);simp only[IntKind.wrap,IntKind.signed,IntKind.bits,Ch,Az,if_false];omega))))|refine⟨?_,?_⟩|exact lx)),(by repeat(first|exact trivial|exact u15 rfl|exact⟨rfl,rfl,by show _=(List.map uD (x.o++_)).length;simp⟩|refine⟨?_,?_⟩)),rfl,rfl⟩ (by show(lim a).length-(x.k+1)<(lim a).length-x.k;omega)
  ·
   refine yE (yA (yB (zY (zA ?_))));refine zB (zE zJ [] 1500 rfl ?_);refine zF ?_;refine zQ _ ((jK (x.o++[x.c]) (x.lg.snoc om) (by simp;omega)).args ⟨SubP.ownSl (vY (by simp only[IntKind.wrap,IntKind.signed,IntKind.bits,Ch,Az,if_false];omega)),trivial⟩) rfl ?_;refine zf (zA (zL ?_));have e:=(x.fin om om).1;rw[vF,vF]at e;exact u4 rfl (u9 (by rw[e];(try rw[Nat.add_comm])))
theorem qP1(n:Nat):(MR.map (List.replicate n ()) (fun _=>litS [.int .u32 0]) ()).rows=(MR.map (List.replicate n 0) uD 0).rows:=by
 simp only[MR.rows,List.map_replicate];rfl
theorem tK(o:List Nat)(j v:Nat):(MR.upd (.map o uD 0) j (uD v)).rows=(MR.map (o.set j v) uD 0).rows:=by
 simp only[MR.rows,List.map_set]
theorem w64{n:Nat}(h:n<18446744073709551616):IntKind.u64.wrap (n:Int)=(n:Int):=by
 simp only[IntKind.wrap,IntKind.signed,IntKind.bits,Ch,Az,if_false];omega
theorem w32n{n:Nat}(h:n<4294967296):IntKind.u32.wrap (n:Int)=(n:Int):=by
 simp only[IntKind.wrap,IntKind.signed,IntKind.bits,Ch,Az,if_false];omega
theorem muI_s{a b:List Nat}{i:Nat}(y:MuI a b i)(ha:Lg a)(hb:Lg b):IntKind.u64.wrap ((y.c:Int)+IntKind.u64.wrap (IntKind.u64.wrap (IntKind.u64.wrap ((a.getD i 0:Nat):Int)*IntKind.u64.wrap ((b.getD y.k 0:Nat):Int))+IntKind.u64.wrap ((y.o.getD (i+y.k) 0:Nat):Int)))=((y.s:Nat):Int):=by
 have h0:=y.s_lt ha hb;have h1:=qG ha i;have h2:=qG hb y.k;have h3:=qG y.lg (i+y.k);have h4:=tT h1 h2;have h5:=y.hc;unfold MuI.s at*;rw[w64 (n:=a.getD i 0) om,w64 (n:=b.getD y.k 0) om,w64 (n:=y.o.getD (i+y.k) 0) om,<-Int.natCast_mul,w64 (n:=a.getD i 0*b.getD y.k 0) om,<-Int.natCast_add,w64 (n:=a.getD i 0*b.getD y.k 0+y.o.getD (i+y.k) 0) om,<-Int.natCast_add,w64 om];congr 1;omega
theorem wJ1{P:Program}{E:Pn}{K:DS->Prop}{p:Prop}{r:Out}(hr:r.sat P E K)(hp:p:=by first|exact⟨hm2,by rw[<-hm2];omega⟩|exact⟨hm2,by omega⟩|exact⟨hm,by rw[<-hm];omega⟩|exact⟨hm,by omega⟩|exact Fa):(Out.need p r).sat P E K:=⟨hp,hr⟩
theorem natMul0_ok(a b:Nat)(ha:(lim a).length<=100000)(hb:(lim b).length<=100000):Fx 263 [usD (lim a),usD (lim b)] (usD (lim (a*b))):=by
 refine yD zJ Tryz.func263 rfl rfl rfl rfl rfl rfl ?_;intros;refine zK 100 ?_;refine ev_R zJ [1016] 200 ?_;refine yL [0,1] [] 210 [(5,.mo 105 ((lim a).length+(lim b).length))] [(105,.mrow 91 1 (.map (List.replicate ((lim a).length+(lim b).length) 0) uD 0))] ?_;refine⟨⟨⟨Sub.mo om,yG⟩,⟨SubO.mr (by rw[qP1];congr 3),yF⟩,rfl,rfl⟩,?_⟩;refine zB (zK 300 ?_);refine zP ?_;refine yC (ι:=MuO (lim a) (lim b)) [1,5,17,18] [] 350 (fun x=>[(19,.v (.int .i64 (x.i:Nat)))]) (fun x=>[(105,.mrow 91 1 (.map x.o uD 0))]) (fun x=>(lim a).length-x.i) (MuO.start _ _) ?_;refine⟨⟨yG,yF,rfl,rfl⟩,fun x=>?_⟩;have hk:=x.le;have hlo:=x.lo;have hm:((lim a).length+(lim b).length)=(MR.map x.o uD 0).len:=by rw[MR.len,hlo]
 refine zK 400 ?_;refine zB (zZ (fun c3=>?_) (fun c3=>?_))
 ·
  refine zM (zA (zB (zP (zK 500 ?_))));refine zK 600 ?_;refine zB (zK 700 ?_);refine zP ?_;refine yC (ι:=MuI (lim a) (lim b) x.i) [1,5,6,7,17,18,19,24,25] [] 750 (fun y=>[(26,.v (.int .i64 (y.k:Nat))),(8,.v (.int .u64 (y.c:Nat)))]) (fun y=>[(105,.mrow 91 1 (.map y.o uD 0))]) (fun y=>(lim b).length-y.k) (MuI.start x) ?_;refine⟨⟨yG,yF,rfl,rfl⟩,fun y=>?_⟩;have hky:=y.le;have hly:=y.lo;have hm2:((lim a).length+(lim b).length)=(MR.map y.o uD 0).len:=by rw[MR.len,hly]
  have hj:((x.i:Int)+(y.k:Int)).toNat=x.i+y.k:=by omega
  have es:=muI_s y (yV a) (yV b);refine zK 800 ?_;refine zB (zZ (fun c7=>?_) (fun c7=>?_))
  ·
   refine zM (zA (zB (zP (zK 900 ?_))));refine zB (zE zJ [] 1000 rfl ?_);repeat(first|refine zH ?_|refine wJ1 ?_)
   refine zC (zA ?_);refine zB (zE zJ [] 1100 rfl ?_);repeat(first|refine zH ?_|refine wJ1 ?_)
   refine zC (zA (yM zJ [] 1200 ?_));refine zN (zA (yM zJ [] 1300 ?_));exact zS (y.next (yV a) (yV b) (by omega) (by omega)) ⟨(by repeat(first|exact u21 (by show(y.k:Int)+1=((y.k+1:Nat):Int);omega)|exact u21 (by(try simp only[hj,Ak]);rw[es];exact hi32 rfl)|refine⟨?_,?_⟩|exact lx)),⟨SubO.mr (by(try simp only[hj,Ak]);rw[es,lo32 rfl];exact tK _ _ _),yF⟩,rfl,rfl⟩ (by show(lim b).length-(y.k+1)<(lim b).length-y.k;omega)
  ·
   refine yE (yA (yB (zY (zA ?_))));refine zE zJ [] 1400 rfl ?_;repeat(first|refine zH ?_|refine wJ1 ?_)
   refine zC (zN (zA (yM zJ [] 1500 ?_)));exact zS (y.fin (by omega) (by omega)) ⟨(by repeat(first|exact u21 (by show(x.i:Int)+1=((x.i+1:Nat):Int);omega)|refine⟨?_,?_⟩|exact lx)),⟨SubO.mr (by have hj:((x.i:Int)+((lim b).length:Int)).toNat=x.i+(lim b).length:=om;(try simp only[hj]);rw[w32n y.hc];exact tK _ _ _),yF⟩,rfl,rfl⟩ (by show(lim a).length-(x.i+1)<(lim a).length-x.i;omega)
 ·
  refine yE (yA (yB (zY (zA ?_))));refine qT 105 rfl (by repeat(first|exact trivial|exact hm|refine⟨?_,?_⟩)) (by repeat(first|exact trivial|refine⟨?_,?_⟩)) ?_;refine zB (zE zJ [] 1600 rfl ?_);refine zF ?_;refine zQ _ ((jK x.o x.lg om).args ⟨SubP.ownSl rfl,trivial⟩) rfl ?_;refine zf (zA (zL ?_));have e:=x.fin om;rw[vF,vF]at e;exact u4 rfl (u9 (by rw[e]))
theorem or64{h l:Nat}(hh:h<4294967296)(hl:l<4294967296):bOr .u64 (IntKind.u64.wrap (IntKind.u64.wrap (h:Int)*2^min (Int.toNat 32) IntKind.u64.bits)) (IntKind.u64.wrap (l:Int))=((h*4294967296+l:Nat):Int):=by
 rw[show((2:Int)^min (Int.toNat 32) IntKind.u64.bits)=((4294967296:Nat):Int) by decide,w64 (n:=h) om,w64 (n:=l) om,<-Int.natCast_mul,w64 (n:=h*4294967296) om];show IntKind.u64.wrap ((BitVec.ofInt 64 ((h*4294967296:Nat):Int)|||BitVec.ofInt 64 ((l:Nat):Int)).toNat:Int)=_;rw[BitVec.ofInt_natCast,BitVec.ofInt_natCast,BitVec.toNat_or,BitVec.toNat_ofNat,BitVec.toNat_ofNat,Dr om,Dr om];have e:=Nat.two_pow_add_eq_or_of_lt (i:=32) (b:=l) (by simpa using hl) h;rw[show(2:Nat)^32=4294967296 by decide,Aw 4294967296 h]at e;rw[<-e,w64 om]
theorem div32_ok{h l d:Int}(hh:I32 h)(hl:I32 l)(hd:I32 d)(hlt:h<d):
  bOr .u64 (IntKind.u64.wrap (IntKind.u64.wrap h*2^min (Int.toNat 32) IntKind.u64.bits)) (IntKind.u64.wrap l)=((h.toNat*4294967296+l.toNat:Nat):Int)/\IntKind.u64.wrap d=((d.toNat:Nat):Int)/\(h.toNat*4294967296+l.toNat)/d.toNat<4294967296/\(h.toNat*4294967296+l.toNat)%d.toNat<4294967296:=by
 obtain⟨h,rfl⟩:=Cy hh.1;obtain⟨l,rfl⟩:=Cy hl.1;obtain⟨d,rfl⟩:=Cy hd.1;have h1:=hh.2;have h2:=hl.2;have h3:=hd.2;simp only[Ak];refine⟨or64 om om,w64 om,?_,?_⟩
 ·rw[Dw om];omega
 ·exact Bt (Cx _ om) om
theorem qX1{P:Program}{E:Pn}{K:DS->Prop}{p:Prop}{r:Out}(hr:r.sat P E K)(hp:p:=by first|(rw[e2];omega)|exact Fa):(Out.need p r).sat P E K:=⟨hp,hr⟩
theorem Div32_ok(h l d:Int)(hh:I32 h)(hl:I32 l)(hd:I32 d)(hlt:h<d):Fx 283 [.v (.int .u32 h),.v (.int .u32 l),.v (.int .u32 d)] (.tup [.v (.int .u32 ((h.toNat*4294967296+l.toNat)/d.toNat:Nat)),.v (.int .u32 ((h.toNat*4294967296+l.toNat)%d.toNat:Nat))]):=by
 obtain⟨e1,e2,e3,e4⟩:=div32_ok hh hl hd hlt;have hd0:0<d:=by have:=hh.1;omega
 refine yD zJ Tryz.func283 rfl rfl rfl rfl rfl rfl ?_;intros;refine zB (zE zJ [] 100 rfl ?_);repeat(first|refine zH ?_|refine qX1 ?_)
 refine zC (zA (zB ?_));refine zB (zE zJ [] 200 rfl ?_);repeat(first|refine zH ?_|refine qX1 ?_)
 refine zC (zA (zZ (fun c1=>?_) (fun c1=>?_)))
 ·
  exact absurd c1 (by simp;omega)
 ·
  refine zM (zA ?_);refine zB (zE zJ [] 400 rfl ?_);repeat(first|refine zH ?_|refine qX1 ?_)
  refine zC (zA ?_);refine zB (zX zJ [] [[],[],[1],[0,1,2],[0,1,2,3],[],[],[6],[5,6,7],[5,6,7,8],(rgN 5),(rgN 11)] 500 yP kr rfl ?_);repeat(first|refine zH ?_|refine qX1 ?_)
  refine zC (zA (zL ?_));exact u4 rfl (u19 ⟨u10 (by rw[e1,e2,<-Int.ofNat_tdiv,w64 (Nat.lt_trans e3 de),w32n e3]),u10 (by rw[e1,e2,<-Int.ofNat_tmod,w32n e4]),trivial⟩)
end Go.Proofs.YtammfbdgjnkolaaGreatDoor
