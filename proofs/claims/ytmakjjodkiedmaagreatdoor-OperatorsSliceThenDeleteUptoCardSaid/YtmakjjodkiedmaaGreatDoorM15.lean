/-Part 15 of the proof. -/
import Derived.Test.YtmakjjodkiedmaaGreatDoorM14
namespace Go.Proofs.YtmakjjodkiedmaaGreatDoor
open Go.RowKit
theorem PStp.ofBelow{w w':World}{s:Sb}(hlt:∀B o,s B o->B<w.heap.size)(h:Below w.heap.size w w'):PStp w s w' s:=
 ⟨⟨fun _ _ h=>h,(fun b o hs=>World.cell?_of_block (h.block b (hlt b o hs))),fun _ _ h=>h⟩,fun B o hs=>Cr (hlt B o hs) h.size,h.os,h.tape,h.output,h.size,h.block,fun _ _ h=> .inl h,fun _ _ h=> .inl h⟩
theorem jF0{P:Program}{f:FuncId}{args:List D}{x:Value}(hb:Bod P f)(h:∀(w:World)(s:Sb)(vs:List Value),Glb w s->AllV w s (D.pvs args) vs->Calls P f vs.toArray w fun e w'=>e= .returned x/\Below w.heap.size w w'):Fn P f args (.v x):=
 ⟨hb,fun w s vs hlt hg hv=>(h w s vs hg hv).mono fun _ _ ⟨h1,h2⟩=>⟨s,x,h1,rfl,PStp.ofBelow hlt h2⟩⟩
theorem wM0{P:Program}{f:FuncId}{args:List D}{l:List ByteArray}{t:TypeId}(hb:Bod P f)(hm:l.length<=9223372036854775807)(h:∀(w:World)(s:Sb)(vs:List Value),Glb w s->AllV w s (D.pvs args) vs->Calls P f vs.toArray w fun e w'=>e= .returned (.slice (some ⟨w.heap.size,0,none⟩) l.length l.length)/\w'=w.alloc (.cells (l.map Value.string).toArray t)):Fn P f args (ssD l):=by
 refine⟨hb,fun w s vs hlt hg hv=>(h w s vs hg hv).mono ?_⟩;rintro e w' ⟨rfl,rfl⟩;have hst:=Stp.newStable (w:=w) (s:=s) (g:=⟨fun _=>none,fun _ _=>none⟩) hlt (.cells (l.map Value.string).toArray t);refine⟨s.add fun B _=>B=w.heap.size,_,rfl,⟨_,_,by simp,by simp,hm,?_,fun i row hr=>⟨w.heap.size,0,rfl,fun j d hd=>?_⟩⟩,hst.ex,hst.lt,rfl,rfl,rfl,by simp,fun N hN=>Below.heap_alloc w _ N hN,fun B o hs=>hs.imp id fun e=>by omega,fun B o hs=>hs.imp id fun e=>by omega⟩
 ·intro row hr;obtain⟨p,_,rfl⟩:=Bu.1 hr;rfl
 ·rw[Bf]at hr
  cases hp:l[i]? with
  |none=>rw[hp]at hr;simp at hr
  |some p=>
   rw[hp]at hr;simp at hr;subst hr;have hj:j=0/\d=PV.lit (.string p):=by
    match j,hd with
    |0,hd=>simp[sD,D.pvs,D.pv]at hd;exact⟨rfl,hd.symm⟩
    |j+1,hd=>simp[sD,D.pvs]at hd
   obtain⟨rfl,rfl⟩:=hj;refine⟨.string p,?_,.inr rfl,rfl,rfl⟩;rw[cell_of_row _ w.heap.size _ _ t (0,0) (heap_alloc_new w _)];simp[hp]
theorem uD0{w:World}{s:Sb}{x:Value}{vs:List Value}(h:AllV w s (D.pvs [.v x]) vs):vs=[x]:=by
 match vs,h with
 |[v],h=>have:v=x:=h.1;rw[this]
 |[],h=>exact h.elim
 |_::_::_,h=>exact h.2.elim
theorem tL{w:World}{s:Sb}{x y:Value}{vs:List Value}(h:AllV w s (D.pvs [.v x,.v y]) vs):vs=[x,y]:=by
 match vs,h with
 |[v,u],h=>
  have h1:v=x:=h.1;have h2:u=y:=h.2.1;rw[h1,h2]
 |[],h=>exact h.elim
 |[_],h=>exact h.2.elim
 |_::_::_::_,h=>exact h.2.2.elim
theorem ValidString_ok(p:ByteArray)(hp:p.size<=9223372036854775807):Fx 110 [.v (.string p)] (.v (.bool (Lib.validD p.data.toList))):=by
 refine jF0 ⟨_,Tryz.func110,rfl,rfl⟩ fun w s vs hg hv=>?_;rw[uD0 hv];obtain⟨G,h1,h2,_⟩:=hg;exact Any.utf8_ValidString Tryz.laysValid p w hp ⟨fun c hc=>(h2 _ _ _ (h1.first c hc)).1,fun i hi=>⟨(h2 _ _ _ (h1.accept i hi).1).1,(h2 _ _ _ (h1.accept i hi).2).1⟩⟩
theorem dI(p q:ByteArray)(hp:p.size<4294967281):Fx 94 [.v (.string p),.v (.string q)] (.v (.bool (Lib.contains p.data.toList q.data.toList))):=by
 refine jF0 ⟨_,Tryz.func94,rfl,rfl⟩ fun w s vs hg hv=>?_;rw[tL hv];obtain⟨G,h1,h2,_⟩:=hg;obtain⟨m,hm⟩:=h1.maxLen;exact(Any.strings_Contains Tryz.laysContains p q m w hp (h2 _ _ _ hm).1).mono fun e w' ⟨h3,h4⟩=>⟨h3,by rw[h4];exact Below.refl _ _⟩
def xW(p sep:ByteArray):List ByteArray:=Lib.splitB sep 0 (Lib.countB p sep) p
theorem kG{p sep:ByteArray}(h:1<=sep.size):(xW p sep).length=Lib.countB p sep+1:=Lib.splitB_all sep h 0 _ p rfl
theorem uH0(p sep:ByteArray)(hp:p.size<4294967281)(h1:1<=sep.size):Fx 143 [.v (.string p),.v (.string sep)] (ssD (xW p sep)):=by
 have hle:=Lib.countB_le sep h1 p.size p (Ap _);refine wM0 (t:=9) ⟨_,Tryz.func143,rfl,rfl⟩ (by rw[kG h1];omega) fun w s vs hg hv=>?_;rw[tL hv,kG h1];obtain⟨G,g1,g2,_⟩:=hg;obtain⟨m,hm⟩:=g1.maxLen;exact Any.strings_Split Tryz.laysSplit kr p sep m w hp (g2 _ _ _ hm).1 h1
variable{md me:Bool}
structure VlIn(x:Vl):Prop where
 k1: -9223372036854775808<=x.k
 k2:x.k<=9223372036854775807
 r1: -9223372036854775808<=x.r
 r2:x.r<=9223372036854775807
 nl:Lg x.nl
 dl:Lg x.dl
 nn:x.nl.length<=2000000
 dn:x.dl.length<=2000000
 s:x.s.size<=2000000
theorem qO{α:Type}{β:Type 1}{l:List α}{f:α->β}(h:l.length<=2000000):(l.map f).length<=1073741824:=by rw[Ao];omega
structure Up(n:Nat)(p:Nat->Bool)where
 k:Nat
 le:k<=n
 all:∀j,j<k->p j=true
def Up.next{n:Nat}{p:Nat->Bool}(x:Up n p)(h1:x.k<n)(h2:p x.k=true):Up n p:=⟨x.k+1,by omega,fun j hj=>by
 rcases Nat.lt_succ_iff_lt_or_eq.1 hj with h|rfl
 ·exact x.all j h
 ·exact h2⟩
theorem Up.yes{n:Nat}{p:Nat->Bool}(x:Up n p)(h1:¬x.k<n):(List.range n).all p=true:=by
 rw[Bt];intro j hj;exact x.all j (by have:=Cx.1 hj;omega)
theorem Up.no{n k:Nat}{p:Nat->Bool}(h1:k<n)(h2:p k=false):(List.range n).all p=false:=by
 rw[<-Dj,Bt];intro h;rw[h k (Cx.2 h1)]at h2;cases h2
def lttI(b:Int):Bool:=(decide (b=95)||(decide (97<=b)&&decide (b<=122)))||(decide (65<=b)&&decide (b<=90))
def nmP(s:ByteArray)(i:Nat):Bool:= !(!lttI (bAt s i)&&((decide ((i:Int)=0)||decide ((bAt s i:Int)<48))||decide (57<(bAt s i:Int))))
def wJ(s:ByteArray):Bool:= !(decide ((s.size:Int)<1)||decide (24<(s.size:Int)))&&(List.range s.size).all (nmP s)
def dotS(s:ByteArray):Bool:=(xW s ⟨#[46]⟩).all wJ&&decide ((s.size:Int)<=60)
def emS(s:ByteArray):Bool:=decide (s=⟨#[]⟩)
def zI(b:Bool)(l:List Nat):Bool:=smI b l false []
def oneS(l:List Nat):Bool:=decide ((l.length:Int)=1)&&decide (((l.getD 0 0:Nat):Int)=1)
def shr1(r:Int):Int:=r.fdiv (2^(min (Int.toNat 1) (IntKind.i64).bits))
def yR(v:Vl):Bool:=
 if v.k=0\/v.k=8 then((zI v.nn v.nl&&zI v.dn v.dl)&&emS v.s)&&decide (v.r=0)
 else if v.k=1 then((zI v.nn v.nl&&zI v.dn v.dl)&&emS v.s)&&decide (shr1 v.r=0)
 else if v.k=2 then((uM v.nn v.nl&&zI v.dn v.dl)&&emS v.s)&&decide (v.r=0)
 else if v.k=3 then((ratS v.nn v.nl v.dn v.dl&& !oneS v.dl)&&emS v.s)&&decide (v.r=0)
 else if v.k=4 then(((zI v.nn v.nl&&zI v.dn v.dl)&&decide (v.r=0))&&Lib.validD v.s.data.toList)&&decide ((v.s.size:Int)<=4000)
 else if v.k=5 then((zI v.nn v.nl&&zI v.dn v.dl)&&decide (v.r=0))&&decide ((v.s.size:Int)<=4000)
 else if v.k=7 then((zI v.nn v.nl&&zI v.dn v.dl)&&decide (v.r=0))&&dotS v.s
 else if v.k=6 then(zI v.nn v.nl&&zI v.dn v.dl)&&emS v.s
 else false
def hasS(h:List Ob)(v:Vl):Bool:=yR v&&(!decide (v.k=6)||qA h v.r)
def usesB:ByteArray:=⟨#[32,42,32,42,32,107,58,32,107,48,32,51,32,49,32,110,99,114,100,115,42,32,50,32,110,114,97,115,61,32,99,97,61,32,110,97,61,32,51,32,49,32,49,32,50,32,115,50,32,110,100,115,42,32,115,48,32,115,50,32,49]⟩
def usesL:List ByteArray:=xW usesB ⟨#[32]⟩
theorem usesL_len:usesL.length=21:=by decide+kernel
def uW(k:Int):ByteArray:=usesL.getD k.toNat ByteArray.empty
theorem uW0{k:Int}(h:0<=k/\k<21):0<=k/\k.toNat<usesL.length:=by rw[usesL_len];omega
theorem gV(l:List Int)(hl:l.length<=2000000):FnO Tryz.prog 19 [isD l] 3 1 (l.map iD):=by
 refine pI Tryz.func19 rfl rfl rfl rfl rfl rfl ?_;intros;refine zB (zE zO [5] 100 rfl ?_);repeat(first|refine zH ?_|refine zU (by exact qO hl) ?_)
 refine zC (zA (zB (zB ?_)));refine uJ Tryz.underlying33 rfl rfl rfl fun c hc=>?_;refine zA (zT rfl (fun c1=>?_) (fun c1=>?_))
 ·
  refine zB (zE zO [5] 300 rfl ?_);repeat(first|refine zH ?_|refine zU (by exact qO hl) ?_)
  refine zC (zA (zN (zM ?_)));exact FinO.nil rfl (by rw[hc c1];rfl)
 ·
  refine zJ (zA ?_);refine zB (zE zO [5] 400 rfl ?_);repeat(first|refine zH ?_|refine zU (by first|rfl|exact qO hl|(rw[Au];have:=qO (f:=iD) hl;omega)|(have:=qO (f:=iD) hl;simp at this⊢;omega)) ?_)
  refine zC (zA (zN ?_));exact FinO.ret rfl rfl rfl rfl
theorem zL0(l:List ByteArray)(hl:l.length<=2000000):FnO Tryz.prog 20 [ssD l] 9 1 (l.map sD):=by
 refine pI Tryz.func20 rfl rfl rfl rfl rfl rfl ?_;intros;refine zB (zE zO [5] 100 rfl ?_);repeat(first|refine zH ?_|refine zU (by exact qO hl) ?_)
 refine zC (zA (zB (zB ?_)));refine uJ Tryz.underlying34 rfl rfl rfl fun c hc=>?_;refine zA (zT rfl (fun c1=>?_) (fun c1=>?_))
 ·
  refine zB (zE zO [5] 300 rfl ?_);repeat(first|refine zH ?_|refine zU (by exact qO hl) ?_)
  refine zC (zA (zN (zM ?_)));exact FinO.nil rfl (by rw[hc c1];rfl)
 ·
  refine zJ (zA ?_);refine zB (zE zO [5] 400 rfl ?_);repeat(first|refine zH ?_|refine zU (by first|rfl|exact qO hl|(rw[Au];have:=qO (f:=sD) hl;omega)|(have:=qO (f:=sD) hl;simp at this⊢;omega)) ?_)
  refine zC (zA (zN ?_));exact FinO.ret rfl rfl rfl rfl
theorem dJ(l:List Vl)(hl:l.length<=2000000):FnO Tryz.prog 56 [vsD l] 29 7 (l.map vlD):=by
 refine pI Tryz.func56 rfl rfl rfl rfl rfl rfl ?_;intros;refine zB (zE zO [5] 100 rfl ?_);repeat(first|refine zH ?_|refine zU (by exact qO hl) ?_)
 refine zC (zA (zB (zB ?_)));refine uJ Tryz.underlying32 rfl rfl rfl fun c hc=>?_;refine zA (zT rfl (fun c1=>?_) (fun c1=>?_))
 ·
  refine zB (zE zO [5] 300 rfl ?_);repeat(first|refine zH ?_|refine zU (by exact qO hl) ?_)
  refine zC (zA (zN (zM ?_)));exact FinO.nil rfl (by rw[hc c1];rfl)
 ·
  refine zJ (zA ?_);refine zB (zE zO [5] 400 rfl ?_);repeat(first|refine zH ?_|refine zU (by first|rfl|exact qO hl|(rw[Au];have:=qO (f:=vlD) hl;omega)|(have:=qO (f:=vlD) hl;simp at this⊢;omega)) ?_)
  refine zC (zA (zN ?_));exact FinO.ret rfl rfl rfl rfl
theorem dD(s:ByteArray):Fx 96 [.v (.string s)] (.v (.bool (wJ s))):=by
 refine yM zO Tryz.func96 rfl rfl rfl rfl rfl rfl ?_;intros;refine zK 100 ?_;refine zB (zK 200 ?_);refine zT rfl (fun c1=>?_) (fun c1=>?_)
 ·
  refine zK 300 ?_;refine zN (zM ?_);exact u1 rfl (u5 (by rw[wJ,c1];rfl))
 ·simp only[Cg,Av]at c1;refine zJ (zA (zB (zK 400 ?_)));refine zQ ?_;refine yB (ι:=Up s.size (nmP s)) [0] [] 450 (fun x=>[(3,.v (.int .i64 x.k))]) (fun _=>[]) (fun x=>s.size-x.k) ⟨0,Aq _,fun j hj=>by omega⟩ ?_;refine⟨⟨yK,yH,rfl,rfl⟩,fun x=>?_⟩;have hk:=x.le;refine zB (zK 500 ?_);refine zX (fun c4=>?_) (fun c4=>?_)
  ·
   refine zJ (zA (zB (zQ (zK 700 ?_))));refine zK 800 ?_;refine zK 900 ?_;refine zT rfl (fun c8=>?_) (fun c8=>?_)
   ·
    refine zK 1000 ?_;refine zN (zP (zM (yL (zP (zM ?_)))));exact u1 rfl (u5 (by rw[wJ,Up.no (p:=nmP s) c4 (congrArg Bool.not c8),Bool.and_false]))
   ·
    refine zJ (zL (zA (yO zO [] 1000 ?_)));exact zR (x.next c4 (by show(!(_))=true;exact congrArg Bool.not c8)) ⟨yK,yH,rfl,rfl⟩ (by show s.size-(x.k+1)<s.size-x.k;omega)
  ·
   refine yF (zZ (yA (zW (zA (zK 1100 ?_)))));refine zN ?_;exact u1 rfl (u5 (by rw[wJ,x.yes c4,Cl c1.1,Cl c1.2];rfl))
theorem dH(s:ByteArray)(hs:s.size<=2000000):Fx 97 [.v (.string s)] (.v (.bool (dotS s))):=by
 refine yM zO Tryz.func97 rfl rfl rfl rfl rfl rfl ?_;intros;refine zK 100 ?_;refine zB ?_;refine zB (zE zO [] 200 rfl ?_);refine zF ?_;refine zS _ (uH0 _ _ om de) rfl ?_;refine zf ?_;refine zA (zQ ?_);refine yB (ι:=Al (xW s ⟨#[46]⟩) wJ) [0,6,7] [] 250 (fun x=>[(8,.v (.int .i64 x.k))]) (fun _=>[]) (fun x=>(xW s ⟨#[46]⟩).length-x.k) ⟨0,Aq _,fun j x hj=>by omega⟩ ?_;refine⟨⟨yK,yH,rfl,rfl⟩,fun x=>?_⟩;have hk:=x.le;have hl:(xW s ⟨#[46]⟩).length<=2000001:=by rw[kG (by decide)];have:=Lib.countB_le ⟨#[46]⟩ de s.size s (Ap _);omega
 refine zK 300 ?_;refine zB (zX (fun c2=>?_) (fun c2=>?_))
 ·
  refine zJ (zA (zB (zQ (zK 400 ?_))));refine zB (zE zO [] 500 rfl ?_);refine zF ?_;refine zS _ (dD _) rfl ?_;refine zF ?_;refine zC (zA (zX (fun c4=>?_) (fun c4=>?_)))
  ·
   refine zK 600 ?_;refine zN (zP (zM (yL (zP (zM ?_)))));exact u1 rfl (u5 (by rw[dotS,Al.no (e:=ByteArray.empty) c2 c4];rfl))
  ·
   refine zJ (zL (zA (yO zO [] 700 ?_)));exact zR (x.next (e:=ByteArray.empty) c2 c4) ⟨yK,yH,rfl,rfl⟩ (by show(xW s ⟨#[46]⟩).length-(x.k+1)<(xW s ⟨#[46]⟩).length-x.k;omega)
 ·
  refine yF (zZ (yA (zW (zA (zK 800 ?_)))));refine zN ?_;exact u1 rfl (u5 (by rw[dotS,x.yes c2];rfl))
theorem vL(v:Vl)(hin:VlIn v):Fx 57 [.agg (vlD v)] (.v (.bool (yR v))):=by
 have hsz:=hin.s;refine yM zO Tryz.func57 rfl rfl rfl rfl rfl rfl ?_;intros;refine zK 100 ?_;refine zB (yE zO [] [[],[0],[],[0,1,2],[],[4],[],(rgN 7),(rgN 8),(rgN 9)] 200 yX kr rfl ?_);refine zF ?_;refine zS _ ((xB v.nn false v.nl []).args ⟨u4 _,SubP.agg ⟨u4 _,u10 rfl,trivial⟩,trivial⟩) rfl ?_;refine zF ?_;refine zS _ ((xB v.dn false v.dl []).args ⟨u4 _,SubP.agg ⟨u4 _,u10 rfl,trivial⟩,trivial⟩) rfl ?_;refine zF ?_;refine zC (zA (zB (zK 300 ?_)));refine zQ (zB (zK 400 ?_));refine zX (fun c3=>?_) (fun c3=>?_)
 ·
  refine zJ (zA (zX (fun c3x=>?_) (fun c3x=>?_)))
  ·
   refine zK 600 ?_;refine zN (zP (zM ?_));exact u1 rfl (u5 (by first|(simp only[yR];simp_all;done)|(simp[yR,oneS,emS,zI,shr1, *];done)|(simp[yR,oneS,emS,zI,shr1, *];rfl)))
  ·
   simp_all
 ·
  refine yO zO [] 500 ?_;refine zA (zX (fun c4=>?_) (fun c4=>?_))
  ·
   refine zK 600 ?_;refine zN (zP (zM ?_));exact u1 rfl (u5 (by first|(simp only[yR];simp_all;done)|(simp[yR,oneS,emS,zI,shr1, *];done)|(simp[yR,oneS,emS,zI,shr1, *];rfl)))
  ·
   refine zK 700 ?_;refine zX (fun c6=>?_) (fun c6=>?_)
   ·
    refine zK 800 ?_;refine zN (zP (zM ?_));exact u1 rfl (u5 (by first|(simp only[yR];simp_all;done)|(simp[yR,oneS,emS,zI,shr1, *];done)|(simp[yR,oneS,emS,zI,shr1, *];rfl)))
   ·
    refine zK 900 ?_;refine zX (fun c8=>?_) (fun c8=>?_)
    ·
     refine zB (zE zO [] 1000 rfl ?_);refine zF ?_;refine zS _ (tQ _ _ (by first|exact hin.nn|assumption)) rfl ?_;refine zf (zA (zN (zP (zM ?_))));exact u1 rfl (u5 (by first|(simp only[yR];simp_all;done)|(simp[yR,oneS,emS,zI,shr1, *];done)|(simp[yR,oneS,emS,zI,shr1, *];rfl)))
    ·
     refine zK 1100 ?_;refine zX (fun c10=>?_) (fun c10=>?_)
     ·
      refine zK 1200 ?_;refine zB (zE zO [] 1300 rfl ?_);refine zF ?_;refine zS _ (RatioOk_ok _ _ _ _ hin.nl hin.dl hin.nn hin.dn) rfl ?_;refine zf (zA (zN (zP (zM ?_))));exact u1 rfl (u5 (by first|(simp only[yR];simp_all;done)|(simp[yR,oneS,emS,zI,shr1, *];done)|(simp[yR,oneS,emS,zI,shr1, *];rfl)))
     ·
      refine zK 1400 ?_;refine zX (fun c13=>?_) (fun c13=>?_)
      ·
       refine zB (zE zO [] 1500 rfl ?_);refine zF ?_;refine yP _ (fun hg12=>ValidString_ok _ om) rfl ?_;refine zf (zA (zN (zP (zM ?_))));exact u1 rfl (u5 (by first|(simp only[yR];simp_all;done)|(simp[yR,oneS,emS,zI,shr1, *];done)|(simp[yR,oneS,emS,zI,shr1, *];rfl)))
      ·
       refine zK 1600 ?_;refine zX (fun c15=>?_) (fun c15=>?_)
       ·
        refine zK 1700 ?_;refine zN (zP (zM ?_));exact u1 rfl (u5 (by first|(simp only[yR];simp_all;done)|(simp[yR,oneS,emS,zI,shr1, *];done)|(simp[yR,oneS,emS,zI,shr1, *];rfl)))
       ·
        refine zK 1800 ?_;refine zX (fun c17=>?_) (fun c17=>?_)
        ·
         refine zB (zE zO [] 1900 rfl ?_);refine zF ?_;refine yP _ (fun hg12=>dH _ ao) rfl ?_;refine zf (zA (zN (zP (zM ?_))));exact u1 rfl (u5 (by first|(simp only[yR];simp_all;done)|(simp[yR,oneS,emS,zI,shr1, *];done)|(simp[yR,oneS,emS,zI,shr1, *];rfl)))
        ·
         refine zK 2000 ?_;refine zX (fun c19=>?_) (fun c19=>?_)
         ·
          refine zK 2100 ?_;refine zN (zP (zM ?_));exact u1 rfl (u5 (by first|(simp only[yR];simp_all;done)|(simp[yR,oneS,emS,zI,shr1, *];done)|(simp[yR,oneS,emS,zI,shr1, *];rfl)))
         ·
          refine zJ (zL (zA (zK 2200 ?_)));refine zN ?_;exact u1 rfl (u5 (by first|(simp only[yR];simp_all;done)|(simp[yR,oneS,emS,zI,shr1, *];done)|(simp[yR,oneS,emS,zI,shr1, *];rfl)))
theorem Has_ok(h:List Ob)(v:Vl)(hin:VlIn v):Fx 16 [hpD md h,.agg (vlD v)] (.v (.bool (hasS h v))):=by
 refine yM zO Tryz.func16 rfl rfl rfl rfl rfl rfl ?_;intros;refine zK 100 ?_;refine zB (zE zO [] 200 rfl ?_);refine zF ?_;refine zS _ (vL _ (by first|assumption|exact hin)) rfl ?_;refine zF ?_;refine yP _ (fun hg10=>jP _ _) rfl ?_;refine zf (zA (zN ?_));exact u1 rfl (u4 _)
theorem uV0(k:Int)(hk:0<=k/\k<21):Fx 93 [.v (.int .i64 k)] (.v (.string (uW k))):=by
 refine yM zO Tryz.func93 rfl rfl rfl rfl rfl rfl ?_;intros;refine zK 100 ?_;refine zB (zE zO [] 200 rfl ?_);repeat(first|refine zH ?_|refine zU (by exact uW0 hk) ?_)
 refine zS _ (uH0 _ _ de de) rfl ?_;repeat(first|refine zH ?_|refine zU (by exact uW0 hk) ?_)
 refine zC (zA (zN ?_));exact u1 rfl (u4 _)
end Go.Proofs.YtmakjjodkiedmaaGreatDoor
