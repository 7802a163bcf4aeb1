/-Part 2 of the proof. -/
import Derived.Lib.Hide
import Derived.OrdersHeld
import Derived.Test.YtmakjjodkiedmaaGreatDoorM1
namespace Go.Proofs.YtmakjjodkiedmaaGreatDoor
open Go.RowKit
structure Sb where
 an:Nat->Nat->Prop
 st:Nat->Nat->Prop
 le:∀b o,st b o->an b o
instance:CoeFun Sb fun _=>Nat->Nat->Prop:=⟨Sb.an⟩
def Sb.add(s:Sb)(p:Nat->Nat->Prop):Sb:=⟨fun b o=>s b o\/p b o,fun b o=>s.st b o\/p b o,fun b o h=>h.imp (s.le b o) id⟩
def Sb.lend(s:Sb)(p:Nat->Nat->Prop):Sb:=⟨fun b o=>s b o\/p b o,s.st,fun b o h=> .inl (s.le b o h)⟩
def Sb.good(s:Sb):Sb:=⟨s.st,s.st,fun _ _ h=>h⟩
def Sb.at(s:Sb)(m:Bool)(b o:Nat):Prop:=match m with|true=>s b o|false=>s.st b o
theorem Sb.at_an{s:Sb}{m:Bool}{b o:Nat}(h:s.at m b o):s b o:=match m,h with|true,h=>h|false,h=>s.le b o h
structure Ex(w:World)(s:Sb)(w':World)(s':Sb):Prop where
 st:∀b o,s b o->s' b o
 cell:∀b o,s b o->w'.cell? ⟨b,o,none⟩=w.cell? ⟨b,o,none⟩
 sst:∀b o,s.st b o->s'.st b o
theorem Ex.refl(w:World)(s:Sb):Ex w s w s:=⟨fun _ _ h=>h,fun _ _ _=>rfl,fun _ _ h=>h⟩
theorem Ex.trans{w w' w'':World}{s s' s'':Sb}(h:Ex w s w' s')(k:Ex w' s' w'' s''):Ex w s w'' s'':=
 ⟨fun b o hs=>k.st b o (h.st b o hs),fun b o hs=>(k.cell b o (h.st b o hs)).trans (h.cell b o hs),fun b o hs=>k.sst b o (h.sst b o hs)⟩
theorem Ex.at{w w':World}{s s':Sb}(h:Ex w s w' s'){m:Bool}{b o:Nat}(hs:s.at m b o):s'.at m b o:=match m,hs with|true,hs=>h.st b o hs|false,hs=>h.sst b o hs
theorem Ex.good{w w':World}{s s':Sb}(h:Ex w s w' s'):Ex w s.good w' s'.good:=⟨h.sst,fun b o hs=>h.cell b o (s.le b o hs),h.sst⟩
theorem Ex.ofGood(w:World)(s:Sb):Ex w s.good w s:=⟨s.le,fun _ _ _=>rfl,fun _ _ h=>h⟩
def Glb(w:World)(s:Sb):Prop:=∃G:Nat->Nat->Option Value,GSpec G/\(∀b o v,G b o=some v->w.cell? ⟨b,o,none⟩=some v/\s b o)/\∀b o,ZAt b o->w.cell? ⟨b,o,none⟩=none/\s b o
theorem Glb.mono{w w':World}{s s':Sb}(h:Glb w s)(hx:Ex w s w' s'):Glb w' s':=by
 obtain⟨G,h1,h2,hz⟩:=h;refine⟨G,h1,fun b o v hv=>?_,fun b o hb=>by obtain⟨h3,h4⟩:=hz b o hb;exact⟨(hx.cell b o h4).trans h3,hx.st b o h4⟩⟩;obtain⟨h3,h4⟩:=h2 b o v hv;exact⟨(hx.cell b o h4).trans h3,hx.st b o h4⟩
structure PV where
 one:Bool
 str:Bool
 p:World->Sb->Value->Prop
 mono:∀w s w' s' v,Ex w s w' s'->p w s v->p w' s' v
 cell:one=true->∀w s v,p w s v->v.oneCell'=true
 strong:str=true->∀w s s' v,(∀b o,s.st b o->s'.st b o)->p w s v->p w s' v
def PV.lit(x:Value):PV:=⟨x.oneCell',true,fun _ _ v=>v=x,fun _ _ _ _ _ _ h=>h,(fun h _ _ _ e=>by rw[e];exact h),fun _ _ _ _ _ _ h=>h⟩
def AllV(w:World)(s:Sb):List PV->List Value->Prop
 |[],[]=>True
 |d::l,v::vs=>d.p w s v/\AllV w s l vs
 |_,_=>False
theorem AllV.mono{w w':World}{s s':Sb}(hx:Ex w s w' s'):∀{l:List PV}{vs:List Value},AllV w s l vs->AllV w' s' l vs
 |[],[],_=>trivial
 |d::_,v::_,h=>⟨d.mono _ _ _ _ v hx h.1,AllV.mono hx h.2⟩
 |[],_::_,h=>h.elim
 |_::_,[],h=>h.elim
theorem AllV.length{w:World}{s:Sb}:∀{l:List PV}{vs:List Value},AllV w s l vs->vs.length=l.length
 |[],[],_=>rfl
 |_::_,_::_,h=>by simp[AllV.length h.2]
 |[],_::_,h=>h.elim
 |_::_,[],h=>h.elim
theorem AllV.get{w:World}{s:Sb}:∀{l:List PV}{vs:List Value},AllV w s l vs->∀{j:Nat}{d:PV},l[j]?=some d->∃v,vs[j]?=some v/\d.p w s v
 |[],[],_,j,d,hd=>by simp at hd
 |e::l,v::vs,h,0,d,hd=>by simp at hd;subst hd;exact⟨v,rfl,h.1⟩
 |e::l,v::vs,h,j+1,d,hd=>by simpa using AllV.get h.2 (by simpa using hd)
 |[],_::_,h,_,_,_=>h.elim
 |_::_,[],h,_,_,_=>h.elim
theorem AllV.mk{w:World}{s:Sb}:∀{l:List PV}{vs:List Value},vs.length=l.length->(∀(j:Nat)(d:PV)(v:Value),l[j]?=some d->vs[j]?=some v->d.p w s v)->AllV w s l vs
 |[],[],_,_=>trivial
 |d::l,v::vs,hl,h=>⟨h 0 d v rfl rfl,AllV.mk (by simpa using hl) fun j d v hd hv=>h (j+1) d v (by simpa using hd) (by simpa using hv)⟩
 |[],_::_,hl,_=>by simp at hl
 |_::_,[],hl,_=>by simp at hl
def strs:List PV->Bool
 |[]=>true
 |d::l=>match d.str with|true=>strs l|false=>false
theorem AllV.strong{w:World}{s s':Sb}(hx:∀b o,s.st b o->s'.st b o):∀{l:List PV}{vs:List Value},strs l=true->AllV w s l vs->AllV w s' l vs
 |[],[],_,_=>trivial
 |d::l,v::vs,hs,h=>by
  unfold strs at hs
  cases hd:d.str with
  |false=>rw[hd]at hs;cases hs
  |true=>rw[hd]at hs;exact⟨d.strong hd _ _ _ _ hx h.1,AllV.strong hx hs h.2⟩
 |[],_::_,_,h=>h.elim
 |_::_,[],_,h=>h.elim
def PV.agg(l:List PV):PV:=⟨false,strs l,fun w s v=>∃vs:List Value,v= .agg vs.toArray/\AllV w s l vs,fun _ _ _ _ _ hx ⟨vs,h1,h2⟩=>⟨vs,h1,h2.mono hx⟩,(fun h=>by cases h),fun hs _ _ _ _ hx ⟨vs,h1,h2⟩=>⟨vs,h1,h2.strong hx hs⟩⟩
def PV.tup(l:List PV):PV:=⟨false,strs l,fun w s v=>∃vs:List Value,v= .tuple vs.toArray/\AllV w s l vs,fun _ _ _ _ _ hx ⟨vs,h1,h2⟩=>⟨vs,h1,h2.mono hx⟩,(fun h=>by cases h),fun hs _ _ _ _ hx ⟨vs,h1,h2⟩=>⟨vs,h1,h2.strong hx hs⟩⟩
def CellsX(pr:Nat->Nat->Prop)(w:World)(s:Sb)(b o:Nat)(row:List PV):Prop:=∀j d,row[j]?=some d->∃u,w.cell? ⟨b,o+j,none⟩=some u/\pr b (o+j)/\d.p w s u/\u.oneCell'=true
theorem CellsX.drop{pr:Nat->Nat->Prop}{w:World}{s:Sb}{b o:Nat}{row:List PV}(h:CellsX pr w s b o row)(n:Nat):CellsX pr w s b (o+n) (row.drop n):=by
 intro j d hd;rw[Cb]at hd;obtain⟨u,h1,h2,h3,h4⟩:=h _ d hd;rw[Nat.add_assoc];exact⟨u,h1,h2,h3,h4⟩
abbrev CellsAt(m:Bool)(w:World)(s:Sb)(b o:Nat)(row:List PV):Prop:=CellsX (s.at m) w s b o row
theorem CellsAt.mono{m:Bool}{w w':World}{s s':Sb}{b o:Nat}{row:List PV}(hx:Ex w s w' s')(h:CellsAt m w s b o row):CellsAt m w' s' b o row:=by
 intro j d hd;obtain⟨u,h1,h2,h3,h4⟩:=h j d hd;exact⟨u,by rw[hx.cell _ _ (Sb.at_an h2)];exact h1,hx.at h2,d.mono _ _ _ _ u hx h3,h4⟩
abbrev CellsG(m:Bool)(w:World)(s:Sb)(b o:Nat)(row:List PV):Prop:=CellsX (s.at m) w s.good b o row
theorem CellsG.mono{m:Bool}{w w':World}{s s':Sb}{b o:Nat}{row:List PV}(hx:Ex w s w' s')(h:CellsG m w s b o row):CellsG m w' s' b o row:=by
 intro j d hd;obtain⟨u,h1,h2,h3,h4⟩:=h j d hd;exact⟨u,by rw[hx.cell _ _ (Sb.at_an h2)];exact h1,hx.at h2,d.mono _ _ _ _ u hx.good h3,h4⟩
theorem CellsG.at{m:Bool}{w:World}{s:Sb}{b o:Nat}{row:List PV}(h:CellsG m w s b o row):CellsAt m w s b o row:=by
 intro j d hd;obtain⟨u,h1,h2,h3,h4⟩:=h j d hd;exact⟨u,h1,h2,d.mono _ _ _ _ u (Ex.ofGood w s) h3,h4⟩
def PV.sl(m:Bool)(sz:Nat)(rows:List (List PV)):PV where
 one:=true
 str:= !m
 p:=fun w s v=>∃a cap,v= .slice a rows.length cap/\rows.length<=cap/\cap<=9223372036854775807/\(∀row∈rows,row.length=sz)/\∀i row,rows[i]?=some row->∃b off,a=some ⟨b,off,none⟩/\CellsG m w s b (off+i*sz) row
 mono:=fun w s w' s' v hx ⟨a,cap,h1,h2,h3,h4,h5⟩=>⟨a,cap,h1,h2,h3,h4,fun i row hr=>by
  obtain⟨b,off,e,hc⟩:=h5 i row hr;exact⟨b,off,e,CellsG.mono hx hc⟩⟩
 cell:=fun _ w s v ⟨a,cap,h1,_⟩=>by rw[h1];rfl
 strong:=fun hm w s s' v hx ⟨a,cap,h1,h2,h3,h4,h5⟩=>⟨a,cap,h1,h2,h3,h4,fun i row hr=>by
  obtain⟨b,off,e,hc⟩:=h5 i row hr
  cases m with
  |true=>cases hm
  |false=>
   refine⟨b,off,e,fun j d hd=>?_⟩;obtain⟨u,g1,g2,g3,g4⟩:=hc j d hd;exact⟨u,g1,hx _ _ g2,d.mono w s.good w s'.good u ⟨hx,fun _ _ _=>rfl,hx⟩ g3,g4⟩⟩
def PV.slf(sz:Nat)(rows:List (List PV)):PV where
 one:=true
 str:=true
 p:=fun w s v=>(∃a,v= .slice a rows.length rows.length)/\(PV.sl false sz rows).p w s v
 mono:=fun w s w' s' v hx ⟨h1,h2⟩=>⟨h1,(PV.sl false sz rows).mono w s w' s' v hx h2⟩
 cell:=fun h w s v ⟨_,h2⟩=>(PV.sl false sz rows).cell h w s v h2
 strong:=fun h w s s' v hx ⟨h1,h2⟩=>⟨h1,(PV.sl false sz rows).strong h w s s' v hx h2⟩
def PV.pt(m:Bool)(row:List PV):PV where
 one:=true
 str:=match m with|true=>false|false=>strs row
 p:=fun w s v=>∃b o,v= .pointer (some ⟨b,o,none⟩)/\CellsAt m w s b o row
 mono:=fun w s w' s' v hx ⟨b,o,h1,h2⟩=>⟨b,o,h1,CellsAt.mono hx h2⟩
 cell:=fun _ w s v ⟨b,o,h1,_⟩=>by rw[h1];rfl
 strong:=fun hm w s s' v hx ⟨b,o,h1,h2⟩=>⟨b,o,h1,by
  cases m with
  |true=>cases hm
  |false=>
   intro j d hd;obtain⟨u,g1,g2,g3,g4⟩:=h2 j d hd;have hd':d.str=true:=by
    have:∀{l:List PV}{j:Nat},strs l=true->l[j]?=some d->d.str=true:=by
     intro l;induction l with
     |nil=>intro j _ h;simp at h
     |cons e l ih=>
      intro j hs h;unfold strs at hs
      cases he:e.str with
      |false=>rw[he]at hs;cases hs
      |true=>
       rw[he]at hs
       cases j with
       |zero=>simp at h;subst h;exact he
       |succ j=>exact ih hs (by simpa using h)
    exact this hm hd
   exact⟨u,g1,hx _ _ g2,d.strong hd' _ _ _ _ hx g3,g4⟩⟩
def cloV(f:FuncId)(vs:List Value):Value:=if f<1000000 then .func (.func f) #[] vs.toArray else .func (.func (f-1000000)) vs.toArray #[]
theorem jR0(f:FuncId)(vs:List Value):(cloV f vs).oneCell'=true:=by unfold cloV;split<;>rfl
theorem xH0{f:FuncId}(h:f<1000000)(vs:List Value):cloV f vs= .func (.func f) #[] vs.toArray:=Ag h
theorem xI0{f:FuncId}(h:¬f<1000000)(vs:List Value):cloV f vs= .func (.func (f-1000000)) vs.toArray #[]:=Aa h
def PV.clo(f:FuncId)(l:List PV):PV:=⟨true,strs l,fun w s v=>∃vs:List Value,v=cloV f vs/\AllV w s l vs,fun _ _ _ _ _ hx ⟨vs,h1,h2⟩=>⟨vs,h1,h2.mono hx⟩,(fun _ _ _ _ ⟨vs,h1,_⟩=>by rw[h1];exact jR0 f vs),fun hs _ _ _ _ hx ⟨vs,h1,h2⟩=>⟨vs,h1,h2.strong hx hs⟩⟩
def PV.gd(c:Bool)(d:PV):PV:=⟨false,d.str,fun w s v=>(c=true->d.p w s v)/\(c=false->v=undef),fun w s w' s' v hx h=>⟨fun e=>d.mono w s w' s' v hx (h.1 e),h.2⟩,(fun h=>by cases h),fun hs w s s' v hx h=>⟨fun e=>d.strong hs _ _ _ _ hx (h.1 e),h.2⟩⟩
inductive TV where
 |pv (d:PV)
 |bp (k off:Nat)
 |own (k sz:Nat) (rows:List (List PV))
 |g (c:Bool) (d:TV)
 |agg (l:List TV)
 |tup (l:List TV)
 |mo (k n:Nat)
 |mp (k n off:Nat)
 |clo (f:FuncId) (l:List TV)
 |mk (k:Nat)
 |mw (k q i sz n:Nat)
structure Gh where
 bx:Nat->Option Nat
 gn:Nat->Nat->Option Value
mutual
def TV.P(w:World)(s:Sb)(g:Gh):TV->Value->Prop
 | .pv d,v=>d.p w s v
 | .bp k off,v=>∃N,g.bx k=some N/\v= .pointer (some ⟨N,off,none⟩)
 | .own k sz rows,v=>(PV.sl false sz rows).p w s v/\g.gn k rows.length=some v
 | .g c d,v=>(c=true->d.P w s g v)/\(c=false->v=undef)
 | .agg l,v=>∃vs:List Value,v= .agg vs.toArray/\AllT w s g l vs
 | .tup l,v=>∃vs:List Value,v= .tuple vs.toArray/\AllT w s g l vs
 | .mo k n,v=>g.gn k n=some v/\((v= .slice none 0 0/\n=0)\/∃G c,v= .slice (some ⟨G,0,none⟩) n c/\n<=c/\c<=maxLen)
 | .mp k n off,v=>∃G c,g.gn k n=some (.slice (some ⟨G,0,none⟩) n c)/\v= .pointer (some ⟨G,off,none⟩)
 | .clo f l,v=>∃vs:List Value,v=cloV f vs/\AllT w s g l vs
 | .mk k,v=>∃N,g.bx k=some N/\v= .map (some N)
 | .mw k q i sz n,v=>∃G c,g.gn k q=some (.slice (some ⟨G,0,none⟩) q c)/\v= .slice (some ⟨G,i*sz,none⟩) n (c-i)/\i+n<=q/\i<q/\q<=c/\c<=maxLen
def AllT(w:World)(s:Sb)(g:Gh):List TV->List Value->Prop
 |[],[]=>True
 |d::l,v::vs=>d.P w s g v/\AllT w s g l vs
 |_,_=>False
end
def TV.one:TV->Bool
 | .pv d=>d.one
 | .g _ _=>false
 | .agg _=>false
 | .tup _=>false
 |_=>true
theorem TV.cell{w:World}{s:Sb}{g:Gh}{d:TV}{v:Value}(h1:d.one=true)(h:d.P w s g v):v.oneCell'=true:=by
 match d,h1,h with
 | .pv d,h1,h=>exact d.cell h1 _ _ _ h
 | .bp k off,_,⟨N,_,e⟩=>rw[e];rfl
 | .own k sz rows,_,h=>exact(PV.sl false sz rows).cell rfl _ _ _ h.1
 | .mo k n,_,⟨_,h⟩=>rcases h with⟨e,_⟩|⟨G,c,e,_⟩<;>(rw[e];rfl)
 | .mp k n off,_,⟨G,c,_,e⟩=>rw[e];rfl
 | .clo f l,_,⟨vs,e,_⟩=>rw[e];exact jR0 f vs
 | .mk k,_,⟨N,_,e⟩=>rw[e];rfl
 | .mw k q i sz n,_,⟨G,c,_,e,_⟩=>rw[e];rfl
structure GLe(g g':Gh):Prop where
 bx:∀k N,g.bx k=some N->g'.bx k=some N
 gn:∀k m v,g.gn k m=some v->g'.gn k m=some v
theorem GLe.refl(g:Gh):GLe g g:=⟨fun _ _ h=>h,fun _ _ _ h=>h⟩
mutual
theorem TV.mono{w w':World}{s s':Sb}{g g':Gh}{d:TV}{v:Value}(hx:Ex w s w' s')(hg:GLe g g')(h:d.P w s g v):d.P w' s' g' v:=by
 match d,h with
 | .pv d,h=>
  rw[TV.P]at h⊢;exact d.mono _ _ _ _ _ hx h
 | .bp k off,h=>
  rw[TV.P]at h⊢;obtain⟨N,h1,e⟩:=h;exact⟨N,hg.bx _ _ h1,e⟩
 | .own k sz rows,h=>
  rw[TV.P]at h⊢;exact⟨(PV.sl false sz rows).mono _ _ _ _ _ hx h.1,hg.gn _ _ _ h.2⟩
 | .g c d,h=>
  rw[TV.P]at h⊢;exact⟨fun e=>TV.mono hx hg (h.1 e),h.2⟩
 | .agg l,h=>
  rw[TV.P]at h⊢;obtain⟨vs,h1,h2⟩:=h;exact⟨vs,h1,AllT.mono hx hg h2⟩
 | .tup l,h=>
  rw[TV.P]at h⊢;obtain⟨vs,h1,h2⟩:=h;exact⟨vs,h1,AllT.mono hx hg h2⟩
 | .mo k n,h=>
  rw[TV.P]at h⊢;exact⟨hg.gn _ _ _ h.1,h.2⟩
 | .mp k n off,h=>
  rw[TV.P]at h⊢;obtain⟨G,c,h1,h2⟩:=h;exact⟨G,c,hg.gn _ _ _ h1,h2⟩
 | .clo f l,h=>
  rw[TV.P]at h⊢;obtain⟨vs,h1,h2⟩:=h;exact⟨vs,h1,AllT.mono hx hg h2⟩
 | .mk k,h=>
  rw[TV.P]at h⊢;obtain⟨N,h1,e⟩:=h;exact⟨N,hg.bx _ _ h1,e⟩
 | .mw k q i sz n,h=>
  rw[TV.P]at h⊢;obtain⟨G,c,h1,h2⟩:=h;exact⟨G,c,hg.gn _ _ _ h1,h2⟩
theorem AllT.mono{w w':World}{s s':Sb}{g g':Gh}{l:List TV}{vs:List Value}(hx:Ex w s w' s')(hg:GLe g g')(h:AllT w s g l vs):AllT w' s' g' l vs:=by
 match l,vs,h with
 |[],[],_=>rw[AllT];trivial
 |d::l,v::vs,h=>
  rw[AllT]at h⊢;exact⟨TV.mono hx hg h.1,AllT.mono hx hg h.2⟩
 |[],_::_,h=>simp[AllT]at h
 |_::_,[],h=>simp[AllT]at h
end
theorem AllT.cons{w:World}{s:Sb}{g:Gh}{d:TV}{l:List TV}{v:Value}{vs:List Value}:AllT w s g (d::l) (v::vs)↔d.P w s g v/\AllT w s g l vs:=by rw[AllT]
theorem AllT.length{w:World}{s:Sb}{g:Gh}:∀{l:List TV}{vs:List Value},AllT w s g l vs->vs.length=l.length
 |[],[],_=>rfl
 |_::_,_::_,h=>by simp[AllT.length h.2]
 |[],_::_,h=>h.elim
 |_::_,[],h=>h.elim
theorem AllT.get{w:World}{s:Sb}{g:Gh}:∀{l:List TV}{vs:List Value},AllT w s g l vs->∀{j:Nat}{d:TV},l[j]?=some d->∃v,vs[j]?=some v/\d.P w s g v
 |[],[],_,j,d,hd=>by simp at hd
 |e::l,v::vs,h,0,d,hd=>by simp at hd;subst hd;exact⟨v,rfl,h.1⟩
 |e::l,v::vs,h,j+1,d,hd=>by simpa using AllT.get h.2 (by simpa using hd)
 |[],_::_,h,_,_,_=>h.elim
 |_::_,[],h,_,_,_=>h.elim
inductive Own where
 |box (ty:TypeId) (cs:List TV)
 |row (ty:TypeId) (sz len:Nat)
 |mrow (ty:TypeId) (sz:Nat) (rows:List (List PV))
 |map (es:List (Value×PV))
 |itr (l:List (Int×Int))
def itL(b:ByteArray):Nat->Nat->List (Int×Int)
 |0,_=>[]
 |n+1,p=>if p<b.size then((p:Int),((Utf8.decode b p).1:Int))::itL b n (p+(Utf8.decode b p).2)else []
def Ok1(w:World)(s:Sb)(g:Gh)(k:Nat):Own->Prop
 | .box ty cs=>∃N vs,g.bx k=some N/\w.heap[N]?=some (.cells (List.toArray vs) ty (0,0))/\AllT w s g cs vs/\(∀d∈cs,d.one=true)/\∀o,¬s N o
 | .row ty sz len=>(∀m,len<m->g.gn k m=none)/\∃v,g.gn k len=some v/\((v= .slice none 0 0/\len=0)\/
   ∃G cap cur,v= .slice (some ⟨G,0,none⟩) len cap/\CellB w G cur ty/\len<=cap/\cap<=maxLen/\cur.size=cap*sz/\∀o,len*sz<=o->¬s G o)
 | .mrow ty sz rows=>(∀m,rows.length<m->g.gn k m=none)/\∃v,g.gn k rows.length=some v/\((v= .slice none 0 0/\rows=[])\/
   ∃G cap vs rest,v= .slice (some ⟨G,0,none⟩) rows.length cap/\CellB w G (List.toArray (vs++rest)) ty/\rows.length<=cap/\cap<=maxLen/\(vs++rest).length=cap*sz/\AllV w s.good rows.flatten vs/\((∀row∈rows,row.length=sz)/\∀v∈vs,v.oneCell'=true)/\∀o,¬s G o)
 | .map es=>∃N arr clock,g.bx k=some N/\w.heap[N]?=some (.map (List.toArray arr) clock)/\arr.map (·.key)=es.map (·.1)/\AllV w s.good (es.map (·.2)) (arr.map (·.val))/\∀o,¬s N o
 | .itr l=>∃N b p n,g.bx k=some N/\w.heap[N]?=some (.stringIter b p)/\itL b n p=l/\b.size<=p+n/\∀o,¬s N o
def blk(g:Gh)(k:Nat):Own->Option Nat
 | .box _ _=>g.bx k
 | .row _ _ len=>(g.gn k len).bind Value.ownBlock
 | .mrow _ _ rows=>(g.gn k rows.length).bind Value.ownBlock
 | .map _=>g.bx k
 | .itr _=>g.bx k
theorem Ok1.lt{w:World}{s:Sb}{g:Gh}{k:Nat}{c:Own}(h:Ok1 w s g k c){N:Nat}(hb:blk g k c=some N):N<w.heap.size:=by
 match c,h,hb with
 | .box ty cs,⟨M,vs,h1,h2,_⟩,hb=>
  have e:some M=some N:=h1.symm.trans hb
  cases e;exact(Bi.1 h2).1
 | .row ty sz len,⟨_,v,h1,h2⟩,hb=>
  have hb:(g.gn k len).bind Value.ownBlock=some N:=hb;rw[h1]at hb;rcases h2 with⟨rfl,_⟩|⟨G,cap,cur,rfl,h3,_⟩
  ·cases hb
  ·have e:some G=some N:=hb
   cases e;exact h3.lt
 | .mrow ty sz rows,⟨_,v,h1,h2⟩,hb=>
  have hb:(g.gn k rows.length).bind Value.ownBlock=some N:=hb;rw[h1]at hb;rcases h2 with⟨rfl,_⟩|⟨G,cap,vs,rest,rfl,h3,_⟩
  ·cases hb
  ·have e:some G=some N:=hb
   cases e;exact h3.lt
 | .map es,⟨M,arr,clock,h1,h2,_⟩,hb=>
  have e:some M=some N:=h1.symm.trans hb
  cases e;exact(Bi.1 h2).1
 | .itr l,⟨M,b,p,n,h1,h2,_⟩,hb=>
  have e:some M=some N:=h1.symm.trans hb
  cases e;exact(Bi.1 h2).1
theorem Ok1.keep{w w':World}{s s':Sb}{g g':Gh}{k:Nat}{c:Own}(h:Ok1 w s g k c)(hx:Ex w s w' s')(hg:GLe g g')(hk:∀m,g'.gn k m=g.gn k m)(hh:∀N,blk g k c=some N->w'.heap[N]?=w.heap[N]?)(hs:∀N o,blk g k c=some N->s' N o->s N o):Ok1 w' s' g' k c:=by
 match c,h,hh,hs with
 | .box ty cs,⟨N,vs,h1,h2,h3,h4,h5⟩,hh,hs=>exact⟨N,vs,hg.bx _ _ h1,(hh N h1).trans h2,h3.mono hx hg,h4,fun o ho=>h5 o (hs N o h1 ho)⟩
 | .row ty sz len,⟨h0,v,h1,h2⟩,hh,hs=>
  refine⟨fun m hm=>(hk m).trans (h0 m hm),v,hg.gn _ _ _ h1,?_⟩;rcases h2 with h2|⟨G,cap,cur,rfl,h3,h4,h5,h6,h7⟩
  ·exact .inl h2
  ·have hb:blk g k (.row ty sz len)=some G:=by show(g.gn k len).bind Value.ownBlock=some G;rw[h1];rfl
   exact .inr ⟨G,cap,cur,rfl,h3.keep (hh G hb),h4,h5,h6,fun o ho hso=>h7 o ho (hs G o hb hso)⟩
 | .mrow ty sz rows,⟨h0,v,h1,h2⟩,hh,hs=>
  refine⟨fun m hm=>(hk m).trans (h0 m hm),v,hg.gn _ _ _ h1,?_⟩;rcases h2 with h2|⟨G,cap,vs,rest,rfl,h3,h4,h5,h6,h7,h8,h9⟩
  ·exact .inl h2
  ·have hb:blk g k (.mrow ty sz rows)=some G:=by show(g.gn k rows.length).bind Value.ownBlock=some G;rw[h1];rfl
   exact .inr ⟨G,cap,vs,rest,rfl,h3.keep (hh G hb),h4,h5,h6,h7.mono hx.good,h8,fun o hso=>h9 o (hs G o hb hso)⟩
 | .map es,⟨N,arr,clock,h1,h2,h3,h4,h5⟩,hh,hs=>exact⟨N,arr,clock,hg.bx _ _ h1,(hh N h1).trans h2,h3,h4.mono hx.good,fun o ho=>h5 o (hs N o h1 ho)⟩
 | .itr l,⟨N,b,p,n,h1,h2,h3,h4,h5⟩,hh,hs=>exact⟨N,b,p,n,hg.bx _ _ h1,(hh N h1).trans h2,h3,h4,fun o ho=>h5 o (hs N o h1 ho)⟩
theorem gN{w:World}{s:Sb}{g g':Gh}{k:Nat}{c:Own}(h:Ok1 w s g k c)(hg:GLe g g'):blk g' k c=blk g k c:=by
 match c,h with
 | .box ty cs,⟨N,vs,h1,_⟩=>exact(hg.bx _ _ h1).trans h1.symm
 | .row ty sz len,⟨_,v,h1,_⟩=>show(g'.gn k len).bind Value.ownBlock=(g.gn k len).bind Value.ownBlock;rw[h1,hg.gn _ _ _ h1]
 | .mrow ty sz rows,⟨_,v,h1,_⟩=>show(g'.gn k rows.length).bind Value.ownBlock=(g.gn k rows.length).bind Value.ownBlock;rw[h1,hg.gn _ _ _ h1]
 | .map es,⟨N,arr,clock,h1,_⟩=>exact(hg.bx _ _ h1).trans h1.symm
 | .itr l,⟨N,b,p,n,h1,_⟩=>exact(hg.bx _ _ h1).trans h1.symm
def fnd{α:Type}(k:Nat):List (Nat×α)->Option α
 |[]=>none
 |x::l=>match Nat.beq x.1 k with|true=>some x.2|false=>fnd k l
theorem zY{α:Type}(k j:Nat)(x:α)(l:List (Nat×α)):fnd k ((j,x)::l)=if j=k then some x else fnd k l:=by
 show(match Nat.beq j k with|true=>some x|false=>fnd k l)=_;by_cases h:j=k
 ·subst h;rw[Ag rfl,show Nat.beq j j=true from Nat.beq_refl j]
 ·have hb:Nat.beq j k=false:=by
   cases hb:Nat.beq j k with
   |false=>rfl
   |true=>exact absurd (Ab hb) h
  rw[hb,Aa h]
theorem kP{α:Type}(k:Nat):∀(l r:List (Nat×α)),fnd k (l++r)=match fnd k l with|some x=>some x|none=>fnd k r
 |[],_=>rfl
 |(j,x)::l,r=>by
  rw[List.cons_append,zY,zY];by_cases h:j=k
  ·simp[h]
  ·simp only[h,if_false];exact kP k l r
theorem jG{α:Type}{k:Nat}{x:α}:∀{l:List (Nat×α)},fnd k l=some x->(k,x)∈l
 |[],h=>by cases h
 |(j,y)::l,h=>by
  rw[zY]at h;by_cases hj:j=k
  ·subst hj;simp at h;subst h;simp
  ·simp only[hj,if_false]at h;exact Bl _ (jG h)
structure Ste where
 tm:List (Nat×TV)
 ow:List (Nat×Own)
 nx:Nat
structure Ba where
 w0:World
 s0:Sb
 mx:Nat->Prop
 sz:Nat
 g0:Gh
 df:List Deferred
structure Kp(b:Ba)(w:World)(s:Sb):Prop where
 ex:Ex b.w0 b.s0 w s
 st:∀B o,s B o->b.s0 B o\/b.w0.heap.size<=B\/b.mx B
 sst:∀B o,s.st B o->b.s0.st B o\/b.w0.heap.size<=B\/b.mx B
 os:w.os=b.w0.os
 tape:w.tape=b.w0.tape
 output:w.output=b.w0.output
 size:b.w0.heap.size<=w.heap.size
 block:∀k,k<b.w0.heap.size->¬b.mx k->w.heap[k]?=b.w0.heap[k]?
 gl:Glb b.w0 b.s0
theorem Kp.gb{b:Ba}{w:World}{s:Sb}(h:Kp b w s):Glb w s:=h.gl.mono h.ex
structure Rel(b:Ba)(w:World)(s:Sb)(g:Gh)(S:Ste)(a:Act):Prop where
 kp:Kp b w s
 lt:∀B o,s B o->B<w.heap.size
 sz:a.tmps.size=b.sz
 tm:∀t d,fnd t S.tm=some d->∃v,a.tmps[t]?=some v/\d.P w s g v
 ow:∀k c,fnd k S.ow=some c->Ok1 w s g k c/\∀N,blk g k c=some N->b.w0.heap.size<=N\/b.mx N
 sep:∀k k' c c' N,fnd k S.ow=some c->fnd k' S.ow=some c'->k≠k'->blk g k c=some N->blk g k' c'≠some N
 fr:∀k,S.nx<=k->g.bx k=none/\∀m,g.gn k m=none
 df:a.defers=b.df
 gb:∀k,k<40->(∀N,b.g0.bx k=some N->g.bx k=some N)/\∀m v,b.g0.gn k m=some v->g.gn k m=some v
structure Stp(w:World)(s:Sb)(g:Gh)(acc:List (Nat×Own))(w':World)(s':Sb)(g':Gh)(acc':List (Nat×Own)):Prop where
 ex:Ex w s w' s'
 lt:∀B o,s' B o->B<w'.heap.size
 gle:GLe g g'
 same:∀k,fnd k acc'=none->g'.bx k=g.bx k/\∀m,g'.gn k m=g.gn k m
 os:w'.os=w.os
 tape:w'.tape=w.tape
 output:w'.output=w.output
 size:w.heap.size<=w'.heap.size
 block:∀N,N<w.heap.size->(∀k c,fnd k acc=some c->blk g k c≠some N)->w'.heap[N]?=w.heap[N]?
 st:∀B o,s' B o->s B o\/w.heap.size<=B\/∃k c,fnd k acc=some c/\blk g k c=some B
 sst:∀B o,s'.st B o->s.st B o\/w.heap.size<=B\/∃k c,fnd k acc=some c/\blk g k c=some B
 ok:∀k c,fnd k acc'=some c->Ok1 w' s' g' k c
 nb:∀k c N,fnd k acc'=some c->blk g' k c=some N->w.heap.size<=N\/∃k0 c0,fnd k0 acc=some c0/\blk g k0 c0=some N
 sep:∀k k' c c' N,fnd k acc'=some c->fnd k' acc'=some c'->k≠k'->blk g' k c=some N->blk g' k' c'≠some N
 all:∀k c,fnd k acc=some c->∃c',fnd k acc'=some c'
structure Pst(w:World)(s:Sb)(g:Gh)(acc:List (Nat×Own))(w':World)(s':Sb):Prop where
 ex:Ex w s w' s'
 lt:∀B o,s' B o->B<w'.heap.size
 os:w'.os=w.os
 tape:w'.tape=w.tape
 output:w'.output=w.output
 size:w.heap.size<=w'.heap.size
 block:∀N,N<w.heap.size->(∀k c,fnd k acc=some c->blk g k c≠some N)->w'.heap[N]?=w.heap[N]?
 st:∀B o,s' B o->s B o\/w.heap.size<=B\/∃k c,fnd k acc=some c/\blk g k c=some B
 sst:∀B o,s'.st B o->s.st B o\/w.heap.size<=B\/∃k c,fnd k acc=some c/\blk g k c=some B
theorem Stp.refl(w:World)(s:Sb)(g:Gh)(hl:∀B o,s B o->B<w.heap.size):Stp w s g [] w s g []:=
 ⟨Ex.refl w s,hl,GLe.refl g,fun _ _=>⟨rfl,fun _=>rfl⟩,rfl,rfl,rfl,Ap _,fun _ _ _=>rfl,fun _ _ h=> .inl h,(fun _ _ h=> .inl h),(fun _ _ h=>by cases h),(fun _ _ _ h=>by cases h),(fun _ _ _ _ _ h=>by cases h),(fun _ _ h=>by cases h)⟩
def Ste.aft(S:Ste)(dst:Option Tmp)(out:TV)(acc':List (Nat×Own))(nx:Nat):Ste:=
 ⟨match dst with|some d=>(d,out)::S.tm|none=>S.tm,acc'++S.ow,nx⟩
theorem kC0(a:Act)(d:Tmp)(v:Value)(t:Nat)(h:d<a.tmps.size):(a.put (some d) v).tmps[t]?=if d=t then some v else a.tmps[t]?:=by
 simp only[Act.put,Array.getElem?_setIfInBounds,h,if_true]
theorem Rel.step{b:Ba}{w w':World}{s s':Sb}{g g':Gh}{S:Ste}{a:Act}{acc acc':List (Nat×Own)}{dst:Option Tmp}{out:TV}{v:Value}{nx:Nat}
  (h:Rel b w s g S a) (hp:Stp w s g acc w' s' g' acc') (ha:∀k c,fnd k acc=some c->fnd k S.ow=some c) (hn:∀k c,fnd k acc'=some c->(∃c0,fnd k acc=some c0)\/S.nx<=k)
  (hnx:S.nx<=nx) (hnk:∀k c,fnd k acc'=some c->k<nx) (hd:∀d,dst=some d->d<b.sz) (ho:out.P w' s' g' v):Rel b w' s' g' (S.aft dst out acc' nx) (a.put dst v):=by
 have hrest:∀k c,fnd k acc'=none->fnd k S.ow=some c->Ok1 w' s' g' k c/\blk g' k c=blk g k c/\∀k0 c0 N,fnd k0 acc=some c0->blk g k c=some N->blk g k0 c0≠some N:=by
  intro k c hk hc;have h1:=(h.ow k c hc).1;have hne:∀k0 c0 N,fnd k0 acc=some c0->blk g k c=some N->blk g k0 c0≠some N:=by
   intro k0 c0 N h0 hb;have hkk:k0≠k:=by
    rintro rfl;obtain⟨c',hc'⟩:=hp.all k0 c0 h0;rw[hk]at hc';cases hc'
   exact h.sep k k0 c c0 N hc (ha k0 c0 h0) (Ne.symm hkk) hb
  refine⟨h1.keep hp.ex hp.gle (hp.same k hk).2 (fun N hb=>hp.block N (h1.lt hb) fun k0 c0 h0=>hne k0 c0 N h0 hb) (fun N o hb hs=>?_),gN h1 hp.gle,hne⟩;rcases hp.st N o hs with h2|h2|⟨k0,c0,h0,h2⟩
  ·exact h2
  ·have:=h1.lt hb;omega
  ·exact absurd h2 (hne k0 c0 N h0 hb)
 have hfnd:∀k c,fnd k (S.aft dst out acc' nx).ow=some c->fnd k acc'=some c\/(fnd k acc'=none/\fnd k S.ow=some c):=by
  intro k c hc;have:(S.aft dst out acc' nx).ow=acc'++S.ow:=rfl;rw[this,kP]at hc
  cases hk:fnd k acc' with
  |none=>rw[hk]at hc;exact .inr ⟨rfl,hc⟩
  |some c'=>rw[hk]at hc;exact .inl hc
 refine⟨⟨h.kp.ex.trans hp.ex,fun B o hs=>?_,fun B o hs=>?_,hp.os.trans h.kp.os,hp.tape.trans h.kp.tape,hp.output.trans h.kp.output,Bg h.kp.size hp.size,fun k hk hm=>?_,h.kp.gl⟩,hp.lt,?_,?_,?_,?_,?_,?_,?_⟩
 ·rcases hp.st B o hs with h1|h1|⟨k0,c0,h0,h1⟩
  ·exact h.kp.st B o h1
  ·exact .inr (.inl (Bg h.kp.size h1))
  ·exact .inr ((h.ow k0 c0 (ha k0 c0 h0)).2 B h1)
 ·rcases hp.sst B o hs with h1|h1|⟨k0,c0,h0,h1⟩
  ·exact h.kp.sst B o h1
  ·exact .inr (.inl (Bg h.kp.size h1))
  ·exact .inr ((h.ow k0 c0 (ha k0 c0 h0)).2 B h1)
 ·refine(hp.block k (Cr hk h.kp.size) fun k0 c0 h0 hb=>?_).trans (h.kp.block k hk hm);rcases(h.ow k0 c0 (ha k0 c0 h0)).2 k hb with h1|h1
  ·omega
  ·exact hm h1
 ·rw[<-h.sz];cases dst<;>simp[Act.put]
 ·intro t d hf
  cases dst with
  |none=>
   obtain⟨u,hu,hd'⟩:=h.tm t d hf;exact⟨u,hu,TV.mono hp.ex hp.gle hd'⟩
  |some e=>
   have hf':fnd t ((e,out)::S.tm)=some d:=hf;rw[kC0 a e v t (by rw[h.sz];exact hd e rfl)];rw[zY]at hf';by_cases het:e=t
   ·simp only[het,if_true]at hf'⊢
    cases hf';exact⟨v,rfl,ho⟩
   ·simp only[het,if_false]at hf'⊢;obtain⟨u,hu,hd'⟩:=h.tm t d hf';exact⟨u,hu,TV.mono hp.ex hp.gle hd'⟩
 ·intro k c hc;rcases hfnd k c hc with h1|⟨h1,h2⟩
  ·refine⟨hp.ok k c h1,fun N hb=>?_⟩;rcases hp.nb k c N h1 hb with h3|⟨k0,c0,h0,h3⟩
   ·exact .inl (Bg h.kp.size h3)
   ·exact(h.ow k0 c0 (ha k0 c0 h0)).2 N h3
  ·obtain⟨h3,h4,_⟩:=hrest k c h1 h2;exact⟨h3,fun N hb=>(h.ow k c h2).2 N (h4▸hb)⟩
 ·intro k k' c c' N hc hc' hne hb hb';rcases hfnd k c hc with h1|⟨h1,h2⟩<;>rcases hfnd k' c' hc' with h1'|⟨h1',h2'⟩
  ·exact hp.sep k k' c c' N h1 h1' hne hb hb'
  ·obtain⟨h3,h4,h5⟩:=hrest k' c' h1' h2';rw[h4]at hb';rcases hp.nb k c N h1 hb with h6|⟨k0,c0,h0,h6⟩
   ·have:=(h.ow k' c' h2').1.lt hb';omega
   ·exact h5 k0 c0 N h0 hb' h6
  ·obtain⟨h3,h4,h5⟩:=hrest k c h1 h2;rw[h4]at hb;rcases hp.nb k' c' N h1' hb' with h6|⟨k0,c0,h0,h6⟩
   ·have:=(h.ow k c h2).1.lt hb;omega
   ·exact h5 k0 c0 N h0 hb h6
  ·obtain⟨h3,h4,_⟩:=hrest k c h1 h2;obtain⟨h3',h4',_⟩:=hrest k' c' h1' h2';rw[h4]at hb;rw[h4']at hb';exact h.sep k k' c c' N h2 h2' hne hb hb'
 ·intro k hk;have hk':nx<=k:=hk;have hnone:fnd k acc'=none:=by
   cases hf:fnd k acc' with
   |none=>rfl
   |some c=>have:=hnk k c hf;omega
  obtain⟨e1,e2⟩:=hp.same k hnone;obtain⟨f1,f2⟩:=h.fr k (Bg hnx hk');exact⟨e1.trans f1,fun m=>(e2 m).trans (f2 m)⟩
 ·rw[<-h.df];cases dst<;>rfl
 ·exact fun k hk=>⟨fun N e=>hp.gle.bx k N ((h.gb k hk).1 N e),fun m v e=>hp.gle.gn k m v ((h.gb k hk).2 m v e)⟩
end Go.Proofs.YtmakjjodkiedmaaGreatDoor
