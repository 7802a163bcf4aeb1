/-Part 3 of the proof. -/
import Derived.Test.YtmakjjodkiedmaaGreatDoorM2
import Derived.Deep.MidRow
import Derived.Great.BuildSlice
namespace Go.Proofs.YtmakjjodkiedmaaGreatDoor
open Go.RowKit
def Opd(tm:List (Nat×TV)):Operand->TV->Prop
 | .tmp t,d=>fnd t tm=some d
 | .const v,d=> .pv (PV.lit v)=d
 | .global n,d=> .pv (PV.lit (.pointer (some ⟨n,0,none⟩)))=d
 | .func f,d=> .pv (PV.lit (.func (.func f) #[] #[]))=d
def qW(w:World)(s:Sb)(g:Gh)(tm:List (Nat×TV))(a:Act):Prop:=∀t d,fnd t tm=some d->∃v,a.tmps[t]?=some v/\d.P w s g v
theorem Opd.eval{w:World}{s:Sb}{g:Gh}{tm:List (Nat×TV)}{a:Act}(h:qW w s g tm a){x:Operand}{d:TV}(hx:Opd tm x d):d.P w s g (a.eval x):=by
 cases x with
 |tmp t=>
  obtain⟨v,h1,h2⟩:=h t d hx;show d.P w s g (a.tmps.getD t undef);rw[De,h1];exact h2
 |const v=>have e:_=d:=hx;subst e;rfl
 |global n=>have e:_=d:=hx;subst e;rfl
 |func f=>have e:_=d:=hx;subst e;rfl
theorem Opd.lit{w:World}{s:Sb}{g:Gh}{tm:List (Nat×TV)}{a:Act}(h:qW w s g tm a){x:Operand}{v:Value}(hx:Opd tm x (.pv (PV.lit v))):a.eval x=v:=Opd.eval h hx
structure Good(w:World)(s:Sb)(g:Gh)(acc:List (Nat×Own))(acc':List (Nat×Own)):Prop where
 lt:∀B o,s B o->B<w.heap.size
 ok:∀k c,fnd k acc=some c->Ok1 w s g k c
 sep:∀k k' c c' N,fnd k acc=some c->fnd k' acc=some c'->k≠k'->blk g k c=some N->blk g k' c'≠some N
 fr:∀k c,fnd k acc'=some c->fnd k acc=none->g.bx k=none/\∀m,g.gn k m=none
 gl:Glb w s
def UOp(P:Program)(o:Oper)(tm:List (Nat×TV))(acc:List (Nat×Own))(out:TV)(acc':List (Nat×Own)):Prop:=
 ∀(w:World)(s:Sb)(g:Gh)(a:Act)(K:Act->World->Prop)(Q:Exit->Act->World->Prop),qW w s g tm a->Good w s g acc acc'->
  (∀w' s' g' v,out.P w' s' g' v->Stp w s g acc w' s' g' acc'->K (a.put o.dst v) w')->o.wp P a w K Q
abbrev Pn:=List PanicEntry->Prop
def UOpE(P:Program)(E:Pn)(o:Oper)(tm:List (Nat×TV))(acc:List (Nat×Own))(out:TV)(acc':List (Nat×Own)):Prop:=
 ∀(w:World)(s:Sb)(g:Gh)(a:Act)(K:Act->World->Prop)(Q:Exit->Act->World->Prop),qW w s g tm a->Good w s g acc acc'->
  (∀w' s' g' v,out.P w' s' g' v->Stp w s g acc w' s' g' acc'->K (a.put o.dst v) w')->(∀ch w' s',E ch->Pst w s g acc w' s'->Q (.panic ch) a w')->o.wp P a w K Q
theorem UOp.toE{P:Program}{E:Pn}{o:Oper}{tm:List (Nat×TV)}{acc acc':List (Nat×Own)}{out:TV}(h:UOp P o tm acc out acc'):UOpE P E o tm acc out acc':=
 fun w s g a K Q h1 h2 h3 _=>h w s g a K Q h1 h2 h3
theorem Pst.refl{w:World}{s:Sb}{g:Gh}{acc:List (Nat×Own)}(hl:∀B o,s B o->B<w.heap.size):Pst w s g acc w s:=
 ⟨Ex.refl w s,hl,rfl,rfl,rfl,Ap _,fun _ _ _=>rfl,fun _ _ h=> .inl h,fun _ _ h=> .inl h⟩
theorem UOp.pure{P:Program}{o:Oper}{tm:List (Nat×TV)}{out:TV}
  (h:∀w s g a,qW w s g tm a->∃v,(execOp a.eval o).run P w= .ok (.value v) w/\out.P w s g v):UOp P o tm [] out []:=by
 intro w s g a K Q ht hg hK;obtain⟨v,h1,h2⟩:=h w s g a ht;unfold Oper.wp;rw[h1];exact hK w s g v h2 (Stp.refl w s g hg.lt)
theorem UOp.two{P:Program}{o:Oper}{tm:List (Nat×TV)}{x y:Operand}{u v r:Value}(hx:Opd tm x (.pv (PV.lit u)))(hy:Opd tm y (.pv (PV.lit v)))
  (h:∀(ρ:Operand->Value)(w:World),ρ x=u->ρ y=v->(execOp ρ o).run P w= .ok (.value r) w):UOp P o tm [] (.pv (PV.lit r)) []:=
 UOp.pure fun w _ _ a ht=>⟨r,h a.eval w (Opd.lit ht hx) (Opd.lit ht hy),rfl⟩
section
variable{P:Program}{tm:List (Nat×TV)}{dst:Option Tmp}{ty:TypeId}{pos:String}{aft:Array Edge}{gd:Option (Nat×Bool)}
theorem uZ0{x:Operand}{d:TV}(hx:Opd tm x d):UOp P ⟨dst,.move x,ty,pos,aft,gd⟩ tm [] d []:=
 UOp.pure fun _ _ _ a h=>⟨a.eval x,rfl,hx.eval h⟩
theorem yX0{x:Operand}{d:TV}(hx:Opd tm x d):UOp P ⟨dst,.assign x,ty,pos,aft,gd⟩ tm [] d []:=
 UOp.pure fun _ _ _ a h=>⟨a.eval x,rfl,hx.eval h⟩
theorem u_not{x:Operand}{t:TypeId}{b:Bool}(hx:Opd tm x (.pv (PV.lit (.bool b)))):UOp P ⟨dst,.unOp .not t x,ty,pos,aft,gd⟩ tm [] (.pv (PV.lit (.bool (!b)))) []:=
 UOp.pure fun w s g a ht=>by
  have hb:=Opd.lit ht hx;exact⟨_,by simp only[execOp,hb];rfl,rfl⟩
section ints
variable{x y:Operand}{t u:TypeId}{k:IntKind}{n m:Int}
theorem u_lss(hx:Opd tm x (.pv (PV.lit (.int k n))))(hy:Opd tm y (.pv (PV.lit (.int k m)))):UOp P ⟨dst,.binOp .lss t x y u,ty,pos,aft,gd⟩ tm [] (.pv (PV.lit (.bool (decide (n<m))))) []:=
 UOp.two hx hy fun ρ w h1 h2=>by simp[execOp,h1,h2,go_sem]
theorem u_leq(hx:Opd tm x (.pv (PV.lit (.int k n))))(hy:Opd tm y (.pv (PV.lit (.int k m)))):UOp P ⟨dst,.binOp .leq t x y u,ty,pos,aft,gd⟩ tm [] (.pv (PV.lit (.bool (decide (n<=m))))) []:=
 UOp.two hx hy fun ρ w h1 h2=>by simp[execOp,h1,h2,go_sem]
theorem u_gtr(hx:Opd tm x (.pv (PV.lit (.int k n))))(hy:Opd tm y (.pv (PV.lit (.int k m)))):UOp P ⟨dst,.binOp .gtr t x y u,ty,pos,aft,gd⟩ tm [] (.pv (PV.lit (.bool (decide (m<n))))) []:=
 UOp.two hx hy fun ρ w h1 h2=>by simp[execOp,h1,h2,go_sem]
theorem u_geq(hx:Opd tm x (.pv (PV.lit (.int k n))))(hy:Opd tm y (.pv (PV.lit (.int k m)))):UOp P ⟨dst,.binOp .geq t x y u,ty,pos,aft,gd⟩ tm [] (.pv (PV.lit (.bool (decide (m<=n))))) []:=
 UOp.two hx hy fun ρ w h1 h2=>by simp[execOp,h1,h2,go_sem]
theorem u_eql(hx:Opd tm x (.pv (PV.lit (.int k n))))(hy:Opd tm y (.pv (PV.lit (.int k m)))):UOp P ⟨dst,.binOp .eql t x y u,ty,pos,aft,gd⟩ tm [] (.pv (PV.lit (.bool (decide (n=m))))) []:=
 UOp.two hx hy fun ρ w h1 h2=>by simp[execOp,h1,h2,go_sem];rfl
theorem u_neq(hx:Opd tm x (.pv (PV.lit (.int k n))))(hy:Opd tm y (.pv (PV.lit (.int k m)))):UOp P ⟨dst,.binOp .neq t x y u,ty,pos,aft,gd⟩ tm [] (.pv (PV.lit (.bool (!decide (n=m))))) []:=
 UOp.two hx hy fun ρ w h1 h2=>by simp[execOp,h1,h2,go_sem];rfl
end ints
theorem vG0(p q:ByteArray):(p.toList==q.toList)=decide (p=q):=by
 rw[Bool.eq_iff_iff];simp only[beq_iff_eq,Ai];constructor
 ·intro h;rw[ByteArray.toList_eq,ByteArray.toList_eq]at h;exact ByteArray.ext (Bx.1 h)
 ·intro h;rw[h]
section bools
variable{x y:Operand}{t u:TypeId}{n m:Bool}{p q:ByteArray}
theorem u_eqlB(ht':P.underlying t=some .bool)(hx:Opd tm x (.pv (PV.lit (.bool n))))(hy:Opd tm y (.pv (PV.lit (.bool m)))):UOp P ⟨dst,.binOp .eql t x y u,ty,pos,aft,gd⟩ tm [] (.pv (PV.lit (.bool (n==m)))) []:=
 UOp.two hx hy fun ρ w h1 h2=>by simp[execOp,h1,h2,go_sem,ht']
theorem u_neqB(ht':P.underlying t=some .bool)(hx:Opd tm x (.pv (PV.lit (.bool n))))(hy:Opd tm y (.pv (PV.lit (.bool m)))):UOp P ⟨dst,.binOp .neq t x y u,ty,pos,aft,gd⟩ tm [] (.pv (PV.lit (.bool (n !=m)))) []:=
 UOp.two hx hy fun ρ w h1 h2=>by simp[execOp,h1,h2,go_sem,ht'];cases n<;>cases m<;>rfl
theorem u_eqlS(hx:Opd tm x (.pv (PV.lit (.string p))))(hy:Opd tm y (.pv (PV.lit (.string q)))):UOp P ⟨dst,.binOp .eql t x y u,ty,pos,aft,gd⟩ tm [] (.pv (PV.lit (.bool (decide (p=q))))) []:=
 UOp.two hx hy fun ρ w h1 h2=>by simp[execOp,h1,h2,go_sem,vG0]
theorem u_neqS(hx:Opd tm x (.pv (PV.lit (.string p))))(hy:Opd tm y (.pv (PV.lit (.string q)))):UOp P ⟨dst,.binOp .neq t x y u,ty,pos,aft,gd⟩ tm [] (.pv (PV.lit (.bool (!decide (p=q))))) []:=
 UOp.two hx hy fun ρ w h1 h2=>by simp[execOp,h1,h2,go_sem,vG0]
end bools
theorem u_extract{x:Operand}{i:Nat}{l:List PV}{d:PV}(hx:Opd tm x (.pv (PV.tup l)))(hd:l[i]?=some d):UOp P ⟨dst,.extract x i,ty,pos,aft,gd⟩ tm [] (.pv d) []:=
 UOp.pure fun w s g a ht=>by
  obtain⟨vs,h1,h2⟩:=Opd.eval ht hx;obtain⟨v,h3,h4⟩:=h2.get hd;exact⟨v,by simp[execOp,h1,Instr.extract,h3],h4⟩
end
structure OneT(P:Program)(t:TypeId):Prop where
 und:∃d,P.underlying t=some d/\d.isRow=false
 size:(P.info? t).map (·.size)=some 1
structure RowT(P:Program)(t:TypeId)(n:Nat):Prop where
 und:∃d,P.underlying t=some d/\d.isRow=true
 size:(P.info? t).map (·.size)=some n
theorem qG{P:Program}{t:TypeId}{n:Nat}(h:(P.info? t).map (·.size)=some n)(w:World):(sizeOf t).run P w= .ok n w:=by
 cases hq:P.info? t with
 |none=>simp[hq]at h
 |some i=>
  have hs:i.size=n:=by simpa[hq]using h
  simp[sizeOf,typeInfo,hq,hs]
theorem OneT.load{P:Program}{t:TypeId}(h:OneT P t){w:World}{b o:Nat}{v:Value}(hc:w.cell? ⟨b,o,none⟩=some v):(Instr.loadAt t (.pointer (some ⟨b,o,none⟩))).run P w= .ok v w:=by
 obtain⟨d,hu,hd⟩:=h.und;have hagg:(isAgg t).run P w= .ok false w:=by
  unfold isAgg;rw[Sem.run_bind,run_underlying hu w]
  cases d<;>simp_all
 simp[Instr.loadAt,Instr.sureAddr,loadVar,hagg,hc]
theorem RowT.load{P:Program}{t:TypeId}{n:Nat}(h:RowT P t n){w:World}{b o:Nat}{cs:List Value}(hl:cs.length=n)(hc:w.rangeAt b o cs):(Instr.loadAt t (.pointer (some ⟨b,o,none⟩))).run P w= .ok (.agg cs.toArray) w:=by
 obtain⟨d,hu,hd⟩:=h.und;exact run_loadAt_mid w b o t cs d hc hu hd (by rw[hl];exact h.size)
theorem Stp.newBox{w:World}{s:Sb}{g:Gh}{k:Nat}{t:TypeId}{cs:List TV}{vs:List Value}(hl:∀B o,s B o->B<w.heap.size)(hf:g.bx k=none/\∀m,g.gn k m=none)
  (hv:AllT w s g cs vs) (h1:∀d∈cs,d.one=true):
  Stp w s g [] (w.alloc (.cells vs.toArray t (0,0))) s {g with bx:=fun j=>if j=k then some w.heap.size else g.bx j} [(k,.box t cs)]:=by
 have hx:Ex w s (w.alloc (.cells vs.toArray t (0,0))) s:=⟨fun _ _ h=>h,fun b o h=>by rw[World.cell?_alloc_lt _ _ _ (hl b o h)],fun _ _ h=>h⟩;have hg:GLe g {g with bx:=fun j=>if j=k then some w.heap.size else g.bx j}:=⟨fun j N h=>by
  by_cases e:j=k
  ·subst e;rw[hf.1]at h;cases h
  ·simp[e,h],fun _ _ _ h=>h⟩
 have hk:∀{j:Nat}{c:Own},fnd j [(k,(.box t cs:Own))]=some c->j=k/\c= .box t cs:=by
  intro j c h;rw[zY]at h;by_cases e:k=j
  ·simp only[e,if_true]at h;cases h;exact⟨e.symm,rfl⟩
  ·simp only[e,if_false]at h;cases h
 refine⟨hx,fun B o h=>?_,hg,fun j h=>?_,rfl,rfl,rfl,by simp,fun N hN _=>?_,fun _ _ h=> .inl h,fun _ _ h=> .inl h,fun j c h=>?_,fun j c N h hb=>?_,fun j j' c c' N h h' hne=>?_,fun j c h=>by cases h⟩
 ·have:=hl B o h;simp;omega
 ·rw[zY]at h;by_cases e:k=j
  ·simp[e]at h
  ·exact⟨by simp[Ne.symm e],fun _=>rfl⟩
 ·exact Below.heap_alloc w _ N hN
 ·obtain⟨rfl,rfl⟩:=hk h;exact⟨w.heap.size,vs,by simp,heap_alloc_new w _,hv.mono hx hg,h1,fun o ho=>Nat.lt_irrefl _ (hl _ o ho)⟩
 ·obtain⟨rfl,rfl⟩:=hk h;have:some w.heap.size=some N:=by simpa[blk]using hb
  cases this;exact .inl (Ap _)
 ·obtain⟨rfl,rfl⟩:=hk h;obtain⟨rfl,rfl⟩:=hk h';exact absurd rfl hne
mutual
def TV.toPV:TV->Option PV
 | .pv d=>some d
 | .bp _ _=>none
 | .own _ sz rows=>some (PV.sl false sz rows)
 | .g _ _=>none
 | .agg l=>match TV.toPVs l with
  |some ds=>some (PV.agg ds)
  |none=>none
 | .tup l=>match TV.toPVs l with
  |some ds=>some (PV.tup ds)
  |none=>none
 | .mo _ _=>none
 | .mp _ _ _=>none
 | .clo f l=>match TV.toPVs l with
  |some ds=>some (PV.clo f ds)
  |none=>none
 | .mk _=>none
 | .mw _ _ _ _ _=>none
def TV.toPVs:List TV->Option (List PV)
 |[]=>some []
 |d::l=>match d.toPV,TV.toPVs l with
  |some e,some r=>some (e::r)
  |_,_=>none
end
theorem toPVs_cons{d:TV}{l:List TV}{ds:List PV}(h:TV.toPVs (d::l)=some ds):∃e r,d.toPV=some e/\TV.toPVs l=some r/\ds=e::r:=by
 rw[TV.toPVs]at h
 cases h1:d.toPV with
 |none=>rw[h1]at h;simp at h
 |some e=>
  cases h2:TV.toPVs l with
  |none=>rw[h1,h2]at h;simp at h
  |some r=>rw[h1,h2]at h;simp at h;exact⟨e,r,rfl,rfl,h.symm⟩
theorem tX:∀{l:List TV}{ds:List PV},l.map TV.toPV=ds.map some->TV.toPVs l=some ds
 |[],[],_=>by rw[TV.toPVs]
 |d::l,e::ds,h=>by
  simp only[Ci,List.cons.injEq]at h;rw[TV.toPVs,h.1,tX h.2]
 |[],_::_,h=>by simp at h
 |_::_,[],h=>by simp at h
mutual
theorem TV.weak{w:World}{s:Sb}{g:Gh}{d:TV}{e:PV}{v:Value}(h:d.toPV=some e)(hv:d.P w s g v):e.p w s v:=by
 match d,h,hv with
 | .pv d,h,hv=>rw[TV.toPV]at h;cases h;exact hv
 | .bp _ _,h,_=>rw[TV.toPV]at h;cases h
 | .own _ sz rows,h,hv=>rw[TV.toPV]at h;cases h;exact hv.1
 | .g _ _,h,_=>rw[TV.toPV]at h;cases h
 | .mo _ _,h,_=>rw[TV.toPV]at h;cases h
 | .mp _ _ _,h,_=>rw[TV.toPV]at h;cases h
 | .mk _,h,_=>rw[TV.toPV]at h;cases h
 | .mw _ _ _ _ _,h,_=>rw[TV.toPV]at h;cases h
 | .agg l,h,hv=>
  rw[TV.toPV]at h;rw[TV.P]at hv;obtain⟨vs,h1,h2⟩:=hv
  cases hl:TV.toPVs l with
  |none=>rw[hl]at h;simp at h
  |some ds=>rw[hl]at h;simp at h;subst h;exact⟨vs,h1,AllT.weakS hl h2⟩
 | .tup l,h,hv=>
  rw[TV.toPV]at h;rw[TV.P]at hv;obtain⟨vs,h1,h2⟩:=hv
  cases hl:TV.toPVs l with
  |none=>rw[hl]at h;simp at h
  |some ds=>rw[hl]at h;simp at h;subst h;exact⟨vs,h1,AllT.weakS hl h2⟩
 | .clo f l,h,hv=>
  rw[TV.toPV]at h;rw[TV.P]at hv;obtain⟨vs,h1,h2⟩:=hv
  cases hl:TV.toPVs l with
  |none=>rw[hl]at h;simp at h
  |some ds=>rw[hl]at h;simp at h;subst h;exact⟨vs,h1,AllT.weakS hl h2⟩
theorem AllT.weakS{w:World}{s:Sb}{g:Gh}{l:List TV}{ds:List PV}{vs:List Value}(h:TV.toPVs l=some ds)(hv:AllT w s g l vs):AllV w s ds vs:=by
 match l,vs,h,hv with
 |[],[],h,_=>rw[TV.toPVs]at h;cases h;trivial
 |d::l,v::vs,h,hv=>
  obtain⟨e,r,h1,h2,rfl⟩:=toPVs_cons h;rw[AllT]at hv;exact⟨TV.weak h1 hv.1,AllT.weakS h2 hv.2⟩
 |[],_::_,_,hv=>simp[AllT]at hv
 |_::_,[],_,hv=>simp[AllT]at hv
end
theorem AllT.weak{w:World}{s:Sb}{g:Gh}{l:List TV}{ds:List PV}{vs:List Value}(h:l.map TV.toPV=ds.map some)(hv:AllT w s g l vs):AllV w s ds vs:=AllT.weakS (tX h) hv
theorem AllT.drop{w:World}{s:Sb}{g:Gh}:∀{l:List TV}{vs:List Value}(n:Nat),AllT w s g l vs->AllT w s g (l.drop n) (vs.drop n)
 |l,vs,0,h=>by simpa using h
 |[],[],n+1,_=>by simp[AllT]
 |_::_,_::_,n+1,h=>by simpa using AllT.drop n h.2
 |[],_::_,_+1,h=>h.elim
 |_::_,[],_+1,h=>h.elim
theorem AllT.take{w:World}{s:Sb}{g:Gh}:∀{l:List TV}{vs:List Value}(n:Nat),AllT w s g l vs->AllT w s g (l.take n) (vs.take n)
 |l,vs,0,h=>by simp[AllT]
 |[],[],n+1,_=>by simp[AllT]
 |_::_,_::_,n+1,h=>⟨h.1,AllT.take n h.2⟩
 |[],_::_,_+1,h=>h.elim
 |_::_,[],_+1,h=>h.elim
theorem AllT.append{w:World}{s:Sb}{g:Gh}:∀{l r:List TV}{vs us:List Value},AllT w s g l vs->AllT w s g r us->AllT w s g (l++r) (vs++us)
 |[],r,[],us,_,h=>h
 |_::_,r,_::_,us,h,h'=>⟨h.1,AllT.append h.2 h'⟩
 |[],_,_::_,_,h,_=>h.elim
 |_::_,_,[],_,h,_=>h.elim
theorem AllT.get'{w:World}{s:Sb}{g:Gh}{l:List TV}{vs:List Value}(h:AllT w s g l vs){j:Nat}{v:Value}(hv:vs[j]?=some v):∃d,l[j]?=some d/\d.P w s g v:=by
 have hj:j<l.length:=by rw[<-h.length];exact(Ac.1 hv).1
 obtain⟨u,h1,h2⟩:=h.get (Af hj);rw[hv]at h1;cases h1;exact⟨_,Af hj,h2⟩
theorem AllV.toArr{w:World}{s:Sb}{l:List PV}{vs:List Value}(h:AllV w s l vs)(h1:∀d∈l,d.one=true):∀v∈vs,v.oneCell'=true:=by
 intro v hv;obtain⟨j,hj⟩:=Cw hv;have hjl:j<l.length:=by rw[<-h.length];exact(Ac.1 hj).1
 obtain⟨u,h2,h3⟩:=h.get (Af hjl);rw[hj]at h2;cases h2;exact(l[j]).cell (h1 _ (Di hjl)) _ _ _ h3
theorem Stp.read{w:World}{s:Sb}{g:Gh}{acc:List (Nat×Own)}(h:Good w s g acc acc):Stp w s g acc w s g acc:=
 ⟨Ex.refl w s,h.lt,GLe.refl g,fun _ _=>⟨rfl,fun _=>rfl⟩,rfl,rfl,rfl,Ap _,fun _ _ _=>rfl,fun _ _ h=> .inl h,fun _ _ h=> .inl h,h.ok,fun k c N hk hb=> .inr ⟨k,c,hk,hb⟩,h.sep,fun k c hk=>⟨c,hk⟩⟩
theorem UOp.read{P:Program}{o:Oper}{tm:List (Nat×TV)}{acc:List (Nat×Own)}{out:TV}
  (h:∀w s g a,qW w s g tm a->Good w s g acc acc->∃v,(execOp a.eval o).run P w= .ok (.value v) w/\out.P w s g v):UOp P o tm acc out acc:=by
 intro w s g a K Q ht hg hK;obtain⟨v,h1,h2⟩:=h w s g a ht hg;unfold Oper.wp;rw[h1];exact hK w s g v h2 (Stp.read hg)
section
variable{P:Program}{tm:List (Nat×TV)}{dst:Option Tmp}{ty:TypeId}{pos:String}{aft:Array Edge}{gd:Option (Nat×Bool)}
theorem yG{s:Sem Value}{P:Program}{w w':World}{v:Value}(h:s.run P w= .ok v w'):(do pure (Next.value (<-s)):Sem Next).run P w= .ok (.value v) w':=by
 simp[h]
theorem u_boxR{x:Operand}{t:TypeId}{cs:List TV}(k:Nat)(hx:Opd tm x (.agg cs))(h1:∀d∈cs,d.one=true):UOp P ⟨dst,.box t x,ty,pos,aft,gd⟩ tm [] (.bp k 0) [(k,.box t cs)]:=by
 intro w s g a K Q ht hg hK;obtain⟨vs,h2,h3⟩:=Opd.eval ht hx;have hfr:=hg.fr k (.box t cs) (by rw[zY];simp) rfl;have hst:=Stp.newBox (t:=t) (k:=k) (cs:=cs) hg.lt hfr h3 h1;have hr:(execOp a.eval ⟨dst,.box t x,ty,pos,aft,gd⟩).run P w= .ok (.value (.pointer (some ⟨w.heap.size,0,none⟩))) (w.alloc (.cells vs.toArray t (0,0))):=by
  have h2':a.eval x= .agg vs.toArray:=h2;simp only[execOp,h2',Instr.box,newVar,newRow,Value.cells];rfl
 unfold Oper.wp;rw[hr];exact hK _ s _ _ ⟨w.heap.size,by simp,rfl⟩ hst
theorem u_box1{x:Operand}{t:TypeId}{d:TV}(k:Nat)(hx:Opd tm x d)(h1:d.one=true):UOp P ⟨dst,.box t x,ty,pos,aft,gd⟩ tm [] (.bp k 0) [(k,.box t [d])]:=by
 intro w s g a K Q ht hg hK;have h3:=Opd.eval ht hx;have hc:=TV.cell h1 h3;have hv:(a.eval x).cells= #[a.eval x]:=by cases hq:a.eval x<;>first|rfl|(rw[hq]at hc;simp[Value.oneCell']at hc)
 have hfr:=hg.fr k (.box t [d]) (by rw[zY];simp) rfl;have hst:=Stp.newBox (t:=t) (k:=k) (cs:=[d]) (vs:=[a.eval x]) hg.lt hfr ⟨h3,trivial⟩ (fun e he=>by simp at he;subst he;exact h1);have hr:(execOp a.eval ⟨dst,.box t x,ty,pos,aft,gd⟩).run P w= .ok (.value (.pointer (some ⟨w.heap.size,0,none⟩))) (w.alloc (.cells [a.eval x].toArray t (0,0))):=by
  simp only[execOp,Instr.box,newVar,newRow,hv];rfl
 unfold Oper.wp;rw[hr];exact hK _ s _ _ ⟨w.heap.size,by simp,rfl⟩ hst
theorem zO0{t:TypeId}{z:Value}(k:Nat)(hz:∀w,(zeroValue t).run P w= .ok z w)(h1:z.cells.toList.all (·.oneCell')=true):UOp P ⟨dst,.alloc t,ty,pos,aft,gd⟩ tm [] (.bp k 0) [(k,.box t (z.cells.toList.map fun v=> .pv (PV.lit v)))]:=by
 intro w s g a K Q ht hg hK;have hfr:=hg.fr k (.box t (z.cells.toList.map fun v=> .pv (PV.lit v))) (by rw[zY];simp) rfl;have hall:∀l:List Value,AllT w s g (l.map fun v=> .pv (PV.lit v)) l:=fun l=>by
  induction l with
  |nil=>trivial
  |cons v l ih=>exact⟨rfl,ih⟩
 have hst:=Stp.newBox (t:=t) (k:=k) hg.lt hfr (hall z.cells.toList) (fun d hd=>by
  obtain⟨v,hv,rfl⟩:=Bu.1 hd;exact Bt.1 h1 v hv)
 have hr:(execOp a.eval ⟨dst,.alloc t,ty,pos,aft,gd⟩).run P w= .ok (.value (.pointer (some ⟨w.heap.size,0,none⟩))) (w.alloc (.cells z.cells.toList.toArray t (0,0))):=by
  simp only[execOp,Instr.alloc,newVar,newRow,Sem.run_bind,hz,Result.andThen];rfl
 unfold Oper.wp;rw[hr];exact hK _ s _ _ ⟨w.heap.size,by simp,rfl⟩ hst
theorem Good.one{w:World}{s:Sb}{g:Gh}{k:Nat}{c:Own}{acc':List (Nat×Own)}(h:Good w s g [(k,c)] acc'):Ok1 w s g k c:=h.ok k c (by rw[zY];simp)
theorem pX{w:World}{N:Nat}{vs:List Value}{t:TypeId}(h:w.heap[N]?=some (.cells vs.toArray t (0,0)))(o n:Nat):w.rangeAt N o ((vs.drop o).take n):=by
 intro j v hv;rw[cell_of_row w N (o+j) _ t (0,0) h];rw[Ch]at hv;split at hv
 ·rw[Cb]at hv;simpa using hv
 ·cases hv
theorem u_loadB1{x:Operand}{t bt:TypeId}{k off:Nat}{cs:List TV}{d:TV}(hT:OneT P t)(hx:Opd tm x (.bp k off))(hd:cs[off]?=some d):UOp P ⟨dst,.load t x,ty,pos,aft,gd⟩ tm [(k,.box bt cs)] d [(k,.box bt cs)]:=
 UOp.read fun w s g a ht hg=>by
  obtain⟨N,h1,h2⟩:=Opd.eval ht hx;obtain⟨M,vs,h3,h4,h5,_⟩:=hg.one;rw[h1]at h3;cases h3;obtain⟨v,h6,h7⟩:=h5.get hd;refine⟨v,yG (s:=Instr.loadAt t (a.eval x)) ?_,h7⟩;rw[h2];exact hT.load (by rw[cell_of_row w N off _ bt (0,0) h4];simpa using h6)
theorem u_loadBR{x:Operand}{t bt:TypeId}{k off n:Nat}{cs:List TV}(hT:RowT P t n)(hx:Opd tm x (.bp k off))(hl:off+n<=cs.length):
  UOp P ⟨dst,.load t x,ty,pos,aft,gd⟩ tm [(k,.box bt cs)] (.agg ((cs.drop off).take n)) [(k,.box bt cs)]:=
 UOp.read fun w s g a ht hg=>by
  obtain⟨N,h1,h2⟩:=Opd.eval ht hx;obtain⟨M,vs,h3,h4,h5,_⟩:=hg.one;rw[h1]at h3;cases h3;have h6:=(h5.drop off).take n;refine⟨.agg ((vs.drop off).take n).toArray,yG (s:=Instr.loadAt t (a.eval x)) ?_,_,rfl,h6⟩;rw[h2];exact hT.load (by rw[h6.length];simp;omega) (pX h4 off n)
theorem bA{pr:Nat->Nat->Prop}{w:World}{s:Sb}{b o:Nat}{row:List PV}(h:CellsX pr w s b o row):∃vs:List Value,vs.length=row.length/\w.rangeAt b o vs/\AllV w s row vs/\∀v∈vs,v.oneCell'=true:=by
 induction row generalizing o with
 |nil=>exact⟨[],rfl,fun j v hv=>by simp at hv,trivial,fun v hv=>by cases hv⟩
 |cons d row ih=>
  obtain⟨u,h1,h2,h3,h3'⟩:=h 0 d rfl;obtain⟨vs,h4,h5,h6,h7⟩:=ih (o:=o+1) (h.drop 1);refine⟨u::vs,by simp[h4],fun j v hv=>?_,⟨h3,h6⟩,fun v hv=>by
   rcases Bc.1 hv with rfl|hv
   ·exact h3'
   ·exact h7 v hv⟩
  match j,hv with
  |0,hv=>simp at hv;subst hv;exact h1
  |j+1,hv=>
   have:=h5 j v (by simpa using hv);rw[show o+(j+1)=o+1+j by omega];exact this
theorem u_loadP1{x:Operand}{t:TypeId}{m:Bool}{row:List PV}{d:PV}(hT:OneT P t)(hx:Opd tm x (.pv (PV.pt m row)))(hd:row[0]?=some d):UOp P ⟨dst,.load t x,ty,pos,aft,gd⟩ tm [] (.pv d) []:=
 UOp.pure fun w s g a ht=>by
  obtain⟨b,o,h1,h2⟩:=Opd.eval ht hx;obtain⟨u,h3,_,h4,_⟩:=h2 0 d hd;refine⟨u,yG (s:=Instr.loadAt t (a.eval x)) ?_,h4⟩;have h1':a.eval x= .pointer (some ⟨b,o,none⟩):=h1;rw[h1'];exact hT.load h3
theorem u_loadPR{x:Operand}{t:TypeId}{n:Nat}{m:Bool}{row:List PV}(hT:RowT P t n)(hx:Opd tm x (.pv (PV.pt m row)))(hl:n<=row.length):UOp P ⟨dst,.load t x,ty,pos,aft,gd⟩ tm [] (.pv (PV.agg (row.take n))) []:=
 UOp.pure fun w s g a ht=>by
  obtain⟨b,o,h1,h2⟩:=Opd.eval ht hx
  have h2':CellsAt m w s b o (row.take n):=fun j d hd=>h2 j d (by
   rw[Ch]at hd;split at hd
   ·exact hd
   ·cases hd)
  obtain⟨vs,h3,h4,h5,_⟩:=bA h2';refine⟨.agg vs.toArray,yG (s:=Instr.loadAt t (a.eval x)) ?_,vs,rfl,h5⟩;have h1':a.eval x= .pointer (some ⟨b,o,none⟩):=h1;rw[h1'];exact hT.load (by rw[h3,At];omega) h4
end
theorem Stp.write{w w':World}{s:Sb}{g:Gh}{k N:Nat}{t:TypeId}{cs cs':List TV}{vs':List Value}(hg:Good w s g [(k,.box t cs)] [(k,.box t cs')])(hN:g.bx k=some N)
  (hw:w'.heap[N]?=some (.cells vs'.toArray t (0,0))) (ho:∀M,M≠N->w'.heap[M]?=w.heap[M]?) (hs:w'.heap.size=w.heap.size) (h1:w'.os=w.os) (h2:w'.tape=w.tape) (h3:w'.output=w.output)
  (hv:AllT w s g cs' vs') (hone:∀d∈cs',d.one=true):Stp w s g [(k,.box t cs)] w' s g [(k,.box t cs')]:=by
 obtain⟨M,vs,e1,e2,e3,e4,e5⟩:=hg.one;rw[hN]at e1;cases e1;have hx:Ex w s w' s:=⟨fun _ _ h=>h,fun b o hb=>by
  have hne:b≠N:=fun e=>e5 o (e▸hb);unfold World.cell?;simp only;rw[ho b hne],fun _ _ h=>h⟩
 have hk:∀{j:Nat}{c c0:Own},fnd j [(k,c0)]=some c->j=k/\c=c0:=by
  intro j c c0 h;rw[zY]at h;by_cases e:k=j
  ·simp only[e,if_true]at h;cases h;exact⟨e.symm,rfl⟩
  ·simp only[e,if_false]at h;cases h
 refine⟨hx,fun B o h=>by rw[hs];exact hg.lt B o h,GLe.refl g,fun _ _=>⟨rfl,fun _=>rfl⟩,h1,h2,h3,by omega,fun M hM hne=>ho M ?_,fun _ _ h=> .inl h,fun _ _ h=> .inl h,fun j c h=>?_,fun j c M h hb=>?_,fun j j' c c' M h h' hne=>?_,fun j c h=>?_⟩
 ·rintro rfl;exact hne k (.box t cs) (by rw[zY];simp) hN
 ·obtain⟨rfl,rfl⟩:=hk h;exact⟨N,vs',hN,hw,hv.mono hx (GLe.refl g),hone,e5⟩
 ·obtain⟨rfl,rfl⟩:=hk h;exact .inr ⟨j,.box t cs,by rw[zY];simp,hb⟩
 ·obtain⟨rfl,rfl⟩:=hk h;obtain⟨rfl,rfl⟩:=hk h';exact absurd rfl hne
 ·obtain⟨rfl,rfl⟩:=hk h;exact⟨.box t cs',by rw[zY];simp⟩
theorem store_run{P:Program}{t bt:TypeId}{w:World}{N off:Nat}{vs news:List Value}{v:Value}(hsz:(P.info? t).map (·.size)=some news.length)(hv:v.cells.toList=news)(h:w.heap[N]?=some (.cells vs.toArray bt (0,0)))
  (hl:off+news.length<=vs.length) (h1:∀v∈news,v.oneCell'=true):
  (Instr.storeAt t (.pointer (some ⟨N,off,none⟩)) v).run P w= .ok () (w.setRow N (vs.take off++news++vs.drop (off+news.length)).toArray):=by
 have hst:=run_storeCells_at (P:=P) N off bt news 0 vs.toArray w h (by simpa using hl) h1;simp only[Ce]at hst;have hc:v.cells.size=news.length:=by rw[<-hv];simp
 simp only[Instr.storeAt,Instr.sureAddr,storeVar,Sem.run_bind,Sem.run_pure,Result.andThen_ok,qG hsz,hc,hv,hst,ne_eq,not_true_eq_false,if_false]
theorem store_runK{P:Program}{t bt:TypeId}{w:World}{N off:Nat}{vs news:List Value}{v:Value}(hsz:(P.info? t).map (·.size)=some news.length)(hv:v.cells.toList=news)(h:CellB w N vs.toArray bt)
  (hl:off+news.length<=vs.length) (h1:∀v∈news,v.oneCell'=true):
  (Instr.storeAt t (.pointer (some ⟨N,off,none⟩)) v).run P w= .ok () (w.setRow N (vs.take off++news++vs.drop (off+news.length)).toArray):=by
 obtain⟨fz,h,hfz⟩:=h;have hst:=qM P N off bt fz news 0 vs.toArray w h hfz (by simpa using hl) h1;simp only[Ce]at hst;have hc:v.cells.size=news.length:=by rw[<-hv];simp
 simp only[Instr.storeAt,Instr.sureAddr,storeVar,Sem.run_bind,Sem.run_pure,Result.andThen_ok,qG hsz,hc,hv,hst,ne_eq,not_true_eq_false,if_false]
theorem gK{s:Sem Unit}{P:Program}{w w':World}(h:s.run P w= .ok () w'):(do s;pure Next.skip:Sem Next).run P w= .ok .skip w':=by
 simp[h]
section
variable{P:Program}{tm:List (Nat×TV)}{dst:Option Tmp}{ty:TypeId}{pos:String}{aft:Array Edge}{gd:Option (Nat×Bool)}
theorem dN{x y:Operand}{t bt:TypeId}{k off:Nat}{cs ds:List TV}(hsz:(P.info? t).map (·.size)=some ds.length)(hx:Opd tm x (.bp k off))(hl:off+ds.length<=cs.length)(hone:∀d∈ds,d.one=true)
  (hy:∀w s g a,qW w s g tm a->AllT w s g ds (a.eval y).cells.toList):
  UOp P ⟨dst,.store t x y,ty,pos,aft,gd⟩ tm [(k,.box bt cs)] (.pv (PV.lit undef)) [(k,.box bt (cs.take off++ds++cs.drop (off+ds.length)))]:=by
 intro w s g a K Q ht hg hK;obtain⟨N,h1,h2⟩:=Opd.eval ht hx;obtain⟨M,vs,h3,h4,h5,h6,h7⟩:=hg.one;rw[h1]at h3;cases h3;have hy':=hy w s g a ht;have hlen:=hy'.length;have hall:∀v∈(a.eval y).cells.toList,v.oneCell'=true:=by
  intro v hv;obtain⟨j,hj⟩:=Cw hv;obtain⟨d,h8,h9⟩:=hy'.get' hj;exact TV.cell (hone d (Aw h8)) h9
 have hr:=store_run (P:=P) (t:=t) (bt:=bt) (off:=off) (v:=a.eval y) (by rw[hsz,hlen]) rfl h4 (by rw[hlen,h5.length];exact hl) hall;unfold Oper.wp;have he:(execOp a.eval ⟨dst,.store t x y,ty,pos,aft,gd⟩).run P w= .ok .skip _:=gK (s:=Instr.storeAt t (a.eval x) (a.eval y)) (by rw[h2];exact hr);rw[he];refine hK _ s g undef rfl (Stp.write (vs':=vs.take off++(a.eval y).cells.toList++vs.drop (off+(a.eval y).cells.toList.length)) hg h1 (setRow_heap w N _ _ bt _ h4) (fun M hM=>setRow_other w N M _ hM) (by simp) rfl rfl rfl ?_ ?_)
 ·rw[hlen];exact AllT.append (AllT.append (h5.take off) hy') (h5.drop _)
 ·intro d hd;rcases Az.1 hd with hd|hd
  ·rcases Az.1 hd with hd|hd
   ·exact h6 d (List.mem_of_mem_take hd)
   ·exact hone d hd
  ·exact h6 d (List.mem_of_mem_drop hd)
theorem wP{v:Value}(h:v.oneCell'=true):v.cells= #[v]:=by cases v<;>first|rfl|(simp[Value.oneCell']at h)
theorem u_storeB1{x y:Operand}{t bt:TypeId}{k off:Nat}{cs:List TV}{d:TV}(hT:OneT P t)(hx:Opd tm x (.bp k off))(hy:Opd tm y d)(hl:off+1<=cs.length)(hone:d.one=true):
  UOp P ⟨dst,.store t x y,ty,pos,aft,gd⟩ tm [(k,.box bt cs)] (.pv (PV.lit undef)) [(k,.box bt (cs.take off++[d]++cs.drop (off+1)))]:=
 dN (ds:=[d]) hT.size hx hl (fun e he=>by simp at he;subst he;exact hone) fun w s g a ht=>by
  have h:=Opd.eval ht hy;rw[wP (TV.cell hone h)];exact⟨h,trivial⟩
theorem tU{x y:Operand}{t bt:TypeId}{k off n:Nat}{cs ds:List TV}(hT:RowT P t n)(hx:Opd tm x (.bp k off))(hy:Opd tm y (.agg ds))(hn:ds.length=n)(hl:off+n<=cs.length)(hone:∀d∈ds,d.one=true):
  UOp P ⟨dst,.store t x y,ty,pos,aft,gd⟩ tm [(k,.box bt cs)] (.pv (PV.lit undef)) [(k,.box bt (cs.take off++ds++cs.drop (off+n)))]:=by
 subst hn;exact dN hT.size hx hl hone fun w s g a ht=>by
  obtain⟨vs,h1,h2⟩:=Opd.eval ht hy;have h1':a.eval y= .agg vs.toArray:=h1;rw[h1'];exact h2
structure FldT(P:Program)(t:TypeId)(i off:Nat):Prop where
 h:∃fs f,P.underlying t=some (.struct fs)/\fs[i]?=some f/\f.offset=off/\∃n,0<n/\(P.info? f.type).map (·.size)=some n
theorem FldT.run{P:Program}{t:TypeId}{i off:Nat}(h:FldT P t i off)(w:World)(b o:Nat):(Instr.fieldAt t (.pointer (some ⟨b,o,none⟩)) i).run P w= .ok (.pointer (some ⟨b,o+off,none⟩)) w:=by
 obtain⟨fs,f,h1,h2,rfl,n,hn,h3⟩:=h.h;have hz:¬n=0:=by omega
 simp only[Instr.fieldAt,Sem.run_bind,run_underlying h1,Result.andThen_ok,h2,Instr.sureAddr,Sem.run_pure,fieldPlace,qG h3,hz,if_false,Addr.add_mid]
theorem u_fieldAddrB{x:Operand}{t:TypeId}{i off fo k:Nat}(hF:FldT P t i fo)(hx:Opd tm x (.bp k off)):UOp P ⟨dst,.fieldAddr t x i,ty,pos,aft,gd⟩ tm [] (.bp k (off+fo)) []:=
 UOp.pure fun w s g a ht=>by
  obtain⟨N,h1,h2⟩:=Opd.eval ht hx;exact⟨_,yG (s:=Instr.fieldAt t (a.eval x) i) (by rw[h2];exact hF.run w N off),N,h1,rfl⟩
theorem u_fieldAddrP{x:Operand}{t:TypeId}{i fo:Nat}{m:Bool}{row:List PV}(hF:FldT P t i fo)(hx:Opd tm x (.pv (PV.pt m row))):UOp P ⟨dst,.fieldAddr t x i,ty,pos,aft,gd⟩ tm [] (.pv (PV.pt m (row.drop fo))) []:=
 UOp.pure fun w s g a ht=>by
  obtain⟨b,o,h1,h2⟩:=Opd.eval ht hx;have h1':a.eval x= .pointer (some ⟨b,o,none⟩):=h1;exact⟨_,yG (s:=Instr.fieldAt t (a.eval x) i) (by rw[h1'];exact hF.run w b o),b,o+fo,rfl,CellsX.drop h2 fo⟩
structure SlT(P:Program)(t:TypeId)(sz:Nat):Prop where
 h:∃e,P.underlying t=some (.slice e)/\(P.info? e).map (·.size)=some sz
theorem vN{x y:Operand}{t:TypeId}{sz:Nat}{m:Bool}{k:IntKind}{n:Int}{rows:List (List PV)}{row:List PV}{d:TV}(hT:SlT P t sz)(hx:Opd tm x d)(hd:d.toPV=some (PV.sl m sz rows))(hy:Opd tm y (.pv (PV.lit (.int k n))))(h0:0<=n)(hr:rows[n.toNat]?=some row):
  UOp P ⟨dst,.indexAddr t x y,ty,pos,aft,gd⟩ tm [] (.pv (PV.pt m row)) []:=
 UOp.pure fun w s g a ht=>by
  obtain⟨e,hu,he⟩:=hT.h;obtain⟨ad,cap,h1,h2,h3,h4,h5⟩:=TV.weak hd (Opd.eval ht hx);obtain⟨b,off,rfl,h6⟩:=h5 _ _ hr;have hlt:n.toNat<rows.length:=(Ac.1 hr).1;have h7:=Opd.lit ht hy;refine⟨.pointer (some ⟨b,off+n.toNat*sz,none⟩),yG (s:=Instr.indexAt t (a.eval x) (a.eval y)) ?_,b,_,rfl,CellsG.at h6⟩;have h1':a.eval x= .slice (some ⟨b,off,none⟩) rows.length cap:=h1;have hb:(0<=n/\n<(rows.length:Int)):=⟨h0,by omega⟩;rw[h1',h7];simp only[Instr.indexAt,asIntOf,Sem.run_bind,Sem.run_pure,Result.andThen_ok,run_underlying hu,hb,and_self,if_true,qG he,Addr.add_mid]
theorem zN0{x:Operand}{t:TypeId}{sz:Nat}{m:Bool}{rows:List (List PV)}{d:TV}(hT:SlT P t sz)(hx:Opd tm x d)(hd:d.toPV=some (PV.sl m sz rows)):
  UOp P ⟨dst,.call {callee:= .builtin .len,args:= #[x],argTypes:= #[t]},ty,pos,aft,gd⟩ tm [] (.pv (PV.lit (.int .i64 rows.length))) []:=
 UOp.pure fun w s g a ht=>by
  obtain⟨e,hu,he⟩:=hT.h;obtain⟨ad,cap,h1,_⟩:=TV.weak hd (Opd.eval ht hx);have h1':a.eval x= .slice ad rows.length cap:=h1;exact⟨.int .i64 rows.length,by simp[execOp,resolve,invoke,builtin,h1',Builtin.len_,run_underlying hu,goInt],rfl⟩
theorem u_lenNil{x:Operand}{t:TypeId}{sz n c:Nat}{ad:Option Addr}(hT:SlT P t sz)(hx:Opd tm x (.pv (PV.lit (.slice ad n c)))):
  UOp P ⟨dst,.call {callee:= .builtin .len,args:= #[x],argTypes:= #[t]},ty,pos,aft,gd⟩ tm [] (.pv (PV.lit (.int .i64 n))) []:=
 UOp.pure fun w s g a ht=>by
  obtain⟨e,hu,he⟩:=hT.h;have h1':=Opd.lit ht hx;exact⟨.int .i64 n,by simp[execOp,resolve,invoke,builtin,h1',Builtin.len_,run_underlying hu,goInt],rfl⟩
theorem u_lenStr{x:Operand}{t:TypeId}{p:ByteArray}(hT:P.underlying t=some .string)(hx:Opd tm x (.pv (PV.lit (.string p)))):
  UOp P ⟨dst,.call {callee:= .builtin .len,args:= #[x],argTypes:= #[t]},ty,pos,aft,gd⟩ tm [] (.pv (PV.lit (.int .i64 p.size))) []:=
 UOp.pure fun w s g a ht=>by
  have h1':=Opd.lit ht hx;exact⟨.int .i64 p.size,by simp[execOp,resolve,invoke,builtin,h1',Builtin.len_,run_underlying hT,goInt],rfl⟩
theorem u_indexStr{x y:Operand}{t:TypeId}{p:ByteArray}{k:IntKind}{n:Int}{c:UInt8}(hT:P.underlying t=some .string)(hx:Opd tm x (.pv (PV.lit (.string p))))(hy:Opd tm y (.pv (PV.lit (.int k n))))(h0:0<=n)(hc:p[n.toNat]?=some c):
  UOp P ⟨dst,.index t x y,ty,pos,aft,gd⟩ tm [] (.pv (PV.lit (.int .u8 c.toNat))) []:=
 UOp.pure fun w s g a ht=>by
  have h1:=Opd.lit ht hx;have h2:=Opd.lit ht hy;exact⟨.int .u8 c.toNat,yG (s:=Instr.index t (a.eval x) (a.eval y)) (by rw[h1,h2];simp[Instr.index,asIntOf,run_underlying hT,h0,hc]),rfl⟩
def uS0(places:List (Nat×Nat))(cells:List TV):List (Nat×List TV)->Option (List TV)
 |[]=>some cells
 |(i,ds)::rest=>match places[i]? with
  |some (off,size)=>match Nat.beq ds.length size&&Nat.ble (off+size) cells.length with
   |true=>uS0 places (cells.take off++ds++cells.drop (off+size)) rest
   |false=>none
  |none=>none
theorem dX(news:List Value):∀(j:Nat)(cells:Array Value)(off:Nat),off+j+news.length<=cells.size->
  ((news.zipIdx j).foldl (fun cs(x:Value×Nat)=>cs.setIfInBounds (off+x.2) x.1) cells).toList=cells.toList.take (off+j)++news++cells.toList.drop (off+j+news.length):=by
 induction news with
 |nil=>intro j cells off h;simp
 |cons v news ih=>
  intro j cells off h;simp only[Ak]at h;simp only[List.zipIdx_cons,List.foldl_cons];rw[ih (j+1) _ off (by simp;omega)];simp only[Array.toList_setIfInBounds,Ak];have e:=list_seg_step cells.toList (off+j) v news (by simp;omega);simpa[Nat.add_assoc]using e
theorem dY{w:World}{s:Sb}{g:Gh}{places:List (Nat×Nat)}{f:Nat->Option (Nat×Nat)}(hf:∀i p,places[i]?=some p->f i=some p):∀{parts:List (Nat×Value)}{ps:List (Nat×List TV)}{cells:List TV}{vs:List Value}{out:List TV},
  parts.length=ps.length->(∀(j:Nat)(x:Nat×Value)(y:Nat×List TV),parts[j]?=some x->ps[j]?=some y->x.1=y.1/\AllT w s g y.2 x.2.cells.toList)->AllT w s g cells vs->uS0 places cells ps=some out->∃us:Array Value,Instr.fill f vs.toArray parts=some us/\AllT w s g out us.toList
 |[],[],cells,vs,out,_,_,hc,h=>by cases h;exact⟨vs.toArray,rfl,by simpa using hc⟩
 |(i,v)::parts,(i',ds)::ps,cells,vs,out,hl,hp,hc,h=>by
  obtain⟨rfl,hv⟩:=hp 0 _ _ rfl rfl;simp only at hv;unfold uS0 at h;unfold Instr.fill
  cases hpl:places[i]? with
  |none=>rw[hpl]at h;cases h
  |some os=>
   obtain⟨off,size⟩:=os;rw[hpl]at h;rw[hf i _ hpl];simp only at h⊢
   cases hb:(Nat.beq ds.length size&&Nat.ble (off+size) cells.length)with
   |false=>rw[hb]at h;cases h
   |true=>
    rw[hb]at h;simp only[Ah]at hb;have h1:ds.length=size:=Ab hb.1;have h2:off+size<=cells.length:=An hb.2;have h3:v.cells.size=size:=by rw[<-h1,<-hv.length];simp
    have h4:vs.length=cells.length:=hc.length;have hcond:¬((decide (v.cells.size≠size)||decide (off+v.cells.size>vs.toArray.size))=true):=by simp[h3,h4];omega
    rw[Aa hcond];have hfold:=dX v.cells.toList 0 vs.toArray off (by simp[h3,h4];omega)
    obtain⟨us,hu1,hu2⟩:=dY (w:=w) (s:=s) (g:=g) hf (parts:=parts) (ps:=ps) (cells:=cells.take off++ds++cells.drop (off+size)) (vs:=vs.take off++v.cells.toList++vs.drop (off+size)) (out:=out) (by simpa using hl)
     (fun j x y hx hy=>hp (j+1) x y (by simpa using hx) (by simpa using hy))
     (by
      exact AllT.append (AllT.append (AllT.take off hc) hv) (AllT.drop (off+size) hc))
     h
    refine⟨us,?_,hu2⟩;rw[<-hu1];congr 1;apply Bx.1;rw[<-Array.foldl_toList,Array.toList_zipIdx];rw[hfold];simp[h3]
 |[],_::_,_,_,_,hl,_,_,_=>by simp at hl
 |_::_,[],_,_,_,hl,_,_,_=>by simp at hl
end
def PartOk(tm:List (Nat×TV))(x:Operand)(ds:List TV):Prop:=Opd tm x (.agg ds)\/∃t,Opd tm x t/\t.one=true/\[t]=ds
theorem PartOk.all{w:World}{s:Sb}{g:Gh}{tm:List (Nat×TV)}{a:Act}(ht:qW w s g tm a){x:Operand}{ds:List TV}(h:PartOk tm x ds):AllT w s g ds (a.eval x).cells.toList:=by
 rcases h with h|⟨t,h1,h3,rfl⟩
 ·obtain⟨vs,e1,e2⟩:=Opd.eval ht h;have e1':a.eval x= .agg vs.toArray:=e1;rw[e1'];exact e2
 ·have e:=Opd.eval ht h1;rw[wP (TV.cell h3 e)];exact⟨e,trivial⟩
def PartsOk(tm:List (Nat×TV)):List (Nat×Operand)->List (Nat×List TV)->Prop
 |[],[]=>True
 |(i,x)::r,(j,ds)::q=>i=j/\PartOk tm x ds/\PartsOk tm r q
 |_,_=>False
theorem PartsOk.get{tm:List (Nat×TV)}:∀{l:List (Nat×Operand)}{ps:List (Nat×List TV)},PartsOk tm l ps->l.length=ps.length/\∀(j:Nat)(x:Nat×Operand)(y:Nat×List TV),l[j]?=some x->ps[j]?=some y->x.1=y.1/\PartOk tm x.2 y.2
 |[],[],_=>⟨rfl,fun j x y hx=>by simp at hx⟩
 |(i,x)::r,(j,ds)::q,h=>by
  obtain⟨h1,h2,h3⟩:=h;obtain⟨e1,e2⟩:=PartsOk.get h3;refine⟨by simp[e1],fun n u v hu hv=>?_⟩
  match n,hu,hv with
  |0,hu,hv=>simp at hu hv;subst hu;subst hv;exact⟨h1,h2⟩
  |n+1,hu,hv=>exact e2 n u v (by simpa using hu) (by simpa using hv)
 |[],_::_,h=>h.elim
 |_::_,[],h=>h.elim
structure BldT(P:Program)(t:TypeId)(zs:List Value)(places:List (Nat×Nat)):Prop where
 h:∃(z:Value)(f:Nat->Option (Nat×Nat)),(∀parts,P.built t parts=Instr.fill f z.cells parts)/\z.cells.toList=zs/\∀i p,places[i]?=some p->f i=some p
theorem BldT.st{P:Program}{t:TypeId}{zs:List Value}{places:List (Nat×Nat)}{it:TypeInfo}{fs:Array Field}{z:Value}(h1:P.info? t=some it)(h2:P.underlying t=some (.struct fs))(h3:it.zero=some z)(h4:z.cells.toList=zs)
  (h5:fs.toList.mapM (fun f=>(P.info? f.type).map fun i=>(f.offset,i.size))=some places):BldT P t zs places:=
 ⟨z,(places.toArray[·]?),fun parts=>by unfold Program.built;simp only[h1,h2,h3,h5],h4,fun i p h=>by simpa using h⟩
theorem BldT.ar{P:Program}{t e:TypeId}{c:Nat}{zs:List Value}{places:List (Nat×Nat)}{it ie:TypeInfo}{z:Value}(h1:P.info? t=some it)(h2:P.underlying t=some (.array c e))(h3:it.zero=some z)(h4:z.cells.toList=zs)
  (h5:P.info? e=some ie) (hp:∀i p,places[i]?=some p->p=(i*ie.size,ie.size)):BldT P t zs places:=
 ⟨z,fun i=>some (i*ie.size,ie.size),fun parts=>by unfold Program.built;simp only[h1,h2,h3,h5],h4,fun i p h=>by rw[hp i p h]⟩
section
variable{P:Program}{tm:List (Nat×TV)}{dst:Option Tmp}{ty:TypeId}{pos:String}{aft:Array Edge}{gd:Option (Nat×Bool)}
theorem AllV.lits(w:World)(s:Sb):∀l:List Value,AllV w s (l.map PV.lit) l
 |[]=>trivial
 |_::l=>⟨rfl,AllV.lits w s l⟩
theorem AllT.lits(w:World)(s:Sb)(g:Gh):∀l:List Value,AllT w s g (l.map fun v=> .pv (PV.lit v)) l
 |[]=>trivial
 |_::l=>⟨rfl,AllT.lits w s g l⟩
theorem vA0{t:TypeId}{parts:List (Nat×Operand)}{zs:List Value}{places:List (Nat×Nat)}{ps:List (Nat×List TV)}{out:List TV}(hB:BldT P t zs places)(hp:PartsOk tm parts ps)(hf:uS0 places (zs.map fun v=> .pv (PV.lit v)) ps=some out):
  UOp P ⟨dst,.build t parts.toArray,ty,pos,aft,gd⟩ tm [] (.agg out) []:=
 UOp.pure fun w s g a ht=>by
  obtain⟨z,f,h1,h4,h5⟩:=hB.h;obtain⟨e1,e2⟩:=hp.get
  obtain⟨us,f1,f2⟩:=dY (w:=w) (s:=s) (g:=g) (places:=places) (f:=f) h5 (parts:=parts.map fun x=>(x.1,a.eval x.2)) (ps:=ps) (cells:=zs.map fun v=> .pv (PV.lit v)) (vs:=zs) (out:=out) (by simpa using e1)
   (fun j x y hx hy=>by
    rw[Bf]at hx
    cases hl:parts[j]? with
    |none=>rw[hl]at hx;simp at hx
    |some q=>
     rw[hl]at hx;simp at hx;subst hx;obtain⟨g1,g2⟩:=e2 j q y hl hy;exact⟨g1,g2.all ht⟩) (AllT.lits w s g zs) hf
  refine⟨.agg us,yG (s:=Instr.build t (parts.toArray.map fun(i,x)=>(i,a.eval x))) ?_,us.toList,by simp,f2⟩;refine run_build w t _ us ?_;have hzc:z.cells=zs.toArray:=by rw[<-h4]
  rw[h1,hzc,<-f1];simp
theorem Stp.newStable{w:World}{s:Sb}{g:Gh}(hl:∀B o,s B o->B<w.heap.size)(o:Obj):Stp w s g [] (w.alloc o) (s.add fun B _=>B=w.heap.size) g []:=by
 refine⟨⟨fun _ _ h=> .inl h,(fun b i h=>by rw[World.cell?_alloc_lt _ _ _ (hl b i h)]),fun _ _ h=> .inl h⟩,fun B i h=>?_,GLe.refl g,fun _ _=>⟨rfl,fun _=>rfl⟩,rfl,rfl,rfl,by simp,fun N hN _=>Below.heap_alloc w _ N hN,fun B i h=>?_,fun B i h=>?_,(fun _ _ h=>by cases h),(fun _ _ _ h=>by cases h),(fun _ _ _ _ _ h=>by cases h),(fun _ _ h=>by cases h)⟩
 ·rcases h with h|h
  ·have:=hl B i h;simp;omega
  ·simp;omega
 ·rcases h with h|h
  ·exact .inl h
  ·exact .inr (.inl om)
 ·rcases h with h|h
  ·exact .inl h
  ·exact .inr (.inl om)
theorem AllV.good{w:World}{s:Sb}{l:List PV}{vs:List Value}(hs:strs l=true)(h:AllV w s l vs):AllV w s.good l vs:=AllV.strong (s:=s) (s':=s.good) (fun _ _ h=>h) hs h
def PartV(tm:List (Nat×TV))(x:Operand)(ds:List PV):Prop:=∃ts,PartOk tm x ts/\TV.toPVs ts=some ds
theorem PartV.all{w:World}{s:Sb}{g:Gh}{tm:List (Nat×TV)}{a:Act}(ht:qW w s g tm a){x:Operand}{ds:List PV}(h:PartV tm x ds):AllV w s ds (a.eval x).cells.toList:=by
 obtain⟨ts,h1,h2⟩:=h;exact AllT.weakS h2 (h1.all ht)
def mG(tm:List (Nat×TV))(sz:Nat):Nat->List (Nat×Operand)->List (List PV)->Prop
 |_,[],[]=>True
 |i,(j,x)::r,ds::q=>j=i/\PartV tm x ds/\ds.length=sz/\(∀d∈ds,d.one=true)/\strs ds=true/\mG tm sz (i+1) r q
 |_,_,_=>False
theorem pM{w:World}{s:Sb}{g:Gh}{tm:List (Nat×TV)}{a:Act}{sz:Nat}(ht:qW w s g tm a):∀{parts:List (Nat×Operand)}{rows:List (List PV)}(i:Nat)(done rest:List Value),mG tm sz i parts rows->done.length=i*sz->rest.length=rows.length*sz->
  ∃vss:List (List Value),vss.length=rows.length/\(∀(j:Nat)(r:List PV)(vs:List Value),rows[j]?=some r->vss[j]?=some vs->AllV w s.good r vs)/\
   Instr.fill (fun i=>some (i*sz,sz)) (done++rest).toArray (parts.map fun x=>(x.1,a.eval x.2))=some (done++vss.flatten).toArray
 | [],[],i,done,rest,_,_,hr=>⟨[],rfl,fun j r vs h=>by simp at h,by
   have:rest=[]:=Ax (by simpa using hr);subst this;simp[Instr.fill]⟩
 |(j,x)::parts,ds::rows,i,done,rest,h,hd,hr=>by
  obtain⟨rfl,h1,h2,_,hst,h3⟩:=h;have hv:=(h1.all ht).good hst;have hn:(a.eval x).cells.size=sz:=by rw[<-h2,<-hv.length];simp
  simp only[Ak]at hr;have hrl:sz<=rest.length:=by rw[hr,Bh,Nat.one_mul];omega
  obtain⟨vss,g1,g2,g3⟩:=pM ht (j+1) (done++(a.eval x).cells.toList) (rest.drop sz) h3 (by simp[hd,hn,Bh]) (by rw[Ay,hr,Bh];omega);refine⟨(a.eval x).cells.toList::vss,by simp[g1],fun m r vs hm hvs=>?_,?_⟩
  ·match m,hm,hvs with
   |0,hm,hvs=>simp at hm hvs;subst hm;subst hvs;exact hv
   |m+1,hm,hvs=>exact g2 m r vs (by simpa using hm) (by simpa using hvs)
  ·simp only[Ci];unfold Instr.fill;have hc:¬((decide ((a.eval x).cells.size≠sz)||decide (j*sz+(a.eval x).cells.size>(done++rest).toArray.size))=true):=by simp[hn,hd];omega
   simp only[Aa hc];have hfold:=dX (a.eval x).cells.toList 0 (done++rest).toArray (j*sz) (by simp[hn,hd];omega);have e:Array.foldl (fun cs(x:Value×Nat)=>cs.setIfInBounds (j*sz+x.2) x.1) (done++rest).toArray (a.eval x).cells.zipIdx=(done++(a.eval x).cells.toList++rest.drop sz).toArray:=by
    apply Bx.1;rw[<-Array.foldl_toList,Array.toList_zipIdx,hfold];simp only[Ce,Cz,hn];have e1:(done++rest).take (j*sz)=done:=by rw[<-hd];exact List.take_left
    have e2:(done++rest).drop (j*sz+sz)=rest.drop sz:=by rw[List.drop_append,hd];simp[Bq (show done.length<=j*sz+sz by omega)]
    show(done++rest).take (j*sz)++(a.eval x).cells.toList++(done++rest).drop (j*sz+sz)=done++(a.eval x).cells.toList++rest.drop sz;rw[e1,e2]
   rw[e,g3];simp
 |[],_::_,_,_,_,h,_,_=>h.elim
 |_::_,[],_,_,_,h,_,_=>h.elim
theorem bY{sz:Nat}:∀{vss:List (List Value)}{i j:Nat}{vs:List Value}{v:Value},(∀x∈vss,x.length=sz)->vss[i]?=some vs->vs[j]?=some v->vss.flatten[i*sz+j]?=some v
 |[],i,j,vs,v,_,hi,_=>by simp at hi
 |x::vss,0,j,vs,v,hl,hi,hj=>by
  simp at hi;subst hi;rw[Cn,Nat.zero_mul,Bv,Bb (Ac.1 hj).1];exact hj
 |x::vss,i+1,j,vs,v,hl,hi,hj=>by
  have hx:=hl x (by simp);rw[Cn,Bk (by rw[hx,Bh];omega),hx,show(i+1)*sz+j-sz=i*sz+j by rw[Bh];omega];exact bY (fun y hy=>hl y (by simp[hy])) (by simpa using hi) hj
structure BslT(P:Program)(t:TypeId)(sz:Nat):Prop where
 h:∃e ie z,P.underlying t=some (.slice e)/\P.info? e=some ie/\ie.zero=some z/\ie.size=sz/\z.cells.size=sz/\0<sz
theorem u_buildSlice{t:TypeId}{sz len:Nat}{parts:List (Nat×Operand)}{rows:List (List PV)}(hB:BslT P t sz)(hp:mG tm sz 0 parts rows)(hl:len=rows.length)(hs:len*sz<=2^24)(h0:0<len):
  UOp P ⟨dst,.buildSlice t len parts.toArray,ty,pos,aft,gd⟩ tm [] (.pv (PV.sl false sz rows)) []:=by
 intro w s g a K Q ht hg hK;obtain⟨e,ie,z,h1,h2,h3,h4,h5,h6⟩:=hB.h;subst h4;have hlp:0<len*ie.size:=Nat.mul_pos h0 h6;obtain⟨vss,g1,g2,g3⟩:=pM (sz:=ie.size) ht 0 [] ((Array.range (len*ie.size)).map (z.cells[·%z.cells.size]!)).toList hp (by simp) (by simp[hl]);have hrl:∀(i:Nat)(row:List PV),rows[i]?=some row->row.length=ie.size:=by
  have aux:∀(parts:List (Nat×Operand))(rows:List (List PV))(n:Nat),mG tm ie.size n parts rows->∀(i:Nat)(row:List PV),rows[i]?=some row->row.length=ie.size:=by
   intro parts;induction parts with
   |nil=>intro rows n h i row hr;cases rows with|nil=>simp at hr|cons _ _=>exact h.elim
   |cons q parts ih=>
    intro rows n h i row hr
    cases rows with
    |nil=>simp at hr
    |cons r rows=>
     obtain⟨_,_,e3,_,_,e4⟩:=h
     match i,hr with
     |0,hr=>simp at hr;subst hr;exact e3
     |i+1,hr=>exact ih rows (n+1) e4 i row (by simpa using hr)
  exact aux parts rows 0 hp
 have hone:∀(i:Nat)(row:List PV),rows[i]?=some row->∀d∈row,d.one=true:=by
  have aux:∀(parts:List (Nat×Operand))(rows:List (List PV))(n:Nat),mG tm ie.size n parts rows->∀(i:Nat)(row:List PV),rows[i]?=some row->∀d∈row,d.one=true:=by
   intro parts;induction parts with
   |nil=>intro rows n h i row hr;cases rows with|nil=>simp at hr|cons _ _=>exact h.elim
   |cons q parts ih=>
    intro rows n h i row hr
    cases rows with
    |nil=>simp at hr
    |cons r rows=>
     obtain⟨_,_,_,e3,_,e4⟩:=h
     match i,hr with
     |0,hr=>simp at hr;subst hr;exact e3
     |i+1,hr=>exact ih rows (n+1) e4 i row (by simpa using hr)
  exact aux parts rows 0 hp
 have hr:=run_buildSlice (P:=P) w t e len (parts.toArray.map fun(i,x)=>(i,a.eval x)) (vss.flatten).toArray ie z h1 h2 h3 om om (by
  simp only[Dh,Array.toArray_toList]at g3;rw[<-g3];simp)
 unfold Oper.wp;have he:(execOp a.eval ⟨dst,.buildSlice t len parts.toArray,ty,pos,aft,gd⟩).run P w= .ok (.value (.slice (some ⟨w.heap.size,0,none⟩) len len)) (w.alloc (.cells vss.flatten.toArray e)):=yG hr;rw[he];have hlm:len<=9223372036854775807:=by
  have:len*1<=len*ie.size:=Nat.mul_le_mul_left _ h6;omega
 have hst:=Stp.newStable (g:=g) hg.lt (.cells vss.flatten.toArray e);refine hK _ _ g _ ⟨_,len,by rw[hl],by omega,hlm,fun row hrow=>?_,fun i row hrow=>⟨w.heap.size,0,rfl,fun j d hd=>?_⟩⟩ hst
 ·obtain⟨i,hi⟩:=Cw hrow;exact hrl i row hi
 ·have hi:i<vss.length:=by rw[g1];exact(Ac.1 hrow).1
  have hav:=g2 i row _ hrow (Af hi);obtain⟨v,h7,h8⟩:=hav.get hd;have hall:∀x∈vss,x.length=ie.size:=by
   intro x hx;obtain⟨m,hm⟩:=Cw hx;have hm':m<rows.length:=by rw[<-g1];exact(Ac.1 hm).1
   rw[(g2 m _ x (Af hm') hm).length];exact hrl m _ (Af hm')
  refine⟨v,?_,.inr rfl,d.mono _ _ _ _ v hst.ex.good h8,d.cell (hone i row hrow d (Aw hd)) _ _ _ h8⟩;rw[cell_of_row _ w.heap.size _ _ e (0,0) (heap_alloc_new w _)];simpa using bY hall (Af hi) h7
theorem u_buildSlice0{t:TypeId}{sz:Nat}(hB:BslT P t sz):UOp P ⟨dst,.buildSlice t 0 #[],ty,pos,aft,gd⟩ tm [] (.pv (PV.sl false sz [])) []:=by
 intro w s g a K Q ht hg hK;obtain⟨e,ie,z,h1,h2,h3,h4,h5,h6⟩:=hB.h;have er:∀f:Nat->Value,Array.map f (Array.range 0)= #[]:=fun f=>Array.eq_empty_of_size_eq_zero (by simp)
 have he:(execOp a.eval ⟨dst,.buildSlice t 0 #[],ty,pos,aft,gd⟩).run P w= .ok (.value (.slice (some ⟨w.heap.size,0,none⟩) 0 0)) (w.alloc (.cells #[] e)):=
  yG (s:=Instr.buildSlice t 0 _) (by simp[Instr.buildSlice,run_underlying h1,sizeOf,typeInfo,h2,Instr.fill,newRow,er])
 unfold Oper.wp;rw[he];exact hK _ _ g _ ⟨_,0,rfl,Ap _,by omega,(fun _ h=>by cases h),(fun i row h=>by simp at h)⟩ (Stp.newStable (g:=g) hg.lt _)
structure PStp(w:World)(s:Sb)(w':World)(s':Sb):Prop where
 ex:Ex w s w' s'
 lt:∀B o,s' B o->B<w'.heap.size
 os:w'.os=w.os
 tape:w'.tape=w.tape
 output:w'.output=w.output
 size:w.heap.size<=w'.heap.size
 block:∀N,N<w.heap.size->w'.heap[N]?=w.heap[N]?
 st:∀B o,s' B o->s B o\/w.heap.size<=B
 sst:∀B o,s'.st B o->s.st B o\/w.heap.size<=B
theorem PStp.stp{w w':World}{s s':Sb}(h:PStp w s w' s')(g:Gh):Stp w s g [] w' s' g []:=
 ⟨h.ex,h.lt,GLe.refl g,fun _ _=>⟨rfl,fun _=>rfl⟩,h.os,h.tape,h.output,h.size,fun N hN _=>h.block N hN,fun B o hs=>(h.st B o hs).elim .inl fun x=> .inr (.inl x),fun B o hs=>(h.sst B o hs).elim .inl fun x=> .inr (.inl x),(fun _ _ h=>by cases h),(fun _ _ _ h=>by cases h),(fun _ _ _ _ _ h=>by cases h),(fun _ _ h=>by cases h)⟩
theorem PStp.below{w w':World}{s s':Sb}(h:PStp w s w' s'):Below w.heap.size w w':=⟨h.os,h.tape,h.output,h.size,h.block⟩
structure Bod(P:Program)(f:FuncId):Prop where
 h:∃fn,P.funcs[f]?=some fn/\(fn.name== "runtime.NumGoroutine")=false/\fn.body.isNone=false
structure PFun(P:Program)(f:FuncId)(args:List PV)(out:PV):Prop where
 bod:Bod P f
 run:∀(w:World)(s:Sb)(vs:List Value),(∀B o,s B o->B<w.heap.size)->Glb w s->AllV w s args vs->Calls P f vs.toArray w fun e w'=>∃s' v,e= .returned v/\out.p w' s' v/\PStp w s w' s'
theorem mD{P:Program}{f:FuncId}(h:Bod P f)(args:Array Value)(w:World):(callFunc f args).run P w= .ok (.enter f args) w:=by
 obtain⟨fn,h1,h2,h3⟩:=h.h;have hp:(program:Sem Program).run P w= .ok P w:=rfl;simp only[callFunc,Sem.run_bind,hp,Result.andThen_ok,h1,h2,h3,if_false,Bw,Sem.run_pure]
end
section
variable{P:Program}{b:Ba}{ops:Array Oper}
def Gd(ops:Array Oper)(tm:List (Nat×TV)):Option (Nat×Bool)->Bool->Prop
 |none,yes=>yes=true
 |some (j,want),yes=>∃t c,(ops[j]?).bind (·.dst)=some t/\fnd t tm=some (.pv (PV.lit (.bool c)))/\(c==want)=yes
theorem Gd.wanted{w:World}{s:Sb}{g:Gh}{tm:List (Nat×TV)}{a:Act}(ht:qW w s g tm a){o:Oper}{yes:Bool}(h:Gd ops tm o.guard yes):Region.wanted o (yielded ops a.tmps)=yes:=by
 unfold Region.wanted
 cases hg:o.guard with
 |none=>rw[hg]at h;exact Eq.symm h
 |some x=>
  obtain⟨j,want⟩:=x;rw[hg]at h;obtain⟨t,c,h1,h2,h3⟩:=h;obtain⟨v,h4,h5⟩:=ht t _ h2;have e:v= .bool c:=h5;subst e;have hy:yielded ops a.tmps j=some c:=by unfold yielded;rw[h1];simp[h4]
  simp only[hy];rw[<-h3]
  cases c<;>cases want<;>rfl
def putT(dst:Option Tmp)(d:TV)(tm:List (Nat×TV)):List (Nat×TV):=match dst with|some t=>(t,d)::tm|none=>tm
def dstB(dst:Option Tmp)(n:Nat):Bool:=match dst with|some t=>Nat.blt t n|none=>true
theorem yQ0{dst:Option Tmp}{n:Nat}(h:dstB dst n=true):∀d,dst=some d->d<n:=by
 rintro d rfl;exact An h
def Run(P:Program)(b:Ba)(ops:Array Oper)(l:List Oper)(S:Ste)(K:Ste->Prop):Prop:=
 ∀(w:World)(s:Sb)(g:Gh)(a:Act)(Q:Exit->Act->World->Prop),Rel b w s g S a->(∀w' s' g' a' S',Rel b w' s' g' S' a'->K S'->Q .normal a' w')->wpList P ops Q l a w
theorem run_nil{S:Ste}{K:Ste->Prop}(h:K S):Run P b ops [] S K:=fun w s g a _ hr hK=>hK w s g a S hr h
theorem Rel.congr{w:World}{s:Sb}{g:Gh}{tm tm':List (Nat×TV)}{ow ow':List (Nat×Own)}{nx nx':Nat}{a:Act}(h:Rel b w s g ⟨tm,ow,nx⟩ a)(ht:∀t d,fnd t tm'=some d->fnd t tm=some d)(ho:∀k c,fnd k ow'=some c->fnd k ow=some c)(hn:nx<=nx'):Rel b w s g ⟨tm',ow',nx'⟩ a:=
 ⟨h.kp,h.lt,h.sz,fun t d hf=>h.tm t d (ht t d hf),fun k c hf=>h.ow k c (ho k c hf),fun k k' c c' N h1 h2=>h.sep k k' c c' N (ho k c h1) (ho k' c' h2),fun k hk=>h.fr k (Bg hn hk),h.df,h.gb⟩
theorem Rel.tmok{w:World}{s:Sb}{g:Gh}{S:Ste}{a:Act}(h:Rel b w s g S a):qW w s g S.tm a:=h.tm
theorem run_u{o:Oper}{rest:List Oper}{tm:List (Nat×TV)}{ow:List (Nat×Own)}{nx:Nat}{out:TV}{K:Ste->Prop}(hu:UOp P o tm [] out [])(hg:Gd ops tm o.guard true)(hd:dstB o.dst b.sz=true)(h:Run P b ops rest ⟨putT o.dst out tm,ow,nx⟩ K):Run P b ops (o::rest) ⟨tm,ow,nx⟩ K:=by
 intro w s g a Q hr hK;refine wpList_step fun K' hK'=>?_;rw[hg.wanted hr.tmok];simp only[if_true];refine hu w s g a K' Q hr.tmok ⟨hr.lt,(fun k c h=>by cases h),(fun k k' c c' N h=>by cases h),(fun k c h=>by cases h),hr.kp.gb⟩ fun w' s' g' v hv hp=>hK' _ _ (h w' s' g' _ Q ?_ hK);exact(hr.step (nx:=nx) hp (fun k c h=>by cases h) (fun k c h=>by cases h) (Ap _) (fun k c h=>by cases h) (yQ0 hd) hv).congr (fun _ _ h=>h) (fun _ _ h=>h) (Ap _)
theorem vV{k j:Nat}{c c0:Own}(h:fnd j [(k,c0)]=some c):j=k/\c=c0:=by
 rw[zY]at h;by_cases e:k=j
 ·simp only[e,if_true]at h;cases h;exact⟨e.symm,rfl⟩
 ·simp only[e,if_false]at h;cases h
def Cod(P:Program)(b:Ba)(c:Code)(S:Ste)(K:Exit->Ste->Prop):Prop:=
 ∀(w:World)(s:Sb)(g:Gh)(a:Act)(Q:Exit->Act->World->Prop),Rel b w s g S a->(∀ex w' s' g' a' S',Rel b w' s' g' S' a'->K ex S'->Q ex a' w')->c.wp P Q a w
def Le(b:Ba)(S S':Ste):Prop:=∀w s g a,Rel b w s g S a->∃s' g',Rel b w s' g' S' a
theorem least_exists{p:Nat->Prop}:∀(n:Nat),p n->∃m,p m/\∀k,p k->m<=k:=by
 intro n;induction n using Nat.strongRecOn with
 |ind n ih=>
  intro h;by_cases hm:∃k,k<n/\p k
  ·obtain⟨k,h1,h2⟩:=hm;exact ih k h1 h2
  ·refine⟨n,h,fun k hk=>?_⟩;rcases Bm k n with h1|h1
   ·exact absurd ⟨k,h1,hk⟩ hm
   ·exact h1
open Classical in
noncomputable def xN (p:Nat->Prop):Nat:=if h:∃m,p m/\∀k,p k->m<=k then Classical.choose h else 0
theorem kZ{p:Nat->Prop}(h:∃n,p n):p (xN p)/\∀k,p k->xN p<=k:=by
 obtain⟨n,hn⟩:=h;have hm:=least_exists n hn;unfold xN;rw[dif_pos hm];exact Classical.choose_spec hm
theorem leastOf_le{p:Nat->Prop}{n:Nat}(h:p n):xN p<=n:=(kZ ⟨n,h⟩).2 n h
theorem cod_loop{ι:Type}(I:ι->Ste)(μ:ι->Nat){c:Code}{S:Ste}{K:Exit->Ste->Prop}(x0:ι)(h0:Le b S (I x0))
  (h:∀x,Cod P b c (I x) fun ex S'=>match ex with| .normal=>∃y,Le b S' (I y)/\μ y<μ x|e=>K e S'):Cod P b (.loop c) S K:=by
 intro w s g a Q hr hK
 let p:Act->World->Nat->Prop:=fun a w n=>∃y s g,Rel b w s g (I y) a/\μ y=n
 obtain⟨s',g',h1⟩:=h0 w s g a hr;refine wp_loop (fun a' w'=>∃n,p a' w' n) (fun a' w'=>xN (p a' w')) ⟨_,x0,s',g',h1,rfl⟩ ?_;intro a' w' hI;obtain⟨y,s2,g2,h2,h3⟩:=(kZ hI).1;refine h y w' s2 g2 a' _ h2 fun ex w3 s3 g3 a3 S3 h4 h5=>?_
 cases ex with
 |normal=>
  obtain⟨z,h6,h7⟩:=h5;obtain⟨s4,g4,h8⟩:=h6 w3 s3 g3 a3 h4;have h9:p a3 w3 (μ z):=⟨z,s4,g4,h8,rfl⟩;refine⟨⟨_,h9⟩,?_⟩;have:=leastOf_le h9;show xN (p a3 w3)<xN (p a' w');omega
 |_=>exact hK _ w3 s3 g3 a3 S3 h4 h5
end
section
variable{P:Program}
def Res1(P:Program)(S:Ste):ResultVar->PV->Prop
 | .tmp t,d=>∃x,fnd t S.tm=some x/\x.toPV=some d
 | .cell t ty,d=>∃k off bt cs,fnd t S.tm=some (.bp k off)/\fnd k S.ow=some (.box bt cs)/\((OneT P ty/\∃e,cs[off]?=some e/\e.toPV=some d)\/∃n ds,RowT P ty n/\ds.length=n/\((cs.drop off).take n).map TV.toPV=ds.map some/\PV.agg ds=d)
def jC(tmps:Array Value):ResultVar->Sem Value
 | .tmp t=>pure (tmps.getD t undef)
 | .cell a t=>do loadVar t (<-asAddr (tmps.getD a undef))
theorem Res1.run{b:Ba}{w:World}{s:Sb}{g:Gh}{S:Ste}{a:Act}(hr:Rel b w s g S a){r:ResultVar}{d:PV}(h:Res1 P S r d):∃v,(jC a.tmps r).run P w= .ok v w/\d.p w s v:=by
 cases r with
 |tmp t=>
  obtain⟨x,h1,h2⟩:=h;obtain⟨v,h3,h4⟩:=hr.tm t x h1;exact⟨v,by simp[jC,h3],TV.weak h2 h4⟩
 |cell t ty=>
  obtain⟨k,off,bt,cs,h1,h2,h3⟩:=h;obtain⟨v,h4,N,h5,rfl⟩:=hr.tm t _ h1;obtain⟨M,vs,h6,h7,h8,_⟩:=(hr.ow k _ h2).1;rw[h5]at h6;cases h6;have e:∀u,(Instr.loadAt ty (.pointer (some ⟨N,off,none⟩))).run P w= .ok u w->(jC a.tmps (.cell t ty)).run P w= .ok u w:=by
   intro u hu;rw[<-hu];simp[jC,h4,Instr.loadAt,Instr.sureAddr,asAddr]
  rcases h3 with⟨hT,e1,h9,h10⟩|⟨n,ds,hT,hl,h9,rfl⟩
  ·obtain⟨u,h11,h12⟩:=h8.get h9;exact⟨u,e u (hT.load (by rw[cell_of_row w N off _ bt (0,0) h7];simpa using h11)),TV.weak h10 h12⟩
  ·have h11:=AllT.weak h9 ((h8.drop off).take n);exact⟨_,e _ (hT.load (by rw[h11.length,hl]) (pX h7 off n)),_,rfl,h11⟩
theorem uN(fn:Func)(tmps:Array Value):results fn tmps=(do let vs<-fn.results.mapM (jC tmps);pure (if h:vs.size=1 then vs[0]else .tuple vs)):=by
 have:jC tmps=(fun| .tmp t=>pure (tmps.getD t undef)| .cell a t=>do loadVar t (<-asAddr (tmps.getD a undef))):=by
  funext r;cases r<;>rfl
 rw[this];rfl
theorem mZ{fn:Func}{r:ResultVar}(h:fn.results= #[r]){tmps:Array Value}{w:World}{v:Value}(h1:(jC tmps r).run P w= .ok v w):(results fn tmps).run P w= .ok v w:=by
 rw[uN,h];simp[h1]
theorem mY{fn:Func}{r q:ResultVar}(h:fn.results= #[r,q]){tmps:Array Value}{w:World}{v u:Value}(h1:(jC tmps r).run P w= .ok v w)(h2:(jC tmps q).run P w= .ok u w):(results fn tmps).run P w= .ok (.tuple #[v,u]) w:=by
 rw[uN,h];simp[h1,h2]
theorem gA{fn:Func}{r q x:ResultVar}(h:fn.results= #[r,q,x]){tmps:Array Value}{w:World}{v u y:Value}(h1:(jC tmps r).run P w= .ok v w)(h2:(jC tmps q).run P w= .ok u w)(h3:(jC tmps x).run P w= .ok y w):(results fn tmps).run P w= .ok (.tuple #[v,u,y]) w:=by
 rw[uN,h];simp[h1,h2,h3]
theorem results_four{fn:Func}{r q x y:ResultVar}(h:fn.results= #[r,q,x,y]){tmps:Array Value}{w:World}{v1 v2 v3 v4:Value}(h1:(jC tmps r).run P w= .ok v1 w)(h2:(jC tmps q).run P w= .ok v2 w)(h3:(jC tmps x).run P w= .ok v3 w)(h4:(jC tmps y).run P w= .ok v4 w):(results fn tmps).run P w= .ok (.tuple #[v1,v2,v3,v4]) w:=by
 rw[uN,h];simp[h1,h2,h3,h4]
theorem results_five{fn:Func}{r q x y z:ResultVar}(h:fn.results= #[r,q,x,y,z]){tmps:Array Value}{w:World}{v1 v2 v3 v4 v5:Value}(h1:(jC tmps r).run P w= .ok v1 w)(h2:(jC tmps q).run P w= .ok v2 w)(h3:(jC tmps x).run P w= .ok v3 w)(h4:(jC tmps y).run P w= .ok v4 w)(h5:(jC tmps z).run P w= .ok v5 w):(results fn tmps).run P w= .ok (.tuple #[v1,v2,v3,v4,v5]) w:=by
 rw[uN,h];simp[h1,h2,h3,h4,h5]
def Fin(P:Program)(rs:Array ResultVar)(out:PV)(ex:Exit)(S:Ste):Prop:=
 (ex= .ret\/ex= .normal)/\match rs.toList with
  |[r]=>Res1 P S r out
  |[r,q]=>∃d e,Res1 P S r d/\Res1 P S q e/\PV.tup [d,e]=out
  |[r,q,x]=>∃d e f,Res1 P S r d/\Res1 P S q e/\Res1 P S x f/\PV.tup [d,e,f]=out
  |[r,q,x,y]=>∃d e f g,Res1 P S r d/\Res1 P S q e/\Res1 P S x f/\Res1 P S y g/\PV.tup [d,e,f,g]=out
  |[r,q,x,y,z]=>∃d e f g i,Res1 P S r d/\Res1 P S q e/\Res1 P S x f/\Res1 P S y g/\Res1 P S z i/\PV.tup [d,e,f,g,i]=out
  |_=>False
theorem Fin.post{b:Ba}{fn:Func}{out:PV}{R:Ending->World->Prop}{ex:Exit}{w:World}{s:Sb}{g:Gh}{S:Ste}{a:Act}(hr:Rel b w s g S a)(h:Fin P fn.results out ex S)(hR:∀v,out.p w s v->R (.returned v) w)(hdf:b.df=[]:=by rfl):bodyPost P fn R ex a w:=by
 obtain⟨he,h⟩:=h;have key:a.defers=[]/\∃v,(results fn a.tmps).run P w= .ok v w/\R (.returned v) w:=by
  refine⟨hr.df.trans hdf,?_⟩;have hrs:∃l,fn.results=List.toArray l:=⟨fn.results.toList,by simp⟩;obtain⟨l,hl⟩:=hrs;rw[hl]at h
  match l,h with
  |[r],h=>
   obtain⟨v,h1,h2⟩:=Res1.run hr h;exact⟨v,mZ hl h1,hR v h2⟩
  |[r,q],h=>
   obtain⟨d,e,h1,h2,rfl⟩:=h;obtain⟨v,h3,h4⟩:=Res1.run hr h1;obtain⟨u,h5,h6⟩:=Res1.run hr h2;exact⟨_,mY hl h3 h5,hR _ ⟨[v,u],rfl,h4,h6,trivial⟩⟩
  |[r,q,x],h=>
   obtain⟨d,e,f,h1,h2,h3,rfl⟩:=h;obtain⟨v,h4,h5⟩:=Res1.run hr h1;obtain⟨u,h6,h7⟩:=Res1.run hr h2;obtain⟨y,h8,h9⟩:=Res1.run hr h3;exact⟨_,gA hl h4 h6 h8,hR _ ⟨[v,u,y],rfl,h5,h7,h9,trivial⟩⟩
  |[r,q,x,y],h=>
   obtain⟨d,e,f,g,h1,h2,h3,h4,rfl⟩:=h;obtain⟨v1,k1,m1⟩:=Res1.run hr h1;obtain⟨v2,k2,m2⟩:=Res1.run hr h2;obtain⟨v3,k3,m3⟩:=Res1.run hr h3;obtain⟨v4,k4,m4⟩:=Res1.run hr h4;exact⟨_,results_four hl k1 k2 k3 k4,hR _ ⟨[v1,v2,v3,v4],rfl,m1,m2,m3,m4,trivial⟩⟩
  |[r,q,x,y,z],h=>
   obtain⟨d,e,f,g,i,h1,h2,h3,h4,h5,rfl⟩:=h;obtain⟨v1,k1,m1⟩:=Res1.run hr h1;obtain⟨v2,k2,m2⟩:=Res1.run hr h2;obtain⟨v3,k3,m3⟩:=Res1.run hr h3;obtain⟨v4,k4,m4⟩:=Res1.run hr h4;obtain⟨v5,k5,m5⟩:=Res1.run hr h5;exact⟨_,results_five hl k1 k2 k3 k4 k5,hR _ ⟨[v1,v2,v3,v4,v5],rfl,m1,m2,m3,m4,m5,trivial⟩⟩
  |[],h=>exact h.elim
  |_::_::_::_::_::_::_,h=>exact h.elim
 rcases he with rfl|rfl<;>exact key
section
variable{b:Ba}
mutual
def idB(n:Nat):TV->Bool
 | .pv _=>true
 | .bp k _=>Nat.blt k n
 | .own k _ _=>Nat.blt k n
 | .g _ d=>idB n d
 | .agg l=>idBs n l
 | .tup l=>idBs n l
 | .mo k _=>Nat.blt k n
 | .mp k _ _=>Nat.blt k n
 | .clo _ l=>idBs n l
 | .mk k=>Nat.blt k n
 | .mw k _ _ _ _=>Nat.blt k n
def idBs(n:Nat):List TV->Bool
 |[]=>true
 |d::l=>idB n d&&idBs n l
end
def idO(n:Nat):Own->Bool
 | .box _ cs=>idBs n cs
 |_=>true
def cutG(g:Gh)(n:Nat):Gh:=⟨fun k=>if k<n then g.bx k else none,fun k m=>if k<n then g.gn k m else none⟩
mutual
theorem TV.cut{w:World}{s:Sb}{g:Gh}{n:Nat}{d:TV}{v:Value}(hi:idB n d=true)(h:d.P w s g v):d.P w s (cutG g n) v:=by
 match d,hi,h with
 | .pv d,_,h=>exact h
 | .bp k off,hi,h=>
  rw[TV.P]at h⊢;obtain⟨N,h1,h2⟩:=h;exact⟨N,by simp[cutG,h1,show k<n from An hi],h2⟩
 | .own k sz rows,hi,h=>
  rw[TV.P]at h⊢;exact⟨h.1,by simp[cutG,h.2,show k<n from An hi]⟩
 | .g c d,hi,h=>
  rw[TV.P]at h⊢;rw[idB]at hi;exact⟨fun e=>TV.cut hi (h.1 e),h.2⟩
 | .agg l,hi,h=>
  rw[TV.P]at h⊢;rw[idB]at hi;obtain⟨vs,h1,h2⟩:=h;exact⟨vs,h1,AllT.cut hi h2⟩
 | .tup l,hi,h=>
  rw[TV.P]at h⊢;rw[idB]at hi;obtain⟨vs,h1,h2⟩:=h;exact⟨vs,h1,AllT.cut hi h2⟩
 | .mo k m,hi,h=>
  rw[TV.P]at h⊢;exact⟨by simp[cutG,h.1,show k<n from An hi],h.2⟩
 | .mp k m off,hi,h=>
  rw[TV.P]at h⊢;obtain⟨G,c,h1,h2⟩:=h;exact⟨G,c,by simp[cutG,h1,show k<n from An hi],h2⟩
 | .clo f l,hi,h=>
  rw[TV.P]at h⊢;rw[idB]at hi;obtain⟨vs,h1,h2⟩:=h;exact⟨vs,h1,AllT.cut hi h2⟩
 | .mk k,hi,h=>
  rw[TV.P]at h⊢;obtain⟨N,h1,h2⟩:=h;exact⟨N,by simp[cutG,h1,show k<n from An hi],h2⟩
 | .mw k q i sz m,hi,h=>
  rw[TV.P]at h⊢;obtain⟨G,c,h1,h2⟩:=h;exact⟨G,c,by simp[cutG,h1,show k<n from An hi],h2⟩
theorem AllT.cut{w:World}{s:Sb}{g:Gh}{n:Nat}{l:List TV}{vs:List Value}(hi:idBs n l=true)(h:AllT w s g l vs):AllT w s (cutG g n) l vs:=by
 match l,vs,hi,h with
 |[],[],_,_=>rw[AllT];trivial
 |d::l,v::vs,hi,h=>
  rw[idBs,Ah]at hi;rw[AllT]at h⊢;exact⟨TV.cut hi.1 h.1,AllT.cut hi.2 h.2⟩
 |[],_::_,_,h=>simp[AllT]at h
 |_::_,[],_,h=>simp[AllT]at h
end
theorem kS{g:Gh}{n k:Nat}(h:k<n)(c:Own):blk (cutG g n) k c=blk g k c:=by
 match c with
 | .box _ _=>simp[blk,cutG,h]
 | .row _ _ _=>simp[blk,cutG,h]
 | .mrow _ _ _=>simp[blk,cutG,h]
 | .map _=>simp[blk,cutG,h]
 | .itr _=>simp[blk,cutG,h]
theorem Rel.cut{w:World}{s:Sb}{g:Gh}{tm:List (Nat×TV)}{ow:List (Nat×Own)}{nx:Nat}{a:Act}(h:Rel b w s g ⟨tm,ow,nx⟩ a)(n:Nat)(hn:40<=n)(ht:tm.all (fun x=>idB n x.2)=true)(ho:ow.all (fun x=>Nat.blt x.1 n&&idO n x.2)=true):Rel b w s (cutG g n) ⟨tm,ow,n⟩ a:=by
 have hk:∀k c,fnd k ow=some c->k<n/\idO n c=true:=fun k c hf=>by
  have:=Bt.1 ho _ (jG hf);simp only[Ah]at this;exact⟨An this.1,this.2⟩
 refine⟨h.kp,h.lt,h.sz,fun t d hf=>?_,fun k c hf=>?_,fun k k' c c' N h1 h2 hne hb=>?_,fun k hk'=>?_,h.df,fun k hk=>?_⟩
 ·obtain⟨v,h1,h2⟩:=h.tm t d hf;exact⟨v,h1,TV.cut (Bt.1 ht _ (jG hf)) h2⟩
 ·obtain⟨h1,h2⟩:=hk k c hf;obtain⟨h3,h4⟩:=h.ow k c hf;refine⟨?_,fun N hb=>h4 N (by rw[kS h1]at hb;exact hb)⟩
  match c,h2,h3 with
  | .box t cs,h2,⟨N,vs,e1,e2,e3,e4,e5⟩=>exact⟨N,vs,by simp[cutG,h1,e1],e2,AllT.cut h2 e3,e4,e5⟩
  | .row t sz len,_,⟨e0,v,e1,e2⟩=>exact⟨fun m hm=>by simp[cutG,h1,e0 m hm],v,by simp[cutG,h1,e1],e2⟩
  | .mrow t sz rows,_,⟨e0,v,e1,e2⟩=>exact⟨fun m hm=>by simp[cutG,h1,e0 m hm],v,by simp[cutG,h1,e1],e2⟩
  | .map es,_,⟨N,arr,clock,e1,e2⟩=>exact⟨N,arr,clock,by simp[cutG,h1,e1],e2⟩
  | .itr l,_,⟨N,b,p,n,e1,e2⟩=>exact⟨N,b,p,n,by simp[cutG,h1,e1],e2⟩
 ·rw[kS (hk k' c' h2).1];rw[kS (hk k c h1).1]at hb;exact h.sep k k' c c' N h1 h2 hne hb
 ·have:¬k<n:=Nat.not_lt.2 hk';simp[cutG,this]
 ·have hkn:k<n:=by omega
  simp only[cutG,hkn,if_true];exact h.gb k hk
end
end
structure RelF(b:Ba)(w:World)(s:Sb)(g:Gh)(tmf:Nat->Option TV)(owf:Nat->Option Own)(fr:Nat->Prop)(a:Act):Prop where
 kp:Kp b w s
 lt:∀B o,s B o->B<w.heap.size
 sz:a.tmps.size=b.sz
 tm:∀t d,tmf t=some d->∃v,a.tmps[t]?=some v/\d.P w s g v
 ow:∀k c,owf k=some c->Ok1 w s g k c/\∀N,blk g k c=some N->b.w0.heap.size<=N\/b.mx N
 sep:∀k k' c c' N,owf k=some c->owf k'=some c'->k≠k'->blk g k c=some N->blk g k' c'≠some N
 fr:∀k,fr k->g.bx k=none/\∀m,g.gn k m=none
 df:a.defers=b.df
 gb:∀k,k<40->(∀N,b.g0.bx k=some N->g.bx k=some N)/\∀m v,b.g0.gn k m=some v->g.gn k m=some v
theorem Rel.toF{b:Ba}{w:World}{s:Sb}{g:Gh}{S:Ste}{a:Act}(h:Rel b w s g S a):RelF b w s g (fun t=>fnd t S.tm) (fun k=>fnd k S.ow) (fun k=>S.nx<=k) a:=⟨h.kp,h.lt,h.sz,h.tm,h.ow,h.sep,h.fr,h.df,h.gb⟩
theorem RelF.toRel{b:Ba}{w:World}{s:Sb}{g:Gh}{tmf:Nat->Option TV}{owf:Nat->Option Own}{fr:Nat->Prop}{S:Ste}{a:Act}(h:RelF b w s g tmf owf fr a)(h1:∀t d,fnd t S.tm=some d->tmf t=some d)(h2:∀k c,fnd k S.ow=some c->owf k=some c)(h3:∀k,S.nx<=k->fr k):Rel b w s g S a:=
 ⟨h.kp,h.lt,h.sz,fun t d ht=>h.tm t d (h1 t d ht),fun k c hk=>h.ow k c (h2 k c hk),fun k k' c c' N e1 e2=>h.sep k k' c c' N (h2 k c e1) (h2 k' c' e2),fun k hk=>h.fr k (h3 k hk),h.df,h.gb⟩
def updT(tmf:Nat->Option TV)(dst:Option Tmp)(out:TV):Nat->Option TV:=match dst with|some e=>fun t=>if e=t then some out else tmf t|none=>tmf
def updO(owf:Nat->Option Own)(acc':List (Nat×Own))(k:Nat):Option Own:=match fnd k acc' with|some c=>some c|none=>owf k
theorem RelF.step{b:Ba}{w w':World}{s s':Sb}{g g':Gh}{tmf:Nat->Option TV}{owf:Nat->Option Own}{fr:Nat->Prop}{a:Act}{acc acc':List (Nat×Own)}{dst:Option Tmp}{out:TV}{v:Value}{fr':Nat->Prop}
  (h:RelF b w s g tmf owf fr a) (hp:Stp w s g acc w' s' g' acc') (ha:∀k c,fnd k acc=some c->owf k=some c)
  (hnx:∀k,fr' k->fr k/\fnd k acc'=none) (hd:∀d,dst=some d->d<b.sz) (ho:out.P w' s' g' v):RelF b w' s' g' (updT tmf dst out) (updO owf acc') fr' (a.put dst v):=by
 have hrest:∀k c,fnd k acc'=none->owf k=some c->Ok1 w' s' g' k c/\blk g' k c=blk g k c/\∀k0 c0 N,fnd k0 acc=some c0->blk g k c=some N->blk g k0 c0≠some N:=by
  intro k c hk hc;have h1:=(h.ow k c hc).1;have hne:∀k0 c0 N,fnd k0 acc=some c0->blk g k c=some N->blk g k0 c0≠some N:=by
   intro k0 c0 N h0 hb;have hkk:k0≠k:=by
    rintro rfl;obtain⟨c',hc'⟩:=hp.all k0 c0 h0;rw[hk]at hc';cases hc'
   exact h.sep k k0 c c0 N hc (ha k0 c0 h0) (Ne.symm hkk) hb
  refine⟨h1.keep hp.ex hp.gle (hp.same k hk).2 (fun N hb=>hp.block N (h1.lt hb) fun k0 c0 h0=>hne k0 c0 N h0 hb) (fun N o hb hs=>?_),gN h1 hp.gle,hne⟩;rcases hp.st N o hs with h2|h2|⟨k0,c0,h0,h2⟩
  ·exact h2
  ·have:=h1.lt hb;omega
  ·exact absurd h2 (hne k0 c0 N h0 hb)
 have hfnd:∀k c,updO owf acc' k=some c->fnd k acc'=some c\/(fnd k acc'=none/\owf k=some c):=by
  intro k c hc;unfold updO at hc
  cases hk:fnd k acc' with
  |none=>rw[hk]at hc;exact .inr ⟨rfl,hc⟩
  |some c'=>rw[hk]at hc;exact .inl hc
 refine⟨⟨h.kp.ex.trans hp.ex,fun B o hs=>?_,fun B o hs=>?_,hp.os.trans h.kp.os,hp.tape.trans h.kp.tape,hp.output.trans h.kp.output,Bg h.kp.size hp.size,fun k hk hm=>?_,h.kp.gl⟩,hp.lt,?_,?_,?_,?_,?_,?_,?_⟩
 ·rcases hp.st B o hs with h1|h1|⟨k0,c0,h0,h1⟩
  ·exact h.kp.st B o h1
  ·exact .inr (.inl (Bg h.kp.size h1))
  ·exact .inr ((h.ow k0 c0 (ha k0 c0 h0)).2 B h1)
 ·rcases hp.sst B o hs with h1|h1|⟨k0,c0,h0,h1⟩
  ·exact h.kp.sst B o h1
  ·exact .inr (.inl (Bg h.kp.size h1))
  ·exact .inr ((h.ow k0 c0 (ha k0 c0 h0)).2 B h1)
 ·refine(hp.block k (Cr hk h.kp.size) fun k0 c0 h0 hb=>?_).trans (h.kp.block k hk hm);rcases(h.ow k0 c0 (ha k0 c0 h0)).2 k hb with h1|h1
  ·omega
  ·exact hm h1
 ·rw[<-h.sz];cases dst<;>simp[Act.put]
 ·intro t d hf
  cases dst with
  |none=>
   obtain⟨u,hu,hd'⟩:=h.tm t d hf;exact⟨u,hu,TV.mono hp.ex hp.gle hd'⟩
  |some e=>
   have hf':(if e=t then some out else tmf t)=some d:=hf;rw[kC0 a e v t (by rw[h.sz];exact hd e rfl)];by_cases het:e=t
   ·simp only[het,if_true]at hf'⊢
    cases hf';exact⟨v,rfl,ho⟩
   ·simp only[het,if_false]at hf'⊢;obtain⟨u,hu,hd'⟩:=h.tm t d hf';exact⟨u,hu,TV.mono hp.ex hp.gle hd'⟩
 ·intro k c hc;rcases hfnd k c hc with h1|⟨h1,h2⟩
  ·refine⟨hp.ok k c h1,fun N hb=>?_⟩;rcases hp.nb k c N h1 hb with h3|⟨k0,c0,h0,h3⟩
   ·exact .inl (Bg h.kp.size h3)
   ·exact(h.ow k0 c0 (ha k0 c0 h0)).2 N h3
  ·obtain⟨h3,h4,_⟩:=hrest k c h1 h2;exact⟨h3,fun N hb=>(h.ow k c h2).2 N (h4▸hb)⟩
 ·intro k k' c c' N hc hc' hne hb hb';rcases hfnd k c hc with h1|⟨h1,h2⟩<;>rcases hfnd k' c' hc' with h1'|⟨h1',h2'⟩
  ·exact hp.sep k k' c c' N h1 h1' hne hb hb'
  ·obtain⟨h3,h4,h5⟩:=hrest k' c' h1' h2';rw[h4]at hb';rcases hp.nb k c N h1 hb with h6|⟨k0,c0,h0,h6⟩
   ·have:=(h.ow k' c' h2').1.lt hb';omega
   ·exact h5 k0 c0 N h0 hb' h6
  ·obtain⟨h3,h4,h5⟩:=hrest k c h1 h2;rw[h4]at hb;rcases hp.nb k' c' N h1' hb' with h6|⟨k0,c0,h0,h6⟩
   ·have:=(h.ow k c h2).1.lt hb;omega
   ·exact h5 k0 c0 N h0 hb h6
  ·obtain⟨h3,h4,_⟩:=hrest k c h1 h2;obtain⟨h3',h4',_⟩:=hrest k' c' h1' h2';rw[h4]at hb;rw[h4']at hb';exact h.sep k k' c c' N h2 h2' hne hb hb'
 ·intro k hk;obtain⟨hk',hnone⟩:=hnx k hk;obtain⟨e1,e2⟩:=hp.same k hnone;obtain⟨f1,f2⟩:=h.fr k hk';exact⟨e1.trans f1,fun m=>(e2 m).trans (f2 m)⟩
 ·rw[<-h.df];cases dst<;>rfl
 ·exact fun k hk=>⟨fun N e=>hp.gle.bx k N ((h.gb k hk).1 N e),fun m v e=>hp.gle.gn k m v ((h.gb k hk).2 m v e)⟩
theorem RelF.drew{b:Ba}{w:World}{s:Sb}{g:Gh}{tmf:Nat->Option TV}{owf:Nat->Option Own}{fr:Nat->Prop}{a:Act}(h:RelF b w s g tmf owf fr a)(n:Nat):RelF b {w with drawn:=n} s g tmf owf fr a:=by
 have hx:Ex w s {w with drawn:=n} s:=⟨fun _ _ h=>h,fun _ _ _=>rfl,fun _ _ h=>h⟩;refine⟨⟨h.kp.ex.trans hx,h.kp.st,h.kp.sst,h.kp.os,h.kp.tape,h.kp.output,h.kp.size,h.kp.block,h.kp.gl⟩,h.lt,h.sz,fun t d ht=>?_,fun k c hk=>?_,h.sep,h.fr,h.df,h.gb⟩
 ·obtain⟨v,h1,h2⟩:=h.tm t d ht;exact⟨v,h1,TV.mono hx (GLe.refl g) h2⟩
 ·obtain⟨h1,h2⟩:=h.ow k c hk;exact⟨h1.keep hx (GLe.refl g) (fun _=>rfl) (fun _ _=>rfl) (fun _ _ _ h=>h),h2⟩
theorem RelF.pan{b:Ba}{w w':World}{s s':Sb}{g:Gh}{tmf:Nat->Option TV}{owf:Nat->Option Own}{fr:Nat->Prop}{a:Act}{acc:List (Nat×Own)}(h:RelF b w s g tmf owf fr a)(hp:Pst w s g acc w' s')(ha:∀k c,fnd k acc=some c->owf k=some c):
  Rel b w' s' ⟨fun k=>if k<40 then g.bx k else none,fun k m=>if k<40 then g.gn k m else none⟩ ⟨[],[],40⟩ a:=by
 refine⟨⟨h.kp.ex.trans hp.ex,fun B o hs=>?_,fun B o hs=>?_,hp.os.trans h.kp.os,hp.tape.trans h.kp.tape,hp.output.trans h.kp.output,Bg h.kp.size hp.size,fun k hk hm=>?_,h.kp.gl⟩,hp.lt,h.sz,(fun t d ht=>by cases ht),(fun k c hk=>by cases hk),(fun k k' c c' N hk=>by cases hk),fun k hk=>?_,h.df,fun k hk=>?_⟩
 ·rcases hp.st B o hs with h1|h1|⟨k0,c0,h0,h1⟩
  ·exact h.kp.st B o h1
  ·exact .inr (.inl (Bg h.kp.size h1))
  ·exact .inr ((h.ow k0 c0 (ha k0 c0 h0)).2 B h1)
 ·rcases hp.sst B o hs with h1|h1|⟨k0,c0,h0,h1⟩
  ·exact h.kp.sst B o h1
  ·exact .inr (.inl (Bg h.kp.size h1))
  ·exact .inr ((h.ow k0 c0 (ha k0 c0 h0)).2 B h1)
 ·refine(hp.block k (Cr hk h.kp.size) fun k0 c0 h0 hb=>?_).trans (h.kp.block k hk hm);rcases(h.ow k0 c0 (ha k0 c0 h0)).2 k hb with h1|h1
  ·omega
  ·exact hm h1
 ·have hk:40<=k:=hk;have:¬k<40:=by omega
  simp[this]
 ·simp only[hk,if_true];exact h.gb k hk
structure Rw where
 dst:Option Tmp
 rd:List Nat
 ins:List (Nat×TV)
 acc:List (Nat×Own)
 out:TV
 acc':List (Nat×Own)
 wr:Bool
 did:Bool
structure Ki where
 dst:Option Tmp
 rd:List Nat
 ord:List Nat
 owr:List Nat
def Rw.ki(r:Rw):Ki:=⟨r.dst,r.rd,r.acc.map (·.1),if r.wr then r.acc'.map (·.1)else []⟩
def Wd(ops:Array Oper)(o:Oper)(tm:List (Nat×TV))(b:Bool):Prop:=∀w s g a,qW w s g tm a->Region.wanted o (yielded ops a.tmps)=b
structure RowOk(P:Program)(E:Pn)(ops:Array Oper)(sz nx0 st i:Nat)(o:Oper)(tm:Nat->Option TV)(ow:Nat->Option Own)(r:Rw):Prop where
 dst:r.dst=o.dst
 ins:∀t d,fnd t r.ins=some d->t∈r.rd/\tm t=some d
 acc:∀k c,fnd k r.acc=some c->ow k=some c
 same:r.wr=false->∀k c,fnd k r.acc'=some c->fnd k r.acc=some c
 new:∀k c,fnd k r.acc'=some c->(∃c0,fnd k r.acc=some c0)\/(nx0+st*i<=k/\k<nx0+st*(i+1))
 lt:dstB o.dst sz=true
 hop:(r.did=true->UOpE P E o r.ins r.acc r.out r.acc'/\Wd ops o r.ins true)/\(r.did=false->Wd ops o r.ins false/\(∀w s g,r.out.P w s g undef)/\r.acc=[]/\r.acc'=[])
def tmAt(rows:List Rw)(L:Nat->Bool)(tm0:Nat->Option TV):Nat->Nat->Option TV
 |0,t=>tm0 t
 |m+1,t=>match rows[m]? with
  |some r=>if L m=true/\r.dst=some t then some r.out else tmAt rows L tm0 m t
  |none=>tmAt rows L tm0 m t
def owAt(rows:List Rw)(L:Nat->Bool)(ow0:Nat->Option Own):Nat->Nat->Option Own
 |0,k=>ow0 k
 |m+1,k=>match rows[m]? with
  |some r=>if L m=true/\(r.wr=true/\(fnd k r.acc').isSome=true)then fnd k r.acc' else owAt rows L ow0 m k
  |none=>owAt rows L ow0 m k
def dK(a b:Ki):Bool:=
 (match a.dst with|some t=>b.rd.any (Nat.beq t)||(match b.dst with|some u=>Nat.beq t u|none=>false)|none=>false)||(match b.dst with|some t=>a.rd.any (Nat.beq t)|none=>false)||
 a.owr.any (fun k=>b.ord.any (Nat.beq k)||b.owr.any (Nat.beq k))||b.owr.any (fun k=>a.ord.any (Nat.beq k))
def mT0(ops:Array Oper)(anc:List (List Nat)):Prop:=
 ∀j o,ops[j]?=some o->(∀e∈o.after,Region.binds .any e=true->e.on<j)/\∀i∈anc.getD j [],∃e∈o.after,Region.binds .any e=true/\(e.on=i\/i∈anc.getD e.on [])
theorem tK{t:Nat}{l:List Nat}(h:t∈l):l.any (Nat.beq t)=true:=Cj.2 ⟨t,h,Nat.beq_refl t⟩
theorem xF0{a b:Ki}{t:Nat}(ha:a.dst=some t)(hb:t∈b.rd\/b.dst=some t):dK a b=true:=by
 unfold dK;rw[ha];rcases hb with h|h
 ·simp[tK h]
 ·simp[h,Nat.beq_refl]
theorem confl_r{a b:Ki}{t:Nat}(ha:t∈a.rd)(hb:b.dst=some t):dK a b=true:=by
 unfold dK;rw[hb];simp[tK ha]
theorem tI{a b:Ki}{k:Nat}(ha:k∈a.owr)(hb:k∈b.ord\/k∈b.owr):dK a b=true:=by
 unfold dK;have:a.owr.any (fun k=>b.ord.any (Nat.beq k)||b.owr.any (Nat.beq k))=true:=Cj.2 ⟨k,ha,by rcases hb with h|h<;>simp[tK h]⟩
 simp[this]
theorem confl_or{a b:Ki}{k:Nat}(hb:k∈b.owr)(ha:k∈a.ord):dK a b=true:=by
 unfold dK;have:b.owr.any (fun k=>a.ord.any (Nat.beq k))=true:=Cj.2 ⟨k,hb,tK ha⟩;simp[this]
theorem uB0{ops:Array Oper}{anc:List (List Nat)}(h:mT0 ops anc){L:Nat->Bool}(hcl:∀j o,ops[j]?=some o->L j=true->∀e∈o.after,Region.binds .any e=true->L e.on=true):
  ∀(j:Nat),(∀o,ops[j]?=some o->∀e∈o.after,Region.binds .any e=true->L e.on=true)->(∃o,ops[j]?=some o)->∀i∈anc.getD j [],L i=true:=by
 intro j;induction j using Nat.strongRecOn with
 |ind j ih=>
  intro hd ⟨o,ho⟩ i hi;obtain⟨h1,h2⟩:=h j o ho;obtain⟨e,he,hb,h3⟩:=h2 i hi;have hL:=hd o ho e he hb;rcases h3 with rfl|h3
  ·exact hL
  ·have hlt:=h1 e he hb;have hj:j<ops.size:=(Bi.1 ho).1;exact ih e.on hlt (fun o' ho'=>hcl _ _ ho' hL) ⟨_,Array.getElem?_eq_getElem om⟩ i h3
section
variable{rows:List Rw}{tm0:Nat->Option TV}{ow0:Nat->Option Own}{L L':Nat->Bool}
theorem kC{t n:Nat}(h:∀m r,m<n->rows[m]?=some r->r.dst=some t->L m=L' m):tmAt rows L tm0 n t=tmAt rows L' tm0 n t:=by
 induction n with
 |zero=>rfl
 |succ n ih=>
  have ih':=ih fun m r hm=>h m r om;unfold tmAt
  cases hr:rows[n]? with
  |none=>exact ih'
  |some r=>
   simp only;by_cases hd:r.dst=some t
   ·rw[h n r om hr hd,ih']
   ·simp only[hd,and_false,if_false];exact ih'
theorem mT{t m n:Nat}(hmn:m<=n)(h:∀i r,m<=i->i<n->rows[i]?=some r->r.dst=some t->L i=false):tmAt rows L tm0 n t=tmAt rows L tm0 m t:=by
 induction n with
 |zero=>
  have:m=0:=by omega
  subst this;rfl
 |succ n ih=>
  rcases Bm n m with h1|h1
  ·have:m=n+1:=by omega
   subst this;rfl
  ·rw[<-ih h1 fun i r h2 h3=>h i r h2 om];show tmAt rows L tm0 (n+1) t=_;unfold tmAt
   cases hr:rows[n]? with
   |none=>simp only;cases n<;>rfl
   |some r=>
    simp only;by_cases hd:r.dst=some t
    ·rw[h n r h1 om hr hd];simp only[Bw,false_and,if_false]
     cases n<;>rfl
    ·simp only[hd,and_false,if_false]
     cases n<;>rfl
def ownw(r:Rw)(k:Nat):Prop:=r.wr=true/\(fnd k r.acc').isSome=true
theorem kJ{t n:Nat}(h:∀m r,m<n->rows[m]?=some r->ownw r t->L m=L' m):owAt rows L ow0 n t=owAt rows L' ow0 n t:=by
 induction n with
 |zero=>rfl
 |succ n ih=>
  have ih':=ih fun m r hm=>h m r om;unfold owAt
  cases hr:rows[n]? with
  |none=>exact ih'
  |some r=>
   simp only;by_cases hd:r.wr=true/\(fnd t r.acc').isSome=true
   ·rw[h n r om hr hd,ih']
   ·simp only[hd,and_false,if_false];exact ih'
theorem pA{t m n:Nat}(hmn:m<=n)(h:∀i r,m<=i->i<n->rows[i]?=some r->ownw r t->L i=false):owAt rows L ow0 n t=owAt rows L ow0 m t:=by
 induction n with
 |zero=>
  have:m=0:=by omega
  subst this;rfl
 |succ n ih=>
  rcases Bm n m with h1|h1
  ·have:m=n+1:=by omega
   subst this;rfl
  ·rw[<-ih h1 fun i r h2 h3=>h i r h2 om];show owAt rows L ow0 (n+1) t=_;unfold owAt
   cases hr:rows[n]? with
   |none=>simp only;cases n<;>rfl
   |some r=>
    simp only;by_cases hd:r.wr=true/\(fnd t r.acc').isSome=true
    ·rw[h n r h1 om hr hd];simp only[Bw,false_and,if_false]
     cases n<;>rfl
    ·simp only[hd,and_false,if_false]
     cases n<;>rfl
end
end Go.Proofs.YtmakjjodkiedmaaGreatDoor
