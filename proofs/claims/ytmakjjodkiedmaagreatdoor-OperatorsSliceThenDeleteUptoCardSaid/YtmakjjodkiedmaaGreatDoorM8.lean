/-Part 8 of the proof. -/
import Derived.Test.YtmakjjodkiedmaaGreatDoorM5
namespace Go.Proofs.YtmakjjodkiedmaaGreatDoor
open Go.RowKit
theorem qB0:∀{l:List PV}{d:PV},strs l=true->d∈l->d.str=true
 |[],_,_,h=>by cases h
 |e::l,d,h,hd=>by
  unfold strs at h
  cases he:e.str with
  |false=>rw[he]at h;cases h
  |true=>
   rw[he]at h;rcases Bc.1 hd with rfl|hd
   ·exact he
   ·exact qB0 h hd
section
variable{P:Program}{tm:List (Nat×TV)}{dst:Option Tmp}{ty:TypeId}{pos:String}{aft:Array Edge}{gd:Option (Nat×Bool)}
theorem u_idxA1{x y:Operand}{t e:TypeId}{c q:Nat}{k:IntKind}{i:Int}{l:List TV}{d:TV}(hA:ArT P t c q e)(h1:OneT P e)(hx:Opd tm x (.agg l))(hy:Opd tm y (.pv (PV.lit (.int k i))))(h0:0<=i)(hc:i.toNat<c)(hd:l[i.toNat*q]?=some d):UOp P ⟨dst,.index t x y,ty,pos,aft,gd⟩ tm [] d []:=
 UOp.pure fun w s g a ht=>by
  obtain⟨vs,h2,h3⟩:=Opd.eval ht hx;have h4:a.eval y= .int k i:=Opd.lit ht hy;obtain⟨hu,hs⟩:=hA.h;obtain⟨v,h8,h9⟩:=h3.get hd;refine⟨v,yG (s:=Instr.index t (a.eval x) (a.eval y)) ?_,h9⟩;have hb:0<=i/\i<(c:Int):=⟨h0,by omega⟩;simp[Instr.index,run_underlying hu,h2,h4,asIntOf,part,cM h1,qG hs,h8,hb]
theorem u_idxAR{x y:Operand}{t e:TypeId}{c q:Nat}{k:IntKind}{i:Int}{l:List TV}{n:Nat}(hA:ArT P t c q e)(h1:RowT P e n)(hx:Opd tm x (.agg l))(hy:Opd tm y (.pv (PV.lit (.int k i))))(h0:0<=i)(hc:i.toNat<c)(hl:i.toNat*q+n<=l.length):UOp P ⟨dst,.index t x y,ty,pos,aft,gd⟩ tm [] (.agg ((l.drop (i.toNat*q)).take n)) []:=
 UOp.pure fun w s g a ht=>by
  obtain⟨vs,h2,h3⟩:=Opd.eval ht hx;have h4:a.eval y= .int k i:=Opd.lit ht hy;obtain⟨hu,hs⟩:=hA.h;have hq:q=n:=by
   have:=h1.size;rw[hs]at this;exact Option.some.inj this
  subst hq;refine⟨.agg ((vs.drop (i.toNat*q)).take q).toArray,yG (s:=Instr.index t (a.eval x) (a.eval y)) ?_,_,rfl,(h3.drop _).take q⟩;have hb:0<=i/\i<(c:Int):=⟨h0,by omega⟩;simp[Instr.index,run_underlying hu,h2,h4,asIntOf,part,cL h1,qG hs,hb]
theorem ArT.at{t e:TypeId}{c q:Nat}(hA:ArT P t c q e){k:IntKind}{i:Int}(h0:0<=i)(hc:i.toNat<c)(w:World)(b o:Nat):(Instr.indexAt t (.pointer (some ⟨b,o,none⟩)) (.int k i)).run P w= .ok (.pointer (some ⟨b,o+i.toNat*q,none⟩)) w:=by
 obtain⟨hu,hs⟩:=hA.h;have hb:0<=i/\i<(c:Int):=⟨h0,by omega⟩;simp[Instr.indexAt,Instr.sureAddr,run_underlying hu,asIntOf,qG hs,hb,Addr.add_mid]
theorem u_idxAddrB{x y:Operand}{t e:TypeId}{c q off kk:Nat}{k:IntKind}{i:Int}(hA:ArT P t c q e)(hx:Opd tm x (.bp kk off))(hy:Opd tm y (.pv (PV.lit (.int k i))))(h0:0<=i)(hc:i.toNat<c):UOp P ⟨dst,.indexAddr t x y,ty,pos,aft,gd⟩ tm [] (.bp kk (off+i.toNat*q)) []:=
 UOp.pure fun w s g a ht=>by
  obtain⟨N,h1,h2⟩:=Opd.eval ht hx;have h4:a.eval y= .int k i:=Opd.lit ht hy;exact⟨_,yG (s:=Instr.indexAt t (a.eval x) (a.eval y)) (by rw[h2,h4];exact hA.at h0 hc w N off),N,h1,rfl⟩
theorem u_idxAddrP{x y:Operand}{t e:TypeId}{c q:Nat}{k:IntKind}{i:Int}{m:Bool}{row:List PV}(hA:ArT P t c q e)(hx:Opd tm x (.pv (PV.pt m row)))(hy:Opd tm y (.pv (PV.lit (.int k i))))(h0:0<=i)(hc:i.toNat<c):UOp P ⟨dst,.indexAddr t x y,ty,pos,aft,gd⟩ tm [] (.pv (PV.pt m (row.drop (i.toNat*q)))) []:=
 UOp.pure fun w s g a ht=>by
  obtain⟨b,o,h1,h2⟩:=Opd.eval ht hx;have h1':a.eval x= .pointer (some ⟨b,o,none⟩):=h1;have h4:a.eval y= .int k i:=Opd.lit ht hy;exact⟨_,yG (s:=Instr.indexAt t (a.eval x) (a.eval y)) (by rw[h1',h4];exact hA.at h0 hc w b o),b,o+i.toNat*q,rfl,CellsX.drop h2 _⟩
def chkS{α:Type _}(q:Nat):Nat->List α->List (List α)
 |0,_=>[]
 |c+1,row=>row.take q::chkS q c (row.drop q)
theorem jV0{α β:Type _}(f:α->β)(q:Nat):∀(c:Nat)(row:List α),(chkS q c row).map (List.map f)=chkS q c (row.map f)
 |0,_=>rfl
 |c+1,row=>by rw[chkS,chkS,Ci,jV0 f q c,Cy,Cv]
theorem vB{α:Type _}(q:Nat):∀(c:Nat)(row:List α),(chkS q c row).length=c
 |0,_=>rfl
 |c+1,row=>by rw[chkS,Ak,vB q c]
theorem yR0{α:Type _}(q:Nat):∀(c:Nat)(row:List α)(i:Nat),i<c->(chkS q c row)[i]?=some ((row.drop (i*q)).take q)
 |0,_,_,h=>absurd h (Nat.not_lt_zero _)
 |c+1,row,0,_=>by rw[chkS,Nat.zero_mul];rfl
 |c+1,row,i+1,h=>by
  rw[chkS,List.getElem?_cons_succ,yR0 q c _ i om,List.drop_drop,show q+i*q=(i+1)*q by rw[Nat.succ_mul];omega]
theorem u_sliceArr{x:Operand}{t e:TypeId}{c q:Nat}{row:List PV}(hA:ArT P t c q e)(hx:Opd tm x (.pv (PV.pt false row)))(hl:row.length=c*q)(hc:c<=1000000)(hs:strs row=true):UOp P ⟨dst,.slice t x none none none,ty,pos,aft,gd⟩ tm [] (.pv (PV.slf q (chkS q c row))) []:=
 UOp.pure fun w s g a ht=>by
  obtain⟨b,o,h1,h2⟩:=Opd.eval ht hx;have h1':a.eval x= .pointer (some ⟨b,o,none⟩):=h1;obtain⟨hu,hz⟩:=hA.h;refine⟨.slice (some ⟨b,o,none⟩) c c,yG (s:=Instr.sliceAt t (a.eval x) none none none) ?_,?_⟩
  ·have e0:(⟨b,o,none⟩:Addr).add 0=⟨b,o,none⟩:=by rw[Addr.add_mid];rfl
   rw[h1'];simp[Instr.sliceAt,Instr.sureAddr,Instr.sliceBounds,run_underlying hu,qG hz,e0]
  ·refine⟨⟨_,by rw[vB]⟩,some ⟨b,o,none⟩,c,by rw[vB],by rw[vB];exact Ap _,by omega,fun r hr=>?_,fun i r hr=>?_⟩
   ·obtain⟨i,hi,hr2⟩:=List.mem_iff_getElem.1 hr;rw[vB]at hi;have h3:=yR0 q c row i hi;rw[Af (by rw[vB];exact hi),hr2]at h3;have h4:=Option.some.inj h3;have h5:i*q+q<=c*q:=by rw[<-Nat.succ_mul];exact Bs q hi
    rw[h4,At,Ay];omega
   ·have hi:i<c:=by have:=(Ac.1 hr).1;rwa[vB]at this
    rw[yR0 q c row i hi]at hr;have hr:=Option.some.inj hr;refine⟨b,o,rfl,fun j d hd=>?_⟩;rw[<-hr,Ch]at hd;split at hd
    ·rw[Cb]at hd;obtain⟨u,g1,g2,g3,g4⟩:=h2 _ d hd;have hds:d.str=true:=qB0 hs (Aw hd);exact⟨u,by rw[Nat.add_assoc];exact g1,by rw[Nat.add_assoc];exact g2,d.strong hds w s s.good u (fun _ _ h=>h) g3,g4⟩
    ·cases hd
theorem kB{x:Operand}{d:TV}(hx:Opd tm x d)(hp:∀w s g v,d.P w s g v->∃a,v= .pointer (some a)):UOp P ⟨dst,.nilCheck x,ty,pos,aft,gd⟩ tm [] d []:=
 UOp.pure fun w s g a ht=>by
  have h:=hx.eval ht;obtain⟨b,e⟩:=hp _ _ _ _ h;refine⟨a.eval x,?_,h⟩;unfold execOp;simp[e]
end
def lkI{α:Type _}(k:Int):List (Int×α)->Option α
 |[]=>none
 |x::l=>if x.1=k then some x.2 else lkI k l
def putI{α:Type _}(k:Int)(a:α):List (Int×α)->List (Int×α)
 |[]=>[(k,a)]
 |x::l=>if x.1=k then(k,a)::l else x::putI k a l
theorem wD0{α β:Type _}{f:α->β}{k:Int}:∀{l:List (Int×α)},lkI k (l.map fun x=>(x.1,f x.2))=(lkI k l).map f
 |[]=>rfl
 |x::l=>by
  rw[Ci,lkI,lkI];by_cases h:x.1=k
  ·simp[h]
  ·simp only[h,if_false];exact wD0
theorem qL0{α β:Type _}{f:α->β}{k:Int}{a:α}:∀{l:List (Int×α)},putI k (f a) (l.map fun x=>(x.1,f x.2))=(putI k a l).map fun x=>(x.1,f x.2)
 |[]=>rfl
 |x::l=>by
  rw[Ci,putI,putI];by_cases h:x.1=k
  ·simp[h]
  ·simp only[h,if_false,Ci];rw[qL0]
def entI(l:List (Int×PV)):List (Value×PV):=l.map fun x=>(Value.int .i64 x.1,x.2)
theorem bZ{w:World}{s:Sb}{k:Int}:∀{arr:List MapEntry}{l:List (Int×PV)}(i:Nat),arr.map (·.key)=(entI l).map (·.1)->AllV w s ((entI l).map (·.2)) (arr.map (·.val))->
  (∃j e d,Instr.findNow (.int .i64) (.int .i64 k) arr i=some (some (i+j,e.val))/\arr[j]?=some e/\e.key= .int .i64 k/\lkI k l=some d/\d.p w s e.val/\∀(v:Value)(d':PV),d'.p w s v->
   (arr.modify j fun e=>{e with key:= .int .i64 k,val:=v}).map (·.key)=(entI (putI k d' l)).map (·.1)/\AllV w s ((entI (putI k d' l)).map (·.2)) ((arr.modify j fun e=>{e with key:= .int .i64 k,val:=v}).map (·.val)))\/
  (Instr.findNow (.int .i64) (.int .i64 k) arr i=some none/\lkI k l=none/\∀(v:Value)(d':PV)(b:Nat),d'.p w s v->(arr++[({key:= .int .i64 k,val:=v,born:=b}:MapEntry)]).map (·.key)=(entI (putI k d' l)).map (·.1)/\AllV w s ((entI (putI k d' l)).map (·.2)) ((arr++[({key:= .int .i64 k,val:=v,born:=b}:MapEntry)]).map (·.val)))
 |[],[],i,_,_=> .inr ⟨rfl,rfl,fun v d' b h=>⟨rfl,h,trivial⟩⟩
 |[],x::l,i,h,_=>by simp[entI]at h
 |a::arr,[],i,h,_=>by simp[entI]at h
 |a::arr,x::l,i,h,hv=>by
  obtain⟨h1,h2⟩:a.key= .int .i64 x.1/\arr.map (·.key)=(entI l).map (·.1):=by simpa[entI]using h
  obtain⟨h3,h4⟩:x.2.p w s a.val/\AllV w s ((entI l).map fun x:Value×PV=>x.2) (arr.map fun e:MapEntry=>e.val):=hv;have hs:Instr.sameNow (.int .i64) (.int .i64 k) a.key=some (k==x.1):=by rw[h1];rfl
  by_cases e:x.1=k
  ·left;refine⟨0,a,x.2,?_,rfl,by rw[h1,e],by rw[lkI,Ag e],h3,fun v d' hd=>⟨?_,?_⟩⟩
   ·rw[Instr.findNow,hs,show(k==x.1)=true by simp[e]];rfl
   ·rw[putI,Ag e];show Value.int .i64 k::arr.map (·.key)=Value.int .i64 k::(entI l).map (·.1);rw[h2]
   ·rw[putI,Ag e];exact⟨hd,h4⟩
  ·have hk:(k==x.1)=false:=by simp;exact fun h=>e h.symm
   rcases bZ (k:=k) (i+1) h2 h4 with⟨j,e0,d,g1,g2,g3,g4,g5,g6⟩|⟨g1,g2,g3⟩
   ·left;refine⟨j+1,e0,d,?_,by simpa using g2,g3,by rw[lkI,Aa e];exact g4,g5,fun v d' hd=>?_⟩
    ·rw[Instr.findNow,hs,hk];show Instr.findNow _ _ arr (i+1)=_;rw[g1,show i+1+j=i+(j+1) by omega]
    ·obtain⟨f1,f2⟩:=g6 v d' hd;rw[putI,Aa e];exact⟨by show a.key::_=Value.int .i64 x.1::_;rw[h1];congr 1,h3,f2⟩
   ·right;refine⟨?_,by rw[lkI,Aa e];exact g2,fun v d' b hd=>?_⟩
    ·rw[Instr.findNow,hs,hk];exact g1
    ·obtain⟨f1,f2⟩:=g3 v d' b hd;rw[putI,Aa e];exact⟨by show a.key::_=Value.int .i64 x.1::_;rw[h1];congr 1,h3,f2⟩
section
variable{P:Program}{tm:List (Nat×TV)}{dst:Option Tmp}{ty:TypeId}{pos:String}{aft:Array Edge}{gd:Option (Nat×Bool)}
theorem qX0{w:World}{kt:TypeId}(hk:P.underlying kt=some (.int .i64))(em:Bool)(v:Value):(Instr.checkKey em 10000 kt v).run P w= .ok () w:=by
 rw[show(10000:Nat)=9999+1 from rfl,Instr.checkKey];simp[run_underlying hk]
theorem mN{w:World}{kt:TypeId}(hk:P.underlying kt=some (.int .i64)){k:Int}{arr:List MapEntry}{r:Option (Nat×Value)}(h:Instr.findNow (.int .i64) (.int .i64 k) arr 0=some r):(Instr.findKey kt (.int .i64 k) arr).run P w= .ok r w:=by
 unfold Instr.findKey;simp[run_underlying hk,h]
theorem Good.map{w:World}{s:Sb}{g:Gh}{k:Nat}{es:List (Value×PV)}{acc':List (Nat×Own)}(h:Good w s g [(k,.map es)] acc'):∃N arr clock,g.bx k=some N/\w.heap[N]?=some (.map (List.toArray arr) clock)/\arr.map (·.key)=es.map (·.1)/\AllV w s.good (es.map (·.2)) (arr.map (·.val))/\∀o,¬s N o:=h.ok k (.map es) (by rw[zY];simp)
theorem bV{w:World}{N:Nat}{es:Array MapEntry}{clock:Nat}(h:w.heap[N]?=some (.map es clock)):(getObj N).run P w= .ok (.map es clock) w:=by
 simp[getObj,Sem.run,h]
theorem vL0{w:World}{N:Nat}{es:Array MapEntry}{clock:Nat}(o:Obj)(h:w.heap[N]?=some (.map es clock)):(setObj N o).run P w= .ok () {w with heap:=w.heap.set! N o}:=by
 have hl:N<w.heap.size:=(Bi.1 h).1;have h':w.heap[N]= .map es clock:=(Bi.1 h).2;simp[setObj,Sem.run,h',hl]
theorem u_makeMap{t:TypeId}(k:Nat):UOp P ⟨dst,.makeMap t none,ty,pos,aft,gd⟩ tm [] (.mk k) [(k,.map [])]:=by
 intro w s g a K Q ht hg hK;have hfr:=hg.fr k (.map []) (by rw[zY];simp) rfl
 have hr:(execOp a.eval ⟨dst,.makeMap t none,ty,pos,aft,gd⟩).run P w= .ok (.value (.map (some w.heap.size))) (w.alloc (.map #[] 0)):=
  yG (s:=Instr.makeMap t none) (by simp[Instr.makeMap])
 unfold Oper.wp;rw[hr];refine hK _ s {g with bx:=fun j=>if j=k then some w.heap.size else g.bx j} _ (by rw[TV.P];exact⟨w.heap.size,by simp,rfl⟩) ?_;refine Stp.newO hg.lt (by simp) (fun N hN=>Below.heap_alloc w _ N hN) rfl rfl rfl ⟨fun j N h=>?_,fun _ _ _ h=>h⟩ (fun j hj=>⟨by simp[hj],fun _=>rfl⟩) (fun _=>⟨w.heap.size,[],0,by simp,heap_alloc_new w _,rfl,trivial,fun o ho=>Nat.lt_irrefl _ (hg.lt _ o ho)⟩) fun N hN=>?_
 ·by_cases e:j=k
  ·subst e;rw[hfr.1]at h;cases h
  ·simp[e,h]
 ·have hN:(if k=k then some w.heap.size else g.bx k)=some N:=hN;simp at hN;omega
theorem u_lookup{x y:Operand}{t:TypeId}{k:Nat}{n:Int}{z:Value}{l:List (Int×PV)}{e:PV}{ok:Bool}(hT:MapT P t z)(hz:∀w s,e.p w s z)(hx:Opd tm x (.mk k))(hy:Opd tm y (.pv (PV.lit (.int .i64 n)))):
  UOp P ⟨dst,.lookup t x y ok,ty,pos,aft,gd⟩ tm [(k,.map (entI l))] (.pv (match ok with|true=>PV.tup [(lkI n l).getD e,PV.lit (.bool (lkI n l).isSome)]|false=>(lkI n l).getD e)) [(k,.map (entI l))]:=
 UOp.read fun w s g a ht hg=>by
  obtain⟨kt,et,hu,hk,hzz⟩:=hT.h;have hx1:=Opd.eval ht hx;rw[TV.P]at hx1;obtain⟨N,h1,h2⟩:=hx1;have h3:a.eval y= .int .i64 n:=Opd.lit ht hy;obtain⟨M,arr,clock,h4,h5,h6,h7,_⟩:=hg.map;rw[h1]at h4;cases h4;have key:∃(v:Value)(b:Bool),(Instr.lookup t (a.eval x) (a.eval y) ok).run P w= .ok (if ok then .tuple #[v,.bool b]else v) w/\((lkI n l).getD e).p w s v/\(lkI n l).isSome=b:=by
   rcases bZ (k:=n) 0 h6 h7 with⟨j,e0,d,g1,g2,g3,g4,g5,_⟩|⟨g1,g2,_⟩
   ·refine⟨e0.val,true,?_,?_,by rw[g4];rfl⟩
    ·rw[h2,h3];simp only[Instr.lookup,Sem.run_bind,run_underlying hu,Result.andThen_ok,bV h5,Sem.run_pure,qX0 hk,List.toList_toArray,mN hk g1]
    ·rw[g4];exact d.mono _ _ _ _ _ (Ex.ofGood w s) g5
   ·refine⟨z,false,?_,?_,by rw[g2];rfl⟩
    ·rw[h2,h3];simp only[Instr.lookup,Sem.run_bind,run_underlying hu,Result.andThen_ok,bV h5,Sem.run_pure,qX0 hk,List.toList_toArray,mN hk g1,hzz]
    ·rw[g2];exact hz w s
  obtain⟨v,b,k1,k2,k3⟩:=key;refine⟨if ok then .tuple #[v,.bool b]else v,yG (s:=Instr.lookup t (a.eval x) (a.eval y) ok) k1,?_⟩
  cases ok with
  |false=>exact k2
  |true=>exact⟨[v,.bool b],rfl,k2,by show Value.bool b= .bool _;rw[k3],trivial⟩
theorem u_mapUpdate{x y q:Operand}{t:TypeId}{o:Op}(ho:o= .mapUpdate t x y q\/o= .insert t x y q){k:Nat}{n:Int}{z:Value}{l:List (Int×PV)}{d:TV}{e:PV}(hT:MapT P t z)(hx:Opd tm x (.mk k))(hy:Opd tm y (.pv (PV.lit (.int .i64 n))))(hq:Opd tm q d)(hd:d.toPV=some e)(he:e.str=true):
  UOp P ⟨dst,o,ty,pos,aft,gd⟩ tm [(k,.map (entI l))] (.pv (PV.lit undef)) [(k,.map (entI (putI n e l)))]:=by
 intro w s g a K Q ht hg hK;obtain⟨kt,et,hu,hk,_⟩:=hT.h;have hx1:=Opd.eval ht hx;rw[TV.P]at hx1;obtain⟨N,h1,h2⟩:=hx1;have h3:a.eval y= .int .i64 n:=Opd.lit ht hy;have hv:e.p w s.good (a.eval q):=e.strong he w s s.good _ (fun _ _ h=>h) (TV.weak hd (Opd.eval ht hq));obtain⟨M,arr,clock,h4,h5,h6,h7,h8⟩:=hg.map;rw[h1]at h4;cases h4;have hl:N<w.heap.size:=(Bi.1 h5).1;have key:∃(arr':List MapEntry)(clock':Nat),(Instr.mapUpdate t (a.eval x) (a.eval y) (a.eval q)).run P w= .ok () {w with heap:=w.heap.set! N (.map arr'.toArray clock')}/\arr'.map (·.key)=(entI (putI n e l)).map (·.1)/\AllV w s.good ((entI (putI n e l)).map (·.2)) (arr'.map (·.val)):=by
  rcases bZ (k:=n) 0 h6 h7 with⟨j,e0,d0,g1,g2,g3,g4,g5,g6⟩|⟨g1,g2,g6⟩
  ·obtain⟨f1,f2⟩:=g6 (a.eval q) e hv;refine⟨_,clock,?_,f1,f2⟩;have hst:(Instr.keyThatStays (((arr.toArray[0+j]?).map (·.key)).getD (.int .i64 n)) (.int .i64 n)).run P w= .ok (.int .i64 n) w:=by
    rw[Bv,Db,g2];show(Instr.keyThatStays e0.key (.int .i64 n)).run P w=_;rw[g3,Instr.keyThatStays,Ag (by simp[Instr.sameBits])];rfl
   have hm:arr.toArray.modify (0+j) (fun e=>{e with key:=Value.int .i64 n,val:=a.eval q})=(arr.modify j fun e=>{e with key:=Value.int .i64 n,val:=a.eval q}).toArray:=by
    rw[Bv];apply Bx.1;simp
   rw[h2,h3];simp only[Instr.mapUpdate,Sem.run_bind,run_underlying hu,Result.andThen_ok,bV h5,qX0 hk,List.toList_toArray,mN hk g1,hst,hm,vL0 _ h5]
  ·obtain⟨f1,f2⟩:=g6 (a.eval q) e clock hv;refine⟨_,clock+1,?_,f1,f2⟩;rw[h2,h3];simp only[Instr.mapUpdate,Sem.run_bind,run_underlying hu,Result.andThen_ok,bV h5,qX0 hk,List.toList_toArray,mN hk g1,List.push_toArray,vL0 _ h5]
 obtain⟨arr',clock',k1,k2,k3⟩:=key;unfold Oper.wp;have he:(execOp a.eval ⟨dst,o,ty,pos,aft,gd⟩).run P w= .ok .skip {w with heap:=w.heap.set! N (.map arr'.toArray clock')}:=by
  rcases ho with rfl|rfl
  ·exact gK (s:=Instr.mapUpdate t (a.eval x) (a.eval y) (a.eval q)) k1
  ·exact gK (s:=Instr.mapUpdate t (a.eval x) (a.eval y) (a.eval q)) k1
 rw[he];have hne:∀M,M≠N->({w with heap:=w.heap.set! N (.map arr'.toArray clock')}:World).heap[M]?=w.heap[M]?:=fun M hM=>by simp[Array.getElem?_setIfInBounds,Ne.symm hM]
 refine hK _ s g undef rfl (Stp.turn (G:=N) hg h1 h8 hne (by simp) rfl rfl rfl (fun hex=>⟨N,arr',clock',h1,by simp[hl],k2,k3.mono hex.good,h8⟩) h1)
end
theorem decode_pos(b:ByteArray)(p:Nat):1<=(Utf8.decode b p).2:=by
 unfold Utf8.decode
 dsimp only
 repeat' split
 all_goals (first|exact Ap 1|exact(by omega:1<=2)|exact(by omega:1<=3)|exact(by omega:1<=4))
theorem dS(b:ByteArray):∀n p,(itL b n p).length<=n
 |0,_=>Ap 0
 |n+1,p=>by
  rw[itL];split
  ·have:=dS b n (p+(Utf8.decode b p).2);simp only[Ak];omega
  ·simp
theorem kY(b:ByteArray):∀(n p:Nat)(acc:Array Value),Conv.runesFrom b n p acc=acc++((itL b n p).map fun x=>Value.int .i32 x.2).toArray
 |0,_,acc=>by simp[Conv.runesFrom,itL]
 |n+1,p,acc=>by
  rw[Conv.runesFrom,itL];split
  ·show Conv.runesFrom b n (p+(Utf8.decode b p).2) (acc.push (.int .i32 (Int.ofNat (Utf8.decode b p).1)))=_;rw[kY b n];apply Bx.1;simp
  ·simp
def ruL(b:ByteArray):List Int:=(itL b b.size 0).map (·.2)
theorem ruL_length(b:ByteArray):(ruL b).length<=b.size:=by
 rw[ruL,Ao];exact dS b _ _
section
variable{P:Program}{tm:List (Nat×TV)}{dst:Option Tmp}{ty:TypeId}{pos:String}{aft:Array Edge}{gd:Option (Nat×Bool)}
theorem u_runes{x:Operand}{src dt e:TypeId}{p:ByteArray}(hs:P.underlying src=some .string)(hd:P.underlying dt=some (.slice e))(he:P.underlying e=some (.int .i32))(hp:p.size<=1073741824)(hx:Opd tm x (.pv (PV.lit (.string p)))):
  UOp P ⟨dst,.convert src dt x,ty,pos,aft,gd⟩ tm [] (.pv (PV.sl false 1 ((ruL p).map fun c=>[PV.lit (.int .i32 c)]))) []:=by
 intro w s g a K Q ht hg hK;have h1:=Opd.lit ht hx;have hn:=ruL_length p;have hrow:Conv.runesFrom p p.size 0 #[]=((ruL p).map (Value.int .i32)).toArray:=by
  rw[kY,ruL,Bz];apply Bx.1;simp
 have hsz:(((ruL p).map (Value.int .i32)).toArray).size=(ruL p).length:=by simp
 have hr:=run_runes_of_string w src dt e p hs hd he (by rw[hrow,hsz];omega);rw[hrow,hsz]at hr;have hge:=grownCap_ge w (ruL p).length 0 e;have hcm:grownCap w (ruL p).length 0 e<=maxLen:=grownCap_le_maxLen w _ 0 e (by simp only[maxLen];omega);generalize grownCap w (ruL p).length 0 e=gc at*;generalize hC:((ruL p).map (Value.int .i32)).toArray++Array.replicate (gc-(ruL p).length) (Value.int .i32 0)=C at*
 have he':(execOp a.eval ⟨dst,.convert src dt x,ty,pos,aft,gd⟩).run P w= .ok (.value (.slice (some ⟨w.heap.size,0,none⟩) (ruL p).length gc)) (w.drew.alloc (.cells C e)):=
  yG (s:=convert src dt (a.eval x)) (by rw[h1];exact hr)
 unfold Oper.wp;rw[he'];have hl:((ruL p).map fun c=>[PV.lit (.int .i32 c)]).length=(ruL p).length:=by simp
 have hfin:=PV.sl_block (w:=w.drew.alloc (.cells C e)) (s:=s.add fun B _=>B=w.heap.size) (G:=w.heap.size) (cap:=gc) (sz:=1)
  (rows:=(ruL p).map fun c=>[PV.lit (.int .i32 c)]) (vs:=(ruL p).map (Value.int .i32))
  (fun row hrow=>by obtain⟨b,_,rfl⟩:=Bu.1 hrow;rfl) (by simp) (by rw[hl];exact hge) hcm
  (fun j u hj=>by
   rw[cell_of_row _ w.heap.size j _ e _ (heap_alloc_new w.drew _)];have hj':j<(ruL p).length:=by have:=(Ac.1 hj).1;simpa using this
   rw[<-hC,Cu (by simpa using hj')];simpa using hj)
  (fun o _=> .inr rfl)
  (fun v hv=>by obtain⟨b,_,rfl⟩:=Bu.1 hv;rfl)
  (fun i row j d hi hj=>by
   rw[Bf]at hi;obtain⟨b,hb,rfl⟩:=Option.map_eq_some_iff.1 hi;have hj0:j=0/\d=PV.lit (.int .i32 b):=by
    match j,hj with
    |0,hj=>simp at hj;exact⟨rfl,hj.symm⟩
    |j+1,hj=>simp at hj
   obtain⟨rfl,rfl⟩:=hj0;exact⟨_,by rw[Nat.mul_one,Ce,Bf,hb];rfl,rfl⟩)
 rw[hl]at hfin;have h:=Stp.newStable (w:=w.drew) (s:=s) (g:=g) hg.lt (.cells C e);obtain⟨⟨a1,a2,a3⟩,b1,b2,b3,b4,b5,b6,b7,b8,b8',b9,b10,b11,b12,b13⟩:=h;exact hK _ _ g _ hfin ⟨⟨a1,a2,a3⟩,b1,b2,b3,b4,b5,b6,b7,b8,b8',b9,b10,b11,b12,b13⟩
theorem u_intStr{x:Operand}{src dt:TypeId}{k:IntKind}{n:Int}(hs:(P.underlying src).isSome=true)(hd:P.underlying dt=some .string)(hx:Opd tm x (.pv (PV.lit (.int k n)))):
  UOp P ⟨dst,.convert src dt x,ty,pos,aft,gd⟩ tm [] (.pv (PV.lit (.string (Utf8.encode n)))) []:=
 UOp.pure fun w s g a ht=>by
  have hb:=Opd.lit ht hx;refine⟨.string (Utf8.encode n),yG (s:=convert src dt (a.eval x)) ?_,rfl⟩;rw[hb];exact run_convert_int_string w src dt k n hs hd
theorem u_rangeStr{x:Operand}{t:TypeId}{b:ByteArray}(k:Nat)(hs:P.underlying t=some .string)(hx:Opd tm x (.pv (PV.lit (.string b)))):UOp P ⟨dst,.range t x,ty,pos,aft,gd⟩ tm [] (.bp k 0) [(k,.itr (itL b b.size 0))]:=by
 intro w s g a K Q ht hg hK;have hfr:=hg.fr k (.itr (itL b b.size 0)) (by rw[zY];simp) rfl;have h1:=Opd.lit ht hx
 have hr:(execOp a.eval ⟨dst,.range t x,ty,pos,aft,gd⟩).run P w= .ok (.value (.pointer (some ⟨w.heap.size,0,none⟩))) (w.alloc (.stringIter b 0)):=
  yG (s:=Instr.range t (a.eval x)) (by rw[h1];simp[Instr.range,run_underlying hs])
 unfold Oper.wp;rw[hr];refine hK _ s {g with bx:=fun j=>if j=k then some w.heap.size else g.bx j} _ (by rw[TV.P];exact⟨w.heap.size,by simp,rfl⟩) ?_;refine Stp.newO hg.lt (by simp) (fun N hN=>Below.heap_alloc w _ N hN) rfl rfl rfl ⟨fun j N h=>?_,fun _ _ _ h=>h⟩ (fun j hj=>⟨by simp[hj],fun _=>rfl⟩) (fun _=>⟨w.heap.size,b,0,b.size,by simp,heap_alloc_new w _,rfl,by omega,fun o ho=>Nat.lt_irrefl _ (hg.lt _ o ho)⟩) fun N hN=>?_
 ·by_cases e:j=k
  ·subst e;rw[hfr.1]at h;cases h
  ·simp[e,h]
 ·have hN:(if k=k then some w.heap.size else g.bx k)=some N:=hN;simp at hN;omega
theorem Good.itr{w:World}{s:Sb}{g:Gh}{k:Nat}{l:List (Int×Int)}{acc':List (Nat×Own)}(h:Good w s g [(k,.itr l)] acc'):∃N b p n,g.bx k=some N/\w.heap[N]?=some (.stringIter b p)/\itL b n p=l/\b.size<=p+n/\∀o,¬s N o:=h.ok k (.itr l) (by rw[zY];simp)
theorem wI0{w:World}{N:Nat}{b:ByteArray}{p:Nat}(h:w.heap[N]?=some (.stringIter b p)):(getObj N).run P w= .ok (.stringIter b p) w:=by
 simp[getObj,Sem.run,h]
theorem set_obj{w:World}{N:Nat}{b:ByteArray}{p:Nat}(o:Obj)(h:w.heap[N]?=some (.stringIter b p)):(setObj N o).run P w= .ok () {w with heap:=w.heap.set! N o}:=by
 have hl:N<w.heap.size:=(Bi.1 h).1;have h':w.heap[N]= .stringIter b p:=(Bi.1 h).2;simp[setObj,Sem.run,h',hl]
theorem u_nextNil{x:Operand}{k:Nat}(hx:Opd tm x (.bp k 0)):UOp P ⟨dst,.next x true,ty,pos,aft,gd⟩ tm [(k,.itr [])] (.pv (PV.tup [PV.lit (.bool false)])) [(k,.itr [])]:=
 UOp.read fun w s g a ht hg=>by
  have hx1:=Opd.eval ht hx;rw[TV.P]at hx1;obtain⟨N,h1,h2⟩:=hx1;obtain⟨M,b,p,n,h4,h5,h6,h7,_⟩:=hg.itr;rw[h1]at h4;cases h4;have hp:¬p<b.size:=by
   cases n with
   |zero=>omega
   |succ n=>
    intro hp;rw[itL,Ag hp]at h6
    cases h6
  refine⟨.tuple #[.bool false],yG (s:=Instr.next (a.eval x) true ty) ?_,⟨[.bool false],rfl,rfl,trivial⟩⟩;rw[h2];simp only[Instr.next,Sem.run_bind,wI0 h5,Result.andThen_ok,hp,if_false,Sem.run_pure]
theorem u_nextCons{x:Operand}{k:Nat}{q c:Int}{l:List (Int×Int)}(hx:Opd tm x (.bp k 0)):UOp P ⟨dst,.next x true,ty,pos,aft,gd⟩ tm [(k,.itr ((q,c)::l))] (.pv (PV.tup [PV.lit (.bool true),PV.lit (.int .i64 q),PV.lit (.int .i32 c)])) [(k,.itr l)]:=by
 intro w s g a K Q ht hg hK;have hx1:=Opd.eval ht hx;rw[TV.P]at hx1;obtain⟨N,h1,h2⟩:=hx1;obtain⟨M,b,p,n,h4,h5,h6,h7,h8⟩:=hg.itr;rw[h1]at h4;cases h4;have hl:N<w.heap.size:=(Bi.1 h5).1
 cases n with
 |zero=>cases h6
 |succ n=>
  rw[itL]at h6;split at h6
  ·rename_i hp;obtain⟨hq,h9⟩:=List.cons.inj h6;obtain⟨rfl,rfl⟩:=Prod.mk.inj hq
   have he:(execOp a.eval ⟨dst,.next x true,ty,pos,aft,gd⟩).run P w= .ok (.value (.tuple #[.bool true,.int .i64 (p:Int),.int .i32 ((Utf8.decode b p).1:Int)])) {w with heap:=w.heap.set! N (.stringIter b (p+(Utf8.decode b p).2))}:=
    yG (s:=Instr.next (a.eval x) true ty) (by
     rw[h2];simp only[Instr.next,Sem.run_bind,wI0 h5,Result.andThen_ok,hp,if_true,set_obj _ h5,Sem.run_pure];rfl)
   unfold Oper.wp;rw[he];have hne:∀M,M≠N->({w with heap:=w.heap.set! N (.stringIter b (p+(Utf8.decode b p).2))}:World).heap[M]?=w.heap[M]?:=fun M hM=>by simp[Array.getElem?_setIfInBounds,Ne.symm hM]
   have hw:=decode_pos b p;refine hK _ s g _ ⟨_,rfl,rfl,rfl,rfl,trivial⟩ (Stp.turn (G:=N) hg h1 h8 hne (by simp) rfl rfl rfl (fun _=>⟨N,b,p+(Utf8.decode b p).2,n,h1,by simp[hl],h9,by omega,h8⟩) h1)
  ·cases h6
end
end Go.Proofs.YtmakjjodkiedmaaGreatDoor
