/-Part 4 of the proof. -/
import Derived.Test.YtmakjjodkiedmaaGreatDoorM3
namespace Go.Proofs.YtmakjjodkiedmaaGreatDoor
open Go.RowKit
theorem xO{k:Nat}{c:Own}{l:List (Nat×Own)}(h:fnd k l=some c):k∈l.map (·.1):=Bu.2 ⟨_,jG h,rfl⟩
theorem qW0{k:Nat}:∀{l:List (Nat×Own)},k∈l.map (·.1)->∃c,fnd k l=some c
 |[],h=>by cases h
 |(j,x)::l,h=>by
  rw[zY];by_cases e:j=k
  ·exact⟨x,by simp[e]⟩
  ·simp only[e,if_false];refine qW0 ?_;rcases Bc.1 h with h|h
   ·exact absurd h.symm e
   ·exact h
theorem kK0{L:Array Bool}{j:Nat}(h:L.getD j true=false):L.getD j false=false:=by
 rw[De]at*
 cases hx:L[j]? with
 |none=>rfl
 |some x=>rw[hx]at h;exact h
structure Tb(P:Program)(E:Pn)(ops:Array Oper)(sz nx0 st:Nat)(rows:List Rw)(anc:List (List Nat))(tm0:Nat->Option TV)(ow0:Nat->Option Own):Prop where
 len:rows.length=ops.size
 row:∀i o r,ops[i]?=some o->rows[i]?=some r->RowOk P E ops sz nx0 st i o (tmAt rows (fun _=>true) tm0 i) (owAt rows (fun _=>true) ow0 i) r
 hanc:mT0 ops anc
 cf:∀i j ri rj,i<j->rows[i]?=some ri->rows[j]?=some rj->dK ri.ki rj.ki=true->i∈anc.getD j []
 ow0:∀k c,ow0 k=some c->k<nx0
section
variable{P:Program}{E:Pn}{b:Ba}{ops:Array Oper}{rows:List Rw}{anc:List (List Nat)}{tm0:Nat->Option TV}{ow0:Nat->Option Own}{nx0 st:Nat}
theorem Tb.opAt{sz:Nat}(h:Tb P E ops sz nx0 st rows anc tm0 ow0){i:Nat}{r:Rw}(hr:rows[i]?=some r):∃o,ops[i]?=some o:=by
 have:i<ops.size:=by rw[<-h.len];exact(Ac.1 hr).1
 exact⟨_,Array.getElem?_eq_getElem this⟩
theorem Tb.keyLt{sz:Nat}(h:Tb P E ops sz nx0 st rows anc tm0 ow0):∀(i:Nat)(k:Nat)(c:Own),owAt rows (fun _=>true) ow0 i k=some c->k<nx0+st*i:=by
 intro i;induction i with
 |zero=>intro k c hk;exact Cr (h.ow0 k c hk) om
 |succ i ih=>
  intro k c hk;have e:st*(i+1)=st*i+st:=Nat.mul_succ st i;unfold owAt at hk
  cases hr:rows[i]? with
  |none=>rw[hr]at hk;have:=ih k c hk;omega
  |some r=>
   rw[hr]at hk;simp only[true_and]at hk;by_cases hw:r.wr=true/\(fnd k r.acc').isSome=true
   ·rw[Ag hw]at hk;obtain⟨o,ho⟩:=h.opAt hr;have hrow:=h.row i o r ho hr;rcases hrow.new k c hk with⟨c0,h0⟩|⟨_,h2⟩
    ·have:=ih k c0 (hrow.acc k c0 h0);omega
    ·exact h2
   ·rw[Aa hw]at hk;have:=ih k c hk;omega
theorem Tb.accLt{sz:Nat}(h:Tb P E ops sz nx0 st rows anc tm0 ow0){i:Nat}{r:Rw}(hr:rows[i]?=some r){k:Nat}{c:Own}(hk:fnd k r.acc'=some c):k<nx0+st*(i+1):=by
 obtain⟨o,ho⟩:=h.opAt hr;have hrow:=h.row i o r ho hr;have e:st*(i+1)=st*i+st:=Nat.mul_succ st i;rcases hrow.new k c hk with⟨c0,h0⟩|⟨_,h2⟩
 ·have:=h.keyLt i k c0 (hrow.acc k c0 h0);omega
 ·exact h2
def frL(rows:List Rw)(nx0:Nat)(L:Nat->Bool)(k:Nat):Prop:=nx0<=k/\∀i r,L i=true->rows[i]?=some r->fnd k r.acc'=none
theorem wpAny_rows(T:Tb P E ops b.sz nx0 st rows anc tm0 ow0){Q:Exit->Act->World->Prop}(hQ:∀w s g a,RelF b w s g (tmAt rows (fun _=>true) tm0 ops.size) (owAt rows (fun _=>true) ow0 ops.size) (frL rows nx0 (fun i=>decide (i<ops.size))) a->Q .normal a w)
  (hE:∀ch w s g a,E ch->Rel b w s g ⟨[],[],40⟩ a->Q (.panic ch) a w):
  ∀(n:Nat)(L:Array Bool)(s:Sb)(g:Gh)(a:Act)(w:World),L.size=ops.size->(∀j o,ops[j]?=some o->L.getD j false=true->∀e∈o.after,Region.binds .any e=true->L.getD e.on false=true)->
   ((List.range ops.size).filter (fun i=> !(L.getD i false))).length<=n->RelF b w s g (tmAt rows (fun i=>L.getD i false) tm0 ops.size) (owAt rows (fun i=>L.getD i false) ow0 ops.size) (frL rows nx0 (fun i=>L.getD i false)) a->wpAny P .any ops Q n L a w:=by
 have hfin:∀(L:Array Bool)(s:Sb)(g:Gh)(a:Act)(w:World),L.size=ops.size->Region.ready .any ops L=[]->RelF b w s g (tmAt rows (fun i=>L.getD i false) tm0 ops.size) (owAt rows (fun i=>L.getD i false) ow0 ops.size) (frL rows nx0 (fun i=>L.getD i false)) a->Q .normal a w:=by
  intro L s g a w hsz hr hR;have had:∀j,j<ops.size->L.getD j false=true:=by
   intro j;induction j using Nat.strongRecOn with
   |ind j ih=>
    intro hj
    cases h:L.getD j false with
    |true=>rfl
    |false=>
     exfalso;have ho:ops[j]?=some ops[j]:=Array.getElem?_eq_getElem hj;have:j∈Region.ready .any ops L:=by
      refine mem_ready.2 ⟨?_,_,ho,fun e he hbd=>ih _ ((T.hanc j _ ho).1 e he hbd) ?_⟩
      ·rw[De]at h⊢;rw[Array.getElem?_eq_getElem om]at h⊢;simpa using h
      ·have:=(T.hanc j _ ho).1 e he hbd;omega
     rw[hr]at this
     cases this
  refine hQ w s g a ?_;have e1:tmAt rows (fun i=>L.getD i false) tm0 ops.size=tmAt rows (fun _=>true) tm0 ops.size:=funext fun t=>kC fun m r hm _ _=>had m hm;have e2:owAt rows (fun i=>L.getD i false) ow0 ops.size=owAt rows (fun _=>true) ow0 ops.size:=funext fun t=>kJ fun m r hm _ _=>had m hm;rw[e1,e2]at hR;refine⟨hR.kp,hR.lt,hR.sz,hR.tm,hR.ow,hR.sep,fun k hk=>hR.fr k ⟨hk.1,fun i r hi hr=>?_⟩,hR.df,hR.gb⟩;have hi':i<ops.size:=by rw[<-T.len];exact(Ac.1 hr).1
  exact hk.2 i r (by simpa using hi') hr
 intro n;induction n with
 |zero=>
  intro L s g a w hsz hcl hn hR;have hr:Region.ready .any ops L=[]:=by
   rw[List.eq_nil_iff_forall_not_mem];intro j hj;obtain⟨h0,o,ho,_⟩:=mem_ready.1 hj;have hjl:j<ops.size:=(Bi.1 ho).1;have:j∈(List.range ops.size).filter (fun i=> !(L.getD i false)):=List.mem_filter.2 ⟨Cx.2 hjl,by simp[kK0 h0]⟩;rw[List.length_eq_zero_iff.1 (Nat.le_zero.1 hn)]at this
   cases this
  exact⟨hr,hfin L s g a w hsz hr hR⟩
 |succ n ih=>
  intro L s g a w hsz hcl hn hR;refine⟨fun hr=>hfin L s g a w hsz hr hR,fun j hj=>?_⟩;obtain⟨h0,o,ho,hdeps⟩:=mem_ready.1 hj;have hjl:j<ops.size:=(Bi.1 ho).1;have h0':L.getD j false=false:=kK0 h0;obtain⟨r,hr⟩:∃r,rows[j]?=some r:=⟨_,Af (by rw[T.len];exact hjl)⟩;have hrow:=T.row j o r ho hr;have hup:∀i∈anc.getD j [],L.getD i false=true:=uB0 (L:=fun i=>L.getD i false) T.hanc hcl j (fun o' ho'=>by rw[ho]at ho';cases ho';exact hdeps) ⟨o,ho⟩;have hdn:∀i ri,rows[i]?=some ri->j∈anc.getD i []->L.getD i false=false:=by
   intro i ri hri hji
   cases hi:L.getD i false with
   |false=>rfl
   |true=>
    obtain⟨oi,hoi⟩:=T.opAt hri;have:=uB0 (L:=fun i=>L.getD i false) T.hanc hcl i (fun o' ho'=>hcl i o' ho' hi) ⟨oi,hoi⟩ j hji;rw[h0']at this;cases this
  have hins:∀t d,fnd t r.ins=some d->tmAt rows (fun i=>L.getD i false) tm0 ops.size t=some d:=by
   intro t d ht;obtain⟨h1,h2⟩:=hrow.ins t d ht;rw[mT (m:=j) (Nat.le_of_lt hjl) fun i ri hji hi hri hd=>?_,<-h2]
   ·refine kC fun m rm hm hrm hd=>?_;exact hup m (T.cf m j rm r hm hrm hr (xF0 (t:=t) hd (.inl h1)))
   ·rcases Nat.eq_or_lt_of_le hji with rfl|hlt
    ·exact h0'
    ·exact hdn i ri hri (T.cf j i r ri hlt hr hri (confl_r (t:=t) h1 hd))
  have hacc:∀k c,fnd k r.acc=some c->owAt rows (fun i=>L.getD i false) ow0 ops.size k=some c:=by
   intro k c hk;have hkm:k∈r.ki.ord:=xO hk;rw[pA (m:=j) (Nat.le_of_lt hjl) fun i ri hji hi hri hd=>?_,<-hrow.acc k c hk]
   ·refine kJ fun m rm hm hrm hd=>?_;have hkw:k∈rm.ki.owr:=by
     obtain⟨c',hc'⟩:=Option.isSome_iff_exists.1 hd.2;show k∈(if rm.wr then rm.acc'.map (·.1)else []);rw[Ag hd.1];exact xO hc'
    exact hup m (T.cf m j rm r hm hrm hr (tI hkw (.inl hkm)))
   ·rcases Nat.eq_or_lt_of_le hji with rfl|hlt
    ·exact h0'
    ·have hkw:k∈ri.ki.owr:=by
      obtain⟨c',hc'⟩:=Option.isSome_iff_exists.1 hd.2;show k∈(if ri.wr then ri.acc'.map (·.1)else []);rw[Ag hd.1];exact xO hc'
     exact hdn i ri hri (T.cf j i r ri hlt hr hri (confl_or hkw hkm))
  have hfree:∀k c,fnd k r.acc'=some c->fnd k r.acc=none->frL rows nx0 (fun i=>L.getD i false) k:=by
   intro k c hk hno;rcases hrow.new k c hk with⟨c0,h1⟩|⟨h1,h2⟩
   ·rw[hno]at h1;cases h1
   refine⟨by omega,fun i ri hi hri=>?_⟩
   cases hx:fnd k ri.acc' with
   |none=>rfl
   |some x=>
    exfalso;have hi2:L.getD i false=true:=hi;have hij:i≠j:=by intro e;rw[e,h0']at hi2;cases hi2
    rcases Nat.lt_or_gt_of_ne hij with hlt|hgt
    ·have h3:=T.accLt hri hx;have:st*(i+1)<=st*j:=Nat.mul_le_mul_left st hlt;omega
    ·have hw:r.wr=true:=by
      cases hwr:r.wr with
      |true=>rfl
      |false=>have:=hrow.same hwr k c hk;rw[hno]at this;cases this
     have hkw:k∈r.ki.owr:=by
      show k∈(if r.wr then r.acc'.map (·.1)else []);rw[Ag hw];exact xO hk
     obtain⟨oi,hoi⟩:=T.opAt hri;have hrowi:=T.row i oi ri hoi hri;have hb:k∈ri.ki.ord:=by
      rcases hrowi.new k x hx with⟨c0,h3⟩|⟨h3,_⟩
      ·exact xO h3
      ·have:st*(j+1)<=st*i:=Nat.mul_le_mul_left st hgt;omega
     have:=hdn i ri hri (T.cf j i r ri hgt hr hri (tI hkw (.inl hb)));have hi':L.getD i false=true:=hi;rw[this]at hi';cases hi'
  have hL':∀i,i≠j->(L.setIfInBounds j true).getD i false=L.getD i false:=fun i hi=>getD_set_ne false (Ne.symm hi);have hLj:(L.setIfInBounds j true).getD j false=true:=by
   rw[De,Array.getElem?_setIfInBounds];simp[hsz,hjl]
  have htm':updT (tmAt rows (fun i=>L.getD i false) tm0 ops.size) r.dst r.out=tmAt rows (fun i=>(L.setIfInBounds j true).getD i false) tm0 ops.size:=by
   funext t
   by_cases hd:r.dst=some t
   ·rw[mT (m:=j+1) hjl fun i ri hji hi hri hdi=>?_]
    ·unfold tmAt;rw[hr];simp only[hLj,hd,and_self,if_true];simp[updT]
    ·rw[hL' i om];exact hdn i ri hri (T.cf j i r ri om hr hri (xF0 (t:=t) hd (.inr hdi)))
   ·have e1:updT (tmAt rows (fun i=>L.getD i false) tm0 ops.size) r.dst r.out t=tmAt rows (fun i=>L.getD i false) tm0 ops.size t:=by
     unfold updT
     cases hdd:r.dst with
     |none=>rfl
     |some e=>
      have:e≠t:=by rintro rfl;exact hd hdd
      simp[this]
    rw[e1];refine kC fun m rm hm hrm hdm=>?_;have:m≠j:=by rintro rfl;rw[hr]at hrm;cases hrm;exact hd hdm
    exact(hL' m this).symm
  have how':updO (owAt rows (fun i=>L.getD i false) ow0 ops.size) r.acc'=owAt rows (fun i=>(L.setIfInBounds j true).getD i false) ow0 ops.size:=by
   funext k
   by_cases hd:ownw r k
   ·rw[pA (m:=j+1) hjl fun i ri hji hi hri hdi=>?_]
    ·unfold owAt;rw[hr];have hd':r.wr=true/\(fnd k r.acc').isSome=true:=hd;simp only[hLj,hd',and_self,if_true];obtain⟨c,hc⟩:=Option.isSome_iff_exists.1 hd.2;simp[updO,hc]
    ·rw[hL' i om];obtain⟨c,hc⟩:=Option.isSome_iff_exists.1 hd.2;obtain⟨c',hc'⟩:=Option.isSome_iff_exists.1 hdi.2;have h1:k∈r.ki.owr:=by
      show k∈(if r.wr then r.acc'.map (·.1)else []);rw[Ag hd.1];exact xO hc
     have h2:k∈ri.ki.owr:=by
      show k∈(if ri.wr then ri.acc'.map (·.1)else []);rw[Ag hdi.1];exact xO hc'
     exact hdn i ri hri (T.cf j i r ri om hr hri (tI h1 (.inr h2)))
   ·have e1:updO (owAt rows (fun i=>L.getD i false) ow0 ops.size) r.acc' k=owAt rows (fun i=>L.getD i false) ow0 ops.size k:=by
     unfold updO
     cases hc:fnd k r.acc' with
     |none=>rfl
     |some c=>
      have hw:r.wr=false:=by
       cases hwr:r.wr with
       |false=>rfl
       |true=>exact absurd ⟨hwr,by rw[hc];rfl⟩ hd
      exact(hacc k c (hrow.same hw k c hc)).symm
    rw[e1];refine kJ fun m rm hm hrm hdm=>?_;have:m≠j:=by rintro rfl;rw[hr]at hrm;cases hrm;exact hd hdm
    exact(hL' m this).symm
  have hfr':∀k,frL rows nx0 (fun i=>(L.setIfInBounds j true).getD i false) k->frL rows nx0 (fun i=>L.getD i false) k/\fnd k r.acc'=none:=fun k hk=>
   ⟨⟨hk.1,fun i ri hi hri=>hk.2 i ri (by
    show(L.setIfInBounds j true).getD i false=true;by_cases hij:i=j
    ·subst hij;exact hLj
    ·rw[hL' i hij];exact hi) hri⟩,hk.2 j r hLj hr⟩
  have hcount:((List.range ops.size).filter (fun i=> !((L.setIfInBounds j true).getD i false))).length<=n:=by
   have hlt:((List.range ops.size).filter (fun i=> !((L.setIfInBounds j true).getD i false))).length<((List.range ops.size).filter (fun i=> !(L.getD i false))).length:=by
    have hsub:((List.range ops.size).filter (fun i=> !((L.setIfInBounds j true).getD i false)))=((List.range ops.size).filter (fun i=> !(L.getD i false))).filter (fun i=>i !=j):=by
     rw[List.filter_filter];apply List.filter_congr;intro i hi;by_cases hij:i=j
     ·subst hij;simp only[hLj];simp
     ·rw[hL' i hij];simp[hij]
    rw[hsub];refine List.length_filter_lt_length_iff_exists.2 ⟨j,List.mem_filter.2 ⟨Cx.2 hjl,by simp[h0']⟩,by simp⟩
   omega
  have hcl':∀j' o',ops[j']?=some o'->(L.setIfInBounds j true).getD j' false=true->∀e∈o'.after,Region.binds .any e=true->(L.setIfInBounds j true).getD e.on false=true:=by
   intro j' o' ho' hl e he hb;have h1:L.getD e.on false=true:=by
    by_cases hjj:j'=j
    ·subst hjj;rw[ho]at ho';cases ho';exact hdeps e he hb
    ·rw[hL' j' hjj]at hl;exact hcl j' o' ho' hl e he hb
   by_cases hej:e.on=j
   ·rw[hej];exact hLj
   ·rw[hL' _ hej];exact h1
  have htok:qW w s g r.ins a:=fun t d ht=>hR.tm t d (hins t d ht);have hnext:∀w' s' g' v,r.out.P w' s' g' v->Stp w s g r.acc w' s' g' r.acc'->wpAny P .any ops Q n (L.setIfInBounds j true) (a.put o.dst v) w':=by
   intro w' s' g' v hv hp;refine ih _ s' g' _ w' (by simp[hsz]) hcl' hcount ?_;have:=RelF.step hR hp hacc (dst:=o.dst) (out:=r.out) (v:=v) hfr' (yQ0 hrow.lt) hv;rw[<-hrow.dst,htm',how',hrow.dst]at this;exact this
  unfold wpOp;rw[ho];simp only
  cases hdid:r.did with
  |true=>
   obtain⟨hu,hg⟩:=hrow.hop.1 hdid;rw[hg _ _ _ _ htok];simp only[if_true];refine .inl (hu w s g a _ Q htok ⟨hR.lt,fun k c hk=>(hR.ow k c (hacc k c hk)).1,fun k k' c c' N h1 h2 hne=>hR.sep k k' c c' N (hacc k c h1) (hacc k' c' h2) hne,fun k c h1 h2=>hR.fr k (hfree k c h1 h2),hR.kp.gb⟩ hnext fun ch w' s' hch hp=>hE ch w' s' _ a hch (hR.pan hp hacc))
  |false=>
   obtain⟨hg,e1,e2,e3⟩:=hrow.hop.2 hdid;rw[hg _ _ _ _ htok];simp only[Bw,if_false];refine hnext w s g undef (e1 w s g) ?_;rw[e2,e3];exact Stp.refl w s g hR.lt
end
structure AppT(P:Program)(t e:TypeId)(sz:Nat):Prop where
 h:∃ie z,P.underlying t=some (.slice e)/\P.info? e=some ie/\ie.zero=some z/\ie.size=sz/\z.cells.size=sz/\0<sz/\0<ie.bytes/\ie.bytes<=4096
def Bnd(tm:List (Nat×TV))(x:Option Operand)(dflt n:Int):Prop:=match x with
 |none=>n=dflt
 |some o=>∃k,Opd tm o (.pv (PV.lit (.int k n)))
theorem PV.sl_cut{w:World}{s:Sb}{sz:Nat}{mo:Bool}{rows:List (List PV)}{a:Option Addr}{cap l h:Nat}(hl:l<=h)(hh:h<=rows.length)(hc:rows.length<=cap)(hm:cap<=9223372036854775807)(hz:∀row∈rows,row.length=sz)
  (hr:∀i row,rows[i]?=some row->∃b off,a=some ⟨b,off,none⟩/\CellsG mo w s b (off+i*sz) row):
  (PV.sl mo sz ((rows.drop l).take (h-l))).p w s (.slice (if cap=l then a else a.map (·.add (l*sz))) (h-l) (cap-l)):=by
 have hlen:((rows.drop l).take (h-l)).length=h-l:=by simp;omega
 refine⟨_,cap-l,by rw[hlen],by rw[hlen];omega,by omega,fun row hrow=>hz row (List.mem_of_mem_drop (List.mem_of_mem_take hrow)),fun i row hi=>?_⟩;rw[Ch]at hi;split at hi
 ·rename_i hlt;rw[Cb]at hi;obtain⟨b,off,rfl,h1⟩:=hr _ _ hi;have:cap≠l:=by omega
  refine⟨b,off+l*sz,?_,?_⟩
  ·rw[Aa this];simp[Addr.add_mid]
  ·have e:off+(l+i)*sz=off+l*sz+i*sz:=by rw[Bh];omega
   rw[<-e];exact h1
 ·cases hi
section
variable{P:Program}{tm:List (Nat×TV)}{dst:Option Tmp}{ty:TypeId}{pos:String}{aft:Array Edge}{gd:Option (Nat×Bool)}
theorem zM0{x:Operand}{t:TypeId}{sz:Nat}{mo:Bool}{rows:List (List PV)}{d:TV}{lo hi:Option Operand}{l h:Int}(hT:SlT P t sz)(hx:Opd tm x d)(hd:d.toPV=some (PV.sl mo sz rows))(h1:Bnd tm lo 0 l)(h2:Bnd tm hi rows.length h)(h0:0<=l)(hlh:l<=h)(hhn:h<=rows.length):
  UOp P ⟨dst,.slice t x lo hi none,ty,pos,aft,gd⟩ tm [] (.pv (PV.sl mo sz ((rows.drop l.toNat).take (h.toNat-l.toNat)))) []:=
 UOp.pure fun w s g a ht=>by
  obtain⟨e,hu,he⟩:=hT.h;obtain⟨ad,cap,h3,h4,h5,h6,h7⟩:=TV.weak hd (Opd.eval ht hx);have h3':a.eval x= .slice ad rows.length cap:=h3;obtain⟨m,rfl⟩:=Ct h0;obtain⟨n,rfl⟩:=Ct (by omega:0<=h);have hmn:m<=n:=by omega
  have hn:n<=rows.length:=by omega
  have hb:(Instr.sliceBounds true rows.length cap (lo.map a.eval) (hi.map a.eval) none).run P w= .ok (m,n,cap) w:=by
   have hlo:∀h':Nat,m<=h'->(match lo.map a.eval with|some v=>Instr.sliceBound v h' .sliceB|none=>(pure 0:Sem Nat)).run P w= .ok m w:=by
    intro h' hm
    cases lo with
    |none=>
     have:(m:Int)=0:=h1;have:m=0:=by omega
     subst this;rfl
    |some o=>
     obtain⟨k,hk⟩:=h1;have hv:=Opd.lit ht hk;simp only[Option.map_some,hv];rw[run_sliceBound w k _ h' _ om om];rfl
   have hhi:(match hi.map a.eval with|some v=>Instr.sliceBound v cap .sliceAcap|none=>(pure rows.length:Sem Nat)).run P w= .ok n w:=by
    cases hi with
    |none=>
     have:(n:Int)=rows.length:=h2;have:n=rows.length:=by omega
     subst this;rfl
    |some o=>
     obtain⟨k,hk⟩:=h2;have hv:=Opd.lit ht hk;simp only[Option.map_some,hv];rw[run_sliceBound w k _ cap _ om om];rfl
   have hlo':=hlo n hmn;unfold Instr.sliceBounds
   cases lo<;>cases hi<;>simp_all
  refine⟨.slice (if cap=m then ad else ad.map (·.add (m*sz))) (n-m) (cap-m),yG (s:=Instr.sliceAt t (a.eval x) (lo.map a.eval) (hi.map a.eval) none) ?_,?_⟩
  ·rw[h3'];simp[Instr.sliceAt,run_underlying hu,Instr.slice,hb,qG he]
  ·exact PV.sl_cut hmn hn h4 h5 h6 h7
theorem u_sliceStr{x:Operand}{t:TypeId}{p:ByteArray}{lo hi:Option Operand}{l h:Int}(hT:P.underlying t=some .string)(hx:Opd tm x (.pv (PV.lit (.string p))))(h1:Bnd tm lo 0 l)(h2:Bnd tm hi p.size h)(h0:0<=l)(hlh:l<=h)(hhn:h<=p.size):
  UOp P ⟨dst,.slice t x lo hi none,ty,pos,aft,gd⟩ tm [] (.pv (PV.lit (.string (p.extract l.toNat h.toNat)))) []:=
 UOp.pure fun w s g a ht=>by
  have h3':=Opd.lit ht hx;obtain⟨m,rfl⟩:=Ct h0;obtain⟨n,rfl⟩:=Ct (by omega:0<=h);have hmn:m<=n:=by omega
  have hn:n<=p.size:=by omega
  have hb:(Instr.sliceBounds false p.size p.size (lo.map a.eval) (hi.map a.eval) none).run P w= .ok (m,n,p.size) w:=by
   have hlo:∀h':Nat,m<=h'->(match lo.map a.eval with|some v=>Instr.sliceBound v h' .sliceB|none=>(pure 0:Sem Nat)).run P w= .ok m w:=by
    intro h' hm
    cases lo with
    |none=>
     have:(m:Int)=0:=h1;have:m=0:=by omega
     subst this;rfl
    |some o=>
     obtain⟨k,hk⟩:=h1;have hv:=Opd.lit ht hk;simp only[Option.map_some,hv];rw[run_sliceBound w k _ h' _ om om];rfl
   have hhi:(match hi.map a.eval with|some v=>Instr.sliceBound v p.size .sliceAlen|none=>(pure p.size:Sem Nat)).run P w= .ok n w:=by
    cases hi with
    |none=>
     have:(n:Int)=p.size:=h2;have:n=p.size:=by omega
     subst this;rfl
    |some o=>
     obtain⟨k,hk⟩:=h2;have hv:=Opd.lit ht hk;simp only[Option.map_some,hv];rw[run_sliceBound w k _ p.size _ om om];rfl
   have hlo':=hlo n hmn;unfold Instr.sliceBounds
   cases lo<;>cases hi<;>simp_all
  refine⟨.string (p.extract m n),yG (s:=Instr.sliceAt t (a.eval x) (lo.map a.eval) (hi.map a.eval) none) ?_,rfl⟩;rw[h3'];simp[Instr.sliceAt,run_underlying hT,Instr.slice,hb]
theorem u_conv{x:Operand}{src dt:TypeId}{k k':IntKind}{n:Int}{u:TypeDesc}(hs:P.underlying src=some u)(hd:P.underlying dt=some (.int k'))(hx:Opd tm x (.pv (PV.lit (.int k n)))):
  UOp P ⟨dst,.convert src dt x,ty,pos,aft,gd⟩ tm [] (.pv (PV.lit (.int k' (k'.wrap n)))) []:=
 UOp.pure fun w s g a ht=>by
  have h1:=Opd.lit ht hx;refine⟨.int k' (k'.wrap n),yG (s:=convert src dt (a.eval x)) ?_,rfl⟩;rw[h1];simp[convert,run_underlying hs,run_underlying hd,Conv.intToInt]
end
def Gh.setRow(g:Gh)(k len:Nat)(v:Value):Gh:={g with gn:=fun j m=>if j=k/\m=len then some v else g.gn j m}
theorem Gh.setRow_eq(g:Gh)(k len:Nat)(v:Value):(g.setRow k len v).gn k len=some v:=by simp[Gh.setRow]
theorem Gh.setRow_ne(g:Gh){k len j m:Nat}(v:Value)(h:¬(j=k/\m=len)):(g.setRow k len v).gn j m=g.gn j m:=by simp[Gh.setRow,h]
theorem uO{w w':World}{b o:Nat}(h:w'.heap[b]?=w.heap[b]?):w'.cell? ⟨b,o,none⟩=w.cell? ⟨b,o,none⟩:=World.cell?_of_block h
theorem Stp.newRow{w w':World}{s:Sb}{g:Gh}{k sz len cap:Nat}{e:TypeId}{cur:Array Value}(hl:∀B o,s B o->B<w.heap.size)(hf:g.bx k=none/\∀m,g.gn k m=none)
  (hs:w'.heap.size=w.heap.size+1) (hb:∀N,N<w.heap.size->w'.heap[N]?=w.heap[N]?) (hn:CellB w' w.heap.size cur e) (h1:w'.os=w.os) (h2:w'.tape=w.tape) (h3:w'.output=w.output)
  (hc:len<=cap) (hm:cap<=maxLen) (hz:cur.size=cap*sz):
  Stp w s g [] w' (s.add fun B o=>B=w.heap.size/\o<len*sz) (g.setRow k len (.slice (some ⟨w.heap.size,0,none⟩) len cap)) [(k,.row e sz len)]:=by
 have hone:∀{j:Nat}{c:Own},fnd j [(k,Own.row e sz len)]=some c->j=k/\c= .row e sz len:=by
  intro j c h;rw[zY]at h;by_cases e':k=j
  ·simp only[e',if_true]at h;cases h;exact⟨e'.symm,rfl⟩
  ·simp only[e',if_false]at h;cases h
 refine⟨⟨fun _ _ h=> .inl h,(fun b o h=>uO (hb b (hl b o h))),fun _ _ h=> .inl h⟩,fun B o h=>?_,⟨fun _ _ h=>h,fun j m v h=>?_⟩,fun j h=>⟨rfl,fun m=>?_⟩,h1,h2,h3,by omega,fun N hN _=>hb N hN,fun B o h=>?_,fun B o h=>?_,fun j c h=>?_,fun j c N h hN=>?_,fun j j' c c' N h h' hne=>?_,fun j c h=>by cases h⟩
 ·rcases h with h|⟨rfl,_⟩
  ·have:=hl B o h;omega
  ·omega
 ·by_cases hjm:j=k/\m=len
  ·obtain⟨rfl,rfl⟩:=hjm;rw[hf.2]at h;cases h
  ·rw[Gh.setRow_ne _ _ hjm];exact h
 ·have hjk:j≠k:=by
   rintro rfl;rw[zY]at h;simp at h
  exact Gh.setRow_ne _ _ (fun e=>hjk e.1)
 ·rcases h with h|⟨rfl,_⟩
  ·exact .inl h
  ·exact .inr (.inl (Ap _))
 ·rcases h with h|⟨rfl,_⟩
  ·exact .inl h
  ·exact .inr (.inl (Ap _))
 ·obtain⟨rfl,rfl⟩:=hone h;refine⟨fun m hm=>by rw[Gh.setRow_ne _ _ om];exact hf.2 m,_,Gh.setRow_eq _ _ _ _,.inr ⟨_,cap,cur,rfl,hn,hc,hm,hz,fun o ho hso=>?_⟩⟩;rcases hso with hso|⟨_,hso⟩
  ·have:=hl _ _ hso;omega
  ·omega
 ·obtain⟨rfl,rfl⟩:=hone h;have:blk (g.setRow j len (.slice (some ⟨w.heap.size,0,none⟩) len cap)) j (.row e sz len)=some w.heap.size:=by
   show((g.setRow j len _).gn j len).bind Value.ownBlock=_;rw[Gh.setRow_eq];rfl
  rw[this]at hN;cases hN;exact .inl (Ap _)
 ·obtain⟨rfl,rfl⟩:=hone h;obtain⟨rfl,rfl⟩:=hone h';exact absurd rfl hne
theorem Stp.ghostRow{w:World}{s:Sb}{g:Gh}{k sz:Nat}{e:TypeId}(hl:∀B o,s B o->B<w.heap.size)(hf:g.bx k=none/\∀m,g.gn k m=none):
  Stp w s g [] w s (g.setRow k 0 (.slice none 0 0)) [(k,.row e sz 0)]:=by
 have hone:∀{j:Nat}{c:Own},fnd j [(k,Own.row e sz 0)]=some c->j=k/\c= .row e sz 0:=by
  intro j c h;rw[zY]at h;by_cases e':k=j
  ·simp only[e',if_true]at h;cases h;exact⟨e'.symm,rfl⟩
  ·simp only[e',if_false]at h;cases h
 refine⟨Ex.refl w s,hl,⟨fun _ _ h=>h,fun j m v h=>?_⟩,fun j h=>⟨rfl,fun m=>?_⟩,rfl,rfl,rfl,Ap _,fun N hN _=>rfl,fun B o h=> .inl h,fun B o h=> .inl h,fun j c h=>?_,fun j c N h hN=>?_,fun j j' c c' N h h' hne=>?_,fun j c h=>by cases h⟩
 ·by_cases hjm:j=k/\m=0
  ·obtain⟨rfl,rfl⟩:=hjm;rw[hf.2]at h;cases h
  ·rw[Gh.setRow_ne _ _ hjm];exact h
 ·have hjk:j≠k:=by
   rintro rfl;rw[zY]at h;simp at h
  exact Gh.setRow_ne _ _ (fun e=>hjk e.1)
 ·obtain⟨rfl,rfl⟩:=hone h;exact⟨fun m hm=>by rw[Gh.setRow_ne _ _ om];exact hf.2 m,_,Gh.setRow_eq _ _ _ _,.inl ⟨rfl,rfl⟩⟩
 ·obtain⟨rfl,rfl⟩:=hone h;have:blk (g.setRow j 0 (.slice none 0 0)) j (.row e sz 0)=none:=by
   show((g.setRow j 0 _).gn j 0).bind Value.ownBlock=_;rw[Gh.setRow_eq];rfl
  rw[this]at hN;cases hN
 ·obtain⟨rfl,rfl⟩:=hone h;obtain⟨rfl,rfl⟩:=hone h';exact absurd rfl hne
theorem qD0{pr:Nat->Nat->Prop}{w:World}{s:Sb}{sz:Nat}:∀{rows:List (List PV)}{b off:Nat},(∀row∈rows,row.length=sz)->(∀i row,rows[i]?=some row->CellsX pr w s b (off+i*sz) row)->
  ∃vs:List Value,vs.length=rows.length*sz/\w.rangeAt b off vs/\(∀v∈vs,v.oneCell'=true)/\∀i row j d,rows[i]?=some row->row[j]?=some d->∃u,vs[i*sz+j]?=some u/\d.p w s u
 |[],b,off,_,_=>⟨[],by simp,fun j v hv=>by simp at hv,(fun v hv=>by cases hv),fun i row j d hi=>by simp at hi⟩
 |r::rows,b,off,hz,h=>by
  have h0:=h 0 r rfl;simp only[Nat.zero_mul,Ce]at h0;obtain⟨vs,h1,h2,h3,h4⟩:=bA h0;obtain⟨us,g1,g2,g3,g4⟩:=qD0 (w:=w) (s:=s) (rows:=rows) (b:=b) (off:=off+sz) (fun row hr=>hz row (by simp[hr])) (fun i row hi=>by
   have:=h (i+1) row (by simpa using hi);rw[show off+(i+1)*sz=off+sz+i*sz by rw[Bh];omega]at this;exact this)
  have hr:=hz r (by simp);refine⟨vs++us,by simp[h1,g1,hr,Bh];omega,fun j v hv=>?_,fun v hv=>?_,fun i row j d hi hj=>?_⟩
  ·rcases Bm j vs.length with hlt|hge
   ·rw[Bb hlt]at hv;exact h2 j v hv
   ·rw[Bk hge]at hv;have:=g2 _ v hv;rw[h1,hr,show off+sz+(j-sz)=off+j by rw[h1,hr]at hge;omega]at this;exact this
  ·rcases Az.1 hv with hv|hv
   ·exact h4 v hv
   ·exact g3 v hv
  ·cases i with
   |zero=>
    simp at hi;subst hi;obtain⟨u,h5,h6⟩:=h3.get hj;have hjl:j<vs.length:=(Ac.1 h5).1;exact⟨u,by rw[Nat.zero_mul,Bv,Bb hjl];exact h5,h6⟩
   |succ i=>
    obtain⟨u,h5,h6⟩:=g4 i row j d (by simpa using hi) hj;refine⟨u,?_,h6⟩;rw[Bk (by rw[h1,hr,Bh];omega),h1,hr,show(i+1)*sz+j-sz=i*sz+j by rw[Bh];omega];exact h5
theorem PV.sl_src{w:World}{s:Sb}{sz:Nat}{mo:Bool}{rows:List (List PV)}{x:Value}(h:(PV.sl mo sz rows).p w s x):∃a c vs,x= .slice a rows.length c/\vs.length=rows.length*sz/\(∀v∈vs,v.oneCell'=true)/\
  (0<rows.length->∃b off,a=some ⟨b,off,none⟩/\w.rangeAt b off vs)/\∀i row j d,rows[i]?=some row->row[j]?=some d->∃u,vs[i*sz+j]?=some u/\d.p w s.good u:=by
 obtain⟨a,c,h1,h2,h3,h4,h5⟩:=h;by_cases h0:0<rows.length
 ·obtain⟨b,off,rfl,_⟩:=h5 0 _ (Af h0);obtain⟨vs,g1,g2,g3,g4⟩:=qD0 (w:=w) (s:=s.good) (b:=b) (off:=off) h4 (fun i row hi=>by
   obtain⟨b',off',e,hc⟩:=h5 i row hi
   cases e;exact hc)
  exact⟨_,c,vs,h1,g1,g3,fun _=>⟨b,off,rfl,g2⟩,g4⟩
 ·have hr:rows=[]:=Ax om;subst hr;exact⟨a,c,[],h1,by simp,(fun v hv=>by cases hv),fun h=>absurd h (by simp),fun i row j d hi=>by simp at hi⟩
theorem PV.sl_block{w:World}{s:Sb}{sz cap G:Nat}{rows:List (List PV)}{vs:List Value}(hz:∀row∈rows,row.length=sz)(hlen:vs.length=rows.length*sz)(hc:rows.length<=cap)(hm:cap<=maxLen)
  (hcell:∀j u,vs[j]?=some u->w.cell? ⟨G,j,none⟩=some u) (hs:∀o,o<rows.length*sz->s.st G o) (h1:∀v∈vs,v.oneCell'=true) (hp:∀i row j d,rows[i]?=some row->row[j]?=some d->∃u,vs[i*sz+j]?=some u/\d.p w s.good u):
  (PV.sl false sz rows).p w s (.slice (some ⟨G,0,none⟩) rows.length cap):=by
 refine⟨_,cap,rfl,hc,by simpa[maxLen]using hm,hz,fun i row hi=>⟨G,0,rfl,fun j d hj=>?_⟩⟩;obtain⟨u,h2,h3⟩:=hp i row j d hi hj;have hlt:=(Ac.1 h2).1;refine⟨u,by rw[Bv];exact hcell _ u h2,hs _ om,h3,h1 u (Aw h2)⟩
theorem Own.row_one{k j sz len:Nat}{e:TypeId}{c:Own}(h:fnd j [(k,Own.row e sz len)]=some c):j=k/\c= .row e sz len:=by
 rw[zY]at h;by_cases e':k=j
 ·simp only[e',if_true]at h;cases h;exact⟨e'.symm,rfl⟩
 ·simp only[e',if_false]at h;cases h
theorem uF{g:Gh}{k sz len:Nat}{e:TypeId}{v:Value}(h:g.gn k len=some v):blk g k (.row e sz len)=v.ownBlock:=by
 show(g.gn k len).bind Value.ownBlock=_;rw[h];rfl
theorem Stp.moreRow{w w':World}{s:Sb}{g:Gh}{k sz n m:Nat}{e:TypeId}{v v':Value}(hg:Good w s g [(k,.row e sz n)] [(k,.row e sz (n+m))])(hv:g.gn k n=some v)(h0:m=0->v'=v){G cap:Nat}{cur:Array Value}(hv':v'= .slice (some ⟨G,0,none⟩) (n+m) cap)
  (hG:v.ownBlock=some G\/G=w.heap.size) (hlt:G<w'.heap.size) (hs:w.heap.size<=w'.heap.size) (hb:∀N,N<w.heap.size->N≠G->w'.heap[N]?=w.heap[N]?) (hold:∀o,o<n*sz->G<w.heap.size->w'.cell? ⟨G,o,none⟩=w.cell? ⟨G,o,none⟩)
  (hn:CellB w' G cur e) (h1:w'.os=w.os) (h2:w'.tape=w.tape) (h3:w'.output=w.output) (hc:n+m<=cap) (hm:cap<=maxLen) (hz:cur.size=cap*sz):
  Stp w s g [(k,.row e sz n)] w' (s.add fun B o=>B=G/\o<(n+m)*sz) (g.setRow k (n+m) v') [(k,.row e sz (n+m))]:=by
 have hok:=hg.one;obtain⟨hno,u,hu,hcase⟩:=hok;rw[hv]at hu;cases hu;have hblk:v.ownBlock=some G->∀o,n*sz<=o->¬s G o:=by
  intro hvb;rcases hcase with⟨rfl,_⟩|⟨G',cap',cur',rfl,_,_,_,_,hst⟩
  ·cases hvb
  ·have:G'=G:=by simpa[Value.ownBlock]using hvb
   subst this;exact hst
 have hGs:∀o,s G o->o<n*sz/\G<w.heap.size:=by
  intro o hso;have hl:=hg.lt _ _ hso;refine⟨?_,hl⟩;rcases hG with hG|hG
  ·rcases Bm o (n*sz)with h|h
   ·exact h
   ·exact absurd hso (hblk hG o h)
  ·omega
 refine⟨⟨fun _ _ h=> .inl h,fun b o h=>?_,fun _ _ h=> .inl h⟩,fun B o h=>?_,⟨fun _ _ h=>h,fun j i x h=>?_⟩,fun j h=>⟨rfl,fun i=>?_⟩,h1,h2,h3,hs,fun N hN hne=>?_,fun B o h=>?_,fun B o h=>?_,fun j c h=>?_,fun j c N h hN=>?_,fun j j' c c' N h h' hne=>?_,fun j c h=>?_⟩
 ·by_cases hbG:b=G
  ·subst hbG;obtain⟨h4,h5⟩:=hGs o h;exact hold o h4 h5
  ·exact uO (hb b (hg.lt b o h) hbG)
 ·rcases h with h|⟨rfl,_⟩
  ·have:=hg.lt B o h;omega
  ·exact hlt
 ·by_cases hji:j=k/\i=n+m
  ·obtain⟨rfl,rfl⟩:=hji;rw[Gh.setRow_eq];rcases Bp m with hm0|hm0
   ·rw[h0 hm0];subst hm0;rw[Ce,hv]at h;exact h
   ·rw[hno _ om]at h;cases h
  ·rw[Gh.setRow_ne _ _ hji];exact h
 ·have hjk:j≠k:=by
   rintro rfl;rw[zY]at h;simp at h
  exact Gh.setRow_ne _ _ (fun e=>hjk e.1)
 ·have hNG:N≠G:=by
   rintro rfl;rcases hG with hG|hG
   ·exact hne k (.row e sz n) (by rw[zY];simp) (by rw[uF hv];exact hG)
   ·omega
  exact hb N hN hNG
 ·rcases h with h|⟨rfl,_⟩
  ·exact .inl h
  ·rcases hG with hG|hG
   ·exact .inr (.inr ⟨k,.row e sz n,by rw[zY];simp,by rw[uF hv];exact hG⟩)
   ·exact .inr (.inl om)
 ·rcases h with h|⟨rfl,_⟩
  ·exact .inl h
  ·rcases hG with hG|hG
   ·exact .inr (.inr ⟨k,.row e sz n,by rw[zY];simp,by rw[uF hv];exact hG⟩)
   ·exact .inr (.inl om)
 ·obtain⟨rfl,rfl⟩:=Own.row_one h;refine⟨fun i hi=>by rw[Gh.setRow_ne _ _ om];exact hno i om,v',Gh.setRow_eq _ _ _ _,.inr ⟨G,cap,cur,hv',hn,hc,hm,hz,fun o ho hso=>?_⟩⟩;rcases hso with hso|⟨_,hso⟩
  ·have:=(hGs o hso).1;have:n*sz<=(n+m)*sz:=Bs _ om;omega
  ·omega
 ·obtain⟨rfl,rfl⟩:=Own.row_one h;rw[uF (Gh.setRow_eq _ _ _ _),hv']at hN;have hN':G=N:=by simpa[Value.ownBlock]using hN
  subst hN';rcases hG with hG|hG
  ·exact .inr ⟨j,.row e sz n,by rw[zY];simp,by rw[uF hv];exact hG⟩
  ·exact .inl om
 ·obtain⟨rfl,rfl⟩:=Own.row_one h;obtain⟨rfl,rfl⟩:=Own.row_one h';exact absurd rfl hne
 ·obtain⟨rfl,rfl⟩:=Own.row_one h;exact⟨.row e sz (n+m),by rw[zY];simp⟩
section
variable{P:Program}
theorem pZ{t e ty:TypeId}{sz:Nat}(hA:AppT P t e sz){w:World}{s:Sb}{g:Gh}{mo:Bool}{k n m:Nat}{rows rows2:List (List PV)}{v x:Value}(hg:Good w s g [(k,.row e sz n)] [(k,.row e sz (n+m))])(hv:g.gn k n=some v)
  (hP:(PV.sl false sz rows).p w s v) (hn:rows.length=n) (hx:(PV.sl mo sz rows2).p w s x) (hm:rows2.length=m) (hb:n+m<=1073741824):
  ∃v' w' s' g',(Builtin.append_ #[t,t] ty #[v,x]).run P w= .ok v' w'/\Stp w s g [(k,.row e sz n)] w' s' g' [(k,.row e sz (n+m))]/\(PV.sl false sz (rows++rows2)).p w' s' v'/\g'.gn k (n+m)=some v':=by
 subst hn;subst hm;obtain⟨ie,z,ht,hi,hz,hsz,hzs,hpos,hby,hby2⟩:=hA.h;subst hsz;have hg':=hg;obtain⟨hno,u,hu,hcase⟩:=hg.one;rw[hv]at hu;cases hu;obtain⟨a1,c1,xs,ex,hxl,hx1,hxr,hxp⟩:=PV.sl_src hx;obtain⟨_,c0,olds,ev,hol,ho1,hor,hop⟩:=PV.sl_src hP;subst ex;have hbytes:(rows.length+rows2.length)*ie.bytes<=140737488355328:=Bg (Nat.mul_le_mul hb hby2) de;have hlen:(rows++rows2).length=rows.length+rows2.length:=by simp
 have hrz:∀row∈rows++rows2,row.length=ie.size:=by
  obtain⟨_,_,_,_,_,h4,_⟩:=hP;obtain⟨_,_,_,_,_,h4',_⟩:=hx;intro row hr;rcases Az.1 hr with h|h
  ·exact h4 row h
  ·exact h4' row h
 rcases Bp rows2.length with hm0|hm0
 ·--nothing to append
  have hr2:rows2=[]:=Ax hm0;subst hr2;have hst:Stp w s g [(k,.row e ie.size rows.length)] w s g [(k,.row e ie.size (rows.length+([]:List (List PV)).length))]:=by
   simp only[Au,Ce];exact Stp.read ⟨hg.lt,hg.ok,hg.sep,(fun k c h1 h2=>by rw[h1]at h2;cases h2),hg.gl⟩
  refine⟨v,w,s,g,?_,hst,by simpa using hP,by simpa using hv⟩;rcases hcase with⟨rfl,h0⟩|⟨G,cap,cur,rfl,hG,hnc,hcm,hcs,hstb⟩
  ·have h0':rows.length=0:=h0
   cases a1<;>simp[Builtin.append_,run_underlying ht,sizeOf,typeInfo,hi,Builtin.lenOf,Builtin.firstCells,loadCells,loadCellsFrom]
  ·cases a1<;>simp[Builtin.append_,run_underlying ht,sizeOf,typeInfo,hi,Builtin.lenOf,Builtin.firstCells,loadCells,loadCellsFrom,hnc,storeCells]
 ·obtain⟨b2,off2,ea,hra⟩:=hxr hm0;subst ea;have hnews:∀j u,xs[j]?=some u->w.cell? ((⟨b2,off2,none⟩:Addr).add j)=some u:=fun j u hj=>by rw[Addr.add_mid];exact hra j u hj
  have grown:∀(old:Nat),rows.length<=old\/v= .slice none 0 0->old<rows.length+rows2.length->(Builtin.append_ #[t,t] ty #[v,.slice (some ⟨b2,off2,none⟩) rows2.length c1]).run P w=
    .ok (.slice (some ⟨w.heap.size,0,none⟩) (rows.length+rows2.length) (grownCap w (rows.length+rows2.length) old e)) (w.drew.alloc (.cells (olds.toArray++xs.toArray++Builtin.zeroCells z.cells (grownCap w (rows.length+rows2.length) old e-(rows.length+rows2.length))) e))->
    ∃v' w' s' g',(Builtin.append_ #[t,t] ty #[v,.slice (some ⟨b2,off2,none⟩) rows2.length c1]).run P w= .ok v' w'/\Stp w s g [(k,.row e ie.size rows.length)] w' s' g' [(k,.row e ie.size (rows.length+rows2.length))]/\(PV.sl false ie.size (rows++rows2)).p w' s' v'/\g'.gn k (rows.length+rows2.length)=some v':=by
   intro old _ hold hr;have hge:=grownCap_ge w (rows.length+rows2.length) old e;have hcm:grownCap w (rows.length+rows2.length) old e<=maxLen:=grownCap_le_maxLen w _ old e (by simp only[maxLen];omega);generalize grownCap w (rows.length+rows2.length) old e=gc at*;have hcur:(olds.toArray++xs.toArray++Builtin.zeroCells z.cells (gc-(rows.length+rows2.length))).size=gc*ie.size:=by
    simp only[Array.size_append,Br,size_zeroCells,hzs,hol,hxl,<-Bh];congr 1;omega
   have hst:=Stp.moreRow (w:=w) (w':=w.drew.alloc (.cells (olds.toArray++xs.toArray++Builtin.zeroCells z.cells (gc-(rows.length+rows2.length))) e)) hg hv (fun h=>by omega) (v':= .slice (some ⟨w.heap.size,0,none⟩) (rows.length+rows2.length) gc) rfl (.inr rfl) (by simp) (by simp)
    (fun N hN _=>heap_alloc_old w.drew _ hN) (fun o _ h=>absurd h om) (.of (heap_alloc_new w.drew _)) rfl rfl rfl hge hcm hcur
   refine⟨_,_,_,_,hr,hst,?_,Gh.setRow_eq _ _ _ _⟩
   have hfin:=PV.sl_block (w:=w.drew.alloc (.cells (olds.toArray++xs.toArray++Builtin.zeroCells z.cells (gc-(rows.length+rows2.length))) e)) (s:=s.add fun B o=>B=w.heap.size/\o<(rows.length+rows2.length)*ie.size) (G:=w.heap.size) (cap:=gc) (rows:=rows++rows2) (vs:=olds++xs) hrz (by simp[hol,hxl,Bh]) (by rw[hlen];exact hge) hcm
    (fun j u hj=>by
     rw[cell_of_row _ w.heap.size j _ e (0,0) (heap_alloc_new w.drew _)];have hj':j<(olds++xs).length:=(Ac.1 hj).1;rw[Cu (by simpa using hj')];simpa using hj)
    (fun o ho=>by rw[hlen]at ho;exact .inr ⟨rfl,ho⟩)
    (fun v hv=>by
     rcases Az.1 hv with h|h
     ·exact ho1 v h
     ·exact hx1 v h)
    (fun i row j d hi' hj=>by
     have hjz:j<ie.size:=by
      have h1:=(Ac.1 hj).1;rw[hrz row (Aw hi')]at h1;exact h1
     rcases Bm i rows.length with hlt|hge2
     ·rw[Bb hlt]at hi';obtain⟨u,h1,h2⟩:=hop i row j d hi' hj;have h3:=(Ac.1 h1).1;exact⟨u,by rw[Bb h3];exact h1,d.mono _ _ _ _ u hst.ex.good h2⟩
     ·rw[Bk hge2]at hi';obtain⟨u,h1,h2⟩:=hxp _ row j d hi' hj;refine⟨u,?_,d.mono _ _ _ _ u hst.ex.good h2⟩;have e1:i*ie.size+j-olds.length=(i-rows.length)*ie.size+j:=by
       rw[hol,Nat.sub_mul];have:=Bs ie.size hge2;omega
      rw[Bk (by rw[hol];have:=Bs ie.size hge2;omega),e1];exact h1)
   rw[hlen]at hfin;exact hfin
  rcases hcase with⟨rfl,h0⟩|⟨G,cap,cur,rfl,hG,hnc,hcm,hcs,hstb⟩
  ·have hr0:rows=[]:=Ax h0;subst hr0;have ho0:olds=[]:=Ax (by simpa using hol);subst ho0;have hr:=run_append_nil (P:=P) w t ty e ie z ht hi hz ⟨b2,off2,none⟩ rows2.length c1 xs hxl hnews hm0 om (by have:=hbytes;simp only[Au,Bv]at this;omega);refine grown 0 (.inr rfl) (by simpa using hm0) ?_;simpa using hr
  ·obtain⟨hb0,off0,e0,hro⟩:∃b off,(some (⟨G,0,none⟩:Addr))=some ⟨b,off,none⟩/\(0<rows.length->w.rangeAt b off olds):=by
    refine⟨G,0,rfl,fun h=>?_⟩;obtain⟨b,off,e1,h2⟩:=hor h
    cases ev
    cases e1;exact h2
   cases e0;have holds:∀j u,olds[j]?=some u->w.cell? ((⟨G,0,none⟩:Addr).add j)=some u:=fun j u hj=>by
    have h0:0<rows.length:=by
     rcases Bp rows.length with h|h
     ·have:=(Ac.1 hj).1;rw[hol,h]at this;simp at this
     ·exact h
    rw[Addr.add_mid];exact hro h0 j u hj
   by_cases hroom:rows.length+rows2.length<=cap
   ·have hfit:rows.length*ie.size+xs.length<=cur.size:=by rw[hxl,hcs,<-Bh];exact Bs _ hroom
    have hr:=uK (P:=P) w t ty e ie ht hi G rows.length cap cur hG ⟨b2,off2,none⟩ rows2.length c1 xs hxl hnews hx1 hroom hfit;have hGl:G<w.heap.size:=hG.lt;have hrow:=hG.setRow (cs:=(cur.toList.take (rows.length*ie.size)++xs++cur.toList.drop (rows.length*ie.size+xs.length)).toArray) (by simp only[Br,Ae,At,Ay,Cz];omega);have hcl:rows.length*ie.size<=cur.toList.length:=by simp;omega
    have hcelln:∀j,(w.setRow G (cur.toList.take (rows.length*ie.size)++xs++cur.toList.drop (rows.length*ie.size+xs.length)).toArray).cell? ⟨G,j,none⟩=(cur.toList.take (rows.length*ie.size)++xs++cur.toList.drop (rows.length*ie.size+xs.length))[j]?:=fun j=>by
     rw[hrow.cell];simp
    have hcello:∀j,j<rows.length*ie.size->(w.setRow G (cur.toList.take (rows.length*ie.size)++xs++cur.toList.drop (rows.length*ie.size+xs.length)).toArray).cell? ⟨G,j,none⟩=w.cell? ⟨G,j,none⟩:=fun j hj=>by
     rw[hcelln,hG.cell,Co,Bb (by rw[At];omega),Ch,Ag hj];simp
    have hst:=Stp.moreRow (w:=w) hg hv (fun h=>by omega) (v':= .slice (some ⟨G,0,none⟩) (rows.length+rows2.length) cap) rfl (.inl rfl) (by simpa using hGl) (by simp)
     (fun N _ hN=>setRow_other w G N _ hN) (fun o ho _=>hcello o ho) hrow rfl rfl rfl hroom hcm (by
      simp only[Br,Ae,At,Ay,Cz];omega)
    refine⟨_,_,_,_,hr,hst,?_,Gh.setRow_eq _ _ _ _⟩
    have hfin:=PV.sl_block (w:=w.setRow G (cur.toList.take (rows.length*ie.size)++xs++cur.toList.drop (rows.length*ie.size+xs.length)).toArray) (s:=s.add fun B o=>B=G/\o<(rows.length+rows2.length)*ie.size) (G:=G) (cap:=cap) (rows:=rows++rows2) (vs:=olds++xs) hrz (by simp[hol,hxl,Bh]) (by rw[hlen];exact hroom) hcm
     (fun j u hj=>by
      rcases Bm j olds.length with hlt|hge2
      ·rw[Bb hlt]at hj;rw[hcello j om];have:=holds j u hj;rw[Addr.add_mid]at this;simpa using this
      ·rw[Bk hge2]at hj;rw[hcelln,Co,Bk (by rw[At];omega)];have e1:j-(cur.toList.take (rows.length*ie.size)).length=j-olds.length:=by rw[At,hol];congr 1;omega
       rw[e1,Bb (Ac.1 hj).1];exact hj)
     (fun o ho=>by rw[hlen]at ho;exact .inr ⟨rfl,ho⟩)
     (fun v hv=>by
      rcases Az.1 hv with h|h
      ·exact ho1 v h
      ·exact hx1 v h)
     (fun i row j d hi' hj=>by
      have hjz:j<ie.size:=by
       have h1:=(Ac.1 hj).1;rw[hrz row (Aw hi')]at h1;exact h1
      rcases Bm i rows.length with hlt|hge2
      ·rw[Bb hlt]at hi';obtain⟨u,h1,h2⟩:=hop i row j d hi' hj;have h3:=(Ac.1 h1).1;exact⟨u,by rw[Bb h3];exact h1,d.mono _ _ _ _ u hst.ex.good h2⟩
      ·rw[Bk hge2]at hi';obtain⟨u,h1,h2⟩:=hxp _ row j d hi' hj;refine⟨u,?_,d.mono _ _ _ _ u hst.ex.good h2⟩;have e1:i*ie.size+j-olds.length=(i-rows.length)*ie.size+j:=by
        rw[hol,Nat.sub_mul];have:=Bs ie.size hge2;omega
       rw[Bk (by rw[hol];have:=Bs ie.size hge2;omega),e1];exact h1)
    rw[hlen]at hfin;exact hfin
   ·have hr:=run_append_grow (P:=P) w t ty e ie z ht hi hz ⟨G,0,none⟩ rows.length cap olds hol holds ⟨b2,off2,none⟩ rows2.length c1 xs hxl hnews om om (growslice_fits om hbytes);exact grown cap (.inl hnc) om hr
end
theorem Stp.thenNew{w w':World}{s s':Sb}{g g1 g':Gh}{k:Nat}{c0 c:Own}(h1:Stp w s g [] w s g1 [(k,c0)])(h2:Stp w s g1 [(k,c0)] w' s' g' [(k,c)]):Stp w s g [] w' s' g' [(k,c)]:=by
 have hone:∀{j:Nat}{d e:Own},fnd j [(k,d)]=some e->j=k/\e=d:=fun h=>vV h;have hnb:∀j d N,fnd j [(k,c0)]=some d->blk g1 j d=some N->w.heap.size<=N:=fun j d N hd hN=>(h1.nb j d N hd hN).elim id fun⟨_,_,h,_⟩=>by cases h
 refine⟨h1.ex.trans h2.ex,h2.lt,⟨fun k N h=>h2.gle.bx _ _ (h1.gle.bx _ _ h),fun k m v h=>h2.gle.gn _ _ _ (h1.gle.gn _ _ _ h)⟩,fun j h=>?_,h2.os,h2.tape,h2.output,h2.size,fun N hN _=>h2.block N hN fun j d hd hb=>?_,fun B o h=>?_,fun B o h=>?_,h2.ok,fun j d N hd hN=>?_,h2.sep,fun _ _ h=>by cases h⟩
 ·have hjk:fnd j [(k,c0)]=none:=by
   rw[zY]at h⊢;by_cases e:k=j
   ·simp[e]at h
   ·simp[e,fnd]
  obtain⟨a1,a2⟩:=h1.same j hjk;obtain⟨b1,b2⟩:=h2.same j h;exact⟨b1.trans a1,fun m=>(b2 m).trans (a2 m)⟩
 ·have:=hnb j d N hd hb;omega
 ·rcases h2.st B o h with h|h|⟨j,d,hd,hb⟩
  ·exact .inl h
  ·exact .inr (.inl h)
  ·exact .inr (.inl (hnb j d B hd hb))
 ·rcases h2.sst B o h with h|h|⟨j,d,hd,hb⟩
  ·exact .inl h
  ·exact .inr (.inl h)
  ·exact .inr (.inl (hnb j d B hd hb))
 ·rcases h2.nb j d N hd hN with h|⟨j',d',hd',hb⟩
  ·exact .inl h
  ·exact .inl (hnb j' d' N hd' hb)
section
variable{P:Program}{tm:List (Nat×TV)}{dst:Option Tmp}{ty:TypeId}{pos:String}{aft:Array Edge}{gd:Option (Nat×Bool)}
theorem jH{x y:Operand}{t:TypeId}{a:Act}{w w':World}{v':Value}(h:(Builtin.append_ #[t,t] ty #[a.eval x,a.eval y]).run P w= .ok v' w'):
  (execOp a.eval ⟨dst,.call {callee:= .builtin .append,args:= #[x,y],argTypes:= #[t,t]},ty,pos,aft,gd⟩).run P w= .ok (.value v') w':=by
 simp[execOp,resolve,invoke,builtin,h,Result.andThen]
theorem u_appendOwn{x y:Operand}{t e:TypeId}{mo:Bool}{sz k n m:Nat}{rows rows2:List (List PV)}{d:TV}(hA:AppT P t e sz)(hx:Opd tm x (.own k sz rows))(hn:rows.length=n)(hy:Opd tm y d)(hd:∀w s g v,d.P w s g v->(PV.sl mo sz rows2).p w s v)(hm:rows2.length=m)(hb:n+m<=1073741824):
  UOp P ⟨dst,.call {callee:= .builtin .append,args:= #[x,y],argTypes:= #[t,t]},ty,pos,aft,gd⟩ tm [(k,.row e sz n)] (.own k sz (rows++rows2)) [(k,.row e sz (n+m))]:=by
 intro w s g a K Q ht hg hK;have h1:=Opd.eval ht hx;rw[TV.P]at h1;obtain⟨v',w',s',g',hr,hst,hp,hgn⟩:=pZ (ty:=ty) hA hg (by rw[<-hn];exact h1.2) h1.1 hn (hd _ _ _ _ (Opd.eval ht hy)) hm hb;unfold Oper.wp;rw[jH hr];refine hK w' s' g' v' ?_ hst;rw[TV.P];exact⟨hp,by rw[Ae,hn,hm];exact hgn⟩
theorem PV.sl_nil{w:World}{s:Sb}{sz:Nat}:(PV.sl false sz []).p w s (.slice none 0 0):=⟨none,0,rfl,Ap _,by omega,(fun _ h=>by cases h),(fun i row h=>by simp at h)⟩
theorem u_appendNil{x y:Operand}{t e:TypeId}{sz m:Nat}{mo:Bool}(k:Nat){rows2:List (List PV)}{d:TV}(hA:AppT P t e sz)(hx:Opd tm x (.pv (PV.lit (.slice none 0 0))))(hy:Opd tm y d)(hd:∀w s g v,d.P w s g v->(PV.sl mo sz rows2).p w s v)(hm:rows2.length=m)(hb:m<=1073741824):
  UOp P ⟨dst,.call {callee:= .builtin .append,args:= #[x,y],argTypes:= #[t,t]},ty,pos,aft,gd⟩ tm [] (.own k sz rows2) [(k,.row e sz m)]:=by
 intro w s g a K Q ht hg hK;have h1:=Opd.lit ht hx;have hfr:=hg.fr k (.row e sz m) (by rw[zY];simp) rfl;have hst0:=Stp.ghostRow (w:=w) (s:=s) (sz:=sz) (e:=e) hg.lt hfr;have hg1:Good w s (g.setRow k 0 (.slice none 0 0)) [(k,.row e sz 0)] [(k,.row e sz (0+m))]:=⟨hg.lt,hst0.ok,fun j j' c c' N h1 h2 hne=>by
  obtain⟨rfl,rfl⟩:=vV h1;obtain⟨rfl,rfl⟩:=vV h2;exact absurd rfl hne,(fun j c h1 h2=>by
  obtain⟨rfl,rfl⟩:=vV h1;rw[zY]at h2;simp at h2),hg.gl⟩
 obtain⟨v',w',s',g',hr,hst,hp,hgn⟩:=pZ (ty:=ty) (rows:=[]) hA hg1 (Gh.setRow_eq _ _ _ _) PV.sl_nil rfl (hd _ _ _ _ (TV.mono (Ex.refl w s) hst0.gle (Opd.eval ht hy))) hm om;rw[Bv]at hst hgn;unfold Oper.wp;rw[jH (by rw[h1];exact hr)];refine hK w' s' g' v' ?_ (Stp.thenNew hst0 hst);rw[TV.P];exact⟨by simpa using hp,by rw[hm];exact hgn⟩
theorem u_appendFull{x y:Operand}{t e:TypeId}{sz n m:Nat}{mo:Bool}(k:Nat){rows rows2:List (List PV)}{d:TV}(hA:AppT P t e sz)(hx:Opd tm x (.pv (PV.slf sz rows)))(hn:rows.length=n)(hy:Opd tm y d)(hd:∀w s g v,d.P w s g v->(PV.sl mo sz rows2).p w s v)(hm:rows2.length=m)(hm0:0<m)(hb:n+m<=1073741824):
  UOp P ⟨dst,.call {callee:= .builtin .append,args:= #[x,y],argTypes:= #[t,t]},ty,pos,aft,gd⟩ tm [] (.own k sz (rows++rows2)) [(k,.row e sz (n+m))]:=by
 intro w s g a K Q ht hg hK;subst hn;subst hm;obtain⟨⟨av,hv⟩,hP⟩:=Opd.eval ht hx;have hxv:=hd _ _ _ _ (Opd.eval ht hy);have hfr:=hg.fr k (.row e sz (rows.length+rows2.length)) (by rw[zY];simp) rfl;obtain⟨ie,z,htt,hi,hz,hsz,hzs,hpos,hby,hby2⟩:=hA.h;subst hsz;obtain⟨a1,c1,xs,ex,hxl,hx1,hxr,hxp⟩:=PV.sl_src hxv;obtain⟨a0,c0,olds,ev,hol,ho1,hor,hop⟩:=PV.sl_src hP;have hbytes:(rows.length+rows2.length)*ie.bytes<=140737488355328:=Bg (Nat.mul_le_mul hb hby2) de;have hlen:(rows++rows2).length=rows.length+rows2.length:=by simp
 have hrz:∀row∈rows++rows2,row.length=ie.size:=by
  obtain⟨_,_,_,_,_,h4,_⟩:=hP;obtain⟨_,_,_,_,_,h4',_⟩:=hxv;intro row hr;rcases Az.1 hr with h|h
  ·exact h4 row h
  ·exact h4' row h
 obtain⟨b2,off2,ea,hra⟩:=hxr hm0;subst ea;have hnews:∀j u,xs[j]?=some u->w.cell? ((⟨b2,off2,none⟩:Addr).add j)=some u:=fun j u hj=>by rw[Addr.add_mid];exact hra j u hj
 have hev:a0=av/\c0=rows.length:=by
  rw[ev]at hv;simp only[Value.slice.injEq,true_and]at hv;exact hv
 obtain⟨rfl,rfl⟩:=hev;obtain⟨gc,hge,hcm,hr⟩:∃gc,rows.length+rows2.length<=gc/\gc<=maxLen/\(Builtin.append_ #[t,t] ty #[a.eval x,a.eval y]).run P w= .ok (.slice (some ⟨w.heap.size,0,none⟩) (rows.length+rows2.length) gc) (w.drew.alloc (.cells (olds.toArray++xs.toArray++Builtin.zeroCells z.cells (gc-(rows.length+rows2.length))) e)):=by
  refine⟨grownCap w (rows.length+rows2.length) rows.length e,grownCap_ge w _ _ e,grownCap_le_maxLen w _ _ e (by simp only[maxLen];omega),?_⟩;rw[ev,ex];rcases Bp rows.length with h0|h0
  ·have ho0:olds=[]:=Ax (by rw[hol,h0,Nat.zero_mul]);subst ho0;rw[h0]
   cases a0 with
   |none=>
    have hr:=run_append_nil (P:=P) w t ty e ie z htt hi hz ⟨b2,off2,none⟩ rows2.length c1 xs hxl hnews hm0 om (by have:=hbytes;rw[h0]at this;simp only[Bv]at this;omega);simpa using hr
   |some A=>
    have hr:=run_append_grow (P:=P) w t ty e ie z htt hi hz A 0 0 [] (by simp) (fun j u hj=>by simp at hj) ⟨b2,off2,none⟩ rows2.length c1 xs hxl hnews om om (growslice_fits om (by have:=hbytes;rw[h0]at this;exact this));exact hr
  ·obtain⟨b,off,e1,hro⟩:=hor h0;subst e1;have holds:∀j u,olds[j]?=some u->w.cell? ((⟨b,off,none⟩:Addr).add j)=some u:=fun j u hj=>by rw[Addr.add_mid];exact hro j u hj
   exact run_append_grow (P:=P) w t ty e ie z htt hi hz ⟨b,off,none⟩ rows.length rows.length olds hol holds ⟨b2,off2,none⟩ rows2.length c1 xs hxl hnews om om (growslice_fits om hbytes)
 have hcur:(olds.toArray++xs.toArray++Builtin.zeroCells z.cells (gc-(rows.length+rows2.length))).size=gc*ie.size:=by
  simp only[Array.size_append,Br,size_zeroCells,hzs,hol,hxl,<-Bh];congr 1;omega
 have hst:=Stp.newRow (w:=w) (w':=w.drew.alloc (.cells (olds.toArray++xs.toArray++Builtin.zeroCells z.cells (gc-(rows.length+rows2.length))) e)) (k:=k) (sz:=ie.size) (len:=rows.length+rows2.length) (cap:=gc) (e:=e) hg.lt hfr (by simp) (fun N hN=>heap_alloc_old w.drew _ hN) (.of (heap_alloc_new w.drew _)) rfl rfl rfl hge hcm hcur
 have hfin:=PV.sl_block (w:=w.drew.alloc (.cells (olds.toArray++xs.toArray++Builtin.zeroCells z.cells (gc-(rows.length+rows2.length))) e)) (s:=s.add fun B o=>B=w.heap.size/\o<(rows.length+rows2.length)*ie.size) (G:=w.heap.size) (cap:=gc) (rows:=rows++rows2) (vs:=olds++xs) hrz (by simp[hol,hxl,Bh]) (by rw[hlen];exact hge) hcm
  (fun j u hj=>by
   rw[cell_of_row _ w.heap.size j _ e (0,0) (heap_alloc_new w.drew _)];have hj':j<(olds++xs).length:=(Ac.1 hj).1;rw[Cu (by simpa using hj')];simpa using hj)
  (fun o ho=>by rw[hlen]at ho;exact .inr ⟨rfl,ho⟩)
  (fun v hv=>by
   rcases Az.1 hv with h|h
   ·exact ho1 v h
   ·exact hx1 v h)
  (fun i row j d hi' hj=>by
   have hjz:j<ie.size:=by
    have h1:=(Ac.1 hj).1;rw[hrz row (Aw hi')]at h1;exact h1
   rcases Bm i rows.length with hlt|hge2
   ·rw[Bb hlt]at hi';obtain⟨u,h1,h2⟩:=hop i row j d hi' hj;have h3:=(Ac.1 h1).1;exact⟨u,by rw[Bb h3];exact h1,d.mono _ _ _ _ u hst.ex.good h2⟩
   ·rw[Bk hge2]at hi';obtain⟨u,h1,h2⟩:=hxp _ row j d hi' hj;refine⟨u,?_,d.mono _ _ _ _ u hst.ex.good h2⟩;have e1:i*ie.size+j-olds.length=(i-rows.length)*ie.size+j:=by
     rw[hol,Nat.sub_mul];have:=Bs ie.size hge2;omega
    rw[Bk (by rw[hol];have:=Bs ie.size hge2;omega),e1];exact h1)
 rw[hlen]at hfin;unfold Oper.wp;rw[jH hr];refine hK _ _ _ _ ?_ hst;rw[TV.P];exact⟨hfin,by rw[hlen];exact Gh.setRow_eq _ _ _ _⟩
theorem u_buildSliceOwn{t e:TypeId}{sz len:Nat}(k:Nat){parts:List (Nat×Operand)}{rows:List (List PV)}(hA:AppT P t e sz)(hp:mG tm sz 0 parts rows)(hl:len=rows.length)(hs:len*sz<=2^24)(h0:0<len):
  UOp P ⟨dst,.buildSlice t len parts.toArray,ty,pos,aft,gd⟩ tm [] (.own k sz rows) [(k,.row e sz len)]:=by
 intro w s g a K Q ht hg hK;obtain⟨ie,z,h1,h2,h3,h4,h5,h6,h7,h8⟩:=hA.h;subst h4;subst hl;have hlp:0<rows.length*ie.size:=Nat.mul_pos h0 h6;obtain⟨vss,g1,g2,g3⟩:=pM (sz:=ie.size) ht 0 [] ((Array.range (rows.length*ie.size)).map (z.cells[·%z.cells.size]!)).toList hp (by simp) (by simp);have hrl:∀(i:Nat)(row:List PV),rows[i]?=some row->row.length=ie.size/\∀d∈row,d.one=true:=by
  have aux:∀(parts:List (Nat×Operand))(rows:List (List PV))(n:Nat),mG tm ie.size n parts rows->∀(i:Nat)(row:List PV),rows[i]?=some row->row.length=ie.size/\∀d∈row,d.one=true:=by
   intro parts;induction parts with
   |nil=>intro rows n h i row hr;cases rows with|nil=>simp at hr|cons _ _=>exact h.elim
   |cons q parts ih=>
    intro rows n h i row hr
    cases rows with
    |nil=>simp at hr
    |cons r rows=>
     obtain⟨_,_,e3,e5,_,e4⟩:=h
     match i,hr with
     |0,hr=>simp at hr;subst hr;exact⟨e3,e5⟩
     |i+1,hr=>exact ih rows (n+1) e4 i row (by simpa using hr)
  exact aux parts rows 0 hp
 have hr:=run_buildSlice (P:=P) w t e rows.length (parts.toArray.map fun(i,x)=>(i,a.eval x)) (vss.flatten).toArray ie z h1 h2 h3 om om (by
  simp only[Dh,Array.toArray_toList]at g3;rw[<-g3];simp)
 have hall:∀x∈vss,x.length=ie.size:=by
  intro x hx;obtain⟨m,hm⟩:=Cw hx;have hm':m<rows.length:=by rw[<-g1];exact(Ac.1 hm).1
  rw[(g2 m _ x (Af hm') hm).length];exact(hrl m _ (Af hm')).1
 have hfl:∀(l:List (List Value)),(∀x∈l,x.length=ie.size)->l.flatten.length=l.length*ie.size:=by
  intro l;induction l with
  |nil=>intro _;simp
  |cons x l ih=>intro h;rw[Cn,Ae,ih fun y hy=>h y (by simp[hy]),h x (by simp),Ak,Bh];omega
 have hfl':vss.flatten.length=rows.length*ie.size:=by rw[hfl vss hall,g1]
 have hlm:rows.length<=maxLen:=by
  have:rows.length*1<=rows.length*ie.size:=Nat.mul_le_mul_left _ h6;simp only[maxLen];omega
 unfold Oper.wp;have he:(execOp a.eval ⟨dst,.buildSlice t rows.length parts.toArray,ty,pos,aft,gd⟩).run P w= .ok (.value (.slice (some ⟨w.heap.size,0,none⟩) rows.length rows.length)) (w.alloc (.cells vss.flatten.toArray e)):=yG hr;rw[he];have hfr:=hg.fr k (.row e ie.size rows.length) (by rw[zY];simp) rfl;have hst:=Stp.newRow (w:=w) (w':=w.alloc (.cells vss.flatten.toArray e)) (sz:=ie.size) (len:=rows.length) (cap:=rows.length) (e:=e) (cur:=vss.flatten.toArray) hg.lt hfr (by simp) (fun N hN=>Below.heap_alloc w _ N hN) (.of (heap_alloc_new w _)) rfl rfl rfl (Ap _) hlm (by simp only[Br];exact hfl');refine hK _ _ _ _ ?_ hst;rw[TV.P];refine⟨PV.sl_block (vs:=vss.flatten) (fun row hrow=>?_) hfl' (Ap _) hlm (fun j u hj=>?_) (fun o ho=> .inr ⟨rfl,ho⟩) (fun v hv=>?_) (fun i row j d hi hj=>?_),Gh.setRow_eq _ _ _ _⟩
 ·obtain⟨i,hi⟩:=Cw hrow;exact(hrl i row hi).1
 ·rw[cell_of_row _ w.heap.size _ _ e (0,0) (heap_alloc_new w _)];simpa using hj
 ·obtain⟨vs,h9,h10⟩:=List.mem_flatten.1 hv;obtain⟨i,hi⟩:=Cw h9;have hi':i<rows.length:=by rw[<-g1];exact(Ac.1 hi).1
  have hav:=g2 i _ vs (Af hi') hi;exact hav.toArr (hrl i _ (Af hi')).2 v h10
 ·have hi':i<vss.length:=by rw[g1];exact(Ac.1 hi).1
  obtain⟨v,h9,h10⟩:=(g2 i row _ hi (Af hi')).get hj;exact⟨v,bY hall (Af hi') h9,d.mono _ _ _ _ v hst.ex.good h10⟩
theorem u_min{x y:Operand}{k:IntKind}{n m:Int}{ts:Array TypeId}(hx:Opd tm x (.pv (PV.lit (.int k n))))(hy:Opd tm y (.pv (PV.lit (.int k m)))):
  UOp P ⟨dst,.call {callee:= .builtin .min,args:= #[x,y],argTypes:=ts},ty,pos,aft,gd⟩ tm [] (.pv (PV.lit (.int k (if m<n then m else n)))) []:=
 UOp.pure fun w s g a ht=>⟨_,by simp[execOp,resolve,invoke,builtin,Opd.lit ht hx,Opd.lit ht hy,Builtin.min_,Builtin.min2],rfl⟩
theorem u_max{x y:Operand}{k:IntKind}{n m:Int}{ts:Array TypeId}(hx:Opd tm x (.pv (PV.lit (.int k n))))(hy:Opd tm y (.pv (PV.lit (.int k m)))):
  UOp P ⟨dst,.call {callee:= .builtin .max,args:= #[x,y],argTypes:=ts},ty,pos,aft,gd⟩ tm [] (.pv (PV.lit (.int k (if n<m then m else n)))) []:=
 UOp.pure fun w s g a ht=>⟨_,by simp[execOp,resolve,invoke,builtin,Opd.lit ht hx,Opd.lit ht hy,Builtin.max_,Builtin.max2],rfl⟩
theorem u_max3{x y q:Operand}{k:IntKind}{n m r:Int}{ts:Array TypeId}(hx:Opd tm x (.pv (PV.lit (.int k n))))(hy:Opd tm y (.pv (PV.lit (.int k m))))(hq:Opd tm q (.pv (PV.lit (.int k r)))):
  UOp P ⟨dst,.call {callee:= .builtin .max,args:= #[x,y,q],argTypes:=ts},ty,pos,aft,gd⟩ tm [] (.pv (PV.lit (.int k (if(if n<m then m else n)<r then r else(if n<m then m else n))))) []:=
 UOp.pure fun w s g a ht=>⟨_,by simp[execOp,resolve,invoke,builtin,Opd.lit ht hx,Opd.lit ht hy,Opd.lit ht hq,Builtin.max_,Builtin.max2],rfl⟩
end
structure PartT(P:Program)(t:TypeId)(i:Nat)(ft:TypeId)(off:Nat):Prop where
 h:∃fs f,P.underlying t=some (.struct fs)/\fs[i]?=some f/\f.type=ft/\f.offset=off
theorem cM{P:Program}{t:TypeId}(h:OneT P t)(w:World):(isAgg t).run P w= .ok false w:=by
 obtain⟨d,hu,hd⟩:=h.und;unfold isAgg;rw[Sem.run_bind,run_underlying hu w]
 cases d<;>simp_all
theorem cL{P:Program}{t:TypeId}{n:Nat}(h:RowT P t n)(w:World):(isAgg t).run P w= .ok true w:=by
 obtain⟨d,hu,hd⟩:=h.und;unfold isAgg;rw[Sem.run_bind,run_underlying hu w]
 cases d<;>simp_all
section
variable{P:Program}{tm:List (Nat×TV)}{dst:Option Tmp}{ty:TypeId}{pos:String}{aft:Array Edge}{gd:Option (Nat×Bool)}
theorem u_field1{x:Operand}{t ft:TypeId}{i off:Nat}{l:List TV}{d:TV}(hF:PartT P t i ft off)(h1:OneT P ft)(hx:Opd tm x (.agg l))(hd:l[off]?=some d):UOp P ⟨dst,.field t x i,ty,pos,aft,gd⟩ tm [] d []:=
 UOp.pure fun w s g a ht=>by
  obtain⟨vs,h2,h3⟩:=Opd.eval ht hx;obtain⟨fs,f,h4,h5,h6,h7⟩:=hF.h;obtain⟨v,h8,h9⟩:=h3.get hd;refine⟨v,yG (s:=Instr.field t (a.eval x) i) ?_,h9⟩;simp[Instr.field,run_underlying h4,h2,h5,asAgg,part,h6,h7,cM h1,h8]
theorem u_fieldR{x:Operand}{t ft:TypeId}{i off n:Nat}{l:List TV}(hF:PartT P t i ft off)(h1:RowT P ft n)(hx:Opd tm x (.agg l))(hl:off+n<=l.length):UOp P ⟨dst,.field t x i,ty,pos,aft,gd⟩ tm [] (.agg ((l.drop off).take n)) []:=
 UOp.pure fun w s g a ht=>by
  obtain⟨vs,h2,h3⟩:=Opd.eval ht hx;obtain⟨fs,f,h4,h5,h6,h7⟩:=hF.h;refine⟨.agg ((vs.drop off).take n).toArray,yG (s:=Instr.field t (a.eval x) i) ?_,_,rfl,(h3.drop off).take n⟩;simp[Instr.field,run_underlying h4,h2,h5,asAgg,part,h6,h7,cL h1,qG h1.size]
theorem u_quo{x y:Operand}{t u:TypeId}{k:IntKind}{n m:Int}(hx:Opd tm x (.pv (PV.lit (.int k n))))(hy:Opd tm y (.pv (PV.lit (.int k m))))(hm:m≠0):UOp P ⟨dst,.binOp .quo t x y u,ty,pos,aft,gd⟩ tm [] (.pv (PV.lit (.int k (k.wrap (n.tdiv m))))) []:=
 UOp.two hx hy fun ρ w h1 h2=>by simp[execOp,h1,h2,go_sem,hm]
theorem u_rem{x y:Operand}{t u:TypeId}{k:IntKind}{n m:Int}(hx:Opd tm x (.pv (PV.lit (.int k n))))(hy:Opd tm y (.pv (PV.lit (.int k m))))(hm:m≠0):UOp P ⟨dst,.binOp .rem t x y u,ty,pos,aft,gd⟩ tm [] (.pv (PV.lit (.int k (n.tmod m)))) []:=
 UOp.two hx hy fun ρ w h1 h2=>by simp[execOp,h1,h2,go_sem,hm]
theorem mW0{x y:Operand}{t u:TypeId}{k k':IntKind}{n m:Int}(hx:Opd tm x (.pv (PV.lit (.int k n))))(hy:Opd tm y (.pv (PV.lit (.int k' m))))(hm:0<=m):UOp P ⟨dst,.binOp .shr t x y u,ty,pos,aft,gd⟩ tm [] (.pv (PV.lit (.int k (n.fdiv (2^(min m.toNat k.bits)))))) []:=
 UOp.two hx hy fun ρ w h1 h2=>by
  have:¬m<0:=by omega
  simp[execOp,h1,h2,go_sem,this,Op.shift]
theorem wA{t e:TypeId}{sz:Nat}(k:Nat)(hA:AppT P t e sz):UOp P ⟨dst,.buildSlice t 0 #[],ty,pos,aft,gd⟩ tm [] (.own k sz []) [(k,.row e sz 0)]:=by
 intro w s g a K Q ht hg hK;obtain⟨ie,z,h1,h2,h3,h4,h5,h6,h7,h8⟩:=hA.h;have er:∀f:Nat->Value,Array.map f (Array.range 0)= #[]:=fun f=>Array.eq_empty_of_size_eq_zero (by simp)
 have he:(execOp a.eval ⟨dst,.buildSlice t 0 #[],ty,pos,aft,gd⟩).run P w= .ok (.value (.slice (some ⟨w.heap.size,0,none⟩) 0 0)) (w.alloc (.cells #[] e)):=
  yG (s:=Instr.buildSlice t 0 _) (by simp[Instr.buildSlice,run_underlying h1,sizeOf,typeInfo,h2,Instr.fill,newRow,er])
 unfold Oper.wp;rw[he];have hfr:=hg.fr k (.row e sz 0) (by rw[zY];simp) rfl;have hst:=Stp.newRow (w:=w) (w':=w.alloc (.cells #[] e)) (sz:=sz) (len:=0) (cap:=0) (e:=e) (cur:= #[]) hg.lt hfr (by simp) (fun N hN=>Below.heap_alloc w _ N hN) (.of (heap_alloc_new w _)) rfl rfl rfl (Ap _) (Aq _) (by simp);refine hK _ _ _ _ ?_ hst;rw[TV.P];exact⟨⟨_,0,rfl,Ap _,by omega,(fun _ h=>by cases h),(fun i row h=>by simp at h)⟩,Gh.setRow_eq _ _ _ _⟩
structure OFun(P:Program)(f:FuncId)(args:List PV)(e:TypeId)(sz:Nat)(rows:List (List PV)):Prop where
 bod:Bod P f
 run:∀(w:World)(s:Sb)(vs:List Value),(∀B o,s B o->B<w.heap.size)->Glb w s->AllV w s args vs->Calls P f vs.toArray w fun r w'=>∃s' g' k v,r= .returned v/\(TV.own k sz rows).P w' s' g' v/\Ok1 w' s' g' k (.row e sz rows.length)/\(∀N,blk g' k (.row e sz rows.length)=some N->w.heap.size<=N)/\PStp w s w' s'
end
section
variable{P:Program}{tm:List (Nat×TV)}{dst:Option Tmp}{ty:TypeId}{pos:String}{aft:Array Edge}{gd:Option (Nat×Bool)}
theorem u_neg{x:Operand}{t:TypeId}{k:IntKind}{n:Int}(hx:Opd tm x (.pv (PV.lit (.int k n)))):UOp P ⟨dst,.unOp .neg t x,ty,pos,aft,gd⟩ tm [] (.pv (PV.lit (.int k (k.wrap (0-n))))) []:=
 UOp.pure fun w s g a ht=>by
  have hb:=Opd.lit ht hx;refine⟨.int k (k.wrap (0-n)),yG (s:=Op.unary .neg (a.eval x)) ?_,rfl⟩;rw[hb];rfl
theorem u_bytes{x:Operand}{src dt e:TypeId}{p:ByteArray}(hs:P.underlying src=some .string)(hd:P.underlying dt=some (.slice e))(he:P.underlying e=some (.int .u8))(hp:p.size<=1073741824)(hx:Opd tm x (.pv (PV.lit (.string p)))):
  UOp P ⟨dst,.convert src dt x,ty,pos,aft,gd⟩ tm [] (.pv (PV.sl false 1 (p.data.toList.map fun b=>[PV.lit (.int .u8 b.toNat)]))) []:=by
 intro w s g a K Q ht hg hK;have h1:=Opd.lit ht hx;have hge:=grownCap_ge w p.size 0 e;have hcm:grownCap w p.size 0 e<=maxLen:=grownCap_le_maxLen w _ 0 e (by simp only[maxLen];omega);have hr:=run_bytes_of_string w src dt e p hs hd he;generalize grownCap w p.size 0 e=gc at*
 have he':(execOp a.eval ⟨dst,.convert src dt x,ty,pos,aft,gd⟩).run P w= .ok (.value (.slice (some ⟨w.heap.size,0,none⟩) p.size gc)) (w.drew.alloc (.cells (bytesRow p gc) e ((bytesRow p gc).size,(bytesRow p gc).size+1))):=
  yG (s:=convert src dt (a.eval x)) (by rw[h1];exact hr)
 unfold Oper.wp;rw[he'];have hl:(p.data.toList.map fun b=>[PV.lit (.int .u8 b.toNat)]).length=p.size:=by first|(simp;done)|(simp;rfl)
 have hfin:=PV.sl_block (w:=w.drew.alloc (.cells (bytesRow p gc) e ((bytesRow p gc).size,(bytesRow p gc).size+1))) (s:=s.add fun B _=>B=w.heap.size) (G:=w.heap.size) (cap:=gc) (sz:=1)
  (rows:=p.data.toList.map fun b=>[PV.lit (.int .u8 b.toNat)]) (vs:=p.data.toList.map fun b=>Value.int .u8 b.toNat)
  (fun row hrow=>by obtain⟨b,_,rfl⟩:=Bu.1 hrow;rfl) (by simp) (by rw[hl];exact hge) hcm
  (fun j u hj=>by
   rw[cell_of_row _ w.heap.size j _ e _ (heap_alloc_new w.drew _)];have hj':j<p.data.size:=by have:=(Ac.1 hj).1;simpa using this
   rw[bytesRow,Cu (by simpa using hj')];simpa using hj)
  (fun o _=> .inr rfl)
  (fun v hv=>by obtain⟨b,_,rfl⟩:=Bu.1 hv;rfl)
  (fun i row j d hi hj=>by
   rw[Bf]at hi;obtain⟨b,hb,rfl⟩:=Option.map_eq_some_iff.1 hi;have hj0:j=0/\d=PV.lit (.int .u8 b.toNat):=by
    match j,hj with
    |0,hj=>simp at hj;exact⟨rfl,hj.symm⟩
    |j+1,hj=>simp at hj
   obtain⟨rfl,rfl⟩:=hj0;exact⟨_,by rw[Nat.mul_one,Ce,Bf,hb];rfl,rfl⟩)
 rw[hl]at hfin;have h:=Stp.newStable (w:=w.drew) (s:=s) (g:=g) hg.lt (.cells (bytesRow p gc) e ((bytesRow p gc).size,(bytesRow p gc).size+1));obtain⟨⟨a1,a2,a3⟩,b1,b2,b3,b4,b5,b6,b7,b8,b8',b9,b10,b11,b12,b13⟩:=h;exact hK _ _ g _ hfin ⟨⟨a1,a2,a3⟩,b1,b2,b3,b4,b5,b6,b7,b8,b8',b9,b10,b11,b12,b13⟩
end
theorem jS{k j:Nat}{c c0:Own}(h:fnd j [(k,c0)]=some c):j=k/\c=c0:=by
 rw[zY]at h;by_cases e:k=j
 ·simp only[e,if_true]at h;cases h;exact⟨e.symm,rfl⟩
 ·simp only[e,if_false]at h;cases h
theorem Stp.turn{w w':World}{s:Sb}{g:Gh}{k G:Nat}{c c':Own}(hg:Good w s g [(k,c)] [(k,c')])(hb:blk g k c=some G)(hns:∀o,¬s G o)(ho:∀M,M≠G->w'.heap[M]?=w.heap[M]?)(hs:w'.heap.size=w.heap.size)
  (h1:w'.os=w.os) (h2:w'.tape=w.tape) (h3:w'.output=w.output) (hok:Ex w s w' s->Ok1 w' s g k c') (hb':blk g k c'=some G):Stp w s g [(k,c)] w' s g [(k,c')]:=by
 have hx:Ex w s w' s:=⟨fun _ _ h=>h,fun b o hbo=>by
  have hne:b≠G:=fun e=>hns o (e▸hbo);exact uO (ho b hne),fun _ _ h=>h⟩
 refine⟨hx,fun B o h=>by rw[hs];exact hg.lt B o h,GLe.refl g,fun _ _=>⟨rfl,fun _=>rfl⟩,h1,h2,h3,by omega,fun M hM hne=>ho M ?_,fun _ _ h=> .inl h,fun _ _ h=> .inl h,fun j d h=>?_,fun j d M h hbm=>?_,fun j j' d d' M h h' hne=>?_,fun j d h=>?_⟩
 ·rintro rfl;exact hne k c (by rw[zY];simp) hb
 ·obtain⟨rfl,rfl⟩:=jS h;exact hok hx
 ·obtain⟨rfl,rfl⟩:=jS h;rw[hb']at hbm;cases hbm;exact .inr ⟨j,c,by rw[zY];simp,hb⟩
 ·obtain⟨rfl,rfl⟩:=jS h;obtain⟨rfl,rfl⟩:=jS h';exact absurd rfl hne
 ·obtain⟨rfl,rfl⟩:=jS h;exact⟨c',by rw[zY];simp⟩
theorem qN{g:Gh}{k sz:Nat}{e:TypeId}{rows:List (List PV)}{v:Value}(h:g.gn k rows.length=some v):blk g k (.mrow e sz rows)=v.ownBlock:=by
 show(g.gn k rows.length).bind Value.ownBlock=_;rw[h];rfl
theorem AllV.drop{w:World}{s:Sb}:∀{l:List PV}{vs:List Value}(n:Nat),AllV w s l vs->AllV w s (l.drop n) (vs.drop n)
 |l,vs,0,h=>by simpa using h
 |[],[],n+1,_=>by simp[AllV]
 |_::_,_::_,n+1,h=>by simpa using AllV.drop n h.2
 |[],_::_,_+1,h=>h.elim
 |_::_,[],_+1,h=>h.elim
theorem AllV.take{w:World}{s:Sb}:∀{l:List PV}{vs:List Value}(n:Nat),AllV w s l vs->AllV w s (l.take n) (vs.take n)
 |l,vs,0,h=>by simp[AllV]
 |[],[],n+1,_=>by simp[AllV]
 |_::_,_::_,n+1,h=>⟨h.1,AllV.take n h.2⟩
 |[],_::_,_+1,h=>h.elim
 |_::_,[],_+1,h=>h.elim
theorem AllV.append{w:World}{s:Sb}:∀{l r:List PV}{vs us:List Value},AllV w s l vs->AllV w s r us->AllV w s (l++r) (vs++us)
 |[],r,[],us,_,h=>h
 |_::_,r,_::_,us,h,h'=>⟨h.1,AllV.append h.2 h'⟩
 |[],_,_::_,_,h,_=>h.elim
 |_::_,_,[],_,h,_=>h.elim
theorem jW{sz:Nat}:∀{rows:List (List PV)},(∀row∈rows,row.length=sz)->rows.flatten.length=rows.length*sz
 |[],_=>by simp
 |r::rows,h=>by rw[Cn,Ae,h r (by simp),jW fun x hx=>h x (by simp[hx]),Ak,Bh];omega
theorem vW{sz:Nat}:∀{rows:List (List PV)}{i:Nat}{row:List PV},(∀row∈rows,row.length=sz)->rows[i]?=some row->(rows.flatten.drop (i*sz)).take sz=row
 |[],i,row,_,h=>by simp at h
 |r::rows,0,row,hz,h=>by
  simp at h;subst h;rw[Nat.zero_mul,List.drop_zero,Cn,<-hz r (by simp)];exact List.take_left
 |r::rows,i+1,row,hz,h=>by
  have hr:=hz r (by simp);rw[Cn,List.drop_append,Bq (by rw[hr,Bh];omega),Dh,hr,show(i+1)*sz-sz=i*sz by rw[Bh];omega];exact vW (fun x hx=>hz x (by simp[hx])) (by simpa using h)
theorem bX{sz:Nat}:∀{rows:List (List PV)}{i:Nat}{row:List PV},(∀row∈rows,row.length=sz)->i<rows.length->row.length=sz->(rows.set i row).flatten=rows.flatten.take (i*sz)++row++rows.flatten.drop (i*sz+sz)
 |[],i,row,_,h,_=>by simp at h
 |r::rows,0,row,hz,_,hr=>by
  have:=hz r (by simp);simp[Cn,List.drop_append,this]
 |r::rows,i+1,row,hz,h,hr=>by
  have h1:=hz r (by simp);have e1:r.take ((i+1)*sz)=r:=Am (by rw[h1,Bh];omega);have e2:r.drop ((i+1)*sz+sz)=[]:=Bq (by rw[h1,Bh];omega)
  rw[List.set_cons_succ,Cn,bX (fun x hx=>hz x (by simp[hx])) (by simpa using h) hr,Cn,List.take_append,List.drop_append,e1,e2,h1,
   show(i+1)*sz-sz=i*sz by rw[Bh];omega,show(i+1)*sz+sz-sz=i*sz+sz by rw[Bh];omega]
  simp
section
variable{P:Program}{tm:List (Nat×TV)}{dst:Option Tmp}{ty:TypeId}{pos:String}{aft:Array Edge}{gd:Option (Nat×Bool)}
theorem u_lenMo{x:Operand}{t:TypeId}{sz k n:Nat}(hT:SlT P t sz)(hx:Opd tm x (.mo k n)):
  UOp P ⟨dst,.call {callee:= .builtin .len,args:= #[x],argTypes:= #[t]},ty,pos,aft,gd⟩ tm [] (.pv (PV.lit (.int .i64 n))) []:=
 UOp.pure fun w s g a ht=>by
  obtain⟨e,hu,he⟩:=hT.h;have h:=Opd.eval ht hx;rw[TV.P]at h;obtain⟨_,h⟩:=h;have:∃ad c,a.eval x= .slice ad n c:=by
   rcases h with⟨h1,rfl⟩|⟨G,c,h1,_⟩
   ·exact⟨_,_,h1⟩
   ·exact⟨_,_,h1⟩
  obtain⟨ad,c,h1⟩:=this;exact⟨.int .i64 n,by simp[execOp,resolve,invoke,builtin,h1,Builtin.len_,run_underlying hu,goInt],rfl⟩
theorem u_indexMo{x y:Operand}{t:TypeId}{sz k n:Nat}{ik:IntKind}{i:Int}(hT:SlT P t sz)(hx:Opd tm x (.mo k n))(hy:Opd tm y (.pv (PV.lit (.int ik i))))(h0:0<=i)(hr:i.toNat<n):
  UOp P ⟨dst,.indexAddr t x y,ty,pos,aft,gd⟩ tm [] (.mp k n (i.toNat*sz)) []:=
 UOp.pure fun w s g a ht=>by
  obtain⟨e,hu,he⟩:=hT.h;have h:=Opd.eval ht hx;rw[TV.P]at h;obtain⟨h1,h⟩:=h;rcases h with⟨_,rfl⟩|⟨G,c,h2,h3,h4⟩
  ·omega
  have h7:=Opd.lit ht hy;refine⟨.pointer (some ⟨G,0+i.toNat*sz,none⟩),yG (s:=Instr.indexAt t (a.eval x) (a.eval y)) ?_,?_⟩
  ·have hb:(0<=i/\i<(n:Int)):=⟨h0,by omega⟩;rw[h2,h7];simp only[Instr.indexAt,asIntOf,Sem.run_bind,Sem.run_pure,Result.andThen_ok,run_underlying hu,hb,and_self,if_true,qG he,Addr.add_mid]
  ·rw[TV.P];exact⟨G,c,by rw[h1,h2],by rw[Bv]⟩
theorem u_fieldMp{x:Operand}{t:TypeId}{i fo k n off:Nat}(hF:FldT P t i fo)(hx:Opd tm x (.mp k n off)):UOp P ⟨dst,.fieldAddr t x i,ty,pos,aft,gd⟩ tm [] (.mp k n (off+fo)) []:=
 UOp.pure fun w s g a ht=>by
  have h:=Opd.eval ht hx;rw[TV.P]at h;obtain⟨G,c,h1,h2⟩:=h;refine⟨_,yG (s:=Instr.fieldAt t (a.eval x) i) (by rw[h2];exact hF.run w G off),?_⟩;rw[TV.P];exact⟨G,c,h1,rfl⟩
theorem pE{w:World}{s:Sb}{g:Gh}{k sz n G c:Nat}{e:TypeId}{rows:List (List PV)}(h:Ok1 w s g k (.mrow e sz rows))(hn:n=rows.length)(hG:g.gn k n=some (.slice (some ⟨G,0,none⟩) n c)):
  ∃vs rest,CellB w G (List.toArray (vs++rest)) e/\rows.length<=c/\c<=maxLen/\(vs++rest).length=c*sz/\AllV w s.good rows.flatten vs/\((∀row∈rows,row.length=sz)/\∀v∈vs,v.oneCell'=true)/\∀o,¬s G o:=by
 obtain⟨_,v,h1,h2⟩:=h;rw[<-hn,hG]at h1
 cases h1;rcases h2 with⟨h2,_⟩|⟨G',cap,vs,rest,h2,h3⟩
 ·cases h2
 ·cases h2;exact⟨vs,rest,h3⟩
theorem u_loadMp1{x:Operand}{t e:TypeId}{k sz n i o:Nat}{rows:List (List PV)}{row:List PV}{d:PV}(hT:OneT P t)(hx:Opd tm x (.mp k n (i*sz+o)))(hn:n=rows.length)(hi:rows[i]?=some row)(hd:row[o]?=some d):
  UOp P ⟨dst,.load t x,ty,pos,aft,gd⟩ tm [(k,.mrow e sz rows)] (.pv d) [(k,.mrow e sz rows)]:=
 UOp.read fun w s g a ht hg=>by
  have h:=Opd.eval ht hx;rw[TV.P]at h;obtain⟨G,c,h1,h2⟩:=h;obtain⟨vs,rest,g1,g2,g3,g4,g5,g6,g7⟩:=pE hg.one hn h1;have hf:=vW g6.1 hi;have hrl:=g6.1 row (Aw hi);have ho:o<sz:=by rw[<-hrl];exact(Ac.1 hd).1
  have hfd:rows.flatten[i*sz+o]?=some d:=by
   have:((rows.flatten.drop (i*sz)).take sz)[o]?=some d:=by rw[hf];exact hd
   rw[Ch,Ag ho,Cb]at this;exact this
  obtain⟨u,h3,h4'⟩:=g5.get hfd;have h4:=d.mono _ _ _ _ u (Ex.ofGood w s) h4';refine⟨u,yG (s:=Instr.loadAt t (a.eval x)) ?_,h4⟩;rw[h2];refine hT.load ?_;rw[g1.cell];have hl:=(Ac.1 h3).1;simp only[Db];rw[Bb hl];exact h3
theorem u_loadMpR{x:Operand}{t e:TypeId}{k sz n i o m:Nat}{rows:List (List PV)}{row:List PV}(hT:RowT P t m)(hx:Opd tm x (.mp k n (i*sz+o)))(hn:n=rows.length)(hi:rows[i]?=some row)(hm:o+m<=row.length):
  UOp P ⟨dst,.load t x,ty,pos,aft,gd⟩ tm [(k,.mrow e sz rows)] (.pv (PV.agg ((row.drop o).take m))) [(k,.mrow e sz rows)]:=
 UOp.read fun w s g a ht hg=>by
  have h:=Opd.eval ht hx;rw[TV.P]at h;obtain⟨G,c,h1,h2⟩:=h;obtain⟨vs,rest,g1,g2,g3,g4,g5,g6,g7⟩:=pE hg.one hn h1;have hf:=vW g6.1 hi;have hrl:=g6.1 row (Aw hi);have hseg0:AllV w s.good ((row.drop o).take m) ((vs.drop (i*sz+o)).take m):=by
   have h3:=(g5.drop (i*sz)).take sz;rw[hf]at h3;have h4:=(h3.drop o).take m
   rwa[List.drop_take,List.take_take,Nat.min_eq_left om,List.drop_drop]at h4
  have hseg:=hseg0.mono (Ex.ofGood w s);refine⟨.agg ((vs.drop (i*sz+o)).take m).toArray,yG (s:=Instr.loadAt t (a.eval x)) ?_,_,rfl,hseg⟩;rw[h2];refine hT.load (by rw[hseg.length,At,Ay];omega) ?_;intro j v hv;rw[g1.cell];rw[Ch]at hv;split at hv
  ·rw[Cb]at hv;have hl:=(Ac.1 hv).1;simp only[Db];rw[Bb om];simpa[Nat.add_assoc]using hv
  ·cases hv
theorem storeM_core{x y:Operand}{t e:TypeId}{k sz n i o:Nat}{rows:List (List PV)}{row ds:List PV}(hsz:(P.info? t).map (·.size)=some ds.length)(hx:Opd tm x (.mp k n (i*sz+o)))(hn:n=rows.length)(hi:rows[i]?=some row)(hl:o+ds.length<=row.length)(hone:∀d∈ds,d.one=true)(hstr:strs ds=true)
  (hy:∀w s g a,qW w s g tm a->AllV w s ds (a.eval y).cells.toList):
  UOp P ⟨dst,.store t x y,ty,pos,aft,gd⟩ tm [(k,.mrow e sz rows)] (.pv (PV.lit undef)) [(k,.mrow e sz (rows.set i (row.take o++ds++row.drop (o+ds.length))))]:=by
 intro w s g a K Q ht hg hK;have h:=Opd.eval ht hx;rw[TV.P]at h;obtain⟨G,c,h1,h2⟩:=h;have hg1:=hg.one;obtain⟨vs,rest,g1,g2,g3,g4,g5,g6,g7⟩:=pE hg1 hn h1;have hy':=hy w s g a ht;have hlen:=hy'.length;have hall:∀v∈(a.eval y).cells.toList,v.oneCell'=true:=hy'.toArr hone;have hrl:=g6.1 row (Aw hi);have hil:=(Ac.1 hi).1;have hfl:=jW (sz:=sz) (rows:=rows) g6.1;have hvl:vs.length=rows.length*sz:=by rw[g5.length,hfl]
 have hilm:i*sz+sz<=rows.length*sz:=by
  have:=Bs sz (show i+1<=rows.length by omega);rw[Bh]at this;omega
 have hr:=store_runK (P:=P) (t:=t) (bt:=e) (off:=i*sz+o) (v:=a.eval y) (by rw[hsz,hlen]) rfl g1 (by rw[Ae,hlen];omega) hall;have he:(execOp a.eval ⟨dst,.store t x y,ty,pos,aft,gd⟩).run P w= .ok .skip _:=gK (s:=Instr.storeAt t (a.eval x) (a.eval y)) (by rw[h2];exact hr);unfold Oper.wp;rw[he];have hnew:(vs++rest).take (i*sz+o)++(a.eval y).cells.toList++(vs++rest).drop (i*sz+o+(a.eval y).cells.toList.length)=(vs.take (i*sz+o)++(a.eval y).cells.toList++vs.drop (i*sz+o+(a.eval y).cells.toList.length))++rest:=by
  rw[List.take_append_of_le_length om,List.drop_append_of_le_length om];simp
 have hfn:(rows.set i (row.take o++ds++row.drop (o+ds.length))).flatten=rows.flatten.take (i*sz+o)++ds++rows.flatten.drop (i*sz+o+ds.length):=by
  rw[bX g6.1 hil (by simp;omega)];have hf:=vW g6.1 hi;have hsplit:rows.flatten=rows.flatten.take (i*sz)++row++rows.flatten.drop (i*sz+sz):=by
   rw[<-hf,<-List.drop_drop,Co,Da,Da]
  have htl:(rows.flatten.take (i*sz)).length=i*sz:=by rw[At,hfl];omega
  have e1:rows.flatten.take (i*sz+o)=rows.flatten.take (i*sz)++row.take o:=by
   have:=List.take_append (l₁:=rows.flatten.take (i*sz)) (l₂:=row++rows.flatten.drop (i*sz+sz)) (i:=i*sz+o);rw[<-Co,<-hsplit]at this;rw[this,htl,Am (by rw[htl];omega),show i*sz+o-i*sz=o by omega,List.take_append_of_le_length om]
  have e2:rows.flatten.drop (i*sz+o+ds.length)=row.drop (o+ds.length)++rows.flatten.drop (i*sz+sz):=by
   have:=List.drop_append (l₁:=rows.flatten.take (i*sz)) (l₂:=row++rows.flatten.drop (i*sz+sz)) (i:=i*sz+o+ds.length);rw[<-Co,<-hsplit]at this;rw[this,htl,Bq (by rw[htl];omega),show i*sz+o+ds.length-i*sz=o+ds.length by omega,List.drop_append_of_le_length om,Dh]
  rw[e1,e2];simp
 have hbl:blk g k (.mrow e sz rows)=some G:=by rw[qN (by rw[<-hn];exact h1)];rfl
 have hbl':blk g k (.mrow e sz (rows.set i (row.take o++ds++row.drop (o+ds.length))))=some G:=by rw[qN (by rw[Ck,<-hn];exact h1)];rfl
 refine hK _ s g undef rfl (Stp.turn hg hbl g7 (fun M hM=>setRow_other w G M _ hM) (by simp) rfl rfl rfl (fun hex=>?_) hbl');refine⟨fun m hm=>hg1.1 m (by rw[Ck]at hm;exact hm),.slice (some ⟨G,0,none⟩) n c,by rw[Ck,<-hn];exact h1,.inr ⟨G,c,vs.take (i*sz+o)++(a.eval y).cells.toList++vs.drop (i*sz+o+(a.eval y).cells.toList.length),rest,by rw[Ck,hn],?_,by rw[Ck];exact g2,g3,?_,?_,?_,g7⟩⟩
 ·rw[<-hnew];exact g1.setRow (by simp only[Br,Ae,At,Ay];simp only[Ae]at*;omega)
 ·rw[<-g4];simp only[Ae,At,Ay,hlen];omega
 ·rw[hfn,<-hlen];exact(AllV.append (AllV.append (g5.take _) (hy'.good hstr)) (g5.drop _)).mono hex.good
 ·refine⟨fun r hr=>?_,fun v hv=>?_⟩
  ·rcases List.mem_or_eq_of_mem_set hr with hr|rfl
   ·exact g6.1 r hr
   ·simp;omega
  ·rcases Az.1 hv with hv|hv
   ·rcases Az.1 hv with hv|hv
    ·exact g6.2 v (List.mem_of_mem_take hv)
    ·exact hall v hv
   ·exact g6.2 v (List.mem_of_mem_drop hv)
end
end Go.Proofs.YtmakjjodkiedmaaGreatDoor
