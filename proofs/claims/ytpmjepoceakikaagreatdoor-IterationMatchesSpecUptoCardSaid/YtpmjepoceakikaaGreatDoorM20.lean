/-Part 20 of the proof. -/
import Derived.Test.YtpmjepoceakikaaGreatDoorM19
import Derived.Shelf.Spec.SlicesGrow
import Derived.Shelf.Strconv.Itoa3
import Derived.Shelf.Strconv.Quote
namespace Go.Proofs.YtpmjepoceakikaaGreatDoor
open Go.RowKit
variable{md me:Bool}
theorem used_a{k:Nat}(hk:k<21)(ha:Lib.contains (jS (k:Int)).data.toList [97]=true):jS (k:Int)≠⟨#[]⟩/\yO0 (jS (k:Int))=61:=by
 have:=Be.1 (show(List.range 21).all (fun(k:Nat)=> !(Lib.contains (jS (k:Int)).data.toList [97])||(!decide (jS (k:Int)=⟨#[]⟩)&&decide (yO0 (jS (k:Int))=61)))=true by decide+kernel) k (Ct.2 hk);rw[ha,Bool.not_true,Bool.false_or,Aj,Bo,Ay,Ao]at this;exact this
theorem names_items{o:Ob}(hk:0<=o.kind/\o.kind<21)(hs:jB o=0):o.names.length<=o.items.length:=by
 have h1:=(vR0 hs).1;unfold jB at hs;split at hs
 ·rename_i ha;have h3:=Be.1 ha 3 de;by_cases hz:(o.names.length:Int)=0
  ·omega
  ·have e:Lib.contains (jS o.kind).data.toList [97]=true:=by
    have h4:(!(!(decide ((o.names.length:Int)=0))&& !(Lib.contains (jS o.kind).data.toList [97])))=true:=h3;rw[Ca hz]at h4;simpa using h4
   have hkk:o.kind=((o.kind.toNat:Nat):Int):=by omega
   rw[hkk]at e;have h5:=used_a (k:=o.kind.toNat) om e;rw[<-hkk]at h5;rw[cntS,Aa h5.1,Aa (by rw[h5.2];decide),Ab h5.2]at h1;omega
 ·cases hs
theorem gE1{h:List Ob}(g:Uh h){n:Int}(hn:inH h n):(yI h n).names.length<=(yI h n).items.length:=by
 by_cases h49:n.toNat<49
 ·rw[show yI h n=bgO n.toNat from g.lo_at h49];exact Ap _
 ·have u:=g.hi_at (i:=n.toNat) om hn.2;exact names_items u.kind u.shape
theorem bg_order{k:Nat}(hk:k<49){r:Int}(hr:r∈(bgO k).order):0<=r/\r<49:=by
 have:=Be.1 (Be.1 (show(List.range 49).all (fun k=>(bgO k).order.all fun r=>decide (0<=r)&&decide (r<49))=true by decide+kernel) k (Ct.2 hk)) r hr;rw[Aj,Ao,Ao]at this;exact this
theorem dJ0{h:List Ob}(hh:HpIn h)(g:Uh h){c:Int}(hn:inH h c):Cok h (yI h c).order:=by
 refine⟨(hh.at c).ol,fun r hr=>?_⟩;have hin:inH h r:=by
  by_cases h49:c.toNat<49
  ·rw[show yI h c=bgO c.toNat from g.lo_at h49]at hr;have:=bg_order h49 hr;have:=g.lo;exact⟨by omega,by omega⟩
  ·exact yR ((kZ (g.hi_at om hn.2).vals).order r hr)
 exact⟨hin,gE1 g hin⟩
theorem own_rv{h:List Ob}(g:Uh h){n:Int}(hn:inH h n)(s:ByteArray)(hk:(ownV (yI h n) s).k=6):yU h (ownV (yI h n) s).r=true:=by
 have hlt:=zD1 (yI h n).names s;have hni:=gE1 g hn;by_cases hi:ixI (yI h n).names s<0
 ·rw[ownV,Ab hi]at hk;exact absurd hk de
 ·rw[ownV,Aa hi]at hk⊢;have hj:(ixI (yI h n).names s).toNat<(yI h n).items.length:=by omega
  rw[Ac,Ae hj]at hk⊢;exact g.items hn (Cv _) hk
theorem gO1{h:List Ob}(hh:HpIn h)(g:Uh h){c:Int}(hn:inH h c)(s:ByteArray)(hk:(fdV h s (fdO h (yI h c).order s)).k=6):yU h (fdV h s (fdO h (yI h c).order s)).r=true:=by
 cases hf:fdO h (yI h c).order s with
 |none=>rw[hf]at hk;exact absurd hk (show ¬(0:Int)=6 by decide)
 |some r=>
  rw[hf]at hk;exact own_rv g ((dJ0 hh g hn).2 r (List.mem_of_find?_eq_some hf)).1 s hk
theorem one_item{h:List Ob}(g:Uh h){n:Int}(hn:inH h n)(hk:(yI h n).kind=13\/(yI h n).kind=14):(yI h n).items.length=1:=by
 by_cases h49:n.toNat<49
 ·rw[show yI h n=bgO n.toNat from g.lo_at h49]at hk;have h9:(bgO n.toNat).kind=9:=rfl;omega
 ·have u:=g.hi_at (i:=n.toNat) om hn.2;have h1:=(vR0 u.shape).1;rw[<-xW hn]at h1;have hc:cntS (yI h n)=1:=by
   rcases hk with hk|hk
   ·rw[kG 13 49 (by decide+kernel) hk];decide+kernel
   ·rw[kG 14 49 (by decide+kernel) hk];decide+kernel
  omega
def spS(h:List Ob)(v:Vl)(s:ByteArray):Vl×List Vl×Bool:=
 if ¬(zU h v).kind=10 then(vl0,[],false)
 else if(fdO h (yI h (zU h v).cls).order s).isSome=false then(vl0,[],false)
 else if xP0 h (fdV h s (fdO h (yI h (zU h v).cls).order s))=true then(fdV h s (fdO h (yI h (zU h v).cls).order s),[v],true)
 else if(zU h (fdV h s (fdO h (yI h (zU h v).cls).order s))).kind=13 then((zU h (fdV h s (fdO h (yI h (zU h v).cls).order s))).items.getD 0 vl0,[],true)
 else if(zU h (fdV h s (fdO h (yI h (zU h v).cls).order s))).kind=14 then((zU h (fdV h s (fdO h (yI h (zU h v).cls).order s))).items.getD 0 vl0,[rfV (zU h v).cls],true)
 else(fdV h s (fdO h (yI h (zU h v).cls).order s),[],true)
theorem kT{h:List Ob}(g:Uh h){v:Vl}(hk:(zU h v).kind=13\/(zU h v).kind=14):0<(zU h v).items.length:=by
 have h1:=jV (h:=h) (v:=v) om;rw[h1.2.2]at hk⊢;rw[one_item g (yR h1.2.1) hk];decide
theorem uA0{h:List Ob}(g:Uh h){v:Vl}(hk:(zU h v).kind=10):inH h (zU h v).cls:=by
 have h1:=jV (h:=h) (v:=v) om;rw[h1.2.2]at hk⊢;exact g.cls (yR h1.2.1) hk
set_option maxHeartbeats 1000000 in
theorem Special_ok(h:List Ob)(v:Vl)(s:ByteArray)(hh:HpIn h)(g:Uh h)(hv:v.k=6->yU h v.r=true):Fx 78 [hpD md h,.agg (vlD v),.v (.string s)] (.tup [.agg (vlD (spS h v s).1),vsD (spS h v s).2.1,.v (.bool (spS h v s).2.2)]):=by
 refine yF zJ Tryz.func78 rfl rfl rfl rfl rfl rfl ?_;intros;refine zK 100 ?_;refine zB ?_;refine zB (zE zJ [] 200 rfl ?_);refine zF ?_;refine zQ _ (gI _ _ ao) rfl ?_;refine zF ?_;refine zC (zA (zW rfl (fun c1=>?_) (fun c1=>?_)))
 ·replace c1:¬(zU h v).kind=10:=by simpa using c1
  refine zK 300 ?_;refine zM (zP ?_);exact u4 rfl (u19 ⟨by rw[spS,Ab c1];exact(by repeat(first|exact trivial|exact u6 _|exact u12 rfl|refine u20 ?_|refine⟨?_,?_⟩)),by rw[spS,Ab c1];exact u12 rfl,by rw[spS,Ab c1];exact u6 _,trivial⟩)
 ·replace c1:(zU h v).kind=10:=by simpa using c1
  have hob:=jV (h:=h) (v:=v) om;have hin:=uA0 g c1;have hrv:=fun hk=>gO1 hh g hin s hk;refine zL (zA ?_);refine zB (zE zJ [] 400 rfl ?_);repeat(first|refine zH ?_|refine zT (by exact yR hob.2.1) ?_)
  refine zC (zA ?_);refine yK [2,3,4,6] [0,1,2] 410 [(9,.v (.int .i64 (zU h v).cls))] [] ?_;refine⟨⟨⟨u21 (by rw[hob.2.2]),by repeat(first|exact trivial|exact u0 _|refine⟨?_,?_⟩)⟩,yE,rfl,rfl⟩,?_⟩;refine zB (zE zJ [] 500 rfl ?_);refine zF ?_;refine zQ _ (attrFind_ok h (zU h v).cls s hh hin (dJ0 hh g hin)) rfl ?_;refine zF ?_;refine zC (zA (zB (zK 600 ?_)));refine zW rfl (fun c5=>?_) (fun c5=>?_)
  ·replace c5:(fdO h (yI h (zU h v).cls).order s).isSome=false:=by simpa using c5
   refine zK 700 ?_;refine zM (zP ?_);exact u4 rfl (u19 ⟨by rw[spS,Aa (not_not_intro c1),Ab c5];exact(by repeat(first|exact trivial|exact u6 _|exact u12 rfl|refine u20 ?_|refine⟨?_,?_⟩)),by rw[spS,Aa (not_not_intro c1),Ab c5];exact u12 rfl,by rw[spS,Aa (not_not_intro c1),Ab c5];exact u6 _,trivial⟩)
  ·replace c5:(fdO h (yI h (zU h v).cls).order s).isSome=true:=by simpa using c5
   refine zL (zA (zB ?_));refine zB (zE zJ [] 800 rfl ?_);refine zF ?_;refine zQ _ (gI h (fdV h s (fdO h (yI h (zU h v).cls).order s)) hrv) rfl ?_;refine zf (zA (zO ?_));refine zB (zE zJ [] 900 rfl ?_);refine zF ?_;refine zQ _ (attrFunction_ok h (fdV h s (fdO h (yI h (zU h v).cls).order s)) hrv) rfl ?_;refine zF ?_;refine zC (zA (zW rfl (fun c8=>?_) (fun c8=>?_)))
   ·
    refine zB (zX zJ [] [[],[],[1],[0],[0,1,2,3],(rgN 5)] 1000 yT kr rfl ?_);refine zf (zA (zM (zR (zP ?_))));exact u4 rfl (u19 ⟨by rw[spS,Aa (not_not_intro c1),Aa (by rw[c5];decide),Ab c8];exact u6 _,by rw[spS,Aa (not_not_intro c1),Aa (by rw[c5];decide),Ab c8];exact u18 rfl,by rw[spS,Aa (not_not_intro c1),Aa (by rw[c5];decide),Ab c8];exact u6 _,trivial⟩)
   ·
    refine zK 1100 ?_;refine zY (fun c10=>?_) (fun c10=>?_)
    ·
     refine zB (zE zJ [] 1200 rfl ?_);repeat(first|refine zH ?_|refine zT (by exact⟨by omega,kT g (Or.inl c10)⟩) ?_)
     refine zC (zA (zM (zR (zP ?_))));exact u4 rfl (u19 ⟨by rw[spS,Aa (not_not_intro c1),Aa (by rw[c5];decide),Aa (by rw[c8];decide),Ab c10];exact u6 _,by rw[spS,Aa (not_not_intro c1),Aa (by rw[c5];decide),Aa (by rw[c8];decide),Ab c10];exact u12 rfl,by rw[spS,Aa (not_not_intro c1),Aa (by rw[c5];decide),Aa (by rw[c8];decide),Ab c10];exact u6 _,trivial⟩)
    ·
     refine zK 1300 ?_;refine zY (fun c12=>?_) (fun c12=>?_)
     ·
      refine zB (zX zJ [] [[],[0],[0,1],[0,1,2],[],[4],[4,5],(rgN 6),(rgN 8),(rgN 9)] 1400 yT kr rfl ?_);repeat(first|refine zH ?_|refine zT (by exact⟨by omega,kT g (Or.inr c12)⟩) ?_)
      refine zQ _ (bA _) rfl ?_;repeat(first|refine zH ?_|refine zT (by exact⟨by omega,kT g (Or.inr c12)⟩) ?_)
      refine zC (zA (zM (zR (zP ?_))));exact u4 rfl (u19 ⟨by rw[spS,Aa (not_not_intro c1),Aa (by rw[c5];decide),Aa (by rw[c8];decide),Aa om,Ab c12];exact u6 _,by rw[spS,Aa (not_not_intro c1),Aa (by rw[c5];decide),Aa (by rw[c8];decide),Aa om,Ab c12];exact u18 rfl,by rw[spS,Aa (not_not_intro c1),Aa (by rw[c5];decide),Aa (by rw[c8];decide),Aa om,Ab c12];exact u6 _,trivial⟩)
     ·
      refine zL (zN (zA (zK 1500 ?_)));refine zM ?_;exact u4 rfl (u19 ⟨by rw[spS,Aa (not_not_intro c1),Aa (by rw[c5];decide),Aa (by rw[c8];decide),Aa om,Aa om];exact u6 _,by rw[spS,Aa (not_not_intro c1),Aa (by rw[c5];decide),Aa (by rw[c8];decide),Aa om,Aa om];exact u12 rfl,by rw[spS,Aa (not_not_intro c1),Aa (by rw[c5];decide),Aa (by rw[c8];decide),Aa om,Aa om];exact u6 _,trivial⟩)
set_option maxHeartbeats 1000000 in
theorem Method_ok(h:List Ob)(v:Vl)(s:ByteArray)(hh:HpIn h)(g:Uh h)(hv:v.k=6->yU h v.r=true):Fx 132 [hpD md h,.agg (vlD v),.v (.string s)] (.tup [.agg (vlD (spS h v s).1),vsD (spS h v s).2.1,.v (.bool (spS h v s).2.2)]):=by
 refine yF zJ Tryz.func132 rfl rfl rfl rfl rfl rfl ?_;intros;refine zK 100 ?_;refine zB (zE zJ [] 200 rfl ?_);refine zF ?_;refine zQ _ (jH _ _) rfl ?_;refine zF ?_;refine zC (zA (zB (zK 300 ?_)));refine zW rfl (fun c2=>?_) (fun c2=>?_)
 ·replace c2:¬(zU h v).kind=10:=by simpa using c2
  refine zK 400 ?_;refine zM (zP ?_);exact u4 rfl (u19 ⟨by rw[spS,Ab c2];exact(by repeat(first|exact trivial|exact u6 _|exact u12 rfl|refine u20 ?_|refine⟨?_,?_⟩)),by rw[spS,Ab c2];exact u12 rfl,by rw[spS,Ab c2];exact u6 _,trivial⟩)
 ·replace c2:(zU h v).kind=10:=by simpa using c2
  have hin:=uA0 g c2;have hrv:=fun hk=>gO1 hh g hin s hk;refine zL (zA ?_);refine zB (zE zJ [] 500 rfl ?_);refine zF ?_;refine zQ _ (Inherited_ok h (zU h v).cls s hh hin (dJ0 hh g hin)) rfl ?_;refine zF ?_;refine zC (zA (zB (zK 600 ?_)));refine zW rfl (fun c5=>?_) (fun c5=>?_)
  ·replace c5:(fdO h (yI h (zU h v).cls).order s).isSome=false:=by simpa using c5
   refine zK 700 ?_;refine zM (zP ?_);exact u4 rfl (u19 ⟨by rw[spS,Aa (not_not_intro c2),Ab c5];exact(by repeat(first|exact trivial|exact u6 _|exact u12 rfl|refine u20 ?_|refine⟨?_,?_⟩)),by rw[spS,Aa (not_not_intro c2),Ab c5];exact u12 rfl,by rw[spS,Aa (not_not_intro c2),Ab c5];exact u6 _,trivial⟩)
  ·replace c5:(fdO h (yI h (zU h v).cls).order s).isSome=true:=by simpa using c5
   refine zL (zA (zB ?_));refine zB (zE zJ [] 800 rfl ?_);refine zF ?_;refine zQ _ (mP h (fdV h s (fdO h (yI h (zU h v).cls).order s))) rfl ?_;refine zF ?_;refine zC (zA (zW rfl (fun c7=>?_) (fun c7=>?_)))
   ·
    refine zB (zX zJ [] [[],[],[1],[0],[0,1,2,3],(rgN 5)] 900 yT kr rfl ?_);refine zf (zA (zM (zP ?_)));exact u4 rfl (u19 ⟨by rw[spS,Aa (not_not_intro c2),Aa (by rw[c5];decide),Ab c7];exact u6 _,by rw[spS,Aa (not_not_intro c2),Aa (by rw[c5];decide),Ab c7];exact u18 rfl,by rw[spS,Aa (not_not_intro c2),Aa (by rw[c5];decide),Ab c7];exact u6 _,trivial⟩)
   ·
    refine zL (zA (zB ?_));refine zB (zE zJ [] 1000 rfl ?_);refine zF ?_;refine zQ _ (jH _ _) rfl ?_;refine zF ?_;refine zC (zA (zK 1100 ?_));refine zO (zK 1200 ?_);refine zY (fun c11=>?_) (fun c11=>?_)
    ·
     refine zB (zX zJ [] [[],[0],[0,1],[0,1,2],[],[4],[4,5],[4,5,6],(rgN 7),(rgN 9),(rgN 10)] 1300 yT kr rfl ?_);repeat(first|refine zH ?_|refine zT (by exact⟨by omega,kT g (Or.inr c11)⟩) ?_)
     refine zQ _ (O_ok _) rfl ?_;repeat(first|refine zH ?_|refine zT (by exact⟨by omega,kT g (Or.inr c11)⟩) ?_)
     refine zC (zA (zM (zR (zP ?_))));exact u4 rfl (u19 ⟨by rw[spS,Aa (not_not_intro c2),Aa (by rw[c5];decide),Aa (by rw[c7];decide),Aa om,Ab c11];exact u6 _,by rw[spS,Aa (not_not_intro c2),Aa (by rw[c5];decide),Aa (by rw[c7];decide),Aa om,Ab c11];exact u18 rfl,by rw[spS,Aa (not_not_intro c2),Aa (by rw[c5];decide),Aa (by rw[c7];decide),Aa om,Ab c11];exact u6 _,trivial⟩)
    ·
     refine zK 1400 ?_;refine zY (fun c13=>?_) (fun c13=>?_)
     ·
      refine zB (zE zJ [] 1500 rfl ?_);repeat(first|refine zH ?_|refine zT (by exact⟨by omega,kT g (Or.inl c13)⟩) ?_)
      refine zC (zA (zM (zR (zP ?_))));exact u4 rfl (u19 ⟨by rw[spS,Aa (not_not_intro c2),Aa (by rw[c5];decide),Aa (by rw[c7];decide),Ab c13];exact u6 _,by rw[spS,Aa (not_not_intro c2),Aa (by rw[c5];decide),Aa (by rw[c7];decide),Ab c13];exact u12 rfl,by rw[spS,Aa (not_not_intro c2),Aa (by rw[c5];decide),Aa (by rw[c7];decide),Ab c13];exact u6 _,trivial⟩)
     ·
      refine zL (zN (zA (zK 1600 ?_)));refine zM ?_;exact u4 rfl (u19 ⟨by rw[spS,Aa (not_not_intro c2),Aa (by rw[c5];decide),Aa (by rw[c7];decide),Aa om,Aa om];exact u6 _,by rw[spS,Aa (not_not_intro c2),Aa (by rw[c5];decide),Aa (by rw[c7];decide),Aa om,Aa om];exact u12 rfl,by rw[spS,Aa (not_not_intro c2),Aa (by rw[c5];decide),Aa (by rw[c7];decide),Aa om,Aa om];exact u6 _,trivial⟩)
def PV.slN(sz:Nat)(rows:List (List PV)):PV where
 one:=true
 str:=true
 p:=fun w s v=>(PV.sl false sz rows).p w s v/\(rows=[]->v= .slice none 0 0)
 mono:=fun w s w' s' v hx h=>⟨(PV.sl false sz rows).mono w s w' s' v hx h.1,h.2⟩
 cell:=fun _ w s v h=>(PV.sl false sz rows).cell rfl w s v h.1
 strong:=fun _ w s s' v hx h=>⟨(PV.sl false sz rows).strong rfl w s s' v hx h.1,h.2⟩
def slN{α:Type}(sz:Nat)(l:List α)(f:α->List D):D:= .op (PV.slN sz (l.map fun a=>D.pvs (f a)))
theorem Sub.slN{α:Type}{sz:Nat}{l:List α}{f:α->List D}{e:α}:Sub (slN sz l f) (.sl false sz l f e):=fun _ _ _ _ h=>h.1
section
variable{P:Program}{b:Ba}{ops:Array Oper}
theorem Fn.slN{α:Type}{g:FuncId}{args:List D}{sz:Nat}{l:List α}{f:α->List D}{e:α}(h1:l=[]->Fn P g args (.v (.slice none 0 0)))(h2:l≠[]->Fn P g args (.sl false sz l f e)):Fn P g args (slN sz l f):=by
 cases l with
 |nil=>
  refine(h1 rfl).out fun w s v hv=>?_;have hv:v= .slice none 0 0:=hv;subst hv;exact⟨PV.sl_nil,fun _=>rfl⟩
 |cons x l=>exact(h2 (by simp)).out fun w s v hv=>⟨hv,fun h=>by simp at h⟩
theorem run_nilNe{T T' e:TypeId}{t3 t4:Nat}{ty:TypeId}{pos:String}{aft:Array Edge}{rest:List Oper}{tm:List (Nat×TV)}{ow:List (Nat×Own)}{nx:Nat}{K:Ste->Prop}{d:TV}{p:Prop}(hu:P.underlying T=some (.slice e))(ht:fnd t3 tm=some d)
  (hd:∀w s g v,d.P w s g v->∃a n c,v= .slice a n c/\(a=none↔¬p)) (h4:t4<b.sz) (h:∀c:Bool,(c=true↔p)->Run P b ops rest ⟨(t4,.pv (PV.lit (.bool c)))::tm,ow,nx⟩ K):
  Run P b ops (⟨some t4,.binOp .neq T (.tmp t3) (.const (.slice none 0 0)) T',ty,pos,aft,none⟩::rest) ⟨tm,ow,nx⟩ K:=by
 intro w s g a Q hr hK;obtain⟨v,hv,hp⟩:=hr.tm t3 d ht;obtain⟨ad,n,c,rfl,hn⟩:=hd w s g v hp;refine wpList_step fun K' hK'=>?_;have hw:Region.wanted (⟨some t4,.binOp .neq T (.tmp t3) (.const (.slice none 0 0)) T',ty,pos,aft,none⟩:Oper) (yielded ops a.tmps)=true:=rfl;rw[hw];simp only[if_true];unfold Oper.wp;have hev:a.eval (.tmp t3)= .slice ad n c:=by simp[Act.eval,hv]
 have hev0:a.eval (.const (.slice none 0 0))= .slice none 0 0:=rfl;have he:(execOp a.eval ⟨some t4,.binOp .neq T (.tmp t3) (.const (.slice none 0 0)) T',ty,pos,aft,none⟩).run P w= .ok (.value (.bool (!ad.isNone))) w:=by
  have heq':(Op.equal T (.slice ad n c) (.slice none 0 0)).run P w= .ok ad.isNone w:=uO0 9999 hu w ad n c;simp[execOp,hev,hev0,eqGuard,binOp,heq']
 rw[he];refine hK' _ _ (h (!ad.isNone) (by cases ad with|none=>simpa using hn|some _=>simpa using hn) w s g _ Q ?_ hK);exact(hr.step (acc:=[]) (acc':=[]) (dst:=some t4) (out:= .pv (PV.lit (.bool (!ad.isNone)))) (v:= .bool (!ad.isNone)) (nx:=nx) (Stp.refl w s g hr.lt) (fun k c h=>by cases h) (fun k c h=>by cases h) (Aq _) (fun k c h=>by cases h) (fun d hd=>by cases hd;exact h4) rfl).congr (fun _ _ h=>h) (fun _ _ h=>h) (Aq _)
theorem zO0{α:Type}{id:Nat}{T T' e:TypeId}{t0 t3 t4 sz:Nat}{ty1 ty2:TypeId}{pos1 pos2:String}{aft1 aft2:Array Edge}{l:List α}{f:α->List D}{tm:List (Nat×D)}{ow:List (Nat×DOwn)}{nx:Nat}{K:Exit->DS->Prop}(hu:P.underlying T=some (.slice e))(h0:yY t0 tm=some (slN sz l f))
  (h3:Nat.blt t3 b.sz=true) (h4:Nat.blt t4 b.sz=true) (h:∀c:Bool,(c=true↔l≠[])->K .normal ⟨(t4,.v (.bool c))::(t3,slN sz l f)::tm,ow,nx⟩):
  Ev P b (.region id #[⟨some t3,.move (.tmp t0),ty1,pos1,aft1,none⟩,⟨some t4,.binOp .neq T (.tmp t3) (.const (.slice none 0 0)) T',ty2,pos2,aft2,none⟩] false) ⟨tm,ow,nx⟩ K:=by
 intro w s g a Q hr hK;have h0':fnd t0 (tvs tm)=some (slN sz l f).tv:=by rw[qG,h0];rfl
 have hR:Run P b #[⟨some t3,.move (.tmp t0),ty1,pos1,aft1,none⟩,⟨some t4,.binOp .neq T (.tmp t3) (.const (.slice none 0 0)) T',ty2,pos2,aft2,none⟩] [⟨some t3,.move (.tmp t0),ty1,pos1,aft1,none⟩,⟨some t4,.binOp .neq T (.tmp t3) (.const (.slice none 0 0)) T',ty2,pos2,aft2,none⟩] ⟨tvs tm,ows ow,nx⟩ (fun S'=>∃S,S'=DS.ste S/\K .normal S):=by
  refine xW1 (out:=(slN sz l f).tv) (mE0 h0') rfl h3 ?_;refine run_nilNe (d:=(slN sz l f).tv) (p:=l≠[]) hu (by show fnd t3 ((t3,(slN sz l f).tv)::tvs tm)=_;rw[yH];simp) (fun w s g v hv=>?_) (Av h4) fun c hc=>tY0 ⟨⟨(t4,.v (.bool c))::(t3,slN sz l f)::tm,ow,nx⟩,rfl,h c hc⟩;obtain⟨⟨a,cap,g1,g2,g3,g4,g5⟩,hn⟩:=hv;refine⟨a,_,cap,g1,?_⟩
  cases l with
  |nil=>
   have:=hn rfl;rw[g1]at this
   cases this;simp
  |cons x l=>
   obtain⟨b',off,e1,_⟩:=g5 0 (D.pvs (f x)) rfl;rw[e1];simp
 refine wp_region_lit (hR w s g a Q hr fun w' s' g' a' S' g1 g2=>?_);obtain⟨S,rfl,g3⟩:=g2;exact hK .normal w' s' g' a' S g1 g3
end
def ArgS:List D->List D->Prop
 |[],[]=>True
 |d::l,d'::l'=>Sub d d'/\ArgS l l'
 |_,_=>False
theorem ArgS.all{w:World}{s:Sb}{g:Gh}:∀{l l':List D}{vs:List Value},ArgS l l'->AllT w s g (D.tvl l) vs->AllT w s g (D.tvl l') vs
 |[],[],_,_,h=>h
 |d::l,d'::l',[],_,h=>by rw[D.tvl]at h;simp[AllT]at h
 |d::l,d'::l',v::vs,h,hv=>by
  rw[D.tvl,AllT.cons]at hv;rw[D.tvl,AllT.cons];exact⟨h.1 _ _ _ _ hv.1,h.2.all hv.2⟩
 |[],_::_,_,h,_=>h.elim
 |_::_,[],_,h,_=>h.elim
theorem FnG.args{P:Program}{f:FuncId}{args args':List D}{own own':List DOwn}{out:D}(h:FnG P f args own out own')(hs:ArgS args' args):FnG P f args' own out own':=
 ⟨h.bod,fun w s g vs hg ha=>h.run w s g vs hg (hs.all ha)⟩
theorem SubP.slrRows{α:Type}{m:Bool}{sz:Nat}{rows:List (List D)}{l:List α}{f:α->List D}{e:α}(h:RowsP rows (l.map f)):SubP (.slr m sz rows) (.sl m sz l f e):=fun w s v hv=>by
 have h1:=jI0 h hv;rw[yO,Cp]at h1;exact h1
variable{md me:Bool}
def caI(f:Vl)(l:List Vl):St:=⟨2,vl0,0,ByteArray.empty,f,l⟩
def dnS:St:=⟨3,vl0,0,ByteArray.empty,vl0,[]⟩
def atS(l:List Vl)(i:Int):St:=if i<(l.length:Nat)then vlS (l.getD i.toNat vl0)else dnS
def itO(v z:Vl)(i:Int):Ob:=⟨16,ByteArray.empty,0,[],[],[],[v,z],[],0,i⟩
def chgT:ByteArray:=⟨#[99,111,110,116,97,105,110,101,114,32,99,104,97,110,103,101,100,32,100,117,114,105,110,103,32,105,116,101,114,97,116,105,111,110]⟩
def elmS(h:List Ob)(v z:Vl)(i:Int):St:=
 if v.k=4 then(if i<((ruL v.s).length:Nat)then vlS (txV (Utf8.encode ((ruL v.s).getD i.toNat 0)))else dnS)
 else if v.k=5 then(if i<(v.s.size:Nat)then vlS (nuV ((bAt v.s i.toNat:Nat):Int))else dnS)
 else if(zU h v).kind=3\/(zU h v).kind=4 then(if(nuV ((zU h v).keys.length:Nat)).nl=z.nl then atS (zU h v).keys i else raS 47 chgT)
 else atS (zU h v).items i
def elS(h:List Ob)(v:Vl):List Vl:=
 if v.k=4 then(itL v.s v.s.size 0).map fun c=>txV (Utf8.encode c.2)
 else if v.k=5 then(List.range v.s.size).map fun i=>nuV ((bAt v.s i:Nat):Int)
 else if(zU h v).kind=3\/(zU h v).kind=4 then(zU h v).keys
 else(zU h v).items
structure Itx{α:Type}(L:List α)where
 k:Nat
 r:List α
 eq:L.drop k=r
theorem drop_eq{α:Type}{L:List α}{k:Nat}{a:α}{r:List α}(h:L.drop k=a::r):L.drop (k+1)=r:=by
 rw[<-List.drop_drop,h];rfl
theorem tJ0{α:Type}{L:List α}{k:Nat}{a:α}{r:List α}(h:L.drop k=a::r):L.take (k+1)=L.take k++[a]:=by
 have h1:L[k]?=some a:=by rw[<-List.head?_drop,h];rfl
 rw[List.take_add_one,h1];rfl
theorem take_all{α:Type}{L:List α}{k:Nat}(h:L.drop k=[]):L.take k=L:=by
 have h1:=Dz k L
 rwa[h,Ck]at h1
theorem take_len{α:Type}{L:List α}{k:Nat}{a:α}{r:List α}(h:L.drop k=a::r):(L.take (k+1)).length=(L.take k).length+1:=by
 rw[tJ0 h,Af];rfl
theorem gM{h:List Ob}(hh:HpIn h)(v:Vl):ObIn (zU h v):=by
 unfold zU;split
 ·exact hh.at v.r
 ·exact cR0
theorem by64(s:ByteArray)(i:Nat):IntKind.i64.wrap ((bAt s i:Nat):Int)=((bAt s i:Nat):Int):=InI.wrap ⟨by omega,by have:=xT0 s i;omega⟩
theorem yV0{k n:Nat}(h:k<n):(List.range n).take (k+1)=(List.range n).take k++[k]:=by
 rw[List.take_add_one,List.getElem?_range h];rfl
theorem uT(v:Vl):Fx 27 [.agg (vlD v)] (.agg (stD (vlS v))):=by
 refine yF zJ Tryz.func27 rfl rfl rfl rfl rfl rfl ?_;intros;refine zK 100 ?_;refine zK 200 ?_;refine zM ?_;exact u4 rfl (u20 nz)
theorem kV(c:Int)(s:ByteArray):Fx 30 [.v (.int .i64 c),.v (.string s)] (.agg (stD (raS c s))):=by
 refine yF zJ Tryz.func30 rfl rfl rfl rfl rfl rfl ?_;intros;refine zK 100 ?_;refine zK 200 ?_;refine zM ?_;exact u4 rfl (u20 nz)
theorem kC:Fx 53 [] (.agg (stD dnS)):=by
 refine yF zJ Tryz.func53 rfl rfl rfl rfl rfl rfl ?_;intros;refine zK 100 ?_;refine zK 200 ?_;refine zM ?_;exact u4 rfl (u20 nz)
theorem wJ(h:List Ob)(v:Vl)(hv:v.k=6->yU h v.r=true):Fx 26 [hpD md h,.agg (vlD v)] (.agg (obD (zU h v))):=by
 refine yF zJ Tryz.func26 rfl rfl rfl rfl rfl rfl ?_;intros;refine zK 100 ?_;refine zB (zK 200 ?_);refine zY (fun c1=>?_) (fun c1=>?_)
 ·
  refine zK 300 ?_;refine zM (zP ?_);have e:zU h v=ob0:=wE c1;rw[e];exact u4 rfl (by repeat(first|exact trivial|exact u6 _|exact u12 rfl|refine u20 ?_|refine⟨?_,?_⟩))
 ·
  refine zL (zA ?_);refine zB (zE zJ [] 400 rfl ?_);repeat(first|refine zH ?_|refine zT (by exact yR (hv c1)) ?_)
  refine zC (zA (zM ?_));have e:zU h v=h.getD v.r.toNat ob0:=xV hv c1;rw[e];exact u4 rfl (by repeat(first|exact trivial|exact u6 _|exact u12 rfl|refine u20 ?_|refine⟨?_,?_⟩))
theorem kB(h:List Ob)(v:Vl)(s:ByteArray)(hh:HpIn h)(g:Uh h)(hv:v.k=6->yU h v.r=true):Fx 29 [hpD md h,.agg (vlD v),.v (.string s)] (.tup [.agg (stD (caI (spS h v s).1 (spS h v s).2.1)),.v (.bool (spS h v s).2.2)]):=by
 refine yF zJ Tryz.func29 rfl rfl rfl rfl rfl rfl ?_;intros;refine zK 100 ?_;refine zB (zE zJ [] 200 rfl ?_);refine zF ?_;refine zQ _ (Special_ok h v s hh g hv) rfl ?_;refine zF ?_;refine zC (zA (zK 300 ?_));refine zM ?_;exact u4 rfl (u19 ⟨u20 nz,u6 _,trivial⟩)
theorem zE1(l:List Vl)(i:Int)(hi:0<=i):Fx 96 [vsD l,.v (.int .i64 i)] (.agg (stD (atS l i))):=by
 refine yF zJ Tryz.func96 rfl rfl rfl rfl rfl rfl ?_;intros;refine zK 100 ?_;refine zB (zK 200 ?_);refine zY (fun c1=>?_) (fun c1=>?_)
 ·
  refine zB (zE zJ [] 300 rfl ?_);refine zF ?_;refine zQ _ (uT _) rfl ?_;refine zf (zA (zM (zP ?_)));exact u4 rfl (u9 (by rw[atS,Ab c1];rfl))
 ·
  refine zL (zA ?_);refine zB (zE zJ [] 400 rfl ?_);refine zF ?_;refine zQ _ (kC) rfl ?_;refine zf (zA (zM ?_));exact u4 rfl (u9 (by rw[atS,Aa om];rfl))
theorem qH1{P:Program}{E:Pn}{K:DS->Prop}{p:Prop}{r:Out}(hr:r.sat P E K)(hp:p:=by first|rfl|(simp only[Ar,At,List.length_range,An,Aw];omega)|(exact⟨by omega,by omega⟩)|exact Ew):(Out.need p r).sat P E K:=⟨hp,hr⟩
theorem Elements_ok(h:List Ob)(v:Vl)(hh:HpIn h)(hi:VlIn v):FnO Tryz.prog 63 [hpD md h,.agg (vlD v)] 29 7 ((elS h v).map vlD):=by
 have hsz:=hi.s;have hil:=dY v.s v.s.size 0;have hob:=gM hh v;refine pS Tryz.func63 rfl rfl rfl rfl rfl rfl ?_;intros;refine zK 100 ?_;refine zK 200 ?_;refine yZ 5 29 7 rfl ?_;refine zB ?_;refine zB (zE zJ [] 300 rfl ?_);refine zF ?_;refine zQ _ (jH _ _) rfl ?_;refine zF ?_;refine zC (zA (zO (zK 500 ?_)));refine zY (fun c4=>?_) (fun c4=>?_)
 ·
  refine zK 600 ?_;refine zO ?_;refine yC (ι:=Itx (itL v.s v.s.size 0)) [22] [] 650 (fun x=>[(5,.own 200 7 (((itL v.s v.s.size 0).take x.k).map (fun c:Int×Int=>vlD (txV (Utf8.encode c.2)))))]) (fun x=>[(200,.row 29 7 (((itL v.s v.s.size 0).take x.k).map (fun c:Int×Int=>vlD (txV (Utf8.encode c.2)))).length),(502,.itr x.r)]) (fun x=>x.r.length) ⟨0,_,rfl⟩ ?_;refine⟨⟨yG,yE,rfl,rfl⟩,fun x=>?_⟩;obtain⟨k,r,hr⟩:=x;rcases r with _|⟨⟨q,c⟩,r⟩
  ·refine zK 700 ?_;refine zB (zY (fun c6=>?_) (fun c6=>?_))
   ·
    first|exact absurd c6 (by simp)|(simp at c6;done)|cases c6
   ·
    refine yD (yA (yB (zZ (zN (zA (zK 1700 ?_))))));refine zM ?_;refine FinO.ret rfl rfl rfl ?_;unfold elS;rw[Ab c4,Cp];exact congrArg (List.map (fun c:Int×Int=>vlD (txV (Utf8.encode c.2)))) (take_all hr)
  ·refine zK 700 ?_;refine zB (zY (fun c6=>?_) (fun c6=>?_))
   ·
    refine zL (zA (zO (zK 800 ?_)));refine zE zJ [] 900 rfl ?_;repeat(first|refine zH ?_|refine qH1 ?_)
    refine zQ _ (T_ok _) rfl ?_;repeat(first|refine zH ?_|refine qH1 ?_)
    refine zC (zN ?_);exact zS (⟨k+1,r,drop_eq hr⟩) ⟨⟨Sub.ownRows (by rw[tJ0 hr,Ad];exact RowsP.refl _),yG⟩,⟨⟨rfl,rfl,by simp only[Ar,Af];rw[take_len hr];rfl⟩,rfl,yE⟩,rfl,rfl⟩ (by show r.length<((q,c)::r).length;simp)
   ·
    first|exact absurd c6 (by simp)|(simp at c6;done)|cases c6
 ·
  refine zK 1000 ?_;refine zY (fun c9=>?_) (fun c9=>?_)
  ·
   refine zK 1100 ?_;refine zO ?_;refine yC (ι:={k:Nat//k<=v.s.size}) [3] [1] 1150 (fun x=>[(9,.v (.int .i64 x.1)),(5,.own 200 7 (((List.range v.s.size).take x.1).map (fun i:Nat=>vlD (nuV ((bAt v.s i:Nat):Int)))))]) (fun x=>[(200,.row 29 7 (((List.range v.s.size).take x.1).map (fun i:Nat=>vlD (nuV ((bAt v.s i:Nat):Int)))).length)]) (fun x=>v.s.size-x.1) ⟨0,Ap _⟩ ?_;refine⟨⟨yG,yE,rfl,rfl⟩,fun x=>?_⟩;have hk:x.1<=v.s.size:=x.2;refine zB (zK 1200 ?_);refine zY (fun c11=>?_) (fun c11=>?_)
   ·
    refine zL (zA (zB (zO ?_)));refine zE zJ [] 1400 rfl ?_;repeat(first|refine zH ?_|refine qH1 ?_)
    refine zQ _ (N_ok _ (by rw[by64];omega) (by rw[by64];have:=xT0 v.s ((x.1:Nat):Int).toNat;omega)) rfl ?_;repeat(first|refine zH ?_|refine qH1 ?_)
    refine zC (zN (zA (yM zJ [] 1500 ?_)));exact zS (⟨x.1+1,by omega⟩) ⟨⟨u21 (by push_cast;rfl),Sub.ownRows (by rw[yV0 c11,Ad];exact(RowsP.refl _).append ⟨by rw[by64,Ah];exact SubPs.refl _,trivial⟩),yG⟩,⟨⟨rfl,rfl,by simp only[Af,Ar];rw[yV0 c11,Af];rfl⟩,yE⟩,rfl,rfl⟩ (by show v.s.size-(x.1+1)<v.s.size-x.1;omega)
   ·
    refine yD (yA (yB (zZ (zN (zA (zK 1700 ?_))))));refine zM ?_;refine FinO.ret rfl rfl rfl ?_;unfold elS;rw[Aa c4,Ab c9,Cp];exact congrArg (List.map (fun i:Nat=>vlD (nuV ((bAt v.s i:Nat):Int)))) (Ak (by rw[List.length_range];omega))
  ·
   refine zK 1500 ?_;refine zY (fun c14=>?_) (fun c14=>?_)
   ·
    refine zE zJ [63] 1600 rfl ?_;refine zF ?_;refine qR _ _ _ (kK _ hob.kl) ?_;refine zF ?_;refine zC (zN (zA (zK 1700 ?_)));refine zM ?_;refine FinO.ret rfl rfl rfl ?_;unfold elS;rw[Aa c4,Aa c9,Ab c14]
   ·
    refine zE zJ [15] 1600 rfl ?_;refine zF ?_;refine qR _ _ _ (kK _ hob.il) ?_;refine zF ?_;refine zC (zN (zA (zK 1700 ?_)));refine zM ?_;refine FinO.ret rfl rfl rfl ?_;unfold elS;rw[Aa c4,Aa c9,Aa (not_or.2 c14)]
variable{md me:Bool}
def itZ(h:List Ob)(v:Vl):Vl:=if(zU h v).kind=3\/(zU h v).kind=4 then nuV ((zU h v).keys.length:Nat)else vl0
def itcB(h:List Ob)(v:Vl):Bool:=decide ((zU h v).kind=3\/(zU h v).kind=4\/(zU h v).kind=1\/(zU h v).kind=2\/(zU h v).kind=5\/v.k=4\/v.k=5)
def itN(h:List Ob)(v:Vl):ByteArray:=(⟨#[39]⟩:ByteArray)++(yI h (clA h v)).name++⟨#[39,32,105,115,32,110,111,116,32,105,116,101,114,97,98,108,101]⟩
def itH(h:List Ob)(v:Vl):List Ob:=if itcB h v=true then h++[itO v (itZ h v) 0]else h
theorem bsZ(a:Array UInt8):(⟨a⟩:ByteArray).size=a.size:=rfl
theorem nuV_in{n:Nat}(h:n<=2000000):VlIn (nuV (n:Nat)):=⟨(by decide:(-9223372036854775808:Int)<=2),(by decide:(2:Int)<=9223372036854775807),(by decide:(-9223372036854775808:Int)<=0),(by decide:(0:Int)<=9223372036854775807),yX _,(fun _ h=>by cases h),Au (qF (k:=1) (by show(n:Int).natAbs<_;omega)) de,(by decide:0<=2000000),(by decide:ByteArray.empty.size<=2000000)⟩
theorem zH0{h:List Ob}{v:Vl}(hk:(zU h v).keys.length<=2000000):VlIn (itZ h v):=by
 unfold itZ;split
 ·exact nuV_in hk
 ·exact bX0
theorem pP0{v z:Vl}{i:Int}(hv:VlIn v)(hz:VlIn z)(hi: -9223372036854775808<=i/\i<=9223372036854775807):ObIn (itO v z i):=
 ⟨(by decide:(-9223372036854775808:Int)<=16/\(16:Int)<=9223372036854775807),(by decide:(-9223372036854775808:Int)<=0/\(0:Int)<=9223372036854775807),(by decide:(-9223372036854775808:Int)<=0/\(0:Int)<=9223372036854775807),hi,(by decide:ByteArray.empty.size<=2000000),(by decide:0<=2000000),(by decide:0<=2000000),(by decide:0<=2000000),(by decide:2<=2000000),(by decide:0<=2000000),(fun _ h=>by cases h),(fun x hx=>by rcases Bl.1 hx with rfl|hx;exact hv;rw[Bv.1 hx];exact hz),(fun _ h=>by cases h)⟩
theorem jZ0{h:List Ob}{v:Vl}(hk:(zU h v).kind=3\/(zU h v).kind=4):RowsP [vlD v,vlD (nuV ((zU h v).keys.length:Nat))] ([v,itZ h v].map vlD):=by
 rw[itZ,Ab hk];exact RowsP.refl _
theorem pL{h:List Ob}{v:Vl}(hk:¬((zU h v).kind=3\/(zU h v).kind=4)):RowsP [vlD v,[.v (.int .i64 0),.v (.bool false),.v (.slice none 0 0),.v (.bool false),.v (.slice none 0 0),.v (.string ByteArray.empty),.v (.int .i64 0)]] ([v,itZ h v].map vlD):=by
 rw[itZ,Aa hk];exact⟨SubPs.refl _,⟨u6 _,u6 _,u12 rfl,u6 _,u12 rfl,u6 _,u6 _,trivial⟩,trivial⟩
theorem jV1{h:List Ob}{r:Nat}{v z:Vl}{i:Int}(hr:h[r]?=some (itO v z i)):zU h (rfV (r:Nat))=itO v z i/\yU h (rfV (r:Nat)).r=true/\h.getD r ob0=itO v z i:=by
 have h1:h.getD ((r:Nat):Int).toNat ob0=itO v z i:=by rw[Ah,Ac,hr];rfl
 have h2:yU h (rfV (r:Nat)).r=true:=by
  have hl:=(Am.1 hr).1;show yU h ((r:Nat):Int)=true;simp only[yU,Aj,Ao];exact⟨⟨by omega,by omega⟩,by rw[h1];rfl⟩
 exact⟨by unfold zU;rw[Ab ⟨rfl,h2⟩];exact h1,h2,by rw[<-h1,Ah]⟩
theorem mR0{α:Type}{l:List α}{r:Nat}{a:α}(h:l[r]?=some a):l.set r a=l:=by
 apply List.ext_getElem?;intro j;rw[List.getElem?_set];split
 ·rename_i e;subst e;rw[h,Ab (Am.1 h).1]
 ·rfl
theorem mD0{h:List Ob}{r:Nat}{o:Ob}{row:List D}(hr:D.pvs row=D.pvs (obD o)):D.pvss ((h.map obD).set ((r:Nat):Int).toNat row)=D.pvss ((h.set r o).map obD):=by
 rw[Ah,yO,yO,List.map_set,hr,Cp,Cp,List.map_set];rfl
end Go.Proofs.YtpmjepoceakikaaGreatDoor
/-
  DERIVED:THE SHELF's CONTRACTS AT THIS DUMP,IN PLAIN WORDS (tools/lay-plain.mjs out of 'YtpmjepoceakikaaGreatDoorShelf3.lean',which tools/lay-shelf.mjs wrote):THE SAME DECLARATIONS UNDER THE SAME NAMES:'import','namespace','open','def','theorem' AND NOTHING ELSE:no command of the shelf's:FOR A HAND-IN. Each laying:the table of numbers ('.._ren') and one theorem,a field a fact of the dump's own or the kernel's comparison;each contract:ONE APPLICATION.
-/
namespace Go.Proofs
open Go.Shelf
def Tryz.laysGrowV_ren:Go.Shelf.Ren:=⟨fun|4=>87|n=>n,fun|22=>32|25=>29|3=>3|4=>4|9=>9|20=>20|0=>0|n=>n,fun|n=>n⟩
theorem vF{α:Type}{a b:α}(h:a=b:=by kernel_rfl):some a=some b:=congrArg some h
theorem Tryz.laysGrowV:Go.Proofs.Lays8.n4 Tryz.prog Tryz.laysGrowV_ren:={
 mixed:=by kernel_rfl
 f4:=⟨Tryz.f87.name,by decide,Tryz.func87.trans vF⟩
 t0:=Tryz.underlying0
 a0:=Tryz.isAgg0
 z0:=Tryz.sizeOf0
 v0:=Tryz.zeroValue0
 t3:=Tryz.underlying3
 a3:=Tryz.isAgg3
 z3:=Tryz.sizeOf3
 v3:=Tryz.zeroValue3
 t4:=Tryz.underlying4
 a4:=Tryz.isAgg4
 z4:=Tryz.sizeOf4
 v4:=Tryz.zeroValue4
 t9:=Tryz.underlying9
 a9:=Tryz.isAgg9
 z9:=Tryz.sizeOf9
 v9:=Tryz.zeroValue9
 t20:=Tryz.underlying20
 a20:=Tryz.isAgg20
 z20:=Tryz.sizeOf20
 v20:=Tryz.zeroValue20
 t22:=Tryz.underlying32
 a22:=Tryz.isAgg32
 z22:=Tryz.sizeOf32
 v22:=Tryz.zeroValue32}
def Tryz.laysItoa_ren:Go.Shelf.Ren:=⟨fun|171=>194|243=>214|246=>227|283=>238|284=>239|285=>240|286=>241|129=>254|317=>253|318=>255|319=>256|320=>257|337=>265|338=>266|n=>n,fun|3=>3|9=>9|2=>2|4=>4|171=>253|0=>0|53=>101|37=>153|5=>5|173=>256|212=>265|51=>100|20=>20|213=>266|46=>102|232=>278|233=>279|n=>n,fun|17=>5|18=>11|19=>12|n=>n⟩
theorem Tryz.laysItoa:Go.Proofs.LaysM.n171 Tryz.prog Tryz.laysItoa_ren:={
 mixed:=by kernel_rfl
 f129:=Tryz.func254.trans vF
 f171:=Tryz.func194.trans vF
 f243:=Tryz.func214.trans vF
 f246:=Tryz.func227.trans vF
 f283:=Tryz.func238.trans vF
 f284:=Tryz.func239.trans vF
 f285:=Tryz.func240.trans vF
 f286:=Tryz.func241.trans vF
 f317:=Tryz.func253.trans vF
 f318:=Tryz.func255.trans vF
 f319:=Tryz.func256.trans vF
 f320:=Tryz.func257.trans vF
 f337:=Tryz.func265.trans vF
 f338:=Tryz.func266.trans vF
 t0:=Tryz.underlying0
 a0:=Tryz.isAgg0
 z0:=Tryz.sizeOf0
 v0:=Tryz.zeroValue0
 t2:=Tryz.underlying2
 a2:=Tryz.isAgg2
 z2:=Tryz.sizeOf2
 v2:=Tryz.zeroValue2
 t3:=Tryz.underlying3
 a3:=Tryz.isAgg3
 z3:=Tryz.sizeOf3
 v3:=Tryz.zeroValue3
 t4:=Tryz.underlying4
 a4:=Tryz.isAgg4
 z4:=Tryz.sizeOf4
 v4:=Tryz.zeroValue4
 t5:=Tryz.underlying5
 a5:=Tryz.isAgg5
 z5:=Tryz.sizeOf5
 v5:=Tryz.zeroValue5
 t9:=Tryz.underlying9
 a9:=Tryz.isAgg9
 z9:=Tryz.sizeOf9
 v9:=Tryz.zeroValue9
 t20:=Tryz.underlying20
 a20:=Tryz.isAgg20
 z20:=Tryz.sizeOf20
 v20:=Tryz.zeroValue20
 t37:=Tryz.underlying153
 a37:=Tryz.isAgg153
 z37:=Tryz.sizeOf153
 v37:=Tryz.zeroValue153
 t46:=Tryz.underlying102
 a46:=Tryz.isAgg102
 z46:=Tryz.sizeOf102
 v46:=Tryz.zeroValue102
 t51:=Tryz.underlying100
 a51:=Tryz.isAgg100
 z51:=Tryz.sizeOf100
 v51:=Tryz.zeroValue100
 t53:=Tryz.underlying101
 a53:=Tryz.isAgg101
 z53:=Tryz.sizeOf101
 v53:=Tryz.zeroValue101
 t171:=Tryz.underlying253
 a171:=Tryz.isAgg253
 z171:=Tryz.sizeOf253
 v171:=Tryz.zeroValue253
 t173:=Tryz.underlying256
 a173:=Tryz.isAgg256
 z173:=Tryz.sizeOf256
 v173:=Tryz.zeroValue256
 t212:=Tryz.underlying265
 a212:=Tryz.isAgg265
 z212:=Tryz.sizeOf265
 v212:=Tryz.zeroValue265
 t213:=Tryz.underlying266
 a213:=Tryz.isAgg266
 z213:=Tryz.sizeOf266
 t232:=Tryz.underlying278
 a232:=Tryz.isAgg278
 z232:=Tryz.sizeOf278
 v232:=Tryz.zeroValue278
 t233:=Tryz.underlying279
 a233:=Tryz.isAgg279
 z233:=Tryz.sizeOf279
 v233:=Tryz.zeroValue279
 g17:=by kernel_rfl
 g18:=by kernel_rfl
 g19:=by kernel_rfl
 i0:=by kernel_rfl
 i2:=by kernel_rfl
 i3:=by kernel_rfl
 i4:=by kernel_rfl
 i5:=by kernel_rfl
 i9:=by kernel_rfl
 i20:=by kernel_rfl
 i37:=by kernel_rfl
 i46:=by kernel_rfl
 i51:=by kernel_rfl
 i53:=by kernel_rfl
 i171:=by kernel_rfl
 i173:=by kernel_rfl
 i212:=by kernel_rfl
 i232:=by kernel_rfl
 i233:=by kernel_rfl
 m17:=by kernel_rfl
 m18:=by kernel_rfl
 m19:=by kernel_rfl}
def Tryz.laysQuote_ren:Go.Shelf.Ren:=⟨fun|177=>172|250=>195|289=>215|197=>225|323=>228|260=>237|339=>242|340=>243|242=>244|119=>245|345=>258|346=>259|278=>260|n=>n,fun|9=>9|5=>5|4=>4|3=>3|37=>153|21=>21|105=>241|46=>102|119=>172|0=>0|139=>185|138=>184|49=>221|234=>268|131=>269|51=>100|236=>25|n=>n,fun|3=>1|4=>2|20=>6|21=>7|22=>8|23=>9|24=>10|n=>n⟩
theorem Tryz.laysQuote:Go.Proofs.Lays.n177 Tryz.prog Tryz.laysQuote_ren:={
 mixed:=by kernel_rfl
 f119:=Tryz.func245.trans vF
 f177:=Tryz.func172.trans vF
 f197:=Tryz.func225.trans vF
 f242:=Tryz.func244.trans vF
 f250:=Tryz.func195.trans vF
 f260:=Tryz.func237.trans vF
 f278:=Tryz.func260.trans vF
 f289:=Tryz.func215.trans vF
 f323:=Tryz.func228.trans vF
 f339:=Tryz.func242.trans vF
 f340:=Tryz.func243.trans vF
 f345:=Tryz.func258.trans vF
 f346:=Tryz.func259.trans vF
 t0:=Tryz.underlying0
 a0:=Tryz.isAgg0
 z0:=Tryz.sizeOf0
 v0:=Tryz.zeroValue0
 t3:=Tryz.underlying3
 a3:=Tryz.isAgg3
 z3:=Tryz.sizeOf3
 v3:=Tryz.zeroValue3
 t4:=Tryz.underlying4
 a4:=Tryz.isAgg4
 z4:=Tryz.sizeOf4
 v4:=Tryz.zeroValue4
 t5:=Tryz.underlying5
 a5:=Tryz.isAgg5
 z5:=Tryz.sizeOf5
 v5:=Tryz.zeroValue5
 t9:=Tryz.underlying9
 a9:=Tryz.isAgg9
 z9:=Tryz.sizeOf9
 v9:=Tryz.zeroValue9
 t21:=Tryz.underlying21
 a21:=Tryz.isAgg21
 z21:=Tryz.sizeOf21
 v21:=Tryz.zeroValue21
 t37:=Tryz.underlying153
 a37:=Tryz.isAgg153
 z37:=Tryz.sizeOf153
 v37:=Tryz.zeroValue153
 t46:=Tryz.underlying102
 a46:=Tryz.isAgg102
 z46:=Tryz.sizeOf102
 v46:=Tryz.zeroValue102
 t49:=Tryz.underlying221
 a49:=Tryz.isAgg221
 z49:=Tryz.sizeOf221
 v49:=Tryz.zeroValue221
 t51:=Tryz.underlying100
 a51:=Tryz.isAgg100
 z51:=Tryz.sizeOf100
 v51:=Tryz.zeroValue100
 t105:=Tryz.underlying241
 a105:=Tryz.isAgg241
 z105:=Tryz.sizeOf241
 v105:=Tryz.zeroValue241
 t119:=Tryz.underlying172
 a119:=Tryz.isAgg172
 z119:=Tryz.sizeOf172
 t131:=Tryz.underlying269
 a131:=Tryz.isAgg269
 z131:=Tryz.sizeOf269
 v131:=Tryz.zeroValue269
 t138:=Tryz.underlying184
 a138:=Tryz.isAgg184
 z138:=Tryz.sizeOf184
 v138:=Tryz.zeroValue184
 t139:=Tryz.underlying185
 a139:=Tryz.isAgg185
 z139:=Tryz.sizeOf185
 v139:=Tryz.zeroValue185
 t234:=Tryz.underlying268
 a234:=Tryz.isAgg268
 z234:=Tryz.sizeOf268
 v234:=Tryz.zeroValue268
 t236:=Tryz.underlying25
 a236:=Tryz.isAgg25
 z236:=Tryz.sizeOf25
 v236:=Tryz.zeroValue25
 g3:=by kernel_rfl
 g4:=by kernel_rfl
 g20:=by kernel_rfl
 g21:=by kernel_rfl
 g22:=by kernel_rfl
 g23:=by kernel_rfl
 g24:=by kernel_rfl}
end Go.Proofs
namespace Go.Proofs.YtpmjepoceakikaaGreatDoor
open Go.RowKit Go.Shelf
theorem grow_O{P:Program}{f:FuncId}{e:TypeId}{sz:Nat}(hb:Bod P f)(n:Nat)
  (h0:n=0->∀w,Calls P f #[.slice none 0 0,.int .i64 n] w fun r w'=>r= .returned (.slice none 0 0)/\w'=w)
  (h1:0<n->∀w:World,Calls P f #[.slice none 0 0,.int .i64 n] w fun r w'=>∃(cur:Array Value)(G:Nat),r= .returned (.slice (some ⟨w.heap.size,0,none⟩) 0 G)/\w'=w.drew.alloc (.cells cur e)/\cur.size=G*sz/\G<=maxLen):
  FnO P f [.v (.slice none 0 0),.v (.int .i64 n)] e sz []:=by
 refine⟨hb,fun w s vs hlt _ hv=>?_⟩
 match vs,hv with
 |[a,b],⟨ha,hb',_⟩=>
  have ha:a= .slice none 0 0:=ha;have hb':b= .int .i64 n:=hb';subst ha hb';rcases Cb n with hn|hn
  ·refine(h0 hn w).mono fun r w' hq=>?_;obtain⟨rfl,rfl⟩:=hq;refine⟨s,⟨fun _=>none,fun k m=>if k=0/\m=0 then some (.slice none 0 0)else none⟩,0,.slice none 0 0,rfl,?_,⟨fun m hm=>?_,_,rfl,.inl ⟨rfl,rfl⟩⟩,fun N hN=>?_,⟨Ex.refl _ _,hlt,rfl,rfl,rfl,Aq _,fun _ _=>rfl,fun _ _ h=> .inl h,fun _ _ h=> .inl h⟩⟩
   ·rw[TV.P];exact⟨⟨none,0,rfl,Aq _,by omega,(fun _ h=>by cases h),fun i row h=>by simp[D.pvss]at h⟩,rfl⟩
   ·have hm:0<m:=hm;exact Aa om
   ·cases hN
  ·refine(h1 hn w).mono fun r w' hq=>?_;obtain⟨cur,G,rfl,rfl,hc,hG⟩:=hq;have hnew:(w.drew.alloc (.cells cur e)).heap[w.heap.size]?=some (.cells cur e (0,0)):=heap_alloc_new w.drew _;have hold:∀N,N<w.heap.size->(w.drew.alloc (.cells cur e)).heap[N]?=w.heap[N]?:=fun N hN=>heap_alloc_old w.drew _ hN;have hsz:(w.drew.alloc (.cells cur e)).heap.size=w.heap.size+1:=by
    show(w.drew.heap.push _).size=_;rw[Array.size_push];rfl
   refine⟨s,⟨fun _=>none,fun k m=>if k=0/\m=0 then some (.slice (some ⟨w.heap.size,0,none⟩) 0 G)else none⟩,0,.slice (some ⟨w.heap.size,0,none⟩) 0 G,rfl,?_,⟨fun m hm=>?_,_,rfl,.inr ⟨w.heap.size,G,cur,rfl,.of hnew,Ap _,hG,hc,fun o _ h=>?_⟩⟩,fun N hN=>?_,⟨⟨fun _ _ h=>h,fun b o hs=>wB (hold b (hlt b o hs)),fun _ _ h=>h⟩,fun B o h=>?_,rfl,rfl,rfl,by omega,hold,fun _ _ h=> .inl h,fun _ _ h=> .inl h⟩⟩
   ·rw[TV.P];exact⟨⟨_,G,rfl,Ap _,by unfold maxLen at hG;omega,(fun _ h=>by cases h),fun i row h=>by simp[D.pvss]at h⟩,rfl⟩
   ·have hm:0<m:=hm;exact Aa om
   ·have:=hlt _ _ h;omega
   ·have hN:some w.heap.size=some N:=hN
    cases hN;exact Aq _
   ·have:=hlt B o h;omega
theorem GrowV_ok(n:Nat)(hn:n<=100000000):FnO Tryz.prog 87 [.v (.slice none 0 0),.v (.int .i64 n)] 29 7 []:=by
 refine grow_O ⟨_,Tryz.func87,rfl,rfl⟩ n (fun h w=>?_) fun h w=>?_
 ·subst h;exact Any8.slices_Grow_room Tryz.laysGrowV none 0 0 0 w om om om om
 ·obtain⟨ie,z,hu,hi,hz,hsz,hzc,hs0,hb0,hb1⟩:=(gR (yJ (t:=32) zJ (show fnd 32 TT=some (.sl 29 7) by rfl))).2.2.h
  have hx:=Any8.slices_Grow_grow Tryz.laysGrowV ie z hi hz om none 0 0 n [] w (Aq _) om (by
   have:=Nat.mul_le_mul (show 0+n<=100000000 by omega) hb1;omega) om (by simp) (fun _=>rfl) (fun _ h=>by cases h)
  refine hx.mono fun r w' hq=>?_;obtain⟨rfl,rfl⟩:=hq;have hG:n<=grownCap w (0+n) 0 (Tryz.laysGrowV_ren.t 25):=Au om (grownCap_ge w (0+n) 0 _);refine⟨_,_,rfl,rfl,?_,grownCap_le_maxLen w _ _ _ (by unfold maxLen;omega)⟩;simp only[Array.size_append,Ch,Aw,size_zeroCells,hzc];omega
open Go.RowKit
variable{md me:Bool}
def st0:St:=⟨0,vl0,0,ByteArray.empty,vl0,[]⟩
def stsD(l:List St):D:= .sl false 18 l stD st0
def vssD(l:List (List Vl)):D:= .sl false 1 l (fun x=>[vsD x]) []
def caS(f:Vl)(l:List Vl):St:=⟨2,vl0,0,ByteArray.empty,f,l⟩
def attS(h:List Ob)(v:Vl)(s:ByteArray)(l:List Vl):List St:=if(spS h v s).2.2=true then [caS (spS h v s).1 ((spS h v s).2.1++l)]else []
def ctL(L:List (List Vl))(k:Nat):List Vl:=(L.take k).flatten
theorem zW0{L:List (List Vl)}{k:Nat}(h:k<L.length):ctL L (k+1)=ctL L k++L.getD k []:=by
 unfold ctL;rw[List.take_add_one,Ae h,List.flatten_append,Ac,Ae h];simp
theorem yE1(L:List (List Vl))(k:Nat):(ctL L k).length<=(ctL L L.length).length:=by
 unfold ctL;rw[List.take_length]
 conv=>rhs;rw[<-Dz k L,List.flatten_append,Af]
 omega
theorem xK0(a b:List Vl):ctL [a,b] [a,b].length=a++b:=by simp[ctL]
theorem spS_2(h:List Ob)(v:Vl)(s:ByteArray):(spS h v s).2.1.length<=1:=by
 unfold spS;repeat' split
 all_goals first|exact Aq _|exact Ap _
theorem bN(L:List (List Vl))(hl:(ctL L L.length).length<=100000000)(hL:L.length<=1000):FnO Tryz.prog 46 [vssD L] 29 7 ((ctL L L.length).map vlD):=by
 refine pS Tryz.func46 rfl rfl rfl rfl rfl rfl ?_;intros;refine zK 100 ?_;refine zK 200 ?_;refine zB (zK 300 ?_);refine zO ?_;refine yC (ι:={k:Nat//k<=L.length}) [0,9,10] [] 350 (fun x=>[(3,.v (.int .i64 ((ctL L x.1).length:Nat))),(11,.v (.int .i64 x.1))]) (fun _=>[]) (fun x=>L.length-x.1) ⟨0,Ap _⟩ ?_;refine⟨⟨yG,yE,rfl,rfl⟩,fun x=>?_⟩;have hk:x.1<=L.length:=x.2;have hf:=yE1 L (x.1+1);have hn:∀h:x.1<L.length,(ctL L (x.1+1)).length=(ctL L x.1).length+(L.getD ((x.1:Nat):Int).toNat []).length:=fun h=>by rw[zW0 h,Af];rfl
 have hf0:=yE1 L x.1;refine zK 400 ?_;refine zB (zY (fun c3=>?_) (fun c3=>?_))
 ·
  refine zL (zA (zB (zO (zK 500 ?_))));refine zB (zE zJ [] 600 rfl ?_);repeat(first|refine zH ?_|refine zT (by first|(have h9:=hn c3;exact ini om om)|exact Ew) ?_)
  refine zC (zA (zK 700 ?_));refine zY (fun c6=>?_) (fun c6=>?_)
  ·
   omega
  ·
   refine zL (zN (zA (yM zJ [] 900 ?_)));exact zS (⟨x.1+1,by omega⟩) ⟨⟨u21 (by rw[zW0 c3,Af];push_cast;rfl),u21 (by push_cast;rfl),yG⟩,yE,rfl,rfl⟩ (by show L.length-(x.1+1)<L.length-x.1;omega)
 ·
  refine yD (yA (yB (zZ (zA ?_))));refine zB (zE zJ [24] 1000 rfl ?_);refine zF ?_;refine qR _ _ _ (GrowV_ok _ (by have:=yE1 L x.1;omega)) ?_;refine zF ?_;refine zC (zA (zB (zK 1100 ?_)));refine zO ?_;refine yC (ι:={k:Nat//k<=L.length}) [25,26] [] 1150 (fun y=>[(27,.v (.int .i64 y.1)),(6,.own 401 7 ((ctL L y.1).map vlD))]) (fun y=>[(401,.row 29 7 ((ctL L y.1).map vlD).length)]) (fun y=>L.length-y.1) ⟨0,Ap _⟩ ?_;refine⟨⟨yG,yE,rfl,rfl⟩,fun y=>?_⟩;have hky:y.1<=L.length:=y.2;have hfy:=yE1 L (y.1+1);have hfy0:=yE1 L y.1;have hny:∀h:y.1<L.length,(ctL L (y.1+1)).length=(ctL L y.1).length+(L.getD ((y.1:Nat):Int).toNat []).length:=fun h=>by rw[zW0 h,Af];rfl
  refine zK 1200 ?_;refine zB (zY (fun c11=>?_) (fun c11=>?_))
  ·
   refine zL (zA (zB (zO (zK 1300 ?_))));refine zE zJ [] 1400 rfl ?_;repeat(first|refine zH ?_|refine zT (by first|(have:=hny c11;simp only[Ar];omega)|exact Ew) ?_)
   refine zC (zN (zA (yM zJ [] 1500 ?_)));exact zS (⟨y.1+1,by omega⟩) ⟨⟨u21 (by push_cast;rfl),Sub.own (by rw[zW0 c11,Ad];rfl),yG⟩,⟨⟨rfl,rfl,by show _=(List.map vlD (ctL L (y.1+1))).length;rw[zW0 c11];simp⟩,yE⟩,rfl,rfl⟩ (by show L.length-(y.1+1)<L.length-y.1;omega)
  ·
   refine yD (yA (yB (zZ (zA (zK 1600 ?_)))));refine zM ?_;have e:y.1=L.length:=by omega
   exact FinO.ret rfl rfl (by rw[e]) (by rw[e])
theorem gB0(f:Vl)(l:List Vl):Fx 55 [.agg (vlD f),vsD l] (.agg (stD (caS f l))):=by
 refine yF zJ Tryz.func55 rfl rfl rfl rfl rfl rfl ?_;intros;refine zK 100 ?_;refine zK 200 ?_;refine zM ?_;exact u4 rfl (u20 nz)
theorem tE(h:List Ob)(v:Vl)(s:ByteArray)(l:List Vl)(hh:HpIn h)(g:Uh h)(hv:v.k=6->yU h v.r=true)(hl:l.length<=1000000):Fx 81 [hpD md h,.agg (vlD v),.v (.string s),vsD l] (.tup [.agg (stD (caS (spS h v s).1 ((spS h v s).2.1++l))),.v (.bool (spS h v s).2.2)]):=by
 refine yF zJ Tryz.func81 rfl rfl rfl rfl rfl rfl ?_;intros;refine zK 100 ?_;refine zB (zE zJ [] 200 rfl ?_);refine zF ?_;refine zQ _ (Method_ok _ _ _ ao ao ao) rfl ?_;refine zf (zA ?_);refine zB (zX zJ [25] [[],[],[],[1,2],[1,2,3],(rgN 5),[],(rgN 6),(rgN 8)] 300 yT kr rfl ?_);refine zF ?_;refine qR _ _ _ ((bN [(spS h v s).2.1,l] (by have:=spS_2 h v s;rw[xK0,Af];omega) (by show 2<=1000;omega)).args ⟨u18 rfl,trivial⟩) ?_;refine zF ?_;refine zQ _ ((gB0 _ ((spS h v s).2.1++l)).args ⟨u6 _,SubP.ownSl (by simp[ctL]),trivial⟩) rfl ?_;refine zf (zA (zM ?_));exact u4 rfl (u6 _)
theorem attempts_ok(h:List Ob)(v:Vl)(s:ByteArray)(l:List Vl)(hh:HpIn h)(g:Uh h)(hv:v.k=6->yU h v.r=true)(hl:l.length<=1000000):Fx 36 [hpD md h,.agg (vlD v),.v (.string s),vsD l] (stsD (attS h v s l)):=by
 refine yF zJ Tryz.func36 rfl rfl rfl rfl rfl rfl ?_;intros;refine zK 100 ?_;refine zB ?_;refine zB (zE zJ [] 200 rfl ?_);refine zF ?_;refine zQ _ (tE _ _ _ _ ao ao ao ao) rfl ?_;refine zF ?_;refine zC (zA (zK 300 ?_));refine zY (fun c2=>?_) (fun c2=>?_)
 ·
  refine zK 400 ?_;refine zM (zP ?_);exact u4 rfl (u18 (by rw[attS,Ab (by simpa using c2)];rfl))
 ·
  refine zL (zA (zK 500 ?_));refine zM ?_;exact u4 rfl (u12 (by rw[attS,Aa (by simp[c2])]))
variable{md me:Bool}
def rD(b:Bool)(n:Nat):D:= .agg [.v (.bool b),qN n]
theorem uU1{a b:Nat}(h:0<=cmpN a b):b<=a:=by
 rcases Br a b with h1|h1
 ·rw[xN0 h1]at h;omega
 ·exact h1
theorem cmp_le{a b:Nat}(h:¬0<=cmpN a b):a<=b:=by
 rcases Br b a with h1|h1
 ·rw[qK0 h1]at h;omega
 ·exact h1
theorem cmp_nge{a b:Nat}(h:¬0<=cmpN a b):¬b<=a:=fun h1=>by
 rcases Br b a with h2|h2
 ·rw[qK0 h2]at h;omega
 ·rw[dK0 om]at h;omega
theorem xP(b:Bool)(l:List Nat)(hg:Lg l)(hl:l.length<=100000000):Fx 97 [.agg [.v (.bool b),usD l]] (rD b (VL l)):=by
 refine yF zJ Tryz.func97 rfl rfl rfl rfl rfl rfl ?_;intros;refine zK 100 ?_;refine zB (zX zJ [] [[],[0],[],[2],[2,3],(rgN 5),(rgN 6)] 200 yT kr rfl ?_);refine zF ?_;refine zQ _ (yU1 _ ao ao) rfl ?_;refine zf (zA (zM ?_));exact u4 rfl (u6 _)
theorem Whole7b_ok(b:Bool)(n:Nat)(hl:(dig n).length<=100000000):Fx 60 [rD b n] (.agg (vlD (ivV b n))):=by
 refine yF zJ Tryz.func60 rfl rfl rfl rfl rfl rfl ?_;intros;refine zK 100 ?_;refine zB (zX zJ [] mK15 200 yT kr rfl ?_);refine zF ?_;refine zQ _ (xY0 _ ao) rfl ?_;refine zf (zA (zM ?_));exact u4 rfl (u20 (by rw[ivV];exact⟨u6 _,u7 (by rw[bH]),u6 _,u6 _,u12 rfl,u6 _,u6 _,trivial⟩))
theorem yE0:Fx 48 [] (.agg (stD (raS 42 tooB))):=by
 refine yF zJ Tryz.func48 rfl rfl rfl rfl rfl rfl ?_;intros;refine zK 100 ?_;refine zB (zE zJ [] 200 rfl ?_);refine zF ?_;refine zQ _ (kY _ _) rfl ?_;refine zf (zA (zM ?_));exact u4 rfl (u6 _)
theorem IntMinus_ok(b:Bool)(n:Nat):Fx 147 [rD b n] (rD (!b&&decide (0<n)) n):=by
 refine yF zJ Tryz.func147 rfl rfl rfl rfl rfl rfl ?_;intros;refine zK 100 ?_;refine zK 200 ?_;refine zM ?_;exact u4 rfl (u20 ⟨u7 (by rw[bH]),u6 _,trivial⟩)
theorem jP(b1 b2:Bool)(n1 n2:Nat)(h1:(dig n1).length<=100000000)(h2:(dig n2).length<=100000000):Fx 102 [rD b1 n1,rD b2 n2] (rD (plB b1 n1 b2 n2).1 (plB b1 n1 b2 n2).2):=by
 refine yF zJ Tryz.func102 rfl rfl rfl rfl rfl rfl ?_;intros;refine zK 100 ?_;refine zB (zO (zK 200 ?_));refine zY (fun c1=>?_) (fun c1=>?_)
 ·
  refine zB (zX zJ [] mK7 300 yT kr rfl ?_);refine zF ?_;refine zQ _ (vD0 n1 n2 h1 h2) rfl ?_;refine zf (zA (zM (zR (zP ?_))));exact u4 rfl (u9 (by rw[plB,Ab (by simpa using c1)];rfl))
 ·
  refine zB (zE zJ [] 400 rfl ?_);refine zF ?_;refine zQ _ (vQ _ _ ao ao) rfl ?_;refine zF ?_;refine zC (zA (zY (fun c3=>?_) (fun c3=>?_)))
  ·
   refine zB (zX zJ [] mK7 500 yT kr rfl ?_);refine zF ?_;refine zQ _ (xO n1 n2 (uU1 om) h1) rfl ?_;refine zf (zA (zM (zR (zP ?_))));exact u4 rfl (u9 (by rw[plB,Aa (by simpa using c1),Ab (uU1 om)];rfl))
  ·
   refine zL (zN (zA ?_));refine zB (zX zJ [] mK7 600 yT kr rfl ?_);refine zF ?_;refine zQ _ (xO n2 n1 (cmp_le om) h2) rfl ?_;refine zf (zA (zM ?_));exact u4 rfl (u9 (by rw[plB,Aa (by simpa using c1),Aa (cmp_nge om)];rfl))
theorem I7_ok(v:Vl)(hg:Lg v.nl)(hl:v.nl.length<=100000000):Fx 56 [.agg (vlD v)] (rD v.nn (VL v.nl)):=by
 refine yF zJ Tryz.func56 rfl rfl rfl rfl rfl rfl ?_;intros;refine zK 100 ?_;refine zB (zE zJ [] 200 rfl ?_);refine zF ?_;refine zQ _ (xP _ _ ao ao) rfl ?_;refine zf (zA (zM ?_));exact u4 rfl (u6 _)
theorem opValue_ok(v:Vl):Fx 47 [.agg (vlD v)] (.agg (stD (vlS v))):=by
 refine yF zJ Tryz.func47 rfl rfl rfl rfl rfl rfl ?_;intros;refine zK 100 ?_;refine zK 200 ?_;refine zM ?_;exact u4 rfl (u20 nz)
theorem opRaise_ok(c:Int)(s:ByteArray):Fx 86 [.v (.int .i64 c),.v (.string s)] (.agg (stD (raS c s))):=by
 refine yF zJ Tryz.func86 rfl rfl rfl rfl rfl rfl ?_;intros;refine zK 100 ?_;refine zK 200 ?_;refine zM ?_;exact u4 rfl (u20 nz)
theorem yY0:Fx 45 [] (.agg (stD (raS 42 tooB))):=by
 refine yF zJ Tryz.func45 rfl rfl rfl rfl rfl rfl ?_;intros;refine zK 100 ?_;refine zB (zE zJ [] 200 rfl ?_);refine zF ?_;refine zQ _ (opRaise_ok _ _) rfl ?_;refine zf (zA (zM ?_));exact u4 rfl (u6 _)
variable{md me:Bool}
theorem zX0(c:Int)(s:ByteArray):Fx 138 [.v (.int .i64 c),.v (.string s)] (.agg (stD (raS c s))):=by
 refine yF zJ Tryz.func138 rfl rfl rfl rfl rfl rfl ?_;intros;refine zK 100 ?_;refine zK 200 ?_;refine zM ?_;exact u4 rfl (u20 nz)
theorem cmpObject_ok(h:List Ob)(v:Vl)(hv:v.k=6->yU h v.r=true):Fx 174 [hpD md h,.agg (vlD v)] (.agg (obD (zU h v))):=by
 refine yF zJ Tryz.func174 rfl rfl rfl rfl rfl rfl ?_;intros;refine zK 100 ?_;refine zB (zK 200 ?_);refine zY (fun c1=>?_) (fun c1=>?_)
 ·
  refine zK 300 ?_;refine zM (zP ?_);have e:zU h v=ob0:=wE c1;rw[e];exact u4 rfl (by repeat(first|exact trivial|exact u6 _|exact u12 rfl|refine u20 ?_|refine⟨?_,?_⟩))
 ·
  refine zL (zA ?_);refine zB (zE zJ [] 400 rfl ?_);repeat(first|refine zH ?_|refine zT (by exact yR (hv c1)) ?_)
  refine zC (zA (zM ?_));have e:zU h v=h.getD v.r.toNat ob0:=xV hv c1;rw[e];exact u4 rfl (by repeat(first|exact trivial|exact u6 _|exact u12 rfl|refine u20 ?_|refine⟨?_,?_⟩))
theorem dW{x y:Nat}(h:(lim x).length<(lim y).length):x<y:=by
 have h0:y≠0:=by intro e;subst e;rw[qK]at h;simp at h
 have h1:=pG x;have h2:=lim_ge h0;exact Bu h1 (Au (Bg om om) h2)
theorem qX{x y:Nat}(h:x<=y):(lim x).length<=(lim y).length:=by
 rcases Br (lim y).length (lim x).length with h1|h1
 ·have:=dW h1;omega
 ·exact h1
def cmpL(x y:Nat):Int:=if(lim x).length=(lim y).length then cmpN x y else((lim x).length:Int)-((lim y).length:Int)
theorem cmpL_ne{x y:Nat}(h:(lim x).length≠(lim y).length):cmpL x y=((lim x).length:Int)-((lim y).length:Int):=Aa h
theorem kT0{x y:Nat}(h:(lim x).length=(lim y).length):cmpL x y=cmpN x y:=Ab h
theorem uV1(x y:Nat):min (max (cmpL x y) (-1)) 1=cmpN x y:=by
 unfold cmpL;split
 ·unfold cmpN;split
  ·rfl
  ·split<;>rfl
 ·rename_i h;rcases Nat.lt_or_gt_of_ne h with h1|h1
  ·rw[cmpN,Ab (dW h1)];omega
  ·have:=dW h1;rw[cmpN,Aa om,Ab this];omega
theorem dL0(x y:Nat):cmpL x y<0↔x<y:=by
 have h:=uV1 x y;unfold cmpN at h;constructor
 ·intro h1;by_cases h2:x<y
  ·exact h2
  ·rw[Aa h2]at h;split at h<;>omega
 ·intro h1;rw[Ab h1]at h;omega
structure CpL(a b:Nat)where
 k:Nat
 le:k<=(lim a).length
 eq:(lim a).drop k=(lim b).drop k
def CpL.next{a b:Nat}(x:CpL a b)(hl:(lim a).length=(lim b).length)(h:0<x.k)(he:(lim a).getD (x.k-1) 0=(lim b).getD (x.k-1) 0):CpL a b:=⟨x.k-1,by have:=x.le;omega,by
 have h1:=x.le;rw[qQ om,qQ om]at he;rw[Ce om,Ce (l:=lim b) om,he,show x.k-1+1=x.k by omega,x.eq]⟩
theorem ltL_at{la lb:List Nat}{i:Nat}(ha:Lg la)(hl:la.length=lb.length)(hi:i<la.length)(hd:la.drop (i+1)=lb.drop (i+1))(h:la[i]<lb[i]):VL la<VL lb:=by
 rw[wP la (i+1) om,wP lb (i+1) om,hd,vP hi,vP (l:=lb) (m:=i) om];have h1:=L_lt (ha.take i);rw[At,Dj (Dl hi)]at h1;have h2:4294967296^i*(la[i]+1)<=4294967296^i*lb[i]:=Cx _ h;rw[Bt]at h2;omega
theorem uT1{a b k:Nat}(hl:(lim a).length=(lim b).length)(hk:0<k)(hk2:k<=(lim a).length)(hd:(lim a).drop k=(lim b).drop k)(h:(lim a).getD (k-1) 0<(lim b).getD (k-1) 0):a<b:=by
 rw[qQ om,qQ om]at h;have:=ltL_at (yX a) hl (i:=k-1) om (by rw[show k-1+1=k by omega];exact hd) h
 rwa[vG,vG]at this
theorem VL_take_ge{l:List Nat}{k:Nat}(h:l.length<=k):VL (l.take (k+1))=VL (l.take k):=by rw[Ak h,Ak (by omega)]
theorem uC{l:List Nat}{k:Nat}(h:l.length<=k):l.getD k 0=0:=by rw[Ac,Dq h];rfl
theorem qM(l:List Nat)(k:Nat):VL (l.take (k+1))=VL (l.take k)+4294967296^k*l.getD k 0:=by
 rcases Br k l.length with h|h
 ·rw[vP h,qQ h]
 ·rw[VL_take_ge h,uC h];omega
structure PlL(a b:List Nat)where
 k:Nat
 c:Nat
 o:List Nat
 eq:VL o+c*4294967296^k=VL (a.take k)+VL (b.take k)
 lo:o.length=k
 lg:Lg o
 hc:c<=1
 le:k<=a.length
def PlL.s{a b:List Nat}(x:PlL a b):Nat:=x.c+a.getD x.k 0+b.getD x.k 0
theorem pll_step{a b o:List Nat}{k c s:Nat}(h:VL o+c*4294967296^k=VL (a.take k)+VL (b.take k))(ho:o.length=k)(hs:s=c+a.getD k 0+b.getD k 0):
  VL (o++[s%4294967296])+s/4294967296*4294967296^(k+1)=VL (a.take (k+1))+VL (b.take (k+1)):=by
 rw[mE,ho,qM a,qM b,Bx];generalize 4294967296^k=B at*;have e:s=4294967296*(s/4294967296)+s%4294967296:=(Dd s 4294967296).symm;have e2:B*s=B*(4294967296*(s/4294967296))+B*(s%4294967296):=by rw[<-Bt,<-e]
 have e3:B*s=B*c+B*a.getD k 0+B*b.getD k 0:=by rw[hs,Bt,Bt]
 have e4:s/4294967296*(B*4294967296)=B*(4294967296*(s/4294967296)):=by rw[Ax,Bp]
 have e5:c*B=B*c:=Ax _ _;omega
theorem PlL.s_le{a b:List Nat}(x:PlL a b)(ha:Lg a)(hb:Lg b):x.s<=8589934591:=by
 have h1:=qD ha x.k;have h2:=qD hb x.k;have h3:=x.hc;unfold PlL.s;omega
def PlL.next{a b:List Nat}(x:PlL a b)(ha:Lg a)(hb:Lg b)(h:x.k<a.length):PlL a b:=⟨x.k+1,x.s/4294967296,x.o++[x.s%4294967296],pll_step x.eq x.lo rfl,by simp[x.lo],x.lg.snoc (Cy _ de),by have:=x.s_le ha hb;omega,h⟩
def PlL.start(a b:List Nat):PlL a b:=⟨0,0,[],by simp[VL],rfl,Lg.nil,Ap _,Ap _⟩
theorem PlL.fin{a b:List Nat}(x:PlL a b)(h:a.length<=x.k)(hl:b.length<=a.length):VL (x.o++[x.c])=VL a+VL b/\Lg (x.o++[x.c]):=by
 have h1:=x.eq;rw[Ak h,Ak om]at h1;refine⟨by rw[mE,x.lo,Ax];exact h1,x.lg.snoc (by have:=x.hc;omega)⟩
structure MiL(a b:List Nat)where
 k:Nat
 c:Nat
 o:List Nat
 eq:VL o+VL (b.take k)=VL (a.take k)+c*4294967296^k
 lo:o.length=k
 lg:Lg o
 hc:c<=1
 le:k<=a.length
def lsD(x y b:Nat):Nat:=(x+8589934592-y-b)%4294967296
def lsB(x y b:Nat):Nat:=if x<y+b then 1 else 0
theorem vZ1{x y b:Nat}(hx:x<4294967296)(hy:y<4294967296)(hb:b<=1):lsD x y b+y+b=x+4294967296*lsB x y b:=by
 unfold lsD lsB;split<;>omega
theorem vY1(x y b:Nat):lsD x y b<4294967296:=Cy _ de
theorem jX1(x y b:Nat):lsB x y b<=1:=by unfold lsB;split<;>omega
theorem mil_step{a b o:List Nat}{k c y d:Nat}(h:VL o+VL (b.take k)=VL (a.take k)+c*4294967296^k)(ho:o.length=k)(hy:y+b.getD k 0+c=a.getD k 0+4294967296*d):
  VL (o++[y])+VL (b.take (k+1))=VL (a.take (k+1))+d*4294967296^(k+1):=by
 rw[mE,ho,qM a,qM b,Bx];generalize 4294967296^k=B at*;have e:B*y+B*b.getD k 0+B*c=B*a.getD k 0+B*(4294967296*d):=by rw[<-Bt,<-Bt,<-Bt,hy]
 have e4:d*(B*4294967296)=B*(4294967296*d):=by rw[Ax,Bp]
 have e5:c*B=B*c:=Ax _ _;omega
def MiL.next{a b:List Nat}(x:MiL a b)(ha:Lg a)(hb:Lg b)(h:x.k<a.length):MiL a b:=⟨x.k+1,lsB (a.getD x.k 0) (b.getD x.k 0) x.c,x.o++[lsD (a.getD x.k 0) (b.getD x.k 0) x.c],mil_step x.eq x.lo (vZ1 (qD ha _) (qD hb _) x.hc),by simp[x.lo],x.lg.snoc (vY1 _ _ _),jX1 _ _ _,h⟩
def MiL.start(a b:List Nat):MiL a b:=⟨0,0,[],by simp[VL],rfl,Lg.nil,Ap _,Ap _⟩
theorem MiL.fin{a b:List Nat}(x:MiL a b)(h:a.length<=x.k)(hl:b.length<=a.length)(hle:VL b<=VL a):VL x.o=VL a-VL b:=by
 have hk:=x.le;have h1:=x.eq;have h2:=x.hc;have h3:=L_lt x.lg;rw[Ak h,Ak om]at h1;rw[x.lo]at h3;rcases Cb x.c with h4|h4
 ·rw[h4]at h1;omega
 ·rw[show x.c=1 by omega]at h1;omega
theorem wb32(v:BitVec 32):IntKind.u32.wrap (v.toNat:Int)=(v.toNat:Int):=by
 have:=v.isLt;simp only[IntKind.wrap,IntKind.signed,IntKind.bits,Cd,Bb,if_false];omega
theorem gS0(v:BitVec 32):BitVec.ofInt 32 (v.toNat:Int)=v:=by rw[BitVec.ofInt_natCast,BitVec.ofNat_toNat,BitVec.setWidth_eq]
theorem vA1(x y:BitVec 32):bAnd .u32 (x.toNat:Int) (y.toNat:Int)=((x&&&y).toNat:Int):=by
 show IntKind.u32.wrap ((BitVec.ofInt 32 (x.toNat:Int)&&&BitVec.ofInt 32 (y.toNat:Int)).toNat:Int)=_;rw[gS0,gS0,wb32]
theorem bOr32(x y:BitVec 32):bOr .u32 (x.toNat:Int) (y.toNat:Int)=((x|||y).toNat:Int):=by
 show IntKind.u32.wrap ((BitVec.ofInt 32 (x.toNat:Int)|||BitVec.ofInt 32 (y.toNat:Int)).toNat:Int)=_;rw[gS0,gS0,wb32]
theorem bXor32(x y:BitVec 32):bXor .u32 (x.toNat:Int) (y.toNat:Int)=((x^^^y).toNat:Int):=by
 show IntKind.u32.wrap ((BitVec.ofInt 32 (x.toNat:Int)^^^BitVec.ofInt 32 (y.toNat:Int)).toNat:Int)=_;rw[gS0,gS0,wb32]
theorem uZ1(x:BitVec 32):bNot .u32 (x.toNat:Int)=((~~~x).toNat:Int):=by
 show IntKind.u32.wrap ((BitVec.ofInt 32 4294967295^^^BitVec.ofInt 32 (x.toNat:Int)).toNat:Int)=_;rw[gS0,show BitVec.ofInt 32 4294967295=BitVec.allOnes 32 by decide,BitVec.allOnes_xor,wb32]
theorem top32(v:BitVec 32):v.toNat/2147483648=if v.msb then 1 else 0:=by
 have h:=v.isLt;rw[BitVec.msb_eq_decide];by_cases h1:2^(32-1)<=v.toNat
 ·rw[Bh h1,Ab rfl];omega
 ·rw[Ca h1,Aa de];omega
theorem wG1{x:Nat}(h:x<4294967296):(BitVec.ofNat 32 x).msb=decide (2147483648<=x):=by
 rw[BitVec.msb_eq_decide,BitVec.toNat_ofNat,Ea h]
theorem wD1{x:Nat}(h:x<4294967296):x=(BitVec.ofNat 32 x).toNat:=by rw[BitVec.toNat_ofNat,Ea h]
theorem sub32_lo{x y b:Nat}(hx:x<4294967296)(hy:y<4294967296)(hb:b<=1):IntKind.u32.wrap (IntKind.u32.wrap ((x:Int)-(y:Int))-(b:Int))=((lsD x y b:Nat):Int):=by
 simp only[IntKind.wrap,IntKind.signed,IntKind.bits,Cd,Bb,if_false,lsD];omega
theorem sub32_hi{x y b:Nat}(hx:x<4294967296)(hy:y<4294967296)(hb:b<=1):
  Int.fdiv (bOr .u32 (bAnd .u32 (bNot .u32 (x:Int)) (y:Int)) (bAnd .u32 (bNot .u32 (bXor .u32 (x:Int) (y:Int))) ((lsD x y b:Nat):Int))) (2^min (Int.toNat 31) IntKind.u32.bits)=((lsB x y b:Nat):Int):=by
 have hd:lsD x y b<4294967296:=vY1 x y b;have hs:=vZ1 hx hy hb;have m1:=wG1 hx;have m2:=wG1 hy;have m3:=wG1 hd;rw[show((x:Nat):Int)=((BitVec.ofNat 32 x).toNat:Int) by rw[<-wD1 hx],show((y:Nat):Int)=((BitVec.ofNat 32 y).toNat:Int) by rw[<-wD1 hy],show((lsD x y b:Nat):Int)=((BitVec.ofNat 32 (lsD x y b)).toNat:Int) by rw[<-wD1 hd],uZ1,vA1,bXor32,uZ1,vA1,bOr32];rw[show((2:Int)^min (Int.toNat 31) IntKind.u32.bits)=((2147483648:Nat):Int) by decide,Em _ om,<-Int.natCast_ediv,top32];simp only[BitVec.msb_or,BitVec.msb_and,BitVec.msb_not,BitVec.msb_xor,m1,m2,m3];congr 1;unfold lsB at*;generalize lsD x y b=d at*;by_cases h1:2147483648<=x<;>by_cases h2:2147483648<=y<;>by_cases h3:2147483648<=d<;>by_cases h4:x<y+b<;>simp only[h1,h2,h3,h4,decide_true,decide_false,if_true,if_false,Bool.and_true,Bool.and_false,Bool.not_true,Bool.not_false,Bool.or_true,Bool.or_false,Ds,Cd,Bool.xor_true,Bool.xor_false,Bool.true_or,Bool.false_or]at hs⊢ <;>(first|rfl|omega)
variable{md me:Bool}
theorem jX0{x:Nat}(h:0<(lim x).length):(lim x).getD ((lim x).length-1) 0≠0:=by
 have h1:=lim_noLead x (Da.1 h)
 rwa[Ej,<-qQ om]at h1
theorem zB0(x:Nat)(hx:(lim x).length<=600):Fx 252 [usD (lim x)] (.v (.bool true)):=by
 refine yF zJ Tryz.func252 rfl rfl rfl rfl rfl rfl ?_;intros;refine zK 100 ?_;refine zB (zE zJ [] 200 rfl ?_);repeat(first|refine zH ?_|refine zT (by first|exact trivial|omega|exact ini (by omega) (by omega)|(intro hh;simp at hh;exact ini om om)|(intro hh;simp at hh⊢;omega)|(simp at*;omega)|(simp_all;done)|(simp;intro _ h2;have:=Da.2 h2;omega)) ?_)
 refine zC (zA (zM ?_));exact u4 rfl (u7 (by simp;refine⟨by omega,?_⟩;by_cases h:lim x=[];exact Or.inl h;exact Or.inr (by have:=jX0 (x:=x) (Da.2 h);rwa[Ac]at this)))
theorem wF(x y:Nat)(hx:(lim x).length<=600)(hy:(lim y).length<=600):Fx 235 [usD (lim x),usD (lim y)] (faD 0 0):=by
 refine yF zJ Tryz.func235 rfl rfl rfl rfl rfl rfl ?_;intros;refine zK 100 ?_;refine zB (zO ?_);refine zB (zE zJ [] 200 rfl ?_);refine zF ?_;refine zQ _ (zB0 _ ao) rfl ?_;refine zF ?_;refine zC (zA (zY (fun c1=>?_) (fun c1=>?_)))
 ·
  exact absurd c1 de
 ·
  refine zB (zE zJ [] 400 rfl ?_);refine zF ?_;refine zQ _ (zB0 _ ao) rfl ?_;refine zF ?_;refine zC (zA (zY (fun c3=>?_) (fun c3=>?_)))
  ·
   exact absurd c3 de
  ·
   refine zL (zN (zA (zK 600 ?_)));refine zM ?_;exact u4 rfl (u6 _)
theorem jN(l:List Nat)(hg:Lg l)(hl:l.length<=100000000):Fx 261 [usD l] (usD (lim (VL l))):=by
 refine yF zJ Tryz.func261 rfl rfl rfl rfl rfl rfl ?_;intros;refine zK 100 ?_;refine zB (zO ?_);refine yC (ι:=TrmL l) [] [] 150 (fun x=>[(0,.sl false 1 x.r uD 0)]) (fun _=>[]) (fun x=>x.r.length) ⟨l,hg,rfl,Aq _⟩ ?_;refine⟨⟨yG,yE,rfl,rfl⟩,fun x=>?_⟩;have hk:=x.le;refine zB (zK 200 ?_);refine zY (fun c1=>?_) (fun c1=>?_)
 ·
  refine zL (zA (zO (yM zJ [] 300 ?_)));refine zN ?_;have h9:=c1.2;rw[bO]at h9;exact zS (x.next (by omega) (by omega)) ⟨(by repeat(first|exact Sub.of_eq (by rw[tM0];rfl)|refine⟨?_,?_⟩|exact lx)),yE,rfl,rfl⟩ (by show(x.r.take (x.r.length-1)).length<x.r.length;rw[At];omega)
 ·
  refine yD (yA (yB (zZ (zA (zK 400 ?_)))));refine zM ?_;rw[bO]at c1;have e:x.r=lim (VL l):=x.fin (fun hp h9=>by rw[h9,Bh (show(0:Int)<(x.r.length:Nat) by omega)]at c1;exact absurd c1 de);exact u4 rfl (u9 (by rw[e];rfl))
theorem wG0(l:List Nat)(hg:Lg l)(hl:l.length<=100000000)(h6:(lim (VL l)).length<=600):Fx 246 [usD l] (.tup [usD (lim (VL l)),faD 0 0]):=by
 refine yF zJ Tryz.func246 rfl rfl rfl rfl rfl rfl ?_;intros;refine zK 100 ?_;refine zB ?_;refine zB (zE zJ [] 200 rfl ?_);refine zF ?_;refine zQ _ (jN _ ao ao) rfl ?_;refine zF ?_;refine zC (zA (zK 300 ?_));refine zY (fun c2=>?_) (fun c2=>?_)
 ·
  exact absurd c2 om
 ·
  refine zL (zA (zK 500 ?_));refine zM ?_;exact u4 rfl (u6 _)
theorem xX(a b:Nat)(ha:(lim a).length<=100000000)(hb:(lim b).length<=100000000):Fx 236 [usD (lim a),usD (lim b)] (.v (.int .i64 (cmpL a b))):=by
 refine yF zJ Tryz.func236 rfl rfl rfl rfl rfl rfl ?_;intros;refine zK 100 ?_;refine zB (zK 200 ?_);refine zY (fun c1=>?_) (fun c1=>?_)
 ·
  refine zK 300 ?_;refine zM (zP ?_);exact u4 rfl (u10 (cmpL_ne om).symm)
 ·
  refine zL (zA (zB (zK 400 ?_)));refine zO ?_;refine yC (ι:=CpL a b) [0,1] [] 450 (fun x=>[(5,.v (.int .i64 ((x.k:Int)-1)))]) (fun _=>[]) (fun x=>x.k) ⟨(lim a).length,Aq _,by rw[Bd (Aq _),Bd om]⟩ ?_;refine⟨⟨yG,yE,rfl,rfl⟩,fun x=>?_⟩;have hk:=x.le;have hkt:((x.k:Int)-1).toNat=x.k-1:=by omega
  refine zB (zK 500 ?_);refine zY (fun c4=>?_) (fun c4=>?_)
  ·
   refine zL (zA (zB (zO ?_)));refine zB (zX zJ [] mK2 700 yT kr rfl ?_);refine zF ?_;refine zC (zA (zY (fun c6=>?_) (fun c6=>?_)))
   ·
    refine zB ?_;refine zB (zX zJ [] mK2 800 yT kr rfl ?_);refine zF ?_;refine zC (zA (zY (fun c7=>?_) (fun c7=>?_)))
    ·
     refine zK 900 ?_;refine zM (zP (zR (zP (yS (zR (zP ?_))))));rw[hkt]at c7;exact u4 rfl (u10 (by rw[kT0 om,xN0 (uT1 om om hk x.eq om)]))
    ·
     refine zL (zA (zK 1000 ?_));refine zM (zR (zP (yS (zR (zP ?_)))));rw[hkt]at c6 c7;exact u4 rfl (u10 (by rw[kT0 om,qK0 (uT1 om om om x.eq.symm om)]))
   ·
    refine zL (zN (zA (yM zJ [] 800 ?_)));rw[hkt]at c6;exact zS (x.next (by omega) (by omega) (by omega)) ⟨(by repeat(first|exact u21 (by show(x.k:Int)-1-1=((x.k-1:Nat):Int)-1;omega)|refine⟨?_,?_⟩|exact lx)),yE,rfl,rfl⟩ (by show x.k-1<x.k;omega)
  ·
   refine yD (yA (yB (zZ (zA (zK 1100 ?_)))));refine zM ?_;have hz:x.k=0:=by omega
   have he:=x.eq;rw[hz]at he;exact u4 rfl (u10 (by rw[kT0 om,dK0 (by have:=congrArg VL he;rwa[Dm,Dm,vG,vG]at this)]))
theorem wH0(a b:Nat)(ha:(lim a).length<=600)(hb:(lim b).length<=600):Fx 221 [usD (lim a),usD (lim b)] (.tup [.v (.int .i64 (cmpN a b)),faD 0 0]):=by
 refine yF zJ Tryz.func221 rfl rfl rfl rfl rfl rfl ?_;intros;refine zK 100 ?_;refine zB ?_;refine zB (zE zJ [] 200 rfl ?_);refine zF ?_;refine zQ _ (wF _ _ ao ao) rfl ?_;refine zF ?_;refine zC (zA (zK 300 ?_));refine zY (fun c2=>?_) (fun c2=>?_)
 ·
  exact absurd c2 de
 ·
  refine zL (zA ?_);refine zB (zE zJ [] 500 rfl ?_);refine zF ?_;refine zQ _ (xX _ _ ao ao) rfl ?_;refine zf (zA (zM ?_));exact u4 rfl (u19 ⟨u10 (by have h:=uV1 a b;generalize cmpL a b=c at*;rw[<-h];split<;>(try split)<;>(try split at*)<;>omega),u6 _,trivial⟩)
def I32(x:Int):Prop:=0<=x/\x<4294967296
theorem pN{l:List Nat}(h:Lg l)(i:Nat):I32 ((l.getD i 0:Nat):Int):=by
 have:=qD h i;exact⟨by omega,by omega⟩
theorem gL1:I32 0:=⟨by decide,by decide⟩
theorem yW1{l:List Nat}(h:Lg l)(i:Nat):Lg (l.drop i):=fun x hx=>h x (Do hx)
theorem sub32_ok{x y b:Int}(hx:I32 x)(hy:I32 y)(hb:0<=b/\b<=1):IntKind.u32.wrap (IntKind.u32.wrap (x-y)-b)=((lsD x.toNat y.toNat b.toNat:Nat):Int)/\
  Int.fdiv (bOr .u32 (bAnd .u32 (bNot .u32 x) y) (bAnd .u32 (bNot .u32 (bXor .u32 x y)) ((lsD x.toNat y.toNat b.toNat:Nat):Int))) (2^min (Int.toNat 31) IntKind.u32.bits)=((lsB x.toNat y.toNat b.toNat:Nat):Int):=by
 obtain⟨x,rfl⟩:=Cz hx.1;obtain⟨y,rfl⟩:=Cz hy.1;obtain⟨b,rfl⟩:=Cz hb.1;have h1:=hx.2;have h2:=hy.2;have h3:=hb.2;simp only[Ah];exact⟨sub32_lo om om om,sub32_hi om om om⟩
theorem cA(x y b:Int)(hx:I32 x)(hy:I32 y)(hb:0<=b/\b<=1):Fx 264 [.v (.int .u32 x),.v (.int .u32 y),.v (.int .u32 b)] (.tup [.v (.int .u32 (lsD x.toNat y.toNat b.toNat:Nat)),.v (.int .u32 (lsB x.toNat y.toNat b.toNat:Nat))]):=by
 refine yF zJ Tryz.func264 rfl rfl rfl rfl rfl rfl ?_;intros;refine zK 100 ?_;refine zK 200 ?_;refine zK 300 ?_;refine zM ?_;obtain⟨e1,e2⟩:=sub32_ok hx hy hb;exact u4 rfl (u19 ⟨u10 e1,u10 (by rw[e1];exact e2),trivial⟩)
theorem CloneU_G(l:List Nat)(hl:l.length<=2000000):FnG Tryz.prog 77 [usD l] [] (.mo 0 l.length) [.mrow 100 1 (.map l uD 0)]:=by
 refine jY zJ Tryz.func77 rfl rfl rfl rfl rfl rfl rfl ?_;intros;refine zB (zE zJ [] 100 rfl ?_);repeat(first|refine zH ?_|refine zT (by exact jE hl) ?_)
 refine zC (zA (zB (zB ?_)));refine uU Tryz.underlying25 rfl rfl rfl fun c hc=>?_;refine zA (zW rfl (fun c1=>?_) (fun c1=>?_))
 ·
  refine zB (zE zJ [] 300 rfl ?_);repeat(first|refine zH ?_|refine zT (by exact jE hl) ?_)
  refine zC (zA ?_);refine yZ 2 100 1 rfl ?_;refine zN0 300 rfl ?_;refine zM (zP ?_);obtain rfl:=hc c1;exact u11 300 rfl rfl (u0 _) ⟨SubO.mr rfl,trivial⟩
 ·
  refine zL (zA ?_);refine zB (zE zJ [1005] 400 rfl ?_);repeat(first|refine zH ?_|refine zT (by first|rfl|exact jE hl|(simp only[MR.len,Aw,Ar];omega)) ?_)
  refine zC (zA (zM ?_));exact u11 100 rfl rfl (Sub.mo (by rw[Ar,Co])) ⟨SubO.mr rfl,trivial⟩
theorem qG1{P:Program}{E:Pn}{K:DS->Prop}{p:Prop}{r:Out}(hr:r.sat P E K)(hp:p:=by first|exact⟨hm,by rw[<-hm];exact c4⟩|exact⟨hm,by rw[<-hm];omega⟩|exact Ew):(Out.need p r).sat P E K:=⟨hp,hr⟩
theorem natSub0_ok(a b:Nat)(ha:(lim a).length<=100000)(hb:(lim b).length<=100000)(hle:b<=a):Fx 251 [usD (lim a),usD (lim b)] (usD (lim (a-b))):=by
 refine yF zJ Tryz.func251 rfl rfl rfl rfl rfl rfl ?_;intros;refine zK 100 ?_;refine zB (zE zJ [1010] 200 rfl ?_);refine zF ?_;refine yP _ _ (CloneU_G (lim a) om) rfl ?_;refine zF ?_;refine zC (zA (zK 300 ?_));refine zB (zK 400 ?_);refine zO ?_;refine yC (ι:=MiL (lim a) (lim b)) [1,5,12] [] 450 (fun x=>[(6,.v (.int .u32 x.c)),(13,.v (.int .i64 x.k))]) (fun x=>[(101,.mrow 100 1 (.map (x.o++(lim a).drop x.k) uD 0))]) (fun x=>(lim a).length-x.k) (MiL.start _ _) ?_;refine⟨⟨yG,yE,rfl,rfl⟩,fun x=>?_⟩;have hk:=x.le;have hlo:=x.lo;have hc1:=x.hc;have hm:(lim a).length=(MR.map (x.o++(lim a).drop x.k) uD 0).len:=by rw[MR.len,Af,Bq];omega
 refine zK 500 ?_;refine zB (zY (fun c4=>?_) (fun c4=>?_))
 ·
  refine zL (zA (zB (zO (zK 600 ?_))));refine zK 700 ?_;refine zB (zK 800 ?_);refine zY (fun c7=>?_) (fun c7=>?_)
  ·
   refine yM zJ [] 900 ?_;refine zA ?_;refine zE zJ [] 1000 rfl ?_;repeat(first|refine zH ?_|refine qG1 ?_)
   refine zQ _ (cA _ _ _ (pN (vF1 x.lg (yW1 (yX a) _)) _) (by first|exact gL1|exact pN (yX b) _) ⟨by omega,by omega⟩) rfl ?_;repeat(first|refine zH ?_|refine qG1 ?_)
   refine zC (zN (zA (yM zJ [] 1100 ?_)));exact zS (x.next (yX a) (yX b) (by omega)) ⟨(by repeat(first|exact u21 (by(try simp only[Ah,vV0 x.lo]);(try rw[show Int.toNat 0=(lim b).getD x.k 0 from(uC (by omega)).symm]);rfl)|refine⟨?_,?_⟩|exact lx)),⟨SubO.mr (by(try simp only[Ah,vV0 x.lo]);(try rw[show Int.toNat 0=(lim b).getD x.k 0 from(uC (by omega)).symm]);exact jB0 x.lo om),yE⟩,rfl,rfl⟩ (by show(lim a).length-(x.k+1)<(lim a).length-x.k;omega)
  ·
   refine zL (zA ?_);refine zE zJ [] 1000 rfl ?_;repeat(first|refine zH ?_|refine qG1 ?_)
   refine zQ _ (cA _ _ _ (pN (vF1 x.lg (yW1 (yX a) _)) _) (by first|exact gL1|exact pN (yX b) _) ⟨by omega,by omega⟩) rfl ?_;repeat(first|refine zH ?_|refine qG1 ?_)
   refine zC (zN (zA (yM zJ [] 1100 ?_)));exact zS (x.next (yX a) (yX b) (by omega)) ⟨(by repeat(first|exact u21 (by(try simp only[Ah,vV0 x.lo]);(try rw[show Int.toNat 0=(lim b).getD x.k 0 from(uC (by omega)).symm]);rfl)|refine⟨?_,?_⟩|exact lx)),⟨SubO.mr (by(try simp only[Ah,vV0 x.lo]);(try rw[show Int.toNat 0=(lim b).getD x.k 0 from(uC (by omega)).symm]);exact jB0 x.lo om),yE⟩,rfl,rfl⟩ (by show(lim a).length-(x.k+1)<(lim a).length-x.k;omega)
 ·
  refine yD (yA (yB (zZ (zA ?_))));refine jC 101 rfl (by repeat(first|exact trivial|exact hm|refine⟨?_,?_⟩)) (by repeat(first|exact trivial|refine⟨?_,?_⟩)) ?_;refine zB (zE zJ [] 1200 rfl ?_);refine zF ?_;refine zQ _ ((jN x.o x.lg om).args ⟨SubP.ownSl (by show List.map uD _=_;rw[Bd om,Ck]),trivial⟩) rfl ?_;refine zf (zA (zM ?_));have e:=x.fin om (qX hle) (by rw[vG,vG];exact hle);rw[vG,vG]at e;exact u4 rfl (u9 (by rw[e]))
end Go.Proofs.YtpmjepoceakikaaGreatDoor
