/-Part 28 of the proof. -/
import Derived.Test.YtpmjepoceakikaaGreatDoorM20
namespace Go.Proofs.YtpmjepoceakikaaGreatDoor
open Go.RowKit
theorem wp_mono2{P:Program}{o:Oper}{a:Act}{w:World}{K K':Act->World->Prop}{Q Q':Exit->Act->World->Prop}(hK:∀a w,K a w->K' a w)(hQ:∀e a w,e≠ .normal->Q e a w->Q' e a w)(h:o.wp P a w K Q):o.wp P a w K' Q':=by
 unfold Oper.wp at*;generalize (execOp a.eval o).run P w=r at*;unfold Oper.upon at*;split at h
 ·exact hK _ _ h
 ·exact hK _ _ h
 ·exact hK _ _ h
 ·refine Calls.mono h ?_;intro e w'' he
  cases e with
  |returned v=>exact hK _ _ he
  |panicked ch=>exact hQ _ _ _ (by intro h;cases h) he
  |outgrown=>obtain⟨a0,w0,h0⟩:=he;exact⟨a0,w0,hQ _ _ _ (by intro h;cases h) h0⟩
 ·exact Rows.mono h fun v w''=>hK _ _
 ·exact hQ _ _ _ (by intro h;cases h) h
 ·exact h
theorem dD{P:Program}{ops:Array Oper}{Q:Exit->Act->World->Prop}:∀{l1 l2:List Oper}{a:Act}{w:World},wpList P ops (Exit.then (fun a w=>wpList P ops Q l2 a w) Q) l1 a w->wpList P ops Q (l1++l2) a w
 |[],_,_,_,h=>h
 |o::l1,l2,a,w,h=>by
  rw[List.cons_append];unfold wpList at h⊢;by_cases hw:Region.wanted o (yielded ops a.tmps)=true
  ·rw[Ab hw]at h⊢;refine h.imp (wp_mono2 (fun a w=>dD) fun e a w hne hq=>?_) (And.imp id fun⟨a0,w0,h0⟩=>⟨a0,w0,h0⟩)
   cases e<;>first|exact absurd rfl hne|exact hq
  ·rw[Aa hw]at h⊢;exact dD h
theorem cB0{P:Program}{T:List (Nat×TI)}(hT:xE P T=true)(fls:List Nat){ops l1 l2:List Oper}{b:Ba}{tm:List (Nat×D)}{ow:List (Nat×DOwn)}{nx0:Nat}(nx1:Nat)(K:DS->Prop){Q:Exit->Act->World->Prop}{w:World}{s:Sb}{g:Gh}{a:Act}(hr:Rel b w s g (DS.ste ⟨tm,ow,nx0⟩) a)(hn:Nat.ble (nx0+l1.length) nx1=true)
  (h:(zQ0 T fls ops none b.sz nx0 nx1 l1 nat0 tm ow []).sat P (fun _=>False) K) (hQ:∀w' s' g' a' S',Rel b w' s' g' (DS.ste S') a'->K S'->wpList P ops.toArray Q l2 a' w'):wpList P ops.toArray Q (l1++l2) a w:=by
 refine dD ?_;obtain⟨rows,tm',ow',h1,h2,_⟩:=xK hT gT0 h;refine Tr.run _ h1 (fun w' s' g' a' hR=>?_) (fun ch w' s' g' a' hch _=>hch.elim) w s g a hr.toF;exact hQ w' s' g' a' ⟨tm',ow',nx1⟩ (RelF.toRel hR (fun t d hd=>hd) (fun k c hk=>hk) (fun k hk=>by have:=Av hn;have hk':nx1<=k:=hk;omega)) h2
theorem run_nilNeG{P:Program}{b:Ba}{ops:Array Oper}{T T' e:TypeId}{t3 t4:Nat}{ty:TypeId}{pos:String}{aft:Array Edge}{gd:Option (Nat×Bool)}{rest:List Oper}{tm:List (Nat×TV)}{ow:List (Nat×Own)}{nx:Nat}{K:Ste->Prop}{d:TV}{p:Prop}(hg:Gd ops tm gd true)(hu:P.underlying T=some (.slice e))(ht:fnd t3 tm=some d)
  (hd:∀w s g v,d.P w s g v->∃a n c,v= .slice a n c/\(a=none↔¬p)) (h4:t4<b.sz) (h:∀c:Bool,(c=true↔p)->Run P b ops rest ⟨(t4,.pv (PV.lit (.bool c)))::tm,ow,nx⟩ K):
  Run P b ops (⟨some t4,.binOp .neq T (.tmp t3) (.const (.slice none 0 0)) T',ty,pos,aft,gd⟩::rest) ⟨tm,ow,nx⟩ K:=by
 intro w s g a Q hr hK;obtain⟨v,hv,hp⟩:=hr.tm t3 d ht;obtain⟨ad,n,c,rfl,hn⟩:=hd w s g v hp;refine wpList_step fun K' hK'=>?_;have hw:Region.wanted (⟨some t4,.binOp .neq T (.tmp t3) (.const (.slice none 0 0)) T',ty,pos,aft,gd⟩:Oper) (yielded ops a.tmps)=true:=Gd.wanted hr.tmok hg;rw[hw];simp only[if_true];unfold Oper.wp;have hev:a.eval (.tmp t3)= .slice ad n c:=by simp[Act.eval,hv]
 have hev0:a.eval (.const (.slice none 0 0))= .slice none 0 0:=rfl;have he:(execOp a.eval ⟨some t4,.binOp .neq T (.tmp t3) (.const (.slice none 0 0)) T',ty,pos,aft,gd⟩).run P w= .ok (.value (.bool (!ad.isNone))) w:=by
  have heq':(Op.equal T (.slice ad n c) (.slice none 0 0)).run P w= .ok ad.isNone w:=uO0 9999 hu w ad n c;simp[execOp,hev,hev0,eqGuard,binOp,heq']
 rw[he];refine hK' _ _ (h (!ad.isNone) (by cases ad with|none=>simpa using hn|some _=>simpa using hn) w s g _ Q ?_ hK);exact(hr.step (acc:=[]) (acc':=[]) (dst:=some t4) (out:= .pv (PV.lit (.bool (!ad.isNone)))) (v:= .bool (!ad.isNone)) (nx:=nx) (Stp.refl w s g hr.lt) (fun k c h=>by cases h) (fun k c h=>by cases h) (Aq _) (fun k c h=>by cases h) (fun d hd=>by cases hd;exact h4) rfl).congr (fun _ _ h=>h) (fun _ _ h=>h) (Aq _)
theorem ev_neTailG{P:Program}{T:List (Nat×TI)}(hT:xE P T=true)(fls:List Nat){α:Type}{id:Nat}{ops l1:List Oper}{oP:Oper}{Ty Ty' e:TypeId}{t3 t4 tj j sz:Nat}{ty:TypeId}{pos:String}{aft:Array Edge}{l:List α}{f:α->List D}{b:Ba}{tm:List (Nat×D)}{ow:List (Nat×DOwn)}{nx:Nat}{K:Exit->DS->Prop}(nx1 nx2:Nat)
  (hops:ops=l1++[⟨some t4,.binOp .neq Ty (.tmp t3) (.const (.slice none 0 0)) Ty',ty,pos,aft,some (j,false)⟩,oP]) (hj:(ops.toArray[j]?).bind (·.dst)=some tj) (hu:P.underlying Ty=some (.slice e)) (h4:Nat.blt t4 b.sz=true) (hn:Nat.ble (nx+l1.length) nx1=true) (hn2:Nat.ble (nx1+1) nx2=true)
  (h:(zQ0 T fls ops none b.sz nx nx1 l1 nat0 tm ow []).sat P (fun _=>False) (fun S=>S.nx=nx1/\(∃c,yY tj S.tm=some (.v (.bool c))/\c=false)/\(∃e',yY t3 S.tm=some (.gd e' (slN sz l f))/\e'=true)/\∀c:Bool,(c=true↔l≠[])->(zQ0 T fls ops none b.sz nx1 nx2 [oP] nat0 ((t4,.v (.bool c))::S.tm) S.ow []).sat P (fun _=>False) (K .normal))):
  Ev P b (.region id ops.toArray false) ⟨tm,ow,nx⟩ K:=by
 intro w s g a Q hr hK;refine wp_region_lit ?_;have h0:=cB0 hT fls (ops:=ops) (l1:=l1) (l2:=[⟨some t4,.binOp .neq Ty (.tmp t3) (.const (.slice none 0 0)) Ty',ty,pos,aft,some (j,false)⟩,oP]) nx1 _ hr hn h (Q:=Q) fun w' s' g' a' S' h1 h2=>by
  obtain⟨tm',ow',nx'⟩:=S';obtain⟨h5,⟨c0,h6,h7⟩,⟨e0,h8,h9⟩,h10⟩:=h2;have h5:nx'=nx1:=h5;subst h5 h7 h9;refine run_nilNeG (ops:=ops.toArray) (gd:=some (j,false)) (d:=(D.gd true (slN sz l f)).tv) (p:=l≠[]) (rest:=[oP]) (ow:=ows ow') (nx:=nx') (tm:=tvs tm') (K:=fun S2=>∃S,S2=DS.ste S/\K .normal S) ⟨tj,false,hj,by rw[qG,show yY tj tm'=_ from h6];rfl,rfl⟩ hu (by rw[qG,show yY t3 tm'=_ from h8];rfl) (fun w s g v hv=>?_) (Av h4) (fun c hc=>fun w2 s2 g2 a2 Q2 hr2 hK2=>?_) w' s' g' a' Q h1 fun w2 s2 g2 a2 S2 g3 g4=>?_
  ·have hv:(slN sz l f).pv.p w s v:=(show(PV.gd true (slN sz l f).pv).p w s v from hv).1 rfl;obtain⟨⟨a,cap,g1,g2,g3,g4,g5⟩,hn⟩:=hv;refine⟨a,_,cap,g1,?_⟩
   cases l with
   |nil=>
    have:=hn rfl;rw[g1]at this
    cases this;simp
   |cons x l=>
    obtain⟨b',off,e1,_⟩:=g5 0 (D.pvs (f x)) rfl;rw[e1];simp
  ·exact cB0 hT fls (ops:=ops) (l1:=[oP]) (l2:=[]) nx2 _ (show Rel b w2 s2 g2 (DS.ste ⟨(t4,.v (.bool c))::tm',ow',nx'⟩) a2 from hr2) hn2 (h10 c hc) (Q:=Q2) fun w3 s3 g3 a3 S3 k1 k2=>hK2 w3 s3 g3 a3 S3.ste k1 ⟨S3,rfl,k2⟩
  ·obtain⟨S,rfl,g5⟩:=g4;exact hK .normal w2 s2 g2 a2 S g3 g5
 rw[<-hops]at h0;exact h0
end Go.Proofs.YtpmjepoceakikaaGreatDoor
