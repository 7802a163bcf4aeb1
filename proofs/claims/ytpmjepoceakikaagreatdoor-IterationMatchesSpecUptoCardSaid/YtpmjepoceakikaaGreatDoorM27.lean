/-Part 27 of the proof. -/
import Derived.Test.YtpmjepoceakikaaGreatDoorM26
namespace Go.Proofs.YtpmjepoceakikaaGreatDoor
open Go.RowKit
variable{md me:Bool}
def gV:ByteArray:=⟨#[111,110,95,105,116,101,114]⟩
def wZ:ByteArray:=⟨#[111,110,95,110,101,120,116]⟩
def nnB:ByteArray:=⟨#[39,32,105,115,32,110,111,116,32,97,110,32,105,116,101,114,97,116,111,114]⟩
def rA(o:Ob):Int:=ZI (rgO o).sa (rgO o).na
def rB(o:Ob):Int:=ZI (rgO o).sb (rgO o).nb
def rC(o:Ob):Int:=ZI (rgO o).sc (rgO o).nc
theorem rlen_el{a b c i:Int}(h0:c≠0)(hi:0<=i)(hl:i<rlen a b c):((a+c*i).natAbs<=a.natAbs\/(a+c*i).natAbs<=b.natAbs)/\(c*i).natAbs<=(b-a).natAbs:=by
 unfold rlen at hl;split at hl
 ·rename_i hc;split at hl
  ·rename_i hab;have hs:c*qY c= -c:=by unfold qY;rw[Ab hc];omega
   rw[hs]at hl;obtain⟨h1,h2,h3⟩:=kD0 (x:=a-b) (s:= -c) om om;generalize Int.fdiv (a-b+(-c-1)) (-c)=q at*;have h4: -c*i<= -c*(q-1):=Eu om om;have h5:0<= -c*i:=Int.mul_nonneg om hi;have h6: -c*i= -(c*i):=Int.neg_mul c i;omega
  ·omega
 ·rename_i hc;split at hl
  ·rename_i hab;have hs:c*qY c=c:=by unfold qY;rw[Aa hc];omega
   rw[hs]at hl;obtain⟨h1,h2,h3⟩:=kD0 (x:=b-a) (s:=c) om om;generalize Int.fdiv (b-a+(c-1)) c=q at*;have h4:c*i<=c*(q-1):=Eu om om;have h5:0<=c*i:=Int.mul_nonneg om hi;omega
  ·omega
theorem gQ1{a b c i:Int}(ha:(lim a.natAbs).length<=40)(hb:(lim b.natAbs).length<=40)(h0:c≠0)(hi:0<=i)(hl:i<rlen a b c):(lim (a+c*i).natAbs).length<=40/\(lim (c*i).natAbs).length<=41:=by
 obtain⟨h1,h2⟩:=rlen_el h0 hi hl;refine⟨?_,Au (qX h2) (jD hb ha)⟩;rcases h1 with h1|h1
 ·exact Au (qX h1) ha
 ·exact Au (qX h1) hb
theorem lim_i64{i:Int}(h0:0<=i)(h1:i<=1099511627776):(lim i.natAbs).length<=2:=qF (k:=2) (by rw[show(4294967296:Nat)^2=18446744073709551616 from rfl];omega)
def atQ(a b c i:Int):Int:=if i<rlen a b c then a+c*i else 0
def atC(a b c i:Int):Int:=if i<rlen a b c then 0 else 4
def atI(a b c i:Int):Int:=if i<rlen a b c then 0 else-2
set_option maxHeartbeats 1000000 in
theorem rgAtI_ok(a b c i:Int)(ha:(lim a.natAbs).length<=40)(hb:(lim b.natAbs).length<=40)(hc:(lim c.natAbs).length<=40)(h0:c≠0)(hi:0<=i)(hi2:i<=1099511627776):Fx 143 [.agg (rgD a b c),.agg (zV i)] (.tup [.agg (zV (atQ a b c i)),faD (atC a b c i) (atI a b c i)]):=by
 have hcp:0<(lim c.natAbs).length:=Da.2 (fun e=>by rw[lim_nil]at e;omega);have hn:=rlen_sz ha hb h0;have hz:=lim_i64 hi hi2;have hk:=zOk (z:=i) om;refine yF zJ Tryz.func143 rfl rfl rfl rfl rfl rfl ?_;intros;refine zK 100 ?_;refine zB (zO ?_);refine zB (zE zJ [] 200 rfl ?_);refine zF ?_;refine zQ _ (rgValid_ok a b c ha hb hc hcp) rfl ?_;refine zF ?_;refine zC (zA (zY (fun c1=>?_) (fun c1=>?_)))
 ·
  exact absurd c1 de
 ·
  refine zB (zE zJ [] 400 rfl ?_);refine zF ?_;refine zQ _ ((mJ (decide (i<0)) (lim i.natAbs) om).out (u7 hk)) rfl ?_;refine zF ?_;refine zC (zA (zY (fun c3=>?_) (fun c3=>?_)))
  ·
   exact absurd c3 de
  ·
   refine zL (zN (zA ?_));refine zB (zE zJ [] 600 rfl ?_);refine zF ?_;refine zQ _ (rgLength0_ok a b c ha hb hc h0) rfl ?_;refine zF ?_;refine zC (zA (zB (zK 700 ?_)));refine zY (fun c6=>?_) (fun c6=>?_)
   ·
    (have h9:=c6;first|omega|(simp at h9;omega))
   ·
    refine zL (zA (zB ?_));refine zB (zE zJ [] 900 rfl ?_);refine zF ?_;refine yN _ (fun hg5=>cS i (rlen a b c) om om) rfl ?_;refine zF ?_;refine zC (zA (zW rfl (fun c8=>?_) (fun c8=>?_)))
    ·have c8:¬i<rlen a b c:=by
      have h9:=c8;simp at h9;omega
     refine zB (zE zJ [] 1000 rfl ?_);refine zF ?_;refine zQ _ (rgAt_ok 4 (-2)) rfl ?_;refine zf (zA (zM (zP ?_)));rw[show atQ a b c i=0 from Aa c8,show atC a b c i=4 from Aa c8,show atI a b c i= -2 from Aa c8];exact u4 rfl (u19 ⟨u20 ⟨u6 _,by rw[show(0:Int).natAbs=0 from rfl,qK];exact u12 rfl,trivial⟩,u6 _,trivial⟩)
    ·have c8:i<rlen a b c:=by
      have h9:=c8;simp at h9;omega
     obtain⟨z1,z2⟩:=gQ1 ha hb h0 hi c8;refine zL (zA ?_);refine zB (zE zJ [] 1100 rfl ?_);refine zF ?_;refine zQ _ (rgElem_ok a b c i om om om om om) rfl ?_;refine zf (zA (zM ?_));rw[show atQ a b c i=_ from Ab c8,show atC a b c i=0 from Ab c8,show atI a b c i=0 from Ab c8];exact u4 rfl (u6 _)
def pgS(o:Ob)(i:Int):St:=if i<rlO o then vlS (nuV (rA o+rC o*i))else dnS
theorem atC_iff{a b c i:Int}:¬atC a b c i=0↔¬i<rlen a b c:=by unfold atC;split<;>simp_all
theorem atC_rl{o:Ob}{i:Int}:¬atC (rA o) (rB o) (rC o) i=0↔¬i<rlO o:=atC_iff
theorem vN1{P:Program}{E:Pn}{K:DS->Prop}{p:Prop}{r:Out}(hr:r.sat P E K)(hp:p:=by first|exact trivial|(refine⟨by decide,?_⟩;have:=ho.n;show _<o.items.length;omega)|(refine⟨by decide,?_⟩;have:=ho.n;simp only[Ar];show _<o.items.length;omega)):(Out.need p r).sat P E K:=⟨hp,hr⟩
set_option maxHeartbeats 1000000 in
theorem itProgress_ok(o:Ob)(i:Int)(ho:RgO o)(hi:0<=i)(hi2:i<=1099511627776):Fx 94 [.agg (obD o),.v (.int .i64 i)] (.agg (stD (pgS o i))):=by
 refine yF zJ Tryz.func94 rfl rfl rfl rfl rfl rfl ?_;intros;refine zK 100 ?_;refine zB (zX zJ [] [[],[0],[0,1],[0,1,2],[0,1,2,3],[],[5],[5,6],[5,6,7],[5,6,7,8],[],[10],[10,11],[10,11,12],[10,11,12,13],(rgN 15),[],[16],(rgN 18),(rgN 19),(rgN 20),(rgN 20),[],[],[0,1,2,3,4,5,6,7,8,9,10,11,12,13,14,15,16,17,18,19,20,22,23],(rgN 25)] 200 yT kr rfl ?_);repeat(first|refine zH ?_|refine vN1 ?_)
 refine zQ _ (pM i om om) rfl ?_;repeat(first|refine zH ?_|refine vN1 ?_)
 refine zQ _ ((rgAtI_ok (rA o) (rB o) (rC o) i ho.siz.1 ho.siz.2.1 ho.siz.2.2.1 ho.siz.2.2.2 hi hi2).args ⟨u9 (congrArg D.agg ho.dat),u6 _,trivial⟩) rfl ?_;repeat(first|refine zH ?_|refine vN1 ?_)
 refine zC (zA (zB (zK 300 ?_)));refine zW rfl (fun c2=>?_) (fun c2=>?_)
 ·have c2:¬i<rlO o:=atC_rl.1 (by simpa using c2);refine zB (zE zJ [] 400 rfl ?_);refine zF ?_;refine zQ _ (kC) rfl ?_;refine zf (zA (zM (zP ?_)));rw[show pgS o i=dnS from Aa c2];exact u4 rfl (u6 _)
 ·have c2:i<rlO o:=Classical.not_not.1 fun h8=>(atC_rl.2 h8) (by simpa using c2);refine zL (zA ?_);refine zB (zE zJ [] 500 rfl ?_);refine zF ?_;refine zQ _ ((uT (nuV (atQ (rA o) (rB o) (rC o) i))).args ⟨u20 ⟨u6 _,u6 _,u6 _,u6 _,u12 rfl,u6 _,u6 _,trivial⟩,trivial⟩) rfl ?_;refine zf (zA (zM ?_));rw[show pgS o i=_ from Ab c2,<-show atQ (rA o) (rB o) (rC o) i=_ from Ab c2];exact u4 rfl (u6 _)
def elmR(h:List Ob)(v z:Vl)(i:Int):St:=if(zU h v).kind=5 then pgS (zU h v) i else elmS h v z i
theorem xL1{P:Program}{E:Pn}{K:DS->Prop}{p:Prop}{r:Out}(hr:r.sat P E K)(hp:p:=by first|exact⟨by decide,Nat.one_lt_two⟩|exact Ew):(Out.need p r).sat P E K:=⟨hp,hr⟩
theorem itElementR_ok(h:List Ob)(v z:Vl)(i:Int)(hv:v.k=6->yU h v.r=true)(hi:0<=i)(hi2:i<=1099511627776)(hin:VlIn v)(hob:ObIn (zU h v))(hz:z.nl.length<=2000000)(hr:(zU h v).kind=5->RgO (zU h v)):Fx 54 [hpD md h,.agg (obD (itO v z i))] (.agg (stD (elmR h v z i))):=by
 have hsz:=hin.s;have hil:=yU0 v.s;have hkl:=hob.kl;refine yF zJ Tryz.func54 rfl rfl rfl rfl rfl rfl ?_;intros;refine zK 100 ?_;refine zB (zX zJ [] [[],[0],[0,1],[0,1,2],[],[4],[],[0,1,2,3,6],(rgN 8)] 200 yT kr rfl ?_);repeat(first|refine zH ?_|refine zT (by first|exact⟨Int.le_refl _,Nat.zero_lt_two⟩|exact Ew) ?_)
 refine zC (zA ?_);refine yK [2,3,4,5] [0,1,2,106] 210 [(6,.v (.int .i64 i))] [(106,.box 29 (vlD v))] ?_;refine⟨⟨yG,⟨⟨rfl,SubL.same rfl⟩,yE⟩,rfl,rfl⟩,?_⟩;refine zB (zE zJ [] 300 rfl ?_);refine zF ?_;refine zQ _ (wJ h v hv) rfl ?_;refine zF ?_;refine zC (zA (zB (zO (zK 400 ?_))));refine zY (fun c3=>?_) (fun c3=>?_)
 ·
  refine zB ?_;refine zB (zE zJ [] 500 rfl ?_);repeat(first|refine zH ?_|refine zT (by omega) ?_)
  refine zC (zA (zK 600 ?_));refine zY (fun c5=>?_) (fun c5=>?_)
  ·
   refine zB (zE zJ [] 700 rfl ?_);refine zF ?_;refine zQ _ (heapText_ok _) rfl ?_;refine zF ?_;refine zQ _ (uT _) rfl ?_;refine zf (zA (zM (zP (zR (zP ?_)))));rw[show elmR h v z i=_ from Aa (fun h8=>by have:=wE (h:=h) (v:=v) om;rw[this]at h8;exact absurd h8 de)];exact u4 rfl (u9 (by unfold elmS;rw[Ab c3,Ab c5];rfl))
  ·
   refine zL (zA ?_);refine zB (zE zJ [] 800 rfl ?_);refine zF ?_;refine zQ _ (kC) rfl ?_;refine zf (zA (zM (zR (zP ?_))));rw[show elmR h v z i=_ from Aa (fun h8=>by have:=wE (h:=h) (v:=v) om;rw[this]at h8;exact absurd h8 de)];exact u4 rfl (u9 (by unfold elmS;rw[Ab c3,Aa om];rfl))
 ·
  refine zK 900 ?_;refine zY (fun c8=>?_) (fun c8=>?_)
  ·
   refine zB (zK 1000 ?_);refine zY (fun c9=>?_) (fun c9=>?_)
   ·
    refine zB (zE zJ [] 1100 rfl ?_);refine zF ?_;refine zQ _ (bB _ (by rw[by64];omega) (by rw[by64];have:=xT0 v.s i.toNat;omega)) rfl ?_;refine zF ?_;refine zQ _ (uT _) rfl ?_;refine zf (zA (zM (zP (zR (zP ?_)))));rw[show elmR h v z i=_ from Aa (fun h8=>by have:=wE (h:=h) (v:=v) om;rw[this]at h8;exact absurd h8 de)];exact u4 rfl (u9 (by unfold elmS;rw[Aa c3,Ab c8,Ab c9];rw[by64];rfl))
   ·
    refine zL (zA ?_);refine zB (zE zJ [] 1200 rfl ?_);refine zF ?_;refine zQ _ (kC) rfl ?_;refine zf (zA (zM (zR (zP ?_))));rw[show elmR h v z i=_ from Aa (fun h8=>by have:=wE (h:=h) (v:=v) om;rw[this]at h8;exact absurd h8 de)];exact u4 rfl (u9 (by unfold elmS;rw[Aa c3,Ab c8,Aa om];rfl))
  ·
   refine zK 1300 ?_;refine zY (fun c12=>?_) (fun c12=>?_)
   ·
    refine zB (zE zJ [] 1400 rfl ?_);refine zF ?_;refine zQ _ (itProgress_ok (zU h v) i (hr c12) hi hi2) rfl ?_;refine zf (zA (zM (zR (zP ?_))));rw[show elmR h v z i=_ from Ab c12];exact u4 rfl (u6 _)
   ·
    refine zK 1500 ?_;refine zY (fun c14=>?_) (fun c14=>?_)
    ·
     refine zB ?_;refine zB (zE zJ [] 1600 rfl ?_);refine zF ?_;refine zQ _ (bB _ om om) rfl ?_;refine zf (zA ?_);refine zB (zX zJ [] [[],[0],[0,1],[],[3],[3,4],[3,4,5],[3,4,5,6],[3,4,5,6,7],(rgN 9),(rgN 10)] 1700 yT kr rfl ?_);repeat(first|refine zH ?_|refine xL1 ?_)
     refine zQ _ (yK0 _ _) rfl ?_;repeat(first|refine zH ?_|refine xL1 ?_)
     refine zC (zA (zY (fun c16=>?_) (fun c16=>?_)))
     ·
      refine zB (zE zJ [] 1800 rfl ?_);refine zF ?_;refine zQ _ (kV _ _) rfl ?_;refine zf (zA (zM (zP (zR (zP ?_)))));rw[show elmR h v z i=_ from Aa c12];exact u4 rfl (u9 (by unfold elmS;rw[Aa c3,Aa c8,Ab c14,Aa (show ¬(nuV ((zU h v).keys.length:Nat)).nl=z.nl from c16)];rfl))
     ·
      refine zL (zA ?_);refine zB (zE zJ [] 1900 rfl ?_);refine zF ?_;refine zQ _ (zE1 _ _ hi) rfl ?_;refine zf (zA (zM (zR (zP ?_))));rw[show elmR h v z i=_ from Aa c12];exact u4 rfl (u9 (by unfold elmS;rw[Aa c3,Aa c8,Ab c14,Ab (show(nuV ((zU h v).keys.length:Nat)).nl=z.nl from c16)];rfl))
    ·
     refine zL (zN (zA ?_));refine zB (zE zJ [] 2000 rfl ?_);refine zF ?_;refine zQ _ (zE1 _ _ hi) rfl ?_;refine zf (zA (zM ?_));rw[show elmR h v z i=_ from Aa c12];exact u4 rfl (u9 (by unfold elmS;rw[Aa c3,Aa c8,Aa (not_or.2 c14)];rfl))
def itG(h:List Ob)(v:Vl):St:=if(zU h v).kind=17\/(zU h v).kind=16 then vlS v else if itcB h v=true then vlS (rfV (h.length:Nat))else if(spS h v gV).2.2=true then caI (spS h v gV).1 (spS h v gV).2.1 else raS 32 (itN h v)
def nnN(h:List Ob)(v:Vl):ByteArray:=(⟨#[39]⟩:ByteArray)++(yI h (clA h v)).name++nnB
def ckG(h:List Ob)(v:Vl):St:=if(zU h v).kind=17\/(zU h v).kind=16\/(spS h v wZ).2.2=true then vlS v else raS 32 (nnN h v)
def nx0(h:List Ob)(v:Vl):St:=if(zU h v).kind=17 then caI v []else if(spS h v wZ).2.2=true then caI (spS h v wZ).1 (spS h v wZ).2.1 else raS 32 (nnN h v)
section
variable{h:List Ob}{v:Vl}
theorem itcB_iff:itcB h v=true↔((zU h v).kind=3\/(zU h v).kind=4\/(zU h v).kind=1\/(zU h v).kind=2\/(zU h v).kind=5\/v.k=4\/v.k=5):=by unfold itcB;exact decide_eq_true_iff
theorem cQ0(a:v.k=4\/v.k=5):(zU h v).kind=0:=by rw[wE (by omega)];rfl
theorem it_1(c:(zU h v).kind=17\/(zU h v).kind=16):itG h v=vlS v/\itH h v=h:=⟨Ab c,Aa (fun hb=>by rcases itcB_iff.1 hb with x|x|x|x|x|x|x<;>first|omega|(have:=cQ0 (h:=h) (v:=v) (by omega);omega))⟩
theorem it_2(c:¬((zU h v).kind=17\/(zU h v).kind=16))(b:itcB h v=true):itG h v=vlS (rfV (h.length:Nat))/\itH h v=h++[itO v (itZ h v) 0]:=⟨(Aa c).trans (Ab b),Ab b⟩
theorem it_3(c:¬((zU h v).kind=17\/(zU h v).kind=16))(b:¬itcB h v=true)(s:(spS h v gV).2.2=true):itG h v=caI (spS h v gV).1 (spS h v gV).2.1/\itH h v=h:=⟨(Aa c).trans ((Aa b).trans (Ab s)),Aa b⟩
theorem it_4(c:¬((zU h v).kind=17\/(zU h v).kind=16))(b:¬itcB h v=true)(s:¬(spS h v gV).2.2=true):itG h v=raS 32 (itN h v)/\itH h v=h:=⟨(Aa c).trans ((Aa b).trans (Aa s)),Aa b⟩
end
theorem jC0{P:Program}{E:Pn}{K:DS->Prop}{p:Prop}{r:Out}(hr:r.sat P E K)(hp:p:=by first|(simp only[Db,bsZ,Ch,An,Aw];omega)|exact Ew):(Out.need p r).sat P E K:=⟨hp,hr⟩
set_option maxHeartbeats 2000000 in
theorem itIterR_G(h:List Ob)(v:Vl)(hh:HpIn h)(g:Uh h)(hi:VlIn v)(hs:uB h v=true):FnG Tryz.prog 6 [.bp 0 0,.agg (vlD v)] (hpO h) (.agg (stD (itG h v))) (hpO (itH h v)):=by
 have hvo:=uF hs;have hcf:=uV0 g hs;have hhl:=hh.len;have hkl:=(gM hh v).kl;have hzi:VlIn (itZ h v):=zH0 hkl;have hnm:=(hh.at (clA h v)).nm;refine jY zJ Tryz.func6 rfl rfl rfl rfl rfl rfl rfl ?_;intros;refine zK 100 ?_;refine zK 200 ?_;refine zB ?_;refine zB (zX zJ [] mK1 300 yT kr rfl ?_);refine zF ?_;refine qC _ (wJ h v hvo) rfl rfl ?_;refine zF ?_;refine zC (zA (zO (zK 800 ?_)));refine zY (fun c7=>?_) (fun c7=>?_)
 ·
  refine zB (zE zJ [] 900 rfl ?_);refine zF ?_;refine zQ _ (uT v) rfl ?_;refine zf (zA (zM (zR (zP ?_))));rw[(it_1 om).1,(it_1 om).2];exact u11 2 rfl rfl (Sub.ofP (u20 nz) rfl rfl) ⟨⟨rfl,Sub.mo (by simp),rfl,trivial⟩,SubO.mp rfl,trivial⟩
 ·
  refine zK 1000 ?_;refine zY (fun c9=>?_) (fun c9=>?_)
  ·
   refine zE zJ [] 1100 rfl ?_;refine zF ?_;refine zQ _ (bB _ om om) rfl ?_;refine zf (zN (zA ?_));refine zB (zE zJ [1086] 1300 rfl ?_);refine zF ?_;refine yP _ _ ((wV0 h (itO v (itZ h v) 0) om (pP0 hi hzi de)).args ⟨u0 _,Sub.ofP (u20 ⟨u6 _,u6 _,u6 _,u12 rfl,u12 rfl,u12 rfl,SubP.slrRows (jZ0 om),u12 rfl,u6 _,u6 _,trivial⟩) rfl rfl,trivial⟩) rfl ?_;refine zF ?_;refine zQ _ (bA _) rfl ?_;refine zF ?_;refine zQ _ (uT _) rfl ?_;refine zf (zA (zM ?_));have hb:itcB h v=true:=itcB_iff.2 om;rw[(it_2 om hb).1,(it_2 om hb).2];exact u11 2 rfl rfl (Sub.ofP (u20 nz) rfl rfl) ⟨⟨rfl,Sub.mo (by simp),rfl,trivial⟩,SubO.mp rfl,trivial⟩
  ·
   refine zK 1200 ?_;refine zY (fun c11=>?_) (fun c11=>?_)
   ·
    refine zL (zN (zA ?_));refine zB (zE zJ [1086] 1300 rfl ?_);refine zF ?_;refine yP _ _ ((wV0 h (itO v (itZ h v) 0) om (pP0 hi hzi de)).args ⟨u0 _,Sub.ofP (u20 ⟨u6 _,u6 _,u6 _,u12 rfl,u12 rfl,u12 rfl,SubP.slrRows (pL om),u12 rfl,u6 _,u6 _,trivial⟩) rfl rfl,trivial⟩) rfl ?_;refine zF ?_;refine zQ _ (bA _) rfl ?_;refine zF ?_;refine zQ _ (uT _) rfl ?_;refine zf (zA (zM ?_));have hb:itcB h v=true:=itcB_iff.2 om;rw[(it_2 om hb).1,(it_2 om hb).2];exact u11 2 rfl rfl (Sub.ofP (u20 nz) rfl rfl) ⟨⟨rfl,Sub.mo (by simp),rfl,trivial⟩,SubO.mp rfl,trivial⟩
   ·
    refine zB ?_;refine zB (zX zJ [] mK8 1300 yT kr rfl ?_);refine zF ?_;refine qC _ (kB h v gV hh g hvo) rfl rfl ?_;refine zF ?_;refine zC (zA (zK 1400 ?_));refine zW rfl (fun c4=>?_) (fun c4=>?_)
    ·have c4:(spS h v gV).2.2=true:=c4;refine zK 1500 ?_;refine zM (zP (zR (zP ?_)));rw[(it_3 om (fun hb=>by have:=itcB_iff.1 hb;omega) c4).1,(it_3 om (fun hb=>by have:=itcB_iff.1 hb;omega) c4).2];exact u11 2 rfl rfl (Sub.ofP (u20 nz) rfl rfl) ⟨⟨rfl,Sub.mo (by simp),rfl,trivial⟩,SubO.mp rfl,trivial⟩
    ·have c4:¬(spS h v gV).2.2=true:=by simpa using c4
     refine zL (zA ?_);refine zB (zX zJ [] mK9 1500 yT kr rfl ?_);repeat(first|refine zH ?_|refine jC0 ?_)
     refine qC _ (gC h v g hcf) rfl rfl ?_;repeat(first|refine zH ?_|refine jC0 ?_)
     refine zQ _ (kV 32 (itN h v)) rfl ?_;repeat(first|refine zH ?_|refine jC0 ?_)
     refine zC (zA (zM (zR (zP ?_))));rw[(it_4 om (fun hb=>by have:=itcB_iff.1 hb;omega) c4).1,(it_4 om (fun hb=>by have:=itcB_iff.1 hb;omega) c4).2];exact u11 2 rfl rfl (Sub.ofP (u20 nz) rfl rfl) ⟨⟨rfl,Sub.mo (by simp),rfl,trivial⟩,SubO.mp rfl,trivial⟩
theorem itCheck_ok(h:List Ob)(v:Vl)(hh:HpIn h)(g:Uh h)(hi:VlIn v)(hs:uB h v=true):Fx 10 [hpD md h,.agg (vlD v)] (.agg (stD (ckG h v))):=by
 have hvo:=uF hs;have hcf:=uV0 g hs;have hhl:=hh.len;have hkl:=(gM hh v).kl;have hzi:VlIn (itZ h v):=zH0 hkl;have hnm:=(hh.at (clA h v)).nm;refine yF zJ Tryz.func10 rfl rfl rfl rfl rfl rfl ?_;intros;refine zK 100 ?_;refine zB (zE zJ [] 200 rfl ?_);refine zF ?_;refine zQ _ (wJ h v hvo) rfl ?_;refine zf (zA (zB ?_));refine zB (zE zJ [] 300 rfl ?_);refine zF ?_;refine zQ _ (kB h v wZ hh g hvo) rfl ?_;refine zF ?_;refine zC (zA (zK 400 ?_));refine zW rfl (fun c3=>?_) (fun c3=>?_)
 ·have c3:(zU h v).kind=17\/(zU h v).kind=16\/(spS h v wZ).2.2=true:=by
   have h9:=c3;simp only[Cl,Ao]at h9;rcases h9 with(h9|h9)|h9
   ·exact .inr (.inr h9)
   ·exact .inl h9
   ·exact .inr (.inl h9)
  refine zB (zE zJ [] 500 rfl ?_);refine zF ?_;refine zQ _ (uT v) rfl ?_;refine zf (zA (zM (zP ?_)));rw[show ckG h v=_ from Ab c3];exact u4 rfl (u6 _)
 ·have c3:¬((zU h v).kind=17\/(zU h v).kind=16\/(spS h v wZ).2.2=true):=by
   have h9:=c3;simp only[De,Ay]at h9;rintro(h8|h8|h8)
   ·exact h9.1.2 h8
   ·exact h9.2 h8
   ·rw[h9.1.1]at h8;cases h8
  refine zL (zA ?_);refine zB (zE zJ [] 600 rfl ?_);repeat(first|refine zH ?_|refine jC0 ?_)
  refine zQ _ (gC h v g hcf) rfl ?_;repeat(first|refine zH ?_|refine jC0 ?_)
  refine zQ _ (kV 32 (nnN h v)) rfl ?_;repeat(first|refine zH ?_|refine jC0 ?_)
  refine zC (zA (zM ?_));rw[show ckG h v=_ from Aa c3];exact u4 rfl (u6 _)
set_option maxHeartbeats 1000000 in
theorem itNext0_G(h:List Ob)(v:Vl)(hh:HpIn h)(g:Uh h)(hi:VlIn v)(hs:uB h v=true)(n2:¬(zU h v).kind=16):FnG Tryz.prog 18 [.bp 0 0,.agg (vlD v)] (hpO h) (.agg (stD (nx0 h v))) (hpO h):=by
 have hvo:=uF hs;have hcf:=uV0 g hs;have hhl:=hh.len;have hkl:=(gM hh v).kl;have hzi:VlIn (itZ h v):=zH0 hkl;have hnm:=(hh.at (clA h v)).nm;refine jY zJ Tryz.func18 rfl rfl rfl rfl rfl rfl rfl ?_;intros;refine zK 100 ?_;refine zB (zX zJ [] mK1 200 yT kr rfl ?_);refine zF ?_;refine qC _ (wJ h v hvo) rfl rfl ?_;refine zF ?_;refine zC (zA (zB (zK 300 ?_)));refine zO (zK 800 ?_);refine zY (fun c7=>?_) (fun c7=>?_)
 ·
  refine zK 900 ?_;refine zM (zR (zP ?_));rw[show nx0 h v=_ from Ab c7];exact u11 2 rfl rfl (Sub.ofP (u20 nz) rfl rfl) ⟨⟨rfl,Sub.mo (by simp),rfl,trivial⟩,SubO.mp rfl,trivial⟩
 ·
  refine zK 1000 ?_;refine zY (fun c9=>?_) (fun c9=>?_)
  ·
   exact absurd c9 n2
  ·
   refine zB ?_;refine zB (zX zJ [] mK8 1100 yT kr rfl ?_);refine zF ?_;refine qC _ (kB h v wZ hh g hvo) rfl rfl ?_;refine zF ?_;refine zC (zA (zK 1200 ?_));refine zW rfl (fun c4=>?_) (fun c4=>?_)
   ·have c4:(spS h v wZ).2.2=true:=c4;refine zK 1300 ?_;refine zM (zP (zR (zP ?_)));rw[show nx0 h v=_ from(Aa c7).trans (Ab c4)];exact u11 2 rfl rfl (Sub.ofP (u20 nz) rfl rfl) ⟨⟨rfl,Sub.mo (by simp),rfl,trivial⟩,SubO.mp rfl,trivial⟩
   ·have c4:¬(spS h v wZ).2.2=true:=by simpa using c4
    refine zL (zA ?_);refine zB (zX zJ [] mK9 1300 yT kr rfl ?_);repeat(first|refine zH ?_|refine jC0 ?_)
    refine qC _ (gC h v g hcf) rfl rfl ?_;repeat(first|refine zH ?_|refine jC0 ?_)
    refine zQ _ (kV 32 (nnN h v)) rfl ?_;repeat(first|refine zH ?_|refine jC0 ?_)
    refine zC (zA (zM (zR (zP ?_))));rw[show nx0 h v=_ from(Aa c7).trans (Aa c4)];exact u11 2 rfl rfl (Sub.ofP (u20 nz) rfl rfl) ⟨⟨rfl,Sub.mo (by simp),rfl,trivial⟩,SubO.mp rfl,trivial⟩
def nxG(h:List Ob)(v z:Vl)(i:Int):St:=if i=1099511627776 then dnS else elmR h v z i
def nxJ(h:List Ob)(v z:Vl)(i:Int):Int:=if i=1099511627776 then i else if(elmR h v z i).k=0 then i+1 else 1099511627776
theorem xK1{P:Program}{E:Pn}{K:DS->Prop}{p:Prop}{r:Out}(hr:r.sat P E K)(hp:p:=by first|(rw[hst2];show InI (i+1);exact ini om om)|exact⟨by simp[MR.len],by show((r:Nat):Int).toNat<(MR.map h obD ob0).len;rw[Ah];simpa[MR.len]using hrl⟩|exact⟨by show(0:Int)<=((r:Nat):Int);omega,by show((r:Nat):Int).toNat<h.length;omega⟩|exact Ew):(Out.need p r).sat P E K:=⟨hp,hr⟩
set_option maxHeartbeats 1000000 in
theorem itNextR_G(h:List Ob)(r:Nat)(v z:Vl)(i:Int)(hr:h[r]?=some (itO v z i))(hv:v.k=6->yU h v.r=true)(hi:0<=i)(hi2:i<=1099511627776)(hin:VlIn v)(hob:ObIn (zU h v))(hz:z.nl.length<=2000000)(hrg:(zU h v).kind=5->RgO (zU h v)):FnG Tryz.prog 18 [.bp 0 0,.agg (vlD (rfV (r:Nat)))] (hpO h) (.agg (stD (nxG h v z i))) (hpO (h.set r (itO v z (nxJ h v z i)))):=by
 obtain⟨ho1,ho2,hst⟩:=jV1 hr;have hrl:=(Am.1 hr).1;have hst2:h.getD (rfV (r:Nat)).r.toNat ob0=itO v z i:=by rw[<-hst];show h.getD ((r:Nat):Int).toNat ob0=_;rw[Ah]
 refine jY zJ Tryz.func18 rfl rfl rfl rfl rfl rfl rfl ?_;intros;refine zK 100 ?_;refine zB (zX zJ [] mK1 200 yT kr rfl ?_);refine zF ?_;refine qC _ ((wJ h (rfV (r:Nat)) (fun _=>ho2)).out (u9 (congrArg (fun o=>D.agg (obD o)) ho1))) rfl rfl ?_;refine zF ?_;refine zC (zA (zB (zK 300 ?_)));refine zO (zK 800 ?_);refine zY (fun c7=>?_) (fun c7=>?_)
 ·
  exact absurd c7 (by show ¬(16:Int)=17;decide)
 ·
  refine zK 1000 ?_;refine zY (fun c9=>?_) (fun c9=>?_)
  ·
   refine zL (zN (zA (zB (zK 1100 ?_))));refine zY (fun c10=>?_) (fun c10=>?_)
   ·
    refine zB (zE zJ [] 1200 rfl ?_);refine zF ?_;refine zQ _ (kC) rfl ?_;refine zf (zA (zM (zP ?_)));rw[show nxG h v z i=_ from Ab c10,show nxJ h v z i=_ from Ab c10];exact u11 2 rfl rfl (Sub.ofP (u20 (SubPs.refl _)) rfl rfl) ⟨⟨rfl,Sub.mo (by simp),rfl,trivial⟩,SubO.mp (by rw[show h.set r (itO v z i)=h from mR0 hr]),trivial⟩
   ·
    refine zL (zA ?_);refine zB (zX zJ [] mK1 1300 yT kr rfl ?_);refine zF ?_;refine qC _ (itElementR_ok h v z i hv hi hi2 hin hob hz hrg) rfl rfl ?_;refine zF ?_;refine zC (zA (zB (zK 1400 ?_)));refine zY (fun c13=>?_) (fun c13=>?_)
    ·
     refine zX zJ [] mK21 1500 yT kr rfl ?_;repeat(first|refine zH ?_|refine xK1 ?_)
     refine zC (zA (zK 1700 ?_));refine zM ?_;rw[show nxG h v z i=_ from Aa c10,show nxJ h v z i=_ from(Aa c10).trans (Ab c13)];exact u11 2 rfl rfl (Sub.ofP (u20 (SubPs.refl _)) rfl rfl) ⟨⟨rfl,Sub.mo (by simp),rfl,trivial⟩,SubO.mp (mD0 (by rw[hst2];rfl)),trivial⟩
    ·
     refine zX zJ [] mK22 1600 yT kr rfl ?_;repeat(first|refine zH ?_|refine xK1 ?_)
     refine zC (zA (zK 1700 ?_));refine zM ?_;rw[show nxG h v z i=_ from Aa c10,show nxJ h v z i=_ from(Aa c10).trans (Aa c13)];exact u11 2 rfl rfl (Sub.ofP (u20 (SubPs.refl _)) rfl rfl) ⟨⟨rfl,Sub.mo (by simp),rfl,trivial⟩,SubO.mp (mD0 (by rw[hst2];rfl)),trivial⟩
  ·
   exact absurd rfl c9
end Go.Proofs.YtpmjepoceakikaaGreatDoor
