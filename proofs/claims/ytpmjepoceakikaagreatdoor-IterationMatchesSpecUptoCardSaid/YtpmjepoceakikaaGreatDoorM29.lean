/-Part 29 of the proof. -/
import Derived.Test.YtpmjepoceakikaaGreatDoorM27
import Derived.Test.YtpmjepoceakikaaGreatDoorM28
namespace Go.Proofs.YtpmjepoceakikaaGreatDoor
open Go.RowKit
variable{md me:Bool}
def cmpI(a b:Int):Int:=if a<b then-1 else if b<a then 1 else 0
theorem cmpI_lt{x y:Int}:cmpI x y<0↔x<y:=by unfold cmpI;split<;>(try split)<;>omega
theorem cmpI_eq{x y:Int}:cmpI x y=0↔x=y:=by unfold cmpI;split<;>(try split)<;>omega
theorem or_nn{a b:Nat}(ha:0<a)(hb:0<b):cmpN b a=cmpI (ZI true a) (ZI true b):=by
 unfold cmpN cmpI ZI;simp only[if_true];split<;>(try split)<;>(try split)<;>(try split)<;>omega
theorem dZ0{b:Bool}{n:Nat}(h:¬(b=true/\0<n)):ZI b n=n:=by
 cases b with
 |false=>rfl
 |true=>
  have:n=0:=by simp at h;omega
  subst this;rfl
theorem or_pp{a b:Nat}:cmpN a b=cmpI (a:Int) (b:Int):=by
 unfold cmpN cmpI;split<;>(try split)<;>(try split)<;>(try split)<;>omega
theorem or_np{a b:Nat}(ha:0<a): -1=cmpI (ZI true a) (b:Int):=by
 unfold cmpI ZI;simp only[if_true];split<;>omega
theorem or_pn{a b:Nat}(hb:0<b):1=cmpI (a:Int) (ZI true b):=by
 unfold cmpI ZI;simp only[if_true];split<;>(try split)<;>omega
theorem yH0(b c:Bool)(n m:Nat)(h1:(dig n).length<=1000000)(h2:(dig m).length<=1000000):Fx 57 [rD b n,rD c m] (.v (.int .i64 (cmpI (ZI b n) (ZI c m)))):=by
 have hz1:=uR0 n;have hz2:=uR0 m;refine yF zJ Tryz.func57 rfl rfl rfl rfl rfl rfl ?_;intros;refine zK 100 ?_;refine zB (zX zJ [] [[],[0],[0,1],[0,1,2],[0,1,2,3],(rgN 5),(rgN 6),(rgN 7),[],[8],[0,1,2,8,9],[0,1,2,8,9,10],[0,1,2,8,9,10,11],[0,1,2,8,9,10,11,12],[0,1,2,8,9,10,11,12,13],[0,1,2,8,9,10,11,12,13,14],(rgN 11),(rgN 17)] 200 yT kr rfl ?_);refine zF ?_;refine zC (zA (zB (zO (zK 300 ?_))));refine zW rfl (fun c2=>?_) (fun c2=>?_)
 ·have c2:(b=true/\0<n)/\(c=true/\0<m):=by
   have h9:=c2;simp at h9;exact⟨⟨h9.1.1,by omega⟩,h9.2.1,by omega⟩
  refine zB (zE zJ [] 400 rfl ?_);refine zF ?_;refine zQ _ (vQ m n om om) rfl ?_;refine zf (zA (zM (zR (zP ?_))));obtain⟨⟨rfl,k2⟩,rfl,k4⟩:=c2;exact u4 rfl (u10 (or_nn k2 k4))
 ·have c2:¬((b=true/\0<n)/\(c=true/\0<m)):=by
   have h9:=c2;simp at h9;rintro⟨⟨k1,k2⟩,k3,k4⟩;have e:=h9 k1 om k3;rw[e]at hz2;exact absurd (hz2.2 k4) de
  refine zK 500 ?_;refine zW rfl (fun c4=>?_) (fun c4=>?_)
  ·have c4:b=true/\0<n:=by
    have h9:=c4;simp at h9;exact⟨h9.1,by omega⟩
   refine zK 600 ?_;refine zM (zR (zP ?_));obtain⟨rfl,k2⟩:=c4;exact u4 rfl (u10 (by rw[dZ0 (fun h=>c2 ⟨⟨rfl,k2⟩,h⟩)];exact or_np k2))
  ·have c4:¬(b=true/\0<n):=by
    have h9:=c4;simp at h9;rintro⟨k1,k2⟩;have e:=h9 k1;rw[e]at hz1;exact absurd (hz1.2 k2) de
   refine zK 700 ?_;refine zW rfl (fun c6=>?_) (fun c6=>?_)
   ·have c6:c=true/\0<m:=by
     have h9:=c6;simp at h9;exact⟨h9.1,by omega⟩
    refine zK 800 ?_;refine zM (zR (zP ?_));obtain⟨rfl,k2⟩:=c6;exact u4 rfl (u10 (by rw[dZ0 c4];exact or_pn k2))
   ·have c6:¬(c=true/\0<m):=by
     have h9:=c6;simp at h9;rintro⟨k1,k2⟩;have e:=h9 k1;rw[e]at hz2;exact absurd (hz2.2 k2) de
    refine zL (zN (zA ?_));refine zB (zE zJ [] 900 rfl ?_);refine zF ?_;refine zQ _ (vQ n m om om) rfl ?_;refine zf (zA (zM ?_));exact u4 rfl (u10 (by rw[dZ0 c4,dZ0 c6];exact or_pp))
theorem rl_c{o:Ob}(h:RgO o):(rgO o).cnt.1=false/\((rgO o).cnt.2:Int)=rlO o:=by
 obtain⟨h1,h2⟩:=cnt_rlen (rgO o) h.c0;rw[h1];exact⟨rfl,by show((rlO o).natAbs:Int)=rlO o;have h2:0<=rlO o:=h2;omega⟩
theorem rg_dig{o:Ob}(h:RgO o):(dig (rgO o).na).length<=80/\(dig (rgO o).nc).length<=80/\(dig (rgO o).cnt.2).length<=82:=by
 have da:=bI (h.lg 0 de) (h.le 0 de);have db:=bI (h.lg 1 de) (h.le 1 de);have dc:=bI (h.lg 2 de) (h.le 2 de);obtain⟨z1,z2,z3,z4,z5,z6,z7⟩:=RgN.sizes (rgO o) (k:=80) da db dc h.c0 de;exact⟨da,dc,z5⟩
theorem VLdig{l:List Nat}(hg:Lg l):(dig (VL l)).length<=2*l.length:=qH (by
 have:=L_lt hg;rw[Nat.pow_mul];exact this)
theorem numdig{n:Nat}(h:n<=2000000):(dig n).length<=2:=qH (by rw[show(65536:Nat)^2=4294967296 from rfl];omega)
def rgEl(x:RgN)(n:Nat):Bool×Nat:=plB x.sa x.na ((x.sc !=false)&&decide (0<x.nc*n)) (x.nc*n)
theorem ivV_nu(b:Bool)(n:Nat):ivV b n=nuV (ZI b n):=by
 have e1:(ZI b n).natAbs=n:=tC b n;have e2:(b&&decide (0<n))=decide (ZI b n<0):=by
  cases b with
  |false=>rw[Cd];exact(Ca (by show ¬(n:Int)<0;omega)).symm
  |true=>rw[Ds];exact decide_eq_decide.2 (by show 0<n↔ -(n:Int)<0;omega)
 unfold ivV nuV;rw[e1,e2]
theorem mul_ZI(b:Bool)(m n:Nat):ZI ((b !=false)&&decide (0<m*n)) (m*n)=ZI b m*n:=by
 cases b with
 |false=>show((m*n:Nat):Int)=(m:Int)*n;push_cast;rfl
 |true=>
  show ZI (true&&decide (0<m*n)) (m*n)= -(m:Int)*n;rw[Ds,Int.neg_mul,<-Int.natCast_mul];by_cases h:0<m*n
  ·rw[Bh h];rfl
  ·rw[Ca h,show m*n=0 by omega];rfl
theorem rgEl_nu{o:Ob}{n:Nat}:ivV (rgEl (rgO o) n).1 (rgEl (rgO o) n).2=nuV (rA o+rC o*n):=by
 rw[ivV_nu];unfold rgEl;rw[wA1,mul_ZI];rfl
theorem rgEl_sz{x:RgN}{n:Nat}(ha:(dig x.na).length<=80)(hc:(dig x.nc).length<=80)(hn:(dig n).length<=10):(dig (rgEl x n).2).length<=200:=by
 have h1:(dig (x.nc*n)).length<=80+10:=uT0 hc hn;have h2:(dig (rgEl x n).2).length<=91:=uS0 (b1:=x.sa) (b2:=((x.sc !=false)&&decide (0<x.nc*n))) (k:=90) (show(dig x.na).length<=90 by omega) h1;omega
theorem rgElement_ok(x:RgN)(n:Nat)(ha:(dig x.na).length<=80)(hc:(dig x.nc).length<=80)(hn:(dig n).length<=10):Fx 62 [RgN.D x,rD false n] (rD (rgEl x n).1 (rgEl x n).2):=by
 have h1:(dig (x.nc*n)).length<=80+10:=uT0 hc hn;refine yF zJ Tryz.func62 rfl rfl rfl rfl rfl rfl ?_;intros;refine zK 100 ?_;refine zB (zX zJ [] [[],[0],[],[2],[],[2,3,4],(rgN 6),(rgN 7)] 200 yT kr rfl ?_);refine zF ?_;refine zQ _ (wQ x.sc false x.nc n om om) rfl ?_;refine zF ?_;refine zQ _ (jP x.sa _ x.na (x.nc*n) om om) rfl ?_;refine zf (zA (zM ?_));exact u4 rfl (u6 _)
theorem att_ne{h:List Ob}{v:Vl}{s:ByteArray}{l:List Vl}:attS h v s l≠[]↔(spS h v s).2.2=true:=by
 rw[ne_eq,attS_nil]
 cases(spS h v s).2.2<;>simp
theorem gX1{h:List Ob}{v:Vl}{s:ByteArray}(e:(spS h v s).2.2=true):attS h v s []=[caI (spS h v s).1 (spS h v s).2.1]:=by
 unfold attS;rw[Ab e,Ck];rfl
theorem xJ1{P:Program}{E:Pn}{K:DS->Prop}{p:Prop}{r:Out}(hr:r.sat P E K)(hp:p:=by first|exact⟨by decide,by have:=Da.2 (hcN.1 c6);show 0<_;omega⟩|exact Ew):(Out.need p r).sat P E K:=⟨hp,hr⟩
theorem bH0{P:Program}{E:Pn}{K:DS->Prop}{p:Prop}{r:Out}(hr:r.sat P E K)(hp:p:=by first|(simp only[Db,bsZ,Ch,An,Aw];omega)|exact Ew):(Out.need p r).sat P E K:=⟨hp,hr⟩
set_option maxHeartbeats 4000000 in
theorem Iterated_G(h:List Ob)(v:Vl)(hh:HpIn h)(g:Uh h)(hi:VlIn v)(hs:uB h v=true):FnG Tryz.prog 7 [.bp 0 0,.agg (vlD v)] (hpO h) (.agg (stD (itG h v))) (hpO (itH h v)):=by
 have hvo:=uF hs;have hcf:=uV0 g hs;have hhl:=hh.len;have hkl:=(gM hh v).kl;have hzi:VlIn (itZ h v):=zH0 hkl;have hnm:=(hh.at (clA h v)).nm;refine jY zJ Tryz.func7 rfl rfl rfl rfl rfl rfl rfl ?_;intros;refine zK 100 ?_;refine zB (zX zJ [] mK1 200 yT kr rfl ?_);refine zF ?_;refine qC _ (jH h v) rfl rfl ?_;refine zF ?_;refine zC (zA (zK 300 ?_));refine zB (zK 400 ?_);refine zO (zB (zK 1000 ?_));refine zY (fun c9=>?_) (fun c9=>?_)
 ·
  refine zL (zA (zY (fun c9x=>?_) (fun c9x=>?_)))
  ·
   refine zB (zE zJ [] 1200 rfl ?_);refine zF ?_;refine zQ _ (jO v) rfl ?_;refine zf (zA (zM (zR (zP ?_))));rw[(it_1 om).1,(it_1 om).2];exact u11 2 rfl rfl (Sub.ofP (u20 nz) rfl rfl) ⟨⟨rfl,Sub.mo (by simp),rfl,trivial⟩,SubO.mp rfl,trivial⟩
  ·
   simp_all
 ·
  refine yM zJ [] 1100 ?_;refine zA (zY (fun c10=>?_) (fun c10=>?_))
  ·
   refine zB (zE zJ [] 1200 rfl ?_);refine zF ?_;refine zQ _ (jO v) rfl ?_;refine zf (zA (zM (zR (zP ?_))));rw[(it_1 om).1,(it_1 om).2];exact u11 2 rfl rfl (Sub.ofP (u20 nz) rfl rfl) ⟨⟨rfl,Sub.mo (by simp),rfl,trivial⟩,SubO.mp rfl,trivial⟩
  ·
   refine zB (zK 1300 ?_);refine zY (fun c12=>?_) (fun c12=>?_)
   ·
    refine zL (zA (zY (fun c12x=>?_) (fun c12x=>?_)))
    ·
     refine zE zJ [] 1500 rfl ?_;refine zF ?_;refine zQ _ (N_ok _ om om) rfl ?_;refine zf (zN (zA ?_));refine zB (zE zJ [1063] 1900 rfl ?_);refine zF ?_;refine yP _ _ ((qQ0 h (itO v (itZ h v) 0) om).args ⟨u0 _,Sub.ofP (u20 ⟨u6 _,u6 _,u6 _,u12 rfl,u12 rfl,u12 rfl,SubP.slrRows (jZ0 om),u12 rfl,u6 _,u6 _,trivial⟩) rfl rfl,trivial⟩) rfl ?_;refine zF ?_;refine zQ _ (jO _) rfl ?_;refine zf (zA (zM ?_));have hb:itcB h v=true:=itcB_iff.2 om;rw[(it_2 om hb).1,(it_2 om hb).2];exact u11 2 rfl rfl (Sub.ofP (u20 nz) rfl rfl) ⟨⟨rfl,Sub.mo (by simp),rfl,trivial⟩,SubO.mp rfl,trivial⟩
    ·
     simp_all
   ·
    refine yM zJ [] 1400 ?_;refine zA (zY (fun c13=>?_) (fun c13=>?_))
    ·
     refine zE zJ [] 1500 rfl ?_;refine zF ?_;refine zQ _ (N_ok _ om om) rfl ?_;refine zf (zN (zA ?_));refine zB (zE zJ [1063] 1900 rfl ?_);refine zF ?_;refine yP _ _ ((qQ0 h (itO v (itZ h v) 0) om).args ⟨u0 _,Sub.ofP (u20 ⟨u6 _,u6 _,u6 _,u12 rfl,u12 rfl,u12 rfl,SubP.slrRows (jZ0 om),u12 rfl,u6 _,u6 _,trivial⟩) rfl rfl,trivial⟩) rfl ?_;refine zF ?_;refine zQ _ (jO _) rfl ?_;refine zf (zA (zM ?_));have hb:itcB h v=true:=itcB_iff.2 om;rw[(it_2 om hb).1,(it_2 om hb).2];exact u11 2 rfl rfl (Sub.ofP (u20 nz) rfl rfl) ⟨⟨rfl,Sub.mo (by simp),rfl,trivial⟩,SubO.mp rfl,trivial⟩
    ·
     refine zB (zK 1600 ?_);refine zY (fun c15=>?_) (fun c15=>?_)
     ·
      refine zL (zA (zY (fun c15x=>?_) (fun c15x=>?_)))
      ·
       refine zL (zN (zA ?_));refine zB (zE zJ [1063] 1900 rfl ?_);refine zF ?_;refine yP _ _ ((qQ0 h (itO v (itZ h v) 0) om).args ⟨u0 _,Sub.ofP (u20 ⟨u6 _,u6 _,u6 _,u12 rfl,u12 rfl,u12 rfl,SubP.slrRows (pL om),u12 rfl,u6 _,u6 _,trivial⟩) rfl rfl,trivial⟩) rfl ?_;refine zF ?_;refine zQ _ (jO _) rfl ?_;refine zf (zA (zM ?_));have hb:itcB h v=true:=itcB_iff.2 om;rw[(it_2 om hb).1,(it_2 om hb).2];exact u11 2 rfl rfl (Sub.ofP (u20 nz) rfl rfl) ⟨⟨rfl,Sub.mo (by simp),rfl,trivial⟩,SubO.mp rfl,trivial⟩
      ·
       simp_all
     ·
      refine zK 1700 ?_;refine zY (fun c16=>?_) (fun c16=>?_)
      ·
       refine zL (zA (zY (fun c16x=>?_) (fun c16x=>?_)))
       ·
        refine zL (zN (zA ?_));refine zB (zE zJ [1063] 1900 rfl ?_);refine zF ?_;refine yP _ _ ((qQ0 h (itO v (itZ h v) 0) om).args ⟨u0 _,Sub.ofP (u20 ⟨u6 _,u6 _,u6 _,u12 rfl,u12 rfl,u12 rfl,SubP.slrRows (pL om),u12 rfl,u6 _,u6 _,trivial⟩) rfl rfl,trivial⟩) rfl ?_;refine zF ?_;refine zQ _ (jO _) rfl ?_;refine zf (zA (zM ?_));have hb:itcB h v=true:=itcB_iff.2 om;rw[(it_2 om hb).1,(it_2 om hb).2];exact u11 2 rfl rfl (Sub.ofP (u20 nz) rfl rfl) ⟨⟨rfl,Sub.mo (by simp),rfl,trivial⟩,SubO.mp rfl,trivial⟩
       ·
        simp_all
      ·
       refine yM zJ [] 1800 ?_;refine zA (zY (fun c17=>?_) (fun c17=>?_))
       ·
        refine zL (zN (zA ?_));refine zB (zE zJ [1063] 1900 rfl ?_);refine zF ?_;refine yP _ _ ((qQ0 h (itO v (itZ h v) 0) om).args ⟨u0 _,Sub.ofP (u20 ⟨u6 _,u6 _,u6 _,u12 rfl,u12 rfl,u12 rfl,SubP.slrRows (pL om),u12 rfl,u6 _,u6 _,trivial⟩) rfl rfl,trivial⟩) rfl ?_;refine zF ?_;refine zQ _ (jO _) rfl ?_;refine zf (zA (zM ?_));have hb:itcB h v=true:=itcB_iff.2 om;rw[(it_2 om hb).1,(it_2 om hb).2];exact u11 2 rfl rfl (Sub.ofP (u20 nz) rfl rfl) ⟨⟨rfl,Sub.mo (by simp),rfl,trivial⟩,SubO.mp rfl,trivial⟩
       ·
        refine zB (zK 1900 ?_);refine zW rfl (fun c4=>?_) (fun c4=>?_)
        ·have c4:v.k=4\/v.k=5:=by simpa using c4
         refine yD (yA (zZ (zA ?_)));refine zB (zE zJ [1063] 2000 rfl ?_);refine zF ?_;refine yP _ _ ((qQ0 h (itO v (itZ h v) 0) om).args ⟨u0 _,Sub.ofP (u20 ⟨u6 _,u6 _,u6 _,u12 rfl,u12 rfl,u12 rfl,SubP.slrRows (pL om),u12 rfl,u6 _,u6 _,trivial⟩) rfl rfl,trivial⟩) rfl ?_;refine zF ?_;refine zQ _ (jO _) rfl ?_;refine zf (zA (zM ?_));have hb:itcB h v=true:=itcB_iff.2 om;rw[(it_2 om hb).1,(it_2 om hb).2];exact u11 2 rfl rfl (Sub.ofP (u20 nz) rfl rfl) ⟨⟨rfl,Sub.mo (by simp),rfl,trivial⟩,SubO.mp rfl,trivial⟩
        ·have c4:¬(v.k=4\/v.k=5):=by
          have h9:=c4;simp at h9;omega
         refine zL (zA (zB ?_));refine zB (zX zJ [] mK10 2000 yT kr rfl ?_);refine zF ?_;refine qC _ ((gJ h v gV [] hh g hvo de).args ⟨u6 _,u6 _,u6 _,u12 rfl,trivial⟩) rfl rfl ?_;refine zf (zA (zB ?_));refine zO0 Tryz.underlying63 rfl rfl rfl fun cN hcN=>?_;refine zA (zY (fun c6=>?_) (fun c6=>?_))
         ·
          refine yK [4] [0,1,3] 2110 [(7,.sl false 18 (attS h v gV []) stD st0)] [] ?_;refine⟨⟨⟨Sub.slN,yG⟩,yE,rfl,rfl⟩,?_⟩;refine zB (zE zJ [] 2200 rfl ?_);repeat(first|refine zH ?_|refine xJ1 ?_)
          refine zC (zA (zM (zP (zR (zP ?_)))));have hcN:cN=true↔attS h v gV []≠[]:=hcN;have e:=att_ne.1 (hcN.1 c6);rw[(it_3 om (fun hb=>by have:=itcB_iff.1 hb;omega) e).1,(it_3 om (fun hb=>by have:=itcB_iff.1 hb;omega) e).2,<-show(attS h v gV []).getD 0 st0=caI _ _ from by rw[gX1 e];rfl];exact u11 2 rfl rfl (Sub.ofP (u20 nz) rfl rfl) ⟨⟨rfl,Sub.mo (by simp),rfl,trivial⟩,SubO.mp rfl,trivial⟩
         ·
          refine zL (zA ?_);refine zB (zX zJ [] mK9 2200 yT kr rfl ?_);repeat(first|refine zH ?_|refine bH0 ?_)
          refine qC _ (kM h v g hcf) rfl rfl ?_;repeat(first|refine zH ?_|refine bH0 ?_)
          refine zQ _ (kY 32 (itN h v)) rfl ?_;repeat(first|refine zH ?_|refine bH0 ?_)
          refine zC (zA (zM (zR (zP ?_))));have hcN:cN=true↔attS h v gV []≠[]:=hcN;have e:¬(spS h v gV).2.2=true:=fun h8=>absurd (hcN.2 (att_ne.2 h8)) (by simp[c6]);rw[(it_4 om (fun hb=>by have:=itcB_iff.1 hb;omega) e).1,(it_4 om (fun hb=>by have:=itcB_iff.1 hb;omega) e).2];exact u11 2 rfl rfl (Sub.ofP (u20 nz) rfl rfl) ⟨⟨rfl,Sub.mo (by simp),rfl,trivial⟩,SubO.mp rfl,trivial⟩
set_option maxHeartbeats 1000000 in
theorem tH(h:List Ob)(v:Vl)(hh:HpIn h)(g:Uh h)(hi:VlIn v)(hs:uB h v=true):Fx 11 [hpD md h,.agg (vlD v)] (.agg (stD (ckG h v))):=by
 have hvo:=uF hs;have hcf:=uV0 g hs;have hhl:=hh.len;have hkl:=(gM hh v).kl;have hzi:VlIn (itZ h v):=zH0 hkl;have hnm:=(hh.at (clA h v)).nm;refine yF zJ Tryz.func11 rfl rfl rfl rfl rfl rfl ?_;intros;refine zK 100 ?_;refine zB ?_;refine zB (zE zJ [] 200 rfl ?_);refine zF ?_;refine zQ _ (jH h v) rfl ?_;refine zf (zA ?_);by_cases hA:(zU h v).kind=17\/(zU h v).kind=16
 ·refine zB (zE zJ [] 300 rfl ?_);refine zF ?_;refine yN _ (fun _=>(gJ h v wZ [] hh g hvo de).args ⟨u6 _,u6 _,u6 _,u12 rfl,trivial⟩) rfl ?_;refine zF ?_;refine uZ (fun hs=>absurd hs (by rcases hA with hA|hA<;>simp[hA])) (fun _=>?_)
  refine zF ?_;refine uZ (fun _=>?_) (fun hs=>absurd hs (by rcases hA with hA|hA<;>simp[hA]))
  refine zf (zA ?_);refine ev_condT rfl ?_;refine zB (zE zJ [] 400 rfl ?_);refine zF ?_;refine zQ _ (jO v) rfl ?_;refine zf (zA (zM (zP ?_)));rw[show ckG h v=_ from Ab (by first|exact .inr (.inr c2)|omega)];exact u4 rfl (u6 _)
 ·refine zB ?_;refine ev_neTailG zJ [] (sz:=18) (f:=stD) (l:=attS h v wZ []) (ops:=[_,_,_,_,_,_,_,_,_,_,_,_,_,_]) (l1:=[_,_,_,_,_,_,_,_,_,_,_,_]) (tj:=17) 250 300 rfl rfl Tryz.underlying63 rfl rfl rfl ?_;refine zF ?_;refine yN _ (fun _=>(gJ h v wZ [] hh g hvo de).args ⟨u6 _,u6 _,u6 _,u12 rfl,trivial⟩) rfl ?_;refine zf ?_;refine⟨rfl,⟨_,rfl,(by have h1:¬(zU h v).kind=17:=fun e=>hA (.inl e);have h2:¬(zU h v).kind=16:=fun e=>hA (.inr e);simp[h1,h2])⟩,⟨_,rfl,(by have h1:¬(zU h v).kind=17:=fun e=>hA (.inl e);have h2:¬(zU h v).kind=16:=fun e=>hA (.inr e);simp[h1,h2])⟩,fun cM hcM=>?_⟩;refine zF ?_;refine zC (zA (zW rfl (fun c2=>?_) (fun c2=>?_)))
  ·have c2:(spS h v wZ).2.2=true:=by
    have h1:¬(zU h v).kind=17:=fun e=>hA (.inl e);have h2:¬(zU h v).kind=16:=fun e=>hA (.inr e);have h9:=c2;simp[h1,h2]at h9;exact att_ne.1 (hcM.1 h9)
   refine zB (zE zJ [] 400 rfl ?_);refine zF ?_;refine zQ _ (jO v) rfl ?_;refine zf (zA (zM (zP ?_)));rw[show ckG h v=_ from Ab (by first|exact .inr (.inr c2)|omega)];exact u4 rfl (u6 _)
  ·have c2:¬(spS h v wZ).2.2=true:=by
    have h9:=c2;simp at h9;exact fun h8=>absurd (hcM.2 (att_ne.2 h8)) (by simp[h9])
   refine zL (zA ?_);refine zB (zE zJ [] 500 rfl ?_);repeat(first|refine zH ?_|refine bH0 ?_)
   refine zQ _ (kM h v g hcf) rfl ?_;repeat(first|refine zH ?_|refine bH0 ?_)
   refine zQ _ (kY 32 (nnN h v)) rfl ?_;repeat(first|refine zH ?_|refine bH0 ?_)
   refine zC (zA (zM ?_));rw[show ckG h v=_ from Aa (by rintro(h8|h8|h8);exact hA (.inl h8);exact hA (.inr h8);exact c2 h8)];exact u4 rfl (u6 _)
set_option maxHeartbeats 1000000 in
theorem refNext0_G(h:List Ob)(v:Vl)(hh:HpIn h)(g:Uh h)(hi:VlIn v)(hs:uB h v=true)(n2:¬(zU h v).kind=16):FnG Tryz.prog 19 [.bp 0 0,.agg (vlD v)] (hpO h) (.agg (stD (nx0 h v))) (hpO h):=by
 have hvo:=uF hs;have hcf:=uV0 g hs;have hhl:=hh.len;have hkl:=(gM hh v).kl;have hzi:VlIn (itZ h v):=zH0 hkl;have hnm:=(hh.at (clA h v)).nm;refine jY zJ Tryz.func19 rfl rfl rfl rfl rfl rfl rfl ?_;intros;refine zK 100 ?_;refine zB (zX zJ [] mK1 200 yT kr rfl ?_);refine zF ?_;refine qC _ (jH h v) rfl rfl ?_;refine zF ?_;refine zC (zA (zB (zK 300 ?_)));refine zY (fun c2=>?_) (fun c2=>?_)
 ·
  refine zB (zE zJ [] 400 rfl ?_);refine zF ?_;refine zQ _ ((gB0 v []).args ⟨u6 _,u12 rfl,trivial⟩) rfl ?_;refine zf (zA (zM (zP ?_)));rw[show nx0 h v=_ from Ab c2];exact u11 2 rfl rfl (Sub.ofP (u20 nz) rfl rfl) ⟨⟨rfl,Sub.mo (by simp),rfl,trivial⟩,SubO.mp rfl,trivial⟩
 ·
  refine zL (zA (zB (zK 500 ?_)));refine zY (fun c4=>?_) (fun c4=>?_)
  ·
   refine zB ?_;refine zB (zX zJ [] mK10 600 yT kr rfl ?_);refine zF ?_;refine qC _ ((gJ h v wZ [] hh g hvo de).args ⟨u6 _,u6 _,u6 _,u12 rfl,trivial⟩) rfl rfl ?_;refine zf (zA (zB ?_));refine zO0 Tryz.underlying63 rfl rfl rfl fun cN hcN=>?_;refine zA (zY (fun c6=>?_) (fun c6=>?_))
   ·
    refine yK [4] [0,1,3] 710 [(6,.sl false 18 (attS h v wZ []) stD st0)] [] ?_;refine⟨⟨⟨Sub.slN,yG⟩,yE,rfl,rfl⟩,?_⟩;refine zB (zE zJ [] 800 rfl ?_);repeat(first|refine zH ?_|refine xJ1 ?_)
    refine zC (zA (zM (zP (zP ?_))));have hcN:cN=true↔attS h v wZ []≠[]:=hcN;have e:=att_ne.1 (hcN.1 c6);rw[show nx0 h v=_ from(Aa c2).trans (Ab e),<-show(attS h v wZ []).getD 0 st0=caI _ _ from by rw[gX1 e];rfl];exact u11 2 rfl rfl (Sub.ofP (u20 nz) rfl rfl) ⟨⟨rfl,Sub.mo (by simp),rfl,trivial⟩,SubO.mp rfl,trivial⟩
   ·
    refine zL (zA ?_);refine zB (zX zJ [] mK10 900 yT kr rfl ?_);refine zF ?_;refine qC _ (tH h v hh g hi hs) rfl rfl ?_;refine zf (zA (zM (zP ?_)));have hcN:cN=true↔attS h v wZ []≠[]:=hcN;have e:¬(spS h v wZ).2.2=true:=fun h8=>absurd (hcN.2 (att_ne.2 h8)) (by simp[c6]);have e2:ckG h v=nx0 h v:=(Aa (by rintro(h8|h8|h8);exact c2 h8;exact n2 h8;exact e h8)).trans ((Aa c2).trans (Aa e)).symm;rw[<-e2];exact u11 2 rfl rfl (Sub.ofP (u20 nz) rfl rfl) ⟨⟨rfl,Sub.mo (by simp),rfl,trivial⟩,SubO.mp rfl,trivial⟩
  ·
   exact absurd c4 n2
theorem FnO.fn{P:Program}{f:FuncId}{args:List D}{e:TypeId}{sz:Nat}{α:Type}{l:List α}{fd:α->List D}{d:α}(h:FnO P f args e sz (l.map fd)):Fn P f args (.sl false sz l fd d):=
 ⟨h.bod,fun w s vs h1 h2 h3=>(h.run w s vs h1 h2 h3).mono fun r w' hr=>by
  obtain⟨s',g',k,v,e1,hp,_,hr⟩:=hr;refine⟨s',v,e1,?_,hr.2⟩;have:=hp.1;rw[xY]at this;exact this⟩
theorem yB1{h:List Ob}{v z:Vl}{i:Int}(hi:0<=i)(hz:(zU h v).kind=3\/(zU h v).kind=4->(nuV ((zU h v).keys.length:Nat)).nl=z.nl):(i<((elS h v).length:Nat)->elmS h v z i=vlS ((elS h v).getD i.toNat vl0))/\(¬i<((elS h v).length:Nat)->elmS h v z i=dnS):=by
 have mg:∀{α β:Type}{f:α->β}{l:List α}{k:Nat}{d:β}(e:α),k<l.length->(l.map f).getD k d=f (l.getD k e):=by
  intro α β f l k d e hk;rw[Ac,Ac,Cc,Ae hk];rfl
 by_cases h4:v.k=4
 ·have e:elS h v=(itL v.s v.s.size 0).map fun c=>txV (Utf8.encode c.2):=Ab h4;have er:(ruL v.s).length=(itL v.s v.s.size 0).length:=Ar _;rw[e,Ar];unfold elmS;rw[Ab h4];constructor
  ·intro hl;rw[Ab om,mg (0,0) om,ruL,mg (0,0) om]
  ·intro hl;rw[Aa om]
 by_cases h5:v.k=5
 ·have e:elS h v=(List.range v.s.size).map fun i=>nuV ((bAt v.s i:Nat):Int):=(Aa h4).trans (Ab h5);rw[e,Ar,List.length_range];unfold elmS;rw[Aa h4,Ab h5];constructor
  ·intro hl;rw[Ab om,mg 0 (by rw[List.length_range];omega),Ac,List.getElem?_range om];rfl
  ·intro hl;rw[Aa om]
 by_cases hd:(zU h v).kind=3\/(zU h v).kind=4
 ·have e:elS h v=(zU h v).keys:=(Aa h4).trans ((Aa h5).trans (Ab hd));unfold elmS;rw[e,Aa h4,Aa h5,Ab hd,Ab (hz hd)];exact⟨fun hl=>Ab hl,fun hl=>Aa hl⟩
 ·have e:elS h v=(zU h v).items:=(Aa h4).trans ((Aa h5).trans (Aa hd));unfold elmS;rw[e,Aa h4,Aa h5,Aa hd];exact⟨fun hl=>Ab hl,fun hl=>Aa hl⟩
theorem elm_bad{h:List Ob}{v z:Vl}{i:Int}(hd:(zU h v).kind=3\/(zU h v).kind=4)(hz:¬(nuV ((zU h v).keys.length:Nat)).nl=z.nl):elmR h v z i=raS 47 chgT:=by
 obtain⟨h6,_,_⟩:=jV (h:=h) (v:=v) om;unfold elmR elmS;rw[Aa om,Aa om,Aa om,Ab hd,Aa hz]
theorem lim_num{l:List Nat}{n:Nat}(hl:l=lim (VL l)):lim n=l↔(VL l:Int)=n:=by
 constructor
 ·intro h;rw[<-h,vG]
 ·intro h;rw[hl,show VL l=n by omega]
theorem i_dig{i:Int}(h0:0<=i)(h1:i<=1099511627776):(dig i.natAbs).length<=10:=Au (qH (k:=3) (by rw[show(65536:Nat)^3=281474976710656 from rfl];omega)) de
theorem qC1{P:Program}{E:Pn}{K:DS->Prop}{p:Prop}{r:Out}(hr:r.sat P E K)(hp:p:=by first|exact⟨Int.le_refl _,Nat.zero_lt_two⟩|exact Ew):(Out.need p r).sat P E K:=⟨hp,hr⟩
theorem qB1{P:Program}{E:Pn}{K:DS->Prop}{p:Prop}{r:Out}(hr:r.sat P E K)(hp:p:=by first|exact⟨by decide,Nat.one_lt_two⟩|(intro _;exact⟨by decide,Nat.one_lt_two⟩)|exact Ew):(Out.need p r).sat P E K:=⟨hp,hr⟩
theorem xI1{P:Program}{E:Pn}{K:DS->Prop}{p:Prop}{r:Out}(hr:r.sat P E K)(hp:p:=by first|exact⟨hi,by have h8:i<_:=c12;show i.toNat<_;omega⟩|exact Ew):(Out.need p r).sat P E K:=⟨hp,hr⟩
theorem xH1{P:Program}{E:Pn}{K:DS->Prop}{p:Prop}{r:Out}(hr:r.sat P E K)(hp:p:=by first|(rw[hst2];show InI (i+1);exact ini om om)|exact⟨by simp[MR.len],by show((r:Nat):Int).toNat<(MR.map h obD ob0).len;rw[Ah];simpa[MR.len]using hrl⟩|exact⟨by show(0:Int)<=((r:Nat):Int);omega,by show((r:Nat):Int).toNat<h.length;omega⟩|exact Ew):(Out.need p r).sat P E K:=⟨hp,hr⟩
set_option maxHeartbeats 4000000 in
theorem refNextR_G(h:List Ob)(r:Nat)(v z:Vl)(i:Int)(hr:h[r]?=some (itO v z i))(hv:v.k=6->yU h v.r=true)(hi:0<=i)(hi2:i<=1099511627776)(hin:VlIn v)(hob:ObIn (zU h v))(hz:z.nl.length<=2000000)(hrg:(zU h v).kind=5->RgO (zU h v))(hh:HpIn h)(hz2:z.nl.length<=1000)(hzg:Lg z.nl)(hzd:(zU h v).kind=3\/(zU h v).kind=4->z.nn=false/\z.nl=lim (VL z.nl)):FnG Tryz.prog 19 [.bp 0 0,.agg (vlD (rfV (r:Nat)))] (hpO h) (.agg (stD (nxG h v z i))) (hpO (h.set r (itO v z (nxJ h v z i)))):=by
 obtain⟨ho1,ho2,hst⟩:=jV1 hr;have hrl:=(Am.1 hr).1;have hst2:h.getD (rfV (r:Nat)).r.toNat ob0=itO v z i:=by rw[<-hst];show h.getD ((r:Nat):Int).toNat ob0=_;rw[Ah]
 have hkl:=hob.kl;have hid:=i_dig hi hi2;have hcz:((zU h v).kind=3\/(zU h v).kind=4)->(cmpI (ZI z.nn (VL z.nl)) ((zU h v).keys.length:Nat)=0↔(nuV ((zU h v).keys.length:Nat)).nl=z.nl):=fun hk=>by
  obtain⟨z1,z2⟩:=hzd hk;rw[cmpI_eq,z1];show((VL z.nl:Nat):Int)=_↔lim (((zU h v).keys.length:Nat):Int).natAbs=z.nl;rw[Int.natAbs_natCast];exact(lim_num z2).symm
 refine jY zJ Tryz.func19 rfl rfl rfl rfl rfl rfl rfl ?_;intros;refine zK 100 ?_;refine zB (zX zJ [] mK1 200 yT kr rfl ?_);refine zF ?_;refine qC _ ((jH h (rfV (r:Nat))).out (u9 (congrArg (fun o=>D.agg (obD o)) ho1))) rfl rfl ?_;refine zF ?_;refine zC (zA (zB (zK 300 ?_)));refine zY (fun c2=>?_) (fun c2=>?_)
 ·
  exact absurd c2 (by show ¬(16:Int)=17;decide)
 ·
  refine zL (zA (zB (zK 500 ?_)));refine zY (fun c4=>?_) (fun c4=>?_)
  ·
   exact absurd rfl c4
  ·
   refine zL (zA ?_);refine zB (zX zJ [] [[],[0],[0,1],[],[3],[3,4],[3,4,5],(rgN 7),[],(rgN 9)] 1000 yT kr rfl ?_);repeat(first|refine zH ?_|refine qC1 ?_)
   refine qC _ (jH h v) rfl rfl ?_;repeat(first|refine zH ?_|refine qC1 ?_)
   refine zC (zA (zK 1100 ?_));refine pU (ι:=PLift (¬i=1099511627776)) [0,3,4,8] [0,1,2,3] 2400 (fun _=>[]) (fun _=>[(1001,.box 34 (stD (elmR h v z i)))]) ?_;refine⟨?_,fun j=>?_⟩
   ·refine zO ?_;refine zK 1500 ?_;refine zY (fun c14=>?_) (fun c14=>?_)
    ·
     refine zK 1600 ?_;refine zM (zR ?_);refine exJ_ret ?_;rw[show nxG h v z i=_ from Ab c14,show nxJ h v z i=_ from Ab c14];exact u11 2 rfl rfl (Sub.ofP (u20 nz) rfl rfl) ⟨⟨rfl,Sub.mo (by simp),rfl,trivial⟩,SubO.mp (by rw[show h.set r (itO v z i)=h from mR0 hr]),trivial⟩
    ·
     refine zB (zX zJ [] [[],[0],[0,1],[0,1,2],[0,1,2,3],(rgN 5),(rgN 6),(rgN 7),(rgN 8),(rgN 9),(rgN 10),(rgN 11),(rgN 12),(rgN 13),(rgN 9),[0,1,2,3,4,5,6,7,8,14],[0,1,2,3,4,5,6,7,8,14,15],(rgN 17),(rgN 18),(rgN 19),(rgN 20),(rgN 21)] 1700 yT kr rfl ?_);repeat(first|refine zH ?_|refine qB1 ?_)
     refine yN _ (fun hg13=>I7_ok z hzg om) rfl ?_;repeat(first|refine zH ?_|refine qB1 ?_)
     refine yN _ (fun hg17=>uV _ om om) rfl ?_;repeat(first|refine zH ?_|refine qB1 ?_)
     refine yN _ (fun hg18=>yH0 z.nn _ (VL z.nl) _ (by have:=VLdig hzg;omega) (by have:=numdig (n:=(zU h v).keys.length) om;rw[Int.natAbs_natCast];omega)) rfl ?_;repeat(first|refine zH ?_|refine qB1 ?_)
     refine zC (zA (zW rfl (fun c16=>?_) (fun c16=>?_)))
     ·have c16:((zU h v).kind=3\/(zU h v).kind=4)/\¬(nuV ((zU h v).keys.length:Nat)).nl=z.nl:=by
       have h9:=c16;rw[yC0]at h9;simp at h9;exact⟨h9.1,fun e=>h9.2 ((hcz h9.1).2 e)⟩
      refine zE zJ [] 1800 rfl ?_;refine zF ?_;refine zQ _ (kY 47 chgT) rfl ?_;refine zf (zN ?_);have e:elmR h v z i=_:=elm_bad c16.1 c16.2;exact qI ⟨c14⟩ ⟨yG,⟨⟨rfl,by rw[e];first|exact SubL.same rfl|(repeat(first|exact trivial|exact u0 _|exact u17|exact rfl|refine⟨?_,?_⟩))⟩,yE⟩,rfl,rfl⟩
     ·have c16:¬(((zU h v).kind=3\/(zU h v).kind=4)/\¬(nuV ((zU h v).keys.length:Nat)).nl=z.nl):=by
       rintro⟨k1,k2⟩;have h9:=c16;rw[yC0]at h9;simp at h9;exact k2 ((hcz k1).1 (h9 k1))
      have hzz:((zU h v).kind=3\/(zU h v).kind=4)->(nuV ((zU h v).keys.length:Nat)).nl=z.nl:=fun hk=>Classical.not_not.1 fun h8=>c16 ⟨hk,h8⟩;refine zK 1900 ?_;refine zY (fun c18=>?_) (fun c18=>?_)
      ·
       refine zB (zE zJ [] 2000 rfl ?_);refine zF ?_;refine zQ _ (uV i om om) rfl ?_;refine zf ?_;have hra:=hrg c18;obtain⟨x1,x2⟩:=rl_c hra;obtain⟨x3,x4,x5⟩:=rg_dig hra;refine zA ?_;refine zB (zX zJ [] [[],[],[1],[0,1,2],[0,1,2,3]] 2100 yT kr rfl ?_);refine zF ?_;refine zQ _ (refLength_ok (zU h v) hra) rfl ?_;refine zF ?_;refine zQ _ (yH0 _ _ i.natAbs (rgO (zU h v)).cnt.2 om om) rfl ?_;refine zF ?_;refine zC (zA (zW rfl (fun c20=>?_) (fun c20=>?_)))
       ·have c20:i<rlO (zU h v):=by
         have h9:=c20;rw[yC0,x1]at h9;have h9:cmpI i (ZI false (rgO (zU h v)).cnt.2)<0:=by simpa using h9
         have h9:i<((rgO (zU h v)).cnt.2:Int):=cmpI_lt.1 h9;omega
        refine zX zJ [] [[],[0],[],[0,1,2],[0,1,2,3],(rgN 5),(rgN 6)] 2200 yT kr rfl ?_;refine zF ?_;refine zQ _ (tS0 (zU h v) hra) rfl ?_;refine zF ?_;refine zQ _ ((rgElement_ok (rgO (zU h v)) i.natAbs x3 x4 hid).args ⟨u6 _,u20 ⟨u7 (Ca om),u6 _,trivial⟩,trivial⟩) rfl ?_;refine zF ?_;refine zQ _ (Whole7b_ok _ _ (by have:=rgEl_sz x3 x4 hid;omega)) rfl ?_;refine zF ?_;refine zQ _ (jO _) rfl ?_;refine zf (zN ?_);have e9:nuV (rA (zU h v)+rC (zU h v)*i)=ivV (rgEl (rgO (zU h v)) i.natAbs).1 (rgEl (rgO (zU h v)) i.natAbs).2:=by rw[rgEl_nu,show((i.natAbs:Nat):Int)=i by omega]
        have e:elmR h v z i=_:=(Ab c18).trans ((Ab c20).trans (congrArg vlS e9));exact qI ⟨c14⟩ ⟨yG,⟨⟨rfl,by rw[e];first|exact SubL.same rfl|(repeat(first|exact trivial|exact u0 _|exact u17|exact rfl|refine⟨?_,?_⟩))⟩,yE⟩,rfl,rfl⟩
       ·have c20:¬i<rlO (zU h v):=by
         intro h8;have h9:=c20;rw[yC0,x1]at h9;have h7:=cmpI_lt.2 (show i<((rgO (zU h v)).cnt.2:Int) by omega);have h7:cmpI i (ZI false (rgO (zU h v)).cnt.2)<0:=h7;simp at h9;omega
        refine zL (zN ?_);have e:elmR h v z i=_:=(Ab c18).trans (Aa c20);exact qI ⟨c14⟩ ⟨yG,⟨⟨rfl,by rw[e];first|exact SubL.same rfl|(repeat(first|exact trivial|exact u0 _|exact u17|exact rfl|refine⟨?_,?_⟩))⟩,yE⟩,rfl,rfl⟩
      ·
       refine zB (zX zJ [] [[],[0],[0,1],[],[3],[3,4],[3,4,5],(rgN 7),(rgN 8)] 2000 yT kr rfl ?_);repeat(first|refine zH ?_|refine qC1 ?_)
       refine qC _ ((Elements_ok h v hh hin).fn (d:=vl0)) rfl rfl ?_;repeat(first|refine zH ?_|refine qC1 ?_)
       refine zC (zA (zK 2100 ?_));refine zW rfl (fun c12=>?_) (fun c12=>?_)
       ·have c12:i<((elS h v).length:Nat):=Ag c12;refine zE zJ [] 2200 rfl ?_;repeat(first|refine zH ?_|refine xI1 ?_)
        refine zQ _ (jO _) rfl ?_;repeat(first|refine zH ?_|refine xI1 ?_)
        refine zC (zN ?_);have e:elmR h v z i=_:=(Aa c18).trans ((yB1 hi hzz).1 c12);exact qI ⟨c14⟩ ⟨yG,⟨⟨rfl,by rw[e];first|exact SubL.same rfl|(repeat(first|exact trivial|exact u0 _|exact u17|exact rfl|refine⟨?_,?_⟩))⟩,yE⟩,rfl,rfl⟩
       ·have c12:¬i<((elS h v).length:Nat):=of_decide_eq_false c12;refine zL (zN ?_);have e:elmR h v z i=_:=(Aa c18).trans ((yB1 hi hzz).2 c12);exact qI ⟨c14⟩ ⟨yG,⟨⟨rfl,by rw[e];first|exact SubL.same rfl|(repeat(first|exact trivial|exact u0 _|exact u17|exact rfl|refine⟨?_,?_⟩))⟩,yE⟩,rfl,rfl⟩
   have c14:=j.down;refine zB (zK 2500 ?_);refine zY (fun c22=>?_) (fun c22=>?_)
   ·
    refine zX zJ [] mK21 2600 yT kr rfl ?_;repeat(first|refine zH ?_|refine xH1 ?_)
    refine zC (zA (zK 2700 ?_));refine zM ?_;rw[show nxG h v z i=_ from Aa c14,show nxJ h v z i=_ from(Aa c14).trans (Ab c22)];exact u11 2 rfl rfl (Sub.ofP (u20 (SubPs.refl _)) rfl rfl) ⟨⟨rfl,Sub.mo (by simp),rfl,trivial⟩,SubO.mp (mD0 (by rw[hst2];rfl)),trivial⟩
   ·
    refine zX zJ [] mK22 2600 yT kr rfl ?_;repeat(first|refine zH ?_|refine xH1 ?_)
    refine zC (zA (zK 2700 ?_));refine zM ?_;rw[show nxG h v z i=_ from Aa c14,show nxJ h v z i=_ from(Aa c14).trans (Aa c22)];exact u11 2 rfl rfl (Sub.ofP (u20 (SubPs.refl _)) rfl rfl) ⟨⟨rfl,Sub.mo (by simp),rfl,trivial⟩,SubO.mp (mD0 (by rw[hst2];rfl)),trivial⟩
end Go.Proofs.YtpmjepoceakikaaGreatDoor
