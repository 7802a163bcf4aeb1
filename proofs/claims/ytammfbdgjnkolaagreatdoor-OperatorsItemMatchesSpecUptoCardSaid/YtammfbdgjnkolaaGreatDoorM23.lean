/-Part 23 of the proof. -/
import Derived.Test.YtammfbdgjnkolaaGreatDoorM22
namespace Go.Proofs.YtammfbdgjnkolaaGreatDoor
open Go.RowKit
variable{md me:Bool}
theorem FnG.mw{P:Program}{f:FuncId}{k q i i' sz n n':Nat}{r:List D}{own own':List DOwn}{out:D}(h:FnG P f (.mw k q i sz n::r) own out own')(h1:i'=i)(h2:n'=n):FnG P f (.mw k q i' sz n'::r) own out own':=by
 subst h1;subst h2;exact h
theorem limN_zero{q m X:Nat}(h:X<4294967296^m):(limN q X).getD m 0=0:=by
 have h1:=vP (limN q X) m;have h2:=qH1 (bC q X) m;have h3:VL (limN q X)<4294967296^m:=by
  rcases Br X (4294967296^q)with h4|h4
  ·rw[bK0 h4];exact h
  ·have h5:=L_lt (bC q X);rw[gE]at h5;omega
 rw[Ei h3]at h2;omega
theorem set_self{l:List Nat}{i v:Nat}(h:l.getD i 0=v):l.set i v=l:=by
 apply List.ext_getElem?;intro j;rw[List.getElem?_set];split
 ·rename_i e;subst e;split
  ·rename_i hl;rw[<-h,Af,Ac hl];rfl
  ·rename_i hl;rw[Cz om]
 ·rfl
theorem cut_rows{U:List Nat}{q n:Nat}(h:n<=q):List.take (((n:Nat):Int).toNat-Int.toNat 0) (List.drop (Int.toNat 0) (List.take q (List.drop 0 (MR.map U uD 0).rows)))=(U.take n).map uD:=by
 show List.take (n-0) (List.take q (U.map uD))=_;rw[List.take_take,Nat.sub_zero,De h,Eg]
def shN(b:Nat):Nat:=32-blN ((lim b).getD ((lim b).length-1) 0)
theorem shN_facts{b:Nat}(h0:0<(lim b).length):shN b<32/\(lim (b*2^shN b)).length=(lim b).length/\2147483648*4294967296^((lim b).length-1)<=b*2^shN b:=by
 obtain⟨m,hm⟩:∃m,(lim b).length=m+1:=⟨(lim b).length-1,by omega⟩;have ht:=jY0 (x:=b) h0;have hl:=qG (yV b) ((lim b).length-1);have hv:=bO0 (l:=lim b) (n:=m) hm;have hlow:=L_lt (Lg.take (yV b) m);rw[As,De om]at hlow;rw[vF]at hv;unfold shN;rw[hm,Nat.add_sub_cancel]at ht hl⊢;obtain⟨p1,p2⟩:=blN_pow (x:=(lim b).getD m 0) om hl;have hb:=vQ1 ((lim b).getD m 0);generalize (lim b).getD m 0=t at*;generalize blN t=k at*;generalize VL ((lim b).take m)=r at*;have hk:0<k:=by
  rcases Bz k with h|h
  ·subst h;rw[Nat.pow_zero]at p2;omega
  ·exact h
 have hP:2^k*2^(32-k)=4294967296:=by rw[<-Eo,show k+(32-k)=32 by omega]
 have hp0:0<2^(32-k):=Nat.pow_pos de;have hB:0<4294967296^m:=Nat.pow_pos de;have u1:b<4294967296^m*(t+1):=by rw[Bv];omega
 have u2:b*2^(32-k)<4294967296^(m+1):=by
  have e1:b*2^(32-k)<4294967296^m*(t+1)*2^(32-k):=Nat.mul_lt_mul_of_pos_right u1 hp0;have e2:(t+1)*2^(32-k)<=2^k*2^(32-k):=Bh _ p2;rw[hP]at e2;have e3:4294967296^m*((t+1)*2^(32-k))<=4294967296^m*4294967296:=Cv _ e2;rw[Bp]at e1;rw[By];omega
 have u3:2147483648*4294967296^m<=b*2^(32-k):=by
  have e1:4294967296^m*t*2^(32-k)<=b*2^(32-k):=Bh _ om;have e2:2^k*2^(32-k)<=2*t*2^(32-k):=Bh _ p1;rw[hP,Bp]at e2;have e3:4294967296^m*2147483648<=4294967296^m*(t*2^(32-k)):=Cv _ om;rw[Bp]at e1;rw[Aw];omega
 refine⟨by omega,?_,u3⟩;have l1:=qV u2;have l2:=qF (x:=b) (y:=b*2^(32-k)) (Nat.le_mul_of_pos_right _ hp0);omega
theorem gX{P:Program}{E:Pn}{K:DS->Prop}{p:Prop}{r:Out}(hr:r.sat P E K)(hp:p:=by first|exact trivial|omega|exact⟨by decide,by omega,by simp only[As,Bk,MR.len_rows,<-hmU,Nat.sub_zero,Nat.min_self];omega⟩|exact ini om om|exact⟨hmo,by rw[<-hmo];omega⟩|exact⟨hmo,by omega⟩|(constructor<;>omega)|(refine⟨?_,?_,?_⟩<;>omega)|(refine⟨?_,?_,?_,?_⟩<;>omega)|exact Fa):(Out.need p r).sat P E K:=⟨hp,hr⟩
theorem natDivide_ok(a b:Nat)(ha:(lim a).length<=100000)(hn:2<=(lim b).length)(hle:(lim b).length<=(lim a).length):Fx 279 [usD (lim a),usD (lim b)] (.tup [usD (lim (a/b)),usD (lim (a%b))]):=by
 obtain⟨hs,hsl,hst⟩:=shN_facts (b:=b) om;have hn1:(((lim b).length:Int)-1).toNat=(lim b).length-1:=by omega
 have hsp:2^shN b<=2147483648:=by have h:=Bb (show 0<2 by decide) (show shN b<=31 by omega);simpa using h
 have gv:=yV (b*2^shN b);have hLa:=mG a;have hXl:(a*2^shN b)<4294967296^((lim a).length+1):=by rw[By];exact Nat.mul_lt_mul_of_lt_of_le hLa om de
 have hvt:0<(lim (b*2^shN b)).getD ((lim b).length-1) 0:=by have:=jY0 (x:=(b*2^shN b)) (by omega);rw[hsl]at this;omega
 have htl:=top_lt (a:=a) (b:=(b*2^shN b)) (s:=shN b) (n:=(lim b).length) (m:=((lim a).length+1-(lim b).length)) (L:=(lim a).length) hLa om om hsp hst;have hml:=qV hXl;refine yD zJ Tryz.func279 rfl rfl rfl rfl rfl rfl ?_;intros;refine zB (zE zJ [] 100 rfl ?_);repeat(first|refine zH ?_|refine gX ?_)
 refine zC (zA ?_);refine zB (zE zJ [] 200 rfl ?_);repeat(first|refine zH ?_|refine gX ?_)
 refine zC (zA ?_);refine zB (zE zJ [] 300 rfl ?_);repeat(first|refine zH ?_|refine gX ?_)
 refine zQ _ (Lz32_ok _ (qG (yV b) _)) rfl ?_;repeat(first|refine zH ?_|refine gX ?_)
 refine zC (zA ?_);refine yL [0,1,6] [] 310 [(7,.v (.int .i64 (shN b:Nat)))] [] ?_;refine⟨⟨⟨u21 (by rw[hn1];rfl),yG⟩,yF,rfl,rfl⟩,?_⟩;refine zB (zE zJ [1025] 400 rfl ?_);repeat(first|refine zH ?_|refine gX ?_)
 refine zQ _ (natLeft_ok b (shN b) om om) rfl ?_;repeat(first|refine zH ?_|refine gX ?_)
 refine yO _ _ (natLeft_G a (shN b) om hs) rfl ?_;repeat(first|refine zH ?_|refine gX ?_)
 refine zC (zA (zB (zP ?_)));refine yC (ι:={m:Nat//(lim (a*2^shN b)).length<=m/\m<=((lim a).length+1)}) [0,6,7,8] [] 450 (fun x=>[(9,.mw 315 ((lim a).length+1) 0 1 x.1)]) (fun x=>[(315,.mrow 91 1 (.map (limN ((lim a).length+1) (a*2^shN b)) uD 0))]) (fun x=>((lim a).length+1)-x.1) ⟨(lim (a*2^shN b)).length,Ar _,hml⟩ ?_;refine⟨⟨yG,yF,rfl,rfl⟩,fun x=>?_⟩;have hx1:=x.2.1;have hx2:=x.2.2;refine zB ?_;refine zB (zE zJ [] 500 rfl ?_);repeat(first|refine zH ?_|refine gX ?_)
 refine zC (zA (zZ (fun c4=>?_) (fun c4=>?_)))
 ·
  refine zM (zA (zP ?_));refine zE zJ [] 600 rfl ?_;repeat(first|refine zH ?_|refine zW (by first|exact⟨by rw[MR.len,gE],by omega⟩|(rw[MR.len,gE])|first|exact trivial|omega|exact⟨by decide,by omega,by simp only[As,Bk,MR.len_rows,<-hmU,Nat.sub_zero,Nat.min_self];omega⟩|exact ini om om|exact⟨hmo,by rw[<-hmo];omega⟩|exact⟨hmo,by omega⟩|(constructor<;>omega)|(refine⟨?_,?_,?_⟩<;>omega)|(refine⟨?_,?_,?_,?_⟩<;>omega)|exact Fa) ?_)
  refine zC (zN ?_);exact zS ⟨x.1+1,by omega,by omega⟩ ⟨⟨Sub.mw rfl rfl rfl,yG⟩,⟨SubO.mr (by have hz:(a*2^shN b)<4294967296^x.1:=Bt (mG _) (Bb de hx1);show(List.map uD (limN ((lim a).length+1) (a*2^shN b))).set x.1 (uD 0)=List.map uD (limN ((lim a).length+1) (a*2^shN b));rw[<-List.map_set,set_self (limN_zero hz)]),yF⟩,rfl,rfl⟩ (by show((lim a).length+1)-(x.1+1)<((lim a).length+1)-x.1;omega)
 ·
  refine yE (yA (yB (zY (zA ?_))));refine yL [6,7,8] [] 510 [(9,.mw 315 ((lim a).length+1) 0 1 ((lim a).length+1))] [(315,.mrow 91 1 (.map (limN ((lim a).length+1) (a*2^shN b)) uD 0))] ?_;refine⟨⟨⟨Sub.mw rfl rfl (by have:=x.2.2;omega),yG⟩,yF,rfl,rfl⟩,?_⟩;refine zB (zE zJ [1038] 700 rfl ?_);repeat(first|refine zH ?_|refine gX ?_)
  refine zC (zA ?_);refine yL [6,7,8,9] [315] 710 [(10,.mo 514 ((lim a).length+1-(lim b).length))] [(514,.mrow 91 1 (.map (List.replicate ((lim a).length+1-(lim b).length) 0) uD 0))] ?_;refine⟨⟨⟨Sub.mo om,yG⟩,⟨SubO.mr (by rw[qP1];congr 3;omega),yF⟩,rfl,rfl⟩,?_⟩;refine zB ?_;refine zB (zE zJ [] 800 rfl ?_);repeat(first|refine zH ?_|refine gX ?_)
  refine zC (zA (zP ?_));refine yC (ι:=DvL (limN ((lim a).length+1) (a*2^shN b)) (lim (b*2^shN b)) ((lim a).length+1-(lim b).length) (lim b).length) [6,7,8,9,10] [] 850 (fun y=>[(11,.v (.int .i64 ((y.k:Int)-1)))]) (fun y=>[(315,.mrow 91 1 (.map y.U uD 0)),(514,.mrow 91 1 (.map y.o uD 0))]) (fun y=>y.k) (DvL.start (by rw[gE];omega) (bC _ _) (by rw[vF];exact htl)) ?_;refine⟨⟨⟨u21 (by show _=((((lim a).length+1-(lim b).length):Nat):Int)-1;omega),yG⟩,yF,rfl,rfl⟩,fun y=>?_⟩;have hyk:=y.le;have hyU:=y.hU;have hyo:=y.ho;have hkt:((y.k:Int)-1).toNat=y.k-1:=by omega
  have hmo:((lim a).length+1-(lim b).length)=(MR.map y.o uD 0).len:=by rw[MR.len,hyo]
  have hmU:((lim a).length+1)=(MR.map y.U uD 0).len:=by rw[MR.len,hyU];omega
  refine zB ?_;refine zB (zE zJ [] 900 rfl ?_);repeat(first|refine zH ?_|refine gX ?_)
  refine zC (zA (zZ (fun c8=>?_) (fun c8=>?_)))
  ·
   refine zM (zA (zB (zP ?_)));refine zE zJ [1058] 1100 rfl ?_;repeat(first|refine zH ?_|refine gX ?_)
   refine yO _ _ ((natDigit_G y.U (lim (b*2^shN b)) ((lim a).length+1) (y.k-1) (lim b).length (by rw[y.hU];omega) om hsl hn y.gU gv hvt (y.facts gv hsl om).2.1 om).mw om om) rfl ?_;repeat(first|refine zH ?_|refine gX ?_)
   refine zC (zN (zA ?_));refine zE zJ [] 1200 rfl ?_;repeat(first|refine zH ?_|refine gX ?_)
   refine zC ?_;exact zS (y.next gv hsl om) ⟨⟨u21 (by show(y.k:Int)-1-1=((y.k-1:Nat):Int)-1;omega),yG⟩,⟨SubO.mr (by show List.map uD (wnC y.U (y.k-1) _)=List.map uD y.R;rw[wnC_drop (n:=(lim b).length) om (gE _ _)];rfl),SubO.mr (by rw[hkt];exact tK _ _ _),yF⟩,rfl,rfl⟩ (by show y.k-1<y.k;omega)
  ·
   refine yE (yA (yB (zY (zA ?_))));refine qT 514 rfl (by repeat(first|exact trivial|exact hmo|exact⟨hmU,rfl⟩|refine⟨?_,?_⟩)) (by repeat(first|exact trivial|refine⟨?_,?_⟩)) ?_;refine qT 315 rfl (by repeat(first|exact trivial|exact hmo|exact⟨hmU,rfl⟩|refine⟨?_,?_⟩)) (by repeat(first|exact trivial|refine⟨?_,?_⟩)) ?_;refine zB (zX zJ [] [[],[0],[],[],[2,3],(rgN 5),[],(rgN 7),(rgN 8),(rgN 9)] 1200 yP kr rfl ?_);repeat(first|refine zH ?_|refine gX ?_)
   refine zQ _ ((jK y.o y.go om).args ⟨SubP.ownSl rfl,trivial⟩) rfl ?_;repeat(first|refine zH ?_|refine gX ?_)
   refine zQ _ ((jK (y.U.take (lim b).length) (y.gU.take _) (by rw[As];omega)).args ⟨u18 (cut_rows om),trivial⟩) rfl ?_;repeat(first|refine zH ?_|refine gX ?_)
   refine zQ _ (natRight_ok _ (shN b) (by refine At (qV (L_lt (y.gU.take _))) (by rw[As];omega)) om) rfl ?_;repeat(first|refine zH ?_|refine gX ?_)
   refine zC (zA (zL ?_));obtain⟨e1,e2⟩:=y.fin om gv hsl;rw[bK0 hXl,vF]at e1 e2;rw[sh_div]at e1;exact u4 rfl (u19 ⟨u9 (by rw[e1]),u9 (by rw[e2,sh_mod]),trivial⟩)
theorem bW{x y q r:Int}(h:r+y*q=x)(hr:(0<y/\0<=r/\r<y)\/(y<0/\r<=0/\y<r)):Int.fdiv x y=q:=by
 rcases hr with⟨h0,h1,h2⟩|⟨h0,h1,h2⟩
 ·rw[Ep _ om];exact((Int.ediv_emod_unique h0).2 ⟨h,h1,h2⟩).1
 ·have e:Int.fdiv x y=Int.fdiv (-x) (-y):=by simp
  rw[e,Ep _ om];refine((Int.ediv_emod_unique (r:= -r) om).2 ⟨?_,by omega,by omega⟩).1;rw[Int.neg_mul];omega
variable{md me:Bool}
theorem jT0{b:Nat}(h:(lim b).length=1):(lim b).getD 0 0=b:=by
 have h1:=bO0 (l:=lim b) (n:=0) h;rw[vF,Nat.pow_zero,Nat.one_mul]at h1;simpa[VL]using h1.symm
theorem lim_one_r(r:Nat):VL [r]=r:=by rw[uU,xU0];rfl
theorem gE1{P:Program}{E:Pn}{K:DS->Prop}{p:Prop}{r:Out}(hr:r.sat P E K)(hp:p:=by first|exact⟨by decide,by show 0<_;omega⟩|exact Fa):(Out.need p r).sat P E K:=⟨hp,hr⟩
theorem natDivMod0_ok(a b:Nat)(ha:(lim a).length<=100000)(hb:(lim b).length<=100000)(h0:0<b):Fx 265 [usD (lim a),usD (lim b)] (.tup [usD (lim (a/b)),usD (lim (a%b))]):=by
 have hneg:=dU0 a b;have hbp:0<(lim b).length:=Db.2 (fun h=>by rw[lim_nil]at h;omega);refine yD zJ Tryz.func265 rfl rfl rfl rfl rfl rfl ?_;intros;refine zK 100 ?_;refine zB ?_;refine zB (zE zJ [] 200 rfl ?_);refine zF ?_;refine zQ _ (gC a b om om) rfl ?_;refine zF ?_;refine zC (zA (zZ (fun c1=>?_) (fun c1=>?_)))
 ·
  refine zB (zE zJ [13] 300 rfl ?_);refine zF ?_;refine jJ _ _ _ (yQ0 (lim a) om) ?_;refine zf (zA (zL (zO ?_)));exact u4 rfl (u19 ⟨by rw[Ei (hneg.1 om),qI];exact u12 rfl,SubP.ownSl (by rw[Dr (hneg.1 om)]),trivial⟩)
 ·
  refine zM (zA (zB (zK 400 ?_)));refine zZ (fun c3=>?_) (fun c3=>?_)
  ·
   refine zB (zE zJ [] 500 rfl ?_);repeat(first|refine zH ?_|refine gE1 ?_)
   refine zQ _ (natShort_ok a ((lim b).getD 0 0) om (by have e:=jT0 (b:=b) om;omega) (qG (yV b) _)) rfl ?_;repeat(first|refine zH ?_|refine gE1 ?_)
   refine zC (zA ?_);refine zB (zE zJ [] 600 rfl ?_);refine zF ?_;refine zQ _ ((jK [a%(lim b).getD 0 0] (fun x hx=>by have e:=Cc.1 hx;subst e;exact Bt (Cx _ (by have e:=jT0 (b:=b) om;omega)) (Dn (qG (yV b) _))) (by show 1<=100000000;omega)).args ⟨u18 rfl,trivial⟩) rfl ?_;refine zf (zA (zL (zO ?_)));have e:=jT0 (b:=b) om;exact u4 rfl (u19 ⟨u9 (by rw[e]),u9 (by rw[e,lim_one_r]),trivial⟩)
  ·
   refine zM (zA ?_);refine zB (zE zJ [] 700 rfl ?_);refine zF ?_;refine zQ _ (natDivide_ok a b om om (qF om)) rfl ?_;refine zf (zA (zL ?_));exact u4 rfl (u6 _)
theorem natDivMod_ok(a b:Nat)(ha:(lim a).length<=600)(hb:(lim b).length<=600)(h0:0<b):Fx 248 [usD (lim a),usD (lim b)] (.tup [usD (lim (a/b)),usD (lim (a%b)),faD 0 0]):=by
 have hbp:0<(lim b).length:=Db.2 (fun h=>by rw[lim_nil]at h;omega);refine yD zJ Tryz.func248 rfl rfl rfl rfl rfl rfl ?_;intros;refine zK 100 ?_;refine zB ?_;refine zB (zE zJ [] 200 rfl ?_);refine zF ?_;refine zQ _ (wJ a b ha hb) rfl ?_;refine zF ?_;refine zC (zA (zK 300 ?_));refine zZ (fun c2=>?_) (fun c2=>?_)
 ·
  exact absurd c2 de
 ·
  refine zM (zA (zB (zK 500 ?_)));refine zZ (fun c4=>?_) (fun c4=>?_)
  ·
   exact absurd c4 om
  ·
   refine zM (zA ?_);refine zB (zE zJ [] 700 rfl ?_);refine zF ?_;refine zQ _ (natDivMod0_ok a b om om h0) rfl ?_;refine zF ?_;refine zC (zA (zK 800 ?_));refine zL ?_;exact u4 rfl (u6 _)
def dmQ(s t:Bool)(x y:Nat):Nat:=if s≠t/\0<x%y then x/y+1 else x/y
def dmR(s t:Bool)(x y:Nat):Nat:=if s≠t/\0<x%y then y-x%y else x%y
theorem dm_Z{s t:Bool}{x y:Nat}(hy:0<y):ZI (s !=t) (dmQ s t x y)=Int.fdiv (ZI s x) (ZI t y)/\ZI t (dmR s t x y)=Int.fmod (ZI s x) (ZI t y):=by
 have hm:=Cx x hy;have hd:=Dd x y;have key:∀q r:Int,r+ZI t y*q=ZI s x->((0<ZI t y/\0<=r/\r<ZI t y)\/(ZI t y<0/\r<=0/\ZI t y<r))->q=Int.fdiv (ZI s x) (ZI t y)/\r=Int.fmod (ZI s x) (ZI t y):=by
  intro q r h1 h2;have h3:=bW h1 h2;refine⟨h3.symm,?_⟩;have h4:=Int.mul_fdiv_add_fmod (ZI s x) (ZI t y);rw[h3]at h4;omega
 refine key _ _ ?_ ?_
 ·unfold dmQ dmR;generalize x%y=r at*;generalize x/y=q at*;have hq:(y:Int)*((q:Nat):Int)+(r:Int)=(x:Int):=by rw[<-Int.natCast_mul,<-Int.natCast_add,hd]
  cases s<;>cases t<;>unfold ZI<;>simp only[ne_eq,not_true_eq_false,false_and,if_false,not_false_eq_true,true_and,reduceCtorEq,if_true,Az,bne_self_eq_false,show(false !=true)=true from rfl,show(true !=false)=true from rfl]
  ·omega
  ·by_cases hr:0<r
   ·rw[Ab hr,Ab hr]
    push_cast
    simp only[Int.neg_mul,Int.mul_neg,Int.neg_neg,Int.mul_add,Int.mul_one];omega
   ·rw[Aa hr,Aa hr];simp only[Int.neg_mul,Int.mul_neg,Int.neg_neg];omega
  ·by_cases hr:0<r
   ·rw[Ab hr,Ab hr]
    push_cast
    simp only[Int.neg_mul,Int.mul_neg,Int.neg_neg,Int.mul_add,Int.mul_one];omega
   ·rw[Aa hr,Aa hr];simp only[Int.neg_mul,Int.mul_neg,Int.neg_neg];omega
  ·simp only[Int.neg_mul,Int.mul_neg,Int.neg_neg];omega
 ·unfold dmR;generalize x%y=r at*
  cases s<;>cases t<;>unfold ZI<;>simp only[ne_eq,not_true_eq_false,false_and,if_false,not_false_eq_true,true_and,reduceCtorEq,if_true,Az,bne_self_eq_false,show(false !=true)=true from rfl,show(true !=false)=true from rfl]
  ·omega
  ·by_cases hr:0<r
   ·rw[Ab hr];omega
   ·rw[Aa hr];omega
  ·by_cases hr:0<r
   ·rw[Ab hr];omega
   ·rw[Aa hr];omega
  ·omega
theorem dO0{s t:Bool}{x y:Nat}(hy:0<y):dmQ s t x y<=x:=by
 unfold dmQ;have h1:=Dd x y;have h2:=Cx x hy;split
 ·rename_i h;have h3:1<y:=by omega
  rcases Bz (x/y)with h4|h4
  ·omega
  ·have h5:2*(x/y)<=y*(x/y):=Bh _ h3;omega
 ·exact Er _ _
theorem yQ1{s t:Bool}{x y:Nat}(hy:0<y):dmR s t x y<=y:=by
 unfold dmR;have h2:=Cx x hy;split<;>omega
variable{md me:Bool}
theorem jP1:lim 1=[1]:=by rw[xD (by decide),show 1/4294967296=0 by decide,qI]
theorem gH(b:Bool)(n:Nat)(h:(lim n).length<=128):Fx 247 [.v (.bool b),usD (lim n)] (.tup [.agg (zV (ZI b n)),faD 0 0]):=by
 have:=vW b (lim n);rw[sg_z h]at this;exact this
theorem len_posL{n:Nat}(h:0<((lim n).length:Int)):0<n:=by
 rcases Bz n with h0|h0
 ·subst h0;rw[qI]at h;exact absurd h de
 ·exact h0
theorem len_nposL{n:Nat}(h:¬0<((lim n).length:Int)):n=0:=by
 rcases Bz n with h0|h0
 ·exact h0
 ·have:(lim n)≠[]:=fun e=>by rw[lim_nil]at e;omega
  have:=Db.2 this;omega
theorem dm_T{s t:Bool}{x y:Nat}(h:(s !=t)=true/\0<((lim (x%y)).length:Int)):dmQ s t x y=x/y+1/\dmR s t x y=y-x%y:=by
 have h1:s≠t:=by simpa using h.1
 have h2:=len_posL h.2;exact⟨by rw[dmQ,Ab ⟨h1,h2⟩],by rw[dmR,Ab ⟨h1,h2⟩]⟩
theorem dm_F{s t:Bool}{x y:Nat}(h:((s !=t)&&decide (0<((lim (x%y)).length:Int)))=false):dmQ s t x y=x/y/\dmR s t x y=x%y:=by
 have h1:¬(s≠t/\0<x%y):=by
  rintro⟨h1,h2⟩;have h3:(s !=t)=true:=by simpa using h1
  rw[h3,Dm,Ay]at h;have:=len_nposL h;omega
 exact⟨by rw[dmQ,Aa h1],by rw[dmR,Aa h1]⟩
theorem wL{x y:Nat}(h:x<=y)(hy:(lim y).length<=128):(lim x).length<=128:=At (qF h) hy
theorem intDivMod_ok(a b:Int)(ha:(lim a.natAbs).length<=128)(hb:(lim b.natAbs).length<=128)(h0:b≠0):Fx 234 [.agg (zV a),.agg (zV b)] (.tup [.agg (zV (Int.fdiv a b)),.agg (zV (Int.fmod a b)),faD 0 0]):=by
 have hy:0<b.natAbs:=by omega
 obtain⟨d1,d2⟩:=dm_Z (s:=(decide (a<0))) (t:=(decide (b<0))) (x:=a.natAbs) hy;rw[bO,bO]at d1 d2;have hQ:a.natAbs/b.natAbs<=a.natAbs:=Er _ _;have hR:a.natAbs%b.natAbs<=b.natAbs:=Dn (Cx _ hy);refine yD zJ Tryz.func234 rfl rfl rfl rfl rfl rfl ?_;intros;refine zK 100 ?_;refine zB ?_;refine zB (zE zJ [] 200 rfl ?_);refine zF ?_;refine zQ _ ((vL [(decide (a<0),lim a.natAbs),(decide (b<0),lim b.natAbs)] (zOks ha hb) (by show 2<=100;omega)).args ⟨u18 rfl,trivial⟩) rfl ?_;refine zF ?_;refine zC (zA (zK 300 ?_));refine zZ (fun c2=>?_) (fun c2=>?_)
 ·
  exact absurd c2 de
 ·
  refine zM (zA ?_);refine zB (zE zJ [] 500 rfl ?_);refine zF ?_;refine zQ _ (natDivMod_ok a.natAbs b.natAbs om om hy) rfl ?_;refine zF ?_;refine zC (zA (zB (zK 600 ?_)));refine zZ (fun c5=>?_) (fun c5=>?_)
  ·
   exact absurd c5 de
  ·
   refine zM (zA (zB (zK 800 ?_)));refine zZ (fun c7=>?_) (fun c7=>?_)
   ·
    obtain⟨hqe,hre⟩:=dm_T c7;refine zB (zE zJ [] 900 rfl ?_);refine zF ?_;refine zQ _ ((wJ0 _ 1 (by have:=wL hQ ha;omega) (by rw[jP1];decide) (by have:=wL (x:=a.natAbs/b.natAbs+1) (by rw[<-hqe];exact dO0 hy) ha;omega)).args ⟨u6 _,u18 (by rw[jP1];rfl),trivial⟩) rfl ?_;refine zf (zA ?_);refine zE zJ [] 1000 rfl ?_;refine zF ?_;refine zQ _ (zG0 _ _ om (by have:=wL hR hb;omega) hR) rfl ?_;refine zf (zA ?_);refine zB (zE zJ [] 1100 rfl ?_);refine zF ?_;refine zQ _ (gH _ (a.natAbs/b.natAbs+1) (wL (by first|exact hQ|(rw[<-hqe];exact dO0 hy)) ha)) rfl ?_;refine zF ?_;refine zC (zA (zB (zK 1200 ?_)));refine zZ (fun c11=>?_) (fun c11=>?_)
    ·
     exact absurd c11 de
    ·
     refine zM (zA ?_);refine zB (zE zJ [] 1400 rfl ?_);refine zF ?_;refine zQ _ (gH _ (b.natAbs-a.natAbs%b.natAbs) (wL (by first|exact hR|(rw[<-hre];exact yQ1 hy)) hb)) rfl ?_;refine zf (zA ?_);refine zB (zX zJ [] [[],[],[],[0],[0,1,3],(rgN 5)] 1500 yP kr rfl ?_);refine zf (zA (zL ?_));exact u4 rfl (u19 ⟨u9 (by rw[<-hqe];exact congrArg (fun z=>D.agg (zV z)) d1),u9 (by rw[<-hre];exact congrArg (fun z=>D.agg (zV z)) d2),u6 _,trivial⟩)
   ·
    refine zM (zA ?_);refine zB (zE zJ [] 1100 rfl ?_);refine zF ?_;refine zQ _ (gH _ (a.natAbs/b.natAbs) (wL (by first|exact hQ|(rw[<-hqe];exact dO0 hy)) ha)) rfl ?_;refine zF ?_;refine zC (zA (zB (zK 1200 ?_)));refine zZ (fun c11=>?_) (fun c11=>?_)
    ·
     exact absurd c11 de
    ·
     refine zM (zA ?_);refine zB (zE zJ [] 1400 rfl ?_);refine zF ?_;refine zQ _ (gH _ (a.natAbs%b.natAbs) (wL (by first|exact hR|(rw[<-hre];exact yQ1 hy)) hb)) rfl ?_;refine zf (zA ?_);refine zB (zX zJ [] [[],[],[],[0],[0,1,3],(rgN 5)] 1500 yP kr rfl ?_);refine zf (zA (zL ?_));obtain⟨hqe,hre⟩:=dm_F c7;exact u4 rfl (u19 ⟨u9 (by rw[<-hqe];exact congrArg (fun z=>D.agg (zV z)) d1),u9 (by rw[<-hre];exact congrArg (fun z=>D.agg (zV z)) d2),u6 _,trivial⟩)
theorem zF1{n:Int}(h1: -9223372036854775808<=n)(h:n<0):IntKind.u64.wrap (0-IntKind.u64.wrap n)=((n.natAbs:Nat):Int):=by
 simp only[IntKind.wrap,IntKind.signed,IntKind.bits,Ch,Az,if_false];omega
theorem zE1{n:Int}(h2:n<=9223372036854775807)(h:¬n<0):IntKind.u64.wrap n=((n.natAbs:Nat):Int):=by
 simp only[IntKind.wrap,IntKind.signed,IntKind.bits,Ch,Az,if_false];omega
theorem gS1{m:Nat}(h:m<18446744073709551616):Lg [m%4294967296,m/4294967296]:=fun x hx=>by
 rcases Bi.1 hx with rfl|hx
 ·exact Cx _ de
 ·rw[Cc]at hx;subst hx;omega
theorem of_V(m:Nat):VL [m%4294967296,m/4294967296]=m:=by rw[uU,uU,xU0];omega
theorem zD1{e:Int}{m:Nat}(h:e=(m:Int))(hm:m<18446744073709551616):[[D.v (.int .u32 (IntKind.u32.wrap e))],[D.v (.int .u32 (IntKind.u32.wrap (Int.fdiv e (2^min (Int.toNat 32) IntKind.u64.bits))))]]=[m%4294967296,m/4294967296].map uD:=by
 rw[lo32 h,hi32 h,w32n om];rfl
theorem tV(n:Int)(h1: -9223372036854775808<=n)(h2:n<=9223372036854775807):Fx 213 [.v (.int .i64 n)] (.agg (zV n)):=by
 have hm:n.natAbs<18446744073709551616:=by omega
 refine yD zJ Tryz.func213 rfl rfl rfl rfl rfl rfl ?_;intros;refine zK 100 ?_;refine zK 200 ?_;refine zB (zK 300 ?_);refine zZ (fun c2=>?_) (fun c2=>?_)
 ·
  refine yM zJ [] 400 ?_;refine zA ?_;refine yL [0,2] [0] 410 [(3,.v (.int .u64 (n.natAbs:Nat)))] [] ?_;refine⟨⟨⟨by first|exact u21 (zF1 h1 c2)|exact u21 (zE1 h2 (by omega)),yG⟩,yF,rfl,rfl⟩,?_⟩;refine zK 500 ?_;refine zB (zP ?_);refine yC (ι:=TrmL [n.natAbs%4294967296,n.natAbs/4294967296]) [0,2] [0] 550 (fun x=>[(4,.sl false 1 x.r uD 0)]) (fun _=>[]) (fun x=>x.r.length) ⟨[n.natAbs%4294967296,n.natAbs/4294967296],gS1 hm,rfl,Ar _⟩ ?_;refine⟨⟨⟨u13 (zD1 rfl hm),yG⟩,yF,rfl,rfl⟩,fun x=>?_⟩;have hk:x.r.length<=2:=x.le;refine zB (zK 600 ?_);refine zZ (fun c5=>?_) (fun c5=>?_)
  ·
   refine zM (zA (zP (yM zJ [] 700 ?_)));refine zN ?_;have h9:=c5.2;rw[bQ]at h9;exact zS (x.next (by omega) (by omega)) ⟨(by repeat(first|exact Sub.of_eq (by rw[tX0];rfl)|refine⟨?_,?_⟩|exact lx)),yF,rfl,rfl⟩ (by show(x.r.take (x.r.length-1)).length<x.r.length;rw[As];omega)
  ·
   refine yE (yA (yB (zY (zA (zK 800 ?_)))));refine zL ?_;rw[bQ]at c5;have e:x.r=lim (VL [n.natAbs%4294967296,n.natAbs/4294967296]):=x.fin (fun hp h9=>by rw[h9,Bf (show(0:Int)<(x.r.length:Nat) by omega)]at c5;exact absurd c5 de);rw[of_V]at e;exact u4 rfl (u20 ⟨u6 _,u9 (by rw[e];rfl),trivial⟩)
 ·
  refine zM (zA ?_);refine yL [0,2] [0] 310 [(3,.v (.int .u64 (n.natAbs:Nat)))] [] ?_;refine⟨⟨⟨by first|exact u21 (zF1 h1 c2)|exact u21 (zE1 h2 (by omega)),yG⟩,yF,rfl,rfl⟩,?_⟩;refine zK 500 ?_;refine zB (zP ?_);refine yC (ι:=TrmL [n.natAbs%4294967296,n.natAbs/4294967296]) [0,2] [0] 550 (fun x=>[(4,.sl false 1 x.r uD 0)]) (fun _=>[]) (fun x=>x.r.length) ⟨[n.natAbs%4294967296,n.natAbs/4294967296],gS1 hm,rfl,Ar _⟩ ?_;refine⟨⟨⟨u13 (zD1 rfl hm),yG⟩,yF,rfl,rfl⟩,fun x=>?_⟩;have hk:x.r.length<=2:=x.le;refine zB (zK 600 ?_);refine zZ (fun c5=>?_) (fun c5=>?_)
  ·
   refine zM (zA (zP (yM zJ [] 700 ?_)));refine zN ?_;have h9:=c5.2;rw[bQ]at h9;exact zS (x.next (by omega) (by omega)) ⟨(by repeat(first|exact Sub.of_eq (by rw[tX0];rfl)|refine⟨?_,?_⟩|exact lx)),yF,rfl,rfl⟩ (by show(x.r.take (x.r.length-1)).length<x.r.length;rw[As];omega)
  ·
   refine yE (yA (yB (zY (zA (zK 800 ?_)))));refine zL ?_;rw[bQ]at c5;have e:x.r=lim (VL [n.natAbs%4294967296,n.natAbs/4294967296]):=x.fin (fun hp h9=>by rw[h9,Bf (show(0:Int)<(x.r.length:Nat) by omega)]at c5;exact absurd c5 de);rw[of_V]at e;exact u4 rfl (u20 ⟨u6 _,u9 (by rw[e];rfl),trivial⟩)
def qY(c:Int):Int:=if c<0 then-1 else 1
def jC(a b c:Int):Int:=if c<0 then(if b<a then Int.fdiv (a-b+(c*qY c-1)) (c*qY c)else 0)else(if a<b then Int.fdiv (b-a+(c*qY c-1)) (c*qY c)else 0)
theorem qG0{x y k:Nat}(hx:(lim x).length<=k)(hy:(lim y).length<=k):(lim (x+y)).length<=k+1:=by
 have h1:=Bt (mG x) (Bb de hx);have h2:=Bt (mG y) (Bb de hy);refine qV ?_;rw[By];generalize 4294967296^k=B at*;omega
theorem jB{a b:Int}{k:Nat}(ha:(lim a.natAbs).length<=k)(hb:(lim b.natAbs).length<=k):(lim (a-b).natAbs).length<=k+1:=At (qF (show(a-b).natAbs<=a.natAbs+b.natAbs by omega)) (qG0 ha hb)
theorem tU{a b:Int}{k:Nat}(ha:(lim a.natAbs).length<=k)(hb:(lim b.natAbs).length<=k):(lim (a+b).natAbs).length<=k+1:=At (qF (show(a+b).natAbs<=a.natAbs+b.natAbs by omega)) (qG0 ha hb)
theorem mU0(c:Int):(c*qY c).natAbs=c.natAbs:=by unfold qY;split<;>omega
theorem lim_sg(c:Int):(lim (qY c).natAbs).length=1:=by
 have:(qY c).natAbs=1:=by unfold qY;split<;>decide
 rw[this,jP1];rfl
theorem mH:(lim (1:Int).natAbs).length=1:=by rw[show(1:Int).natAbs=1 from rfl,jP1];rfl
theorem rgSign_ok(a b c:Int):Fx 210 [.agg (rgD a b c)] (.agg (zV (qY c))):=by
 refine yD zJ Tryz.func210 rfl rfl rfl rfl rfl rfl ?_;intros;refine zK 100 ?_;refine zB (zK 200 ?_);refine zZ (fun c1=>?_) (fun c1=>?_)
 ·
  refine zB (zE zJ [] 300 rfl ?_);refine zF ?_;refine zQ _ (tV (-1) de de) rfl ?_;refine zf (zA (zL (zO ?_)));exact u4 rfl (u9 (by rw[qY,Ab (by simpa using c1)];rfl))
 ·
  refine zM (zA ?_);refine zB (zE zJ [] 400 rfl ?_);refine zF ?_;refine zQ _ (tV 1 de de) rfl ?_;refine zf (zA (zL ?_));exact u4 rfl (u9 (by rw[qY,Aa (by simpa using c1)];rfl))
theorem cX(a b:Int)(ha:(lim a.natAbs).length<=128)(hb:(lim b.natAbs).length<=128)(h0:b≠0):Fx 211 [.agg (zV a),.agg (zV b)] (.tup [.agg (zV (Int.fdiv a b)),.agg (zV (Int.fmod a b))]):=by
 refine yD zJ Tryz.func211 rfl rfl rfl rfl rfl rfl ?_;intros;refine zK 100 ?_;refine zB (zE zJ [] 200 rfl ?_);refine zF ?_;refine zQ _ (intDivMod_ok a b ha hb h0) rfl ?_;refine zf (zA ?_);refine zB (zX zJ [] [[],[],[0],[0,1,2]] 300 yP kr rfl ?_);refine zf (zA (zL ?_));exact u4 rfl (u6 _)
theorem rgLength0_ok(a b c:Int)(ha:(lim a.natAbs).length<=40)(hb:(lim b.natAbs).length<=40)(hc:(lim c.natAbs).length<=40)(h0:c≠0):Fx 180 [.agg (rgD a b c)] (.agg (zV (jC a b c))):=by
 have hsl:(lim (c*qY c).natAbs).length<=40:=by rw[mU0];exact hc
 have hs0:c*qY c≠0:=fun h=>by have:=mU0 c;rw[h]at this;omega
 refine yD zJ Tryz.func180 rfl rfl rfl rfl rfl rfl ?_;intros;refine zK 100 ?_;refine zB (zX zJ [] [[],[0],[],[2],[],[4],[],[6],[4,5,6,7],[],[],[],[0,1,4,5,6,7,8,9,10,11],(rgN 13),(rgN 14)] 200 yP kr rfl ?_);refine zF ?_;refine zQ _ (rgSign_ok a b c) rfl ?_;refine zF ?_;refine zQ _ (mY0 c (qY c) om (by rw[lim_sg];decide) om) rfl ?_;refine zF ?_;refine zC (zA (zB (zK 300 ?_)));refine zZ (fun c2=>?_) (fun c2=>?_)
 ·
  refine yM zJ [] 400 ?_;refine zA (zB ?_);refine zB (zE zJ [] 500 rfl ?_);refine zF ?_;refine zQ _ (pI b a om om) rfl ?_;refine zF ?_;refine zC (zA (zZ (fun c4=>?_) (fun c4=>?_)))
  ·
   refine zK 600 ?_;refine zL (zO ?_);exact u4 rfl (u20 ⟨u9 (by rw[jC,Ab (by simpa using c2),Aa (by simpa using c4)];rfl),by rw[jC,Ab (by simpa using c2),Aa (by simpa using c4)];rw[show(0:Int).natAbs=0 from rfl,qI];exact u12 rfl,trivial⟩)
  ·
   refine zM (zA ?_);refine zB (zX zJ [] mK17 700 yP kr rfl ?_);refine zF ?_;refine zQ _ (tM a b om om (by have:=jB ha hb;omega)) rfl ?_;refine zF ?_;refine zQ _ (tV 1 de de) rfl ?_;refine zF ?_;refine zQ _ (tM (c*qY c) 1 om (by rw[mH];decide) (by have:=jB (k:=40) (a:=(c*qY c)) (b:=1) om (by rw[mH];decide);omega)) rfl ?_;refine zF ?_;refine zQ _ (tN (a-b) ((c*qY c)-1) (by have:=jB ha hb;omega) (by have:=jB (k:=40) (a:=(c*qY c)) (b:=1) om (by rw[mH];decide);omega) (by have:=tU (jB ha hb) (jB (k:=40) (a:=(c*qY c)) (b:=1) om (by rw[mH];decide));omega)) rfl ?_;refine zF ?_;refine zQ _ (cX (a-b+((c*qY c)-1)) (c*qY c) (by have:=tU (jB ha hb) (jB (k:=40) (a:=(c*qY c)) (b:=1) om (by rw[mH];decide));omega) om hs0) rfl ?_;refine zF ?_;refine zC (zA (zK 800 ?_));refine zL ?_;exact u4 rfl (u9 (by rw[jC,Ab (by simpa using c2),Ab (by simpa using c4)];rfl))
 ·
  refine zM (zA (zB ?_));refine zB (zE zJ [] 500 rfl ?_);refine zF ?_;refine zQ _ (pI a b om om) rfl ?_;refine zF ?_;refine zC (zA (zZ (fun c4=>?_) (fun c4=>?_)))
  ·
   refine zK 600 ?_;refine zL (zO ?_);exact u4 rfl (u20 ⟨u9 (by rw[jC,Aa (by simpa using c2),Aa (by simpa using c4)];rfl),by rw[jC,Aa (by simpa using c2),Aa (by simpa using c4)];rw[show(0:Int).natAbs=0 from rfl,qI];exact u12 rfl,trivial⟩)
  ·
   refine zM (zA ?_);refine zB (zX zJ [] mK17 700 yP kr rfl ?_);refine zF ?_;refine zQ _ (tM b a om om (by have:=jB hb ha;omega)) rfl ?_;refine zF ?_;refine zQ _ (tV 1 de de) rfl ?_;refine zF ?_;refine zQ _ (tM (c*qY c) 1 om (by rw[mH];decide) (by have:=jB (k:=40) (a:=(c*qY c)) (b:=1) om (by rw[mH];decide);omega)) rfl ?_;refine zF ?_;refine zQ _ (tN (b-a) ((c*qY c)-1) (by have:=jB hb ha;omega) (by have:=jB (k:=40) (a:=(c*qY c)) (b:=1) om (by rw[mH];decide);omega) (by have:=tU (jB hb ha) (jB (k:=40) (a:=(c*qY c)) (b:=1) om (by rw[mH];decide));omega)) rfl ?_;refine zF ?_;refine zQ _ (cX (b-a+((c*qY c)-1)) (c*qY c) (by have:=tU (jB hb ha) (jB (k:=40) (a:=(c*qY c)) (b:=1) om (by rw[mH];decide));omega) om hs0) rfl ?_;refine zF ?_;refine zC (zA (zK 800 ?_));refine zL ?_;exact u4 rfl (u9 (by rw[jC,Aa (by simpa using c2),Ab (by simpa using c4)];rfl))
end Go.Proofs.YtammfbdgjnkolaaGreatDoor
