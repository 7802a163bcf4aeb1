/-Part 22 of the proof. -/
import Derived.Test.YtammfbdgjnkolaaGreatDoorM21
namespace Go.Proofs.YtammfbdgjnkolaaGreatDoor
open Go.RowKit
variable{md me:Bool}
theorem win_at{U:List Nat}{j n k:Nat}(hk:k<=n):((U.drop j).take (n+1)).getD k 0=U.getD (j+k) 0:=by
 rw[Af,Df,Ab om,Ds,Af]
theorem win_len{U:List Nat}{j n:Nat}(h:j+n+1<=U.length):((U.drop j).take (n+1)).length=n+1:=by rw[As,Bk];omega
theorem win_Lg{U:List Nat}(h:Lg U)(j n:Nat):Lg ((U.drop j).take n):=fun y hy=>h y (Dj (Cu hy))
def wnC(U:List Nat)(j:Nat)(o:List Nat):List Nat:=(U.take j++o)++U.drop (j+o.length)
theorem xW{U:List Nat}{j:Nat}{o:List Nat}(h:j+o.length<=U.length):(wnC U j o).length=U.length:=by
 unfold wnC;rw[Ae,Ae,As,Bk];omega
theorem mD0{U:List Nat}{j:Nat}{o:List Nat}(hU:Lg U)(ho:Lg o):Lg (wnC U j o):=by
 intro y hy;rcases Av.1 hy with hy|hy
 ·rcases Av.1 hy with hy|hy
  ·exact hU y (Cu hy)
  ·exact ho y hy
 ·exact hU y (Dj hy)
theorem tE0{U:List Nat}{j:Nat}:wnC U j []=U:=by unfold wnC;rw[Cr,Au,Ck,Eb]
theorem yW0{U:List Nat}{j:Nat}{o:List Nat}(h:j<=U.length):(U.take j++o).length=j+o.length:=by rw[Ae,As];omega
theorem cI{U:List Nat}{j k:Nat}{o:List Nat}(h:j<=U.length)(hk:o.length=k):(wnC U j o).getD (j+k) 0=U.getD (j+k) 0:=by
 subst hk;exact vT0 (yW0 h)
theorem qZ0{U:List Nat}{j k y:Nat}{o:List Nat}(hk:o.length=k)(h:j+k<U.length):((wnC U j o).map uD).set (j+k) (uD y)=(wnC U j (o++[y])).map uD:=by
 subst hk;have h1:=jI0 (x:=U) (o:=U.take j++o) (k:=j+o.length) (v:=y) (yW0 om) h;unfold wnC;rw[Ae,Co,<-Ed,<-Cg];exact h1
theorem wnC_drop{U:List Nat}{j n:Nat}{o:List Nat}(h:j<=U.length)(ho:o.length=n+1):wnC U j o=U.take j++o++U.drop (j+n+1):=by unfold wnC;rw[ho];rfl
theorem wnC_wnC{U:List Nat}{j n:Nat}{o y:List Nat}(h:j+n+1<=U.length)(ho:o.length=n+1)(hy:y.length=n+1):wnC (wnC U j o) j y=wnC U j y:=by
 have e:wnC U j o=U.take j++(o++U.drop (j+o.length)):=by unfold wnC;rw[Cg]
 have ht:(U.take j).length=j:=by rw[As];omega
 unfold wnC;rw[Dx (by rw[yW0 om];omega),Dx om,List.take_take,Nat.min_self,hy,List.drop_append,Bd (by rw[yW0 om,ho];omega),Dq,List.drop_drop,yW0 om,ho];congr 2;omega
theorem tF0{U:List Nat}{j n:Nat}{o:List Nat}(h:j<=U.length)(ho:o.length=n+1)(k:Nat)(hk:k<=n):(wnC U j o).getD (j+k) 0=o.getD k 0:=by
 unfold wnC;rw[Af,Af,Ca (by rw[yW0 h];omega),Cs (by rw[As];omega),As,De h,Nat.add_sub_cancel_left]
structure GuF(U V:Nat)where
 g:Nat
 lt:g<4294967296
 lo:U/V<=g
 hi:g<=U/V+1
theorem q64{a b:Nat}(ha:a<18446744073709551616):IntKind.u64.wrap (Int.tdiv (a:Int) (b:Int))=((a/b:Nat):Int):=by
 rw[<-Int.ofNat_tdiv];exact w64 (Nat.lt_of_le_of_lt (Er _ _) ha)
theorem r64{a b:Nat}:Int.tmod (a:Int) (b:Int)=((a%b:Nat):Int):=(Int.ofNat_tmod _ _).symm
theorem gF0{g:Nat}(h0:0<g)(h:g<18446744073709551616):IntKind.u64.wrap ((g:Int)-1)=((g-1:Nat):Int):=by
 have e:(g:Int)-1=((g-1:Nat):Int):=by omega
 rw[e,w64 om]
theorem gQ1{h l:Nat}(hh:h<4294967296)(hl:l<4294967296):bOr .u64 (IntKind.u64.wrap ((h:Int)*2^min (Int.toNat 32) IntKind.u64.bits)) (IntKind.u64.wrap (l:Int))=((h*4294967296+l:Nat):Int):=by
 have:=or64 hh hl
 rwa[w64 (n:=h) om]at this
theorem wU1{g v2:Nat}(hg:g<4294967296)(hv:v2<4294967296):IntKind.u64.wrap ((g:Int)*IntKind.u64.wrap (v2:Int))=((g*v2:Nat):Int):=by
 have h:=tT hg hv;rw[w64 (n:=v2) om,<-Int.natCast_mul,w64 om]
theorem gu_T{g r u2 v2:Nat}(hr:r<4294967296)(h2:u2<4294967296)(hv:v2<4294967296)(c:¬Int.fdiv (g:Int) (2^min (Int.toNat 32) IntKind.u64.bits)=0\/bOr .u64 (IntKind.u64.wrap ((r:Int)*2^min (Int.toNat 32) IntKind.u64.bits)) (IntKind.u64.wrap (u2:Int))<IntKind.u64.wrap ((g:Int)*IntKind.u64.wrap (v2:Int))):
  4294967296<=g\/r*4294967296+u2<g*v2:=by
 rcases Br g 4294967296 with h|h
 ·right;rcases c with c|c
  ·rw[hi32 rfl,Ei h]at c;exact absurd rfl c
  ·rw[gQ1 hr h2,wU1 h hv]at c;exact Int.ofNat_lt.1 c
 ·exact .inl h
theorem gu_F{g r u2 v2:Nat}(hr:r<4294967296)(h2:u2<4294967296)(hv:v2<4294967296)(c:Int.fdiv (g:Int) (2^min (Int.toNat 32) IntKind.u64.bits)=0/\IntKind.u64.wrap ((g:Int)*IntKind.u64.wrap (v2:Int))<=bOr .u64 (IntKind.u64.wrap ((r:Int)*2^min (Int.toNat 32) IntKind.u64.bits)) (IntKind.u64.wrap (u2:Int))):
  g<4294967296/\g*v2<=r*4294967296+u2:=by
 obtain⟨c1,c2⟩:=c;rw[hi32 rfl]at c1;have h:g<4294967296:=by omega
 rw[gQ1 hr h2,wU1 h hv]at c2;exact⟨h,Int.ofNat_le.1 c2⟩
theorem kD1(e:Int):I32 (IntKind.u32.wrap e):=by
 unfold I32;simp only[IntKind.wrap,IntKind.signed,IntKind.bits,Ch,Az,if_false];omega
theorem sud_s{u v:List Nat}{g:Nat}(y:SuD u v g)(hg:g<4294967296)(gv:Lg v):IntKind.u64.wrap ((y.c:Int)+IntKind.u64.wrap ((g:Int)*IntKind.u64.wrap ((v.getD y.k 0:Nat):Int)))=((y.s:Nat):Int):=by
 have h:=y.s_lt hg gv;rw[wU1 hg (qG gv _),<-Int.natCast_add,w64 (by unfold SuD.s at h;exact h)];rfl
theorem sud_0{u v:List Nat}{g:Nat}(y:SuD u v g)(h:v.length<=y.k):(y.c:Int)=((y.s:Nat):Int):=by
 unfold SuD.s;rw[jW h,Nat.mul_zero,Ck]
theorem gu_le{U V H v1:Nat}(x:Gu U V H v1)(h:0<v1):x.g<=H:=by
 have h1:=x.e;have h2:x.g*1<=x.g*v1:=Cv _ h;omega
theorem jZ{P:Program}{E:Pn}{K:DS->Prop}{p:Prop}{r:Out}(hr:r.sat P E K)(hp:p:=by first|exact trivial|omega|exact⟨hm3,by rw[<-hm3];omega⟩|exact⟨hm2,by rw[<-hm2];omega⟩|exact⟨hm,by rw[<-hm];omega⟩|exact ini om om|(constructor<;>omega)|(intro hh;simp only[Bq,Cb,Ap,Ay]at hh;first|exact⟨hm,by rw[<-hm];omega⟩|omega|(constructor<;>omega)|exact ini om om)|(intro _;first|exact⟨hm,by rw[<-hm];omega⟩|omega|(constructor<;>omega)|exact ini om om)|(simp only[Ak];constructor<;>omega)):(Out.need p r).sat P E K:=⟨hp,hr⟩
theorem natDigit_G(U v:List Nat)(q j n:Nat)(hU:U.length=q)(hj:j+n+1<=q)(hv:v.length=n)(hn:2<=n)(gU:Lg U)(gv:Lg v)(ht:0<v.getD (n-1) 0)(hlt:VL ((U.drop j).take (n+1))<VL v*4294967296)(hq:q<=100000000):FnG Tryz.prog 286 [.mw 0 q j 1 (n+1),usD v] [.mrow 91 1 (.map U uD 0)] (.v (.int .u32 (VL ((U.drop j).take (n+1))/VL v:Nat))) [.mrow 91 1 (.map (wnC U j (limN (n+1) (VL ((U.drop j).take (n+1))%VL v))) uD 0)]:=by
 have hWa:∀k,k<=n->((U.drop j).take (n+1)).getD k 0=U.getD (j+k) 0:=fun k hk=>win_at hk;have gW:=win_Lg gU j (n+1);have lW:((U.drop j).take (n+1)).length=n+1:=win_len om;generalize ((U.drop j).take (n+1))=W at*;obtain⟨K⟩:=kd_lists (u:=W) (v:=v) (n:=n) lW hv hn gW gv ht hlt;have hV1:=qG gv (n-1);have hp:0<VL v:=K.V_pos;have hm:q=(MR.map U uD 0).len:=hU.symm;have hHn:=qG gW n;have hHn1:=qG gW (n-1);have hHn2:=qG gW (n-2);have hjn:(n:Int).toNat=n:=Ak n;have hj1:((n:Int)-1).toNat=n-1:=by omega
 have hj2:((n:Int)-2).toNat=n-2:=by omega
 refine uE zJ Tryz.func286 rfl rfl rfl rfl rfl rfl rfl ?_;intros;refine zB (zE zJ [] 100 rfl ?_);repeat(first|refine zH ?_|refine jZ ?_)
 refine zC (zA ?_);refine zB (zE zJ [] 200 rfl ?_);repeat(first|refine zH ?_|refine jZ ?_)
 refine zC (zA ?_);refine yL [0,1] [0] 210 [(5,.v (.int .i64 (n:Nat)))] [] ?_;refine⟨⟨⟨u21 (by rw[hv]),yG⟩,yF,rfl,rfl⟩,?_⟩;refine zB (zX zJ [] [[],[],[0,1],[0,1,2],[0,1,2,3],(rgN 5),[],[],[7],[6,7,8],[6,7,8,9],[6,7,8,9,10],(rgN 12),[],[],[14],[13,14,15],[13,14,15,16],[13,14,15,16,17],(rgN 13),(rgN 20)] 300 yP kr rfl ?_);repeat(first|refine zH ?_|refine jZ ?_)
 refine zC (zA ?_);refine yL [0,1,5] [0] 310 [(6,.v (.int .u64 ((W.getD n 0*4294967296+W.getD (n-1) 0):Nat))),(7,.v (.int .u64 ((v.getD (n-1) 0):Nat)))] [] ?_;refine⟨⟨⟨u21 (by simp only[hjn,hj1];rw[or64 (qG gU _) (qG gU _),hWa _ (Ar _),hWa _ om]),u21 (by simp only[hj1];exact w64 om),yG⟩,yF,rfl,rfl⟩,?_⟩;refine zB (zX zJ [] [[],[],[0,1],[],[],[3,4],[0,1,2],(rgN 7)] 400 yP kr rfl ?_);repeat(first|refine zH ?_|refine jZ ?_)
 refine zC (zA ?_);refine dK0 (ι:=GuF (VL W) (VL v)) [0,1,5] [0] 1000 (fun x=>[(8,.v (.int .u64 (x.g:Nat)))]) (fun _=>[]) ?_;refine⟨?_,fun x=>?_⟩
 ·refine zP ?_;refine yC (ι:=Gu (VL W) (VL v) (W.getD n 0*4294967296+W.getD (n-1) 0) (v.getD (n-1) 0)) [0,1,5,7] [0] 450 (fun x=>[(8,.v (.int .u64 (x.g:Nat))),(9,.v (.int .u64 (x.r:Nat)))]) (fun _=>[]) (fun x=>x.g) (Gu.start K hV1) ?_;refine⟨⟨⟨u21 (q64 om),u21 r64,yG⟩,yF,rfl,rfl⟩,fun x=>?_⟩;have hr:=x.lr;have hgH:=gu_le x ht;refine zB ?_;refine zB (zX zJ [] [[],[0],[0,1],[0,1,2],[0,1,2,3],[0,1,2,3],[0,1,2,3],[0,1,2,3,6],[0,1,2,3,5,6,7],[0,1,2,3,5,6,7,8],[0,1,2,3,5,6,7,8,9],(rgN 11),[0,1,2,3],[0,1,2,3,12],[0,1,2,3],[0,1,2,3],[0,1,2,3,15],[0,1,2,3,14,15,16],[0,1,2,3,14,15,16,17],[0,1,2,3,14,15,16,17,18],[0,1,2,3,12,13,14,15,16,17,18,19],(rgN 21),(rgN 22)] 500 yP kr rfl ?_);repeat(first|refine zH ?_|refine jZ ?_)
  refine zC (zA (zZ (fun c4=>?_) (fun c4=>?_)))
  ·
   refine zM (zA (zP ?_));simp only[hj2]at c4;rw[<-hWa (n-2) om]at c4;have hc:=gu_T hr (qG gW _) (qG gv _) c4;refine zB (zE zJ [] 600 rfl ?_);repeat(first|refine zH ?_|refine jZ ?_)
   refine zC (zA ?_);refine zB (zE zJ [] 700 rfl ?_);repeat(first|refine zH ?_|refine jZ ?_)
   refine zC (zA ?_);refine zB (zE zJ [] 800 rfl ?_);repeat(first|refine zH ?_|refine jZ ?_)
   refine zC (zA (zZ (fun c7=>?_) (fun c7=>?_)))
   ·
    refine yE (exBl_other rfl (yB (zY ?_)));rw[hi32 (show _=((x.r+v.getD (n-1) 0:Nat):Int)from by rw[<-Int.natCast_add,w64 om])]at c7;obtain⟨f1,f2,f3⟩:=x.stop K hc om;exact xM ⟨x.g-1,f1,f2,f3⟩ ⟨⟨u21 (gF0 (x.pos K hc).2.1 om),yG⟩,yF,rfl,rfl⟩
   ·
    refine zM (zN ?_);rw[hi32 (show _=((x.r+v.getD (n-1) 0:Nat):Int)from by rw[<-Int.natCast_add,w64 om])]at c7;exact zS (x.next K hc om) ⟨⟨u21 (gF0 (x.pos K hc).2.1 om),u21 (by rw[<-Int.natCast_add,w64 om];rfl),yG⟩,yF,rfl,rfl⟩ (by show x.g-1<x.g;have:=(x.pos K hc).2.1;omega)
  ·
   refine yE (yA (yB (zY ?_)));simp only[hj2]at c4;rw[<-hWa (n-2) om]at c4;obtain⟨f0,f00⟩:=gu_F hr (qG gW _) (qG gv _) c4;obtain⟨f1,f2,f3⟩:=x.done K f0 f00;exact xM ⟨x.g,f1,f2,f3⟩ ⟨⟨u21 rfl,yG⟩,yF,rfl,rfl⟩
 refine zB (zE zJ [] 1100 rfl ?_);repeat(first|refine zH ?_|refine jZ ?_)
 refine zC (zA (zB ?_));refine zB (zE zJ [] 1200 rfl ?_);repeat(first|refine zH ?_|refine jZ ?_)
 refine zC (zA (zP ?_));refine yC (ι:=SuD W v x.g) [0,1,5,8,74] [] 1200 (fun y=>[(75,.v (.int .i64 (y.k:Nat))),(10,.v (.int .u64 (y.c:Nat))),(11,.v (.int .u32 (y.b:Nat)))]) (fun y=>[(0,.mrow 91 1 (.map (wnC U j y.o) uD 0))]) (fun y=>n+1-y.k) (SuD.start W v x.g) ?_;refine⟨⟨yG,⟨SubO.mr (by show U.map uD=(wnC U j []).map uD;rw[tE0]),yF⟩,rfl,rfl⟩,fun y=>?_⟩;have hk:=y.le;have hlo:=y.lo;have hbb:=y.hb;have hm2:q=(MR.map (wnC U j y.o) uD 0).len:=by rw[MR.len,xW (by omega),hU]
 refine zB (zE zJ [] 1300 rfl ?_);repeat(first|refine zH ?_|refine jZ ?_)
 refine zC (zA (zB (zZ (fun c10=>?_) (fun c10=>?_))))
 ·
  refine zM (zA (zB (zP ?_)));refine zB (zE zJ [] 1400 rfl ?_);repeat(first|refine zH ?_|refine jZ ?_)
  refine zC (zA (zB ?_));refine zB (zE zJ [] 1500 rfl ?_);repeat(first|refine zH ?_|refine jZ ?_)
  refine zC (zA (zZ (fun c12=>?_) (fun c12=>?_)))
  ·
   refine zE zJ [] 1600 rfl ?_;repeat(first|refine zH ?_|refine jZ ?_)
   refine zC (zA ?_);refine zB (zE zJ [] 1700 rfl ?_);repeat(first|refine zH ?_|refine jZ ?_)
   refine zQ _ (cF _ _ _ (pS (mD0 gU y.lg) _) (kD1 _) ⟨by omega,by omega⟩) rfl ?_;repeat(first|refine zH ?_|refine jZ ?_)
   refine zC (zA ?_);refine zE zJ [] 1800 rfl ?_;repeat(first|refine zH ?_|refine jZ ?_)
   refine zC (zN (zA ?_));refine zE zJ [] 1900 rfl ?_;repeat(first|refine zH ?_|refine jZ ?_)
   refine zC ?_;have es:_=((y.s:Nat):Int):=sud_s y x.lt gv;exact zS (y.next gW gv x.lt om) ⟨⟨u21 (by show(y.k:Int)+1=((y.k+1:Nat):Int);omega),u21 (hi32 es),u21 (by simp only[Ak];rw[lo32 es];simp only[Ak];rw[cI om y.lo,<-hWa _ om];rfl),yG⟩,⟨SubO.mr (by simp only[Ak];rw[lo32 es];simp only[Ak];rw[cI om y.lo,<-hWa _ om];exact qZ0 y.lo om),yF⟩,rfl,rfl⟩ (by show n+1-(y.k+1)<n+1-y.k;omega)
  ·
   refine zM (zA ?_);refine zB (zE zJ [] 1600 rfl ?_);repeat(first|refine zH ?_|refine jZ ?_)
   refine zQ _ (cF _ _ _ (pS (mD0 gU y.lg) _) (kD1 _) ⟨by omega,by omega⟩) rfl ?_;repeat(first|refine zH ?_|refine jZ ?_)
   refine zC (zA ?_);refine zE zJ [] 1700 rfl ?_;repeat(first|refine zH ?_|refine jZ ?_)
   refine zC (zN (zA ?_));refine zE zJ [] 1800 rfl ?_;repeat(first|refine zH ?_|refine jZ ?_)
   refine zC ?_;have es:_=((y.s:Nat):Int):=sud_0 y om;exact zS (y.next gW gv x.lt om) ⟨⟨u21 (by show(y.k:Int)+1=((y.k+1:Nat):Int);omega),u21 (hi32 es),u21 (by simp only[Ak];rw[lo32 es];simp only[Ak];rw[cI om y.lo,<-hWa _ om];rfl),yG⟩,⟨SubO.mr (by simp only[Ak];rw[lo32 es];simp only[Ak];rw[cI om y.lo,<-hWa _ om];exact qZ0 y.lo om),yF⟩,rfl,rfl⟩ (by show n+1-(y.k+1)<n+1-y.k;omega)
 ·
  refine yE (yA (yB (zY (zA (zB ?_)))));refine zB (zE zJ [] 1800 rfl ?_);repeat(first|refine zH ?_|refine jZ ?_)
  refine zC (zA (zZ (fun c17=>?_) (fun c17=>?_)))
  ·
   have hb1:y.b=1:=by omega
   have hyl:y.o.length=n+1:=by omega
   refine zB (zE zJ [] 1900 rfl ?_);repeat(first|refine zH ?_|refine jZ ?_)
   refine zC (zA ?_);refine zB (zE zJ [] 2000 rfl ?_);repeat(first|refine zH ?_|refine jZ ?_)
   refine zC (zA (zB ?_));refine zB (zE zJ [] 2100 rfl ?_);repeat(first|refine zH ?_|refine jZ ?_)
   refine zC (zA (zP ?_));refine yC (ι:={z:PlL y.o v//z.k<=n}) [0,1,5,8,111] [] 2150 (fun z=>[(112,.v (.int .i64 (z.1.k:Nat))),(13,.v (.int .u32 (z.1.c:Nat)))]) (fun z=>[(0,.mrow 91 1 (.map (wnC (wnC U j y.o) j z.1.o) uD 0))]) (fun z=>n-z.1.k) ⟨PlL.start _ _,Aq _⟩ ?_;refine⟨⟨yG,⟨SubO.mr (by show(wnC U j y.o).map uD=(wnC (wnC U j y.o) j []).map uD;rw[tE0]),yF⟩,rfl,rfl⟩,fun z=>?_⟩;have hzk:=z.2;have hzo:=z.1.lo;have hzc:=z.1.hc;have hm3:q=(MR.map (wnC (wnC U j y.o) j z.1.o) uD 0).len:=by rw[MR.len,xW (by rw[xW (by omega)];omega),xW om,hU]
   refine zB (zE zJ [] 2200 rfl ?_);repeat(first|refine zH ?_|refine jZ ?_)
   refine zC (zA (zB (zZ (fun c21=>?_) (fun c21=>?_))))
   ·
    refine zM (zA (zB (zP ?_)));refine zB (zE zJ [] 2300 rfl ?_);repeat(first|refine zH ?_|refine jZ ?_)
    refine zC (zA ?_);refine zX zJ [] [[],[],[],[],[2,3],[2,3,4],[],[],[6,7],[6,7,8],[],[2,3,4,5,6,7,8,9,10],[2,3,4,5,6,7,8,9,10,11],[2,3,4,5,6,7,8,9,10,11,12],[2,3,4,5,6,7,8,9,10,11,12],(rgN 14),[0,1,2,3,4,5,6,7,8,9,10,11,12,13,15],(rgN 17)] 2400 yP kr rfl ?_;repeat(first|refine zH ?_|refine jZ ?_)
    refine zQ _ (Add32_ok _ _ _ (pS (mD0 (mD0 gU y.lg) z.1.lg) _) (pS gv _) ⟨by omega,by omega⟩) rfl ?_;repeat(first|refine zH ?_|refine jZ ?_)
    refine zC (zN (zA ?_));refine zE zJ [] 2500 rfl ?_;repeat(first|refine zH ?_|refine jZ ?_)
    refine zC ?_;exact zS ⟨z.1.next y.lg gv om,by show z.1.k+1<=n;omega⟩ ⟨⟨u21 (by show(z.1.k:Int)+1=((z.1.k+1:Nat):Int);omega),u21 (by simp only[Ak];rw[cI (by rw[xW om];omega) z.1.lo,tF0 om hyl _ om];rfl),yG⟩,⟨SubO.mr (by simp only[Ak];rw[cI (by rw[xW om];omega) z.1.lo,tF0 om hyl _ om];exact qZ0 z.1.lo (by rw[xW om];omega)),yF⟩,rfl,rfl⟩ (by show n-(z.1.k+1)<n-z.1.k;omega)
   ·
    refine yE (yA (yB (zY (zA ?_))));refine zE zJ [] 2600 rfl ?_;repeat(first|refine zH ?_|refine jZ ?_)
    refine zC (zA ?_);refine zB (zE zJ [] 2700 rfl ?_);repeat(first|refine zH ?_|refine jZ ?_)
    refine zC (zA (zL ?_));obtain⟨e4,e5,e6⟩:=dg_back y lW hv om gv hb1 hp x.hi z.1 om;have hx:=x.lt;exact u11 1 rfl rfl (u21 (by rw[gF0 e4 om,w32n om,e5])) ⟨SubO.mr (by simp only[hjn];rw[cI (by rw[xW om];omega) (by rw[z.1.lo];omega),tF0 om hyl n (Ar _),lo32 (Int.natCast_add _ _).symm];refine(qZ0 (by rw[z.1.lo];omega) (by rw[xW om];omega)).trans ?_;show List.map uD _=List.map uD _;rw[wnC_wnC (U:=U) (j:=j) (o:=y.o) (n:=n) om hyl (by simp[z.1.lo];omega),gV0 (n:=n+1) (z.1.lg.snoc (Cx _ de)) (by simp[z.1.lo];omega) e6]),trivial⟩
  ·
   refine zM (zA ?_);refine zB (zE zJ [] 2700 rfl ?_);repeat(first|refine zH ?_|refine jZ ?_)
   refine zC (zA (zL ?_));have hb0:y.b=0:=by omega
   obtain⟨e1,e2⟩:=dg_exact y om om hb0 hp x.lo;obtain⟨_,e3⟩:=y.fin om om;exact u11 1 rfl rfl (u21 (by rw[w32n x.lt,e1])) ⟨SubO.mr (by show List.map uD _=List.map uD _;rw[gV0 y.lg (by rw[e3,lW]) e2]),trivial⟩
end Go.Proofs.YtammfbdgjnkolaaGreatDoor
