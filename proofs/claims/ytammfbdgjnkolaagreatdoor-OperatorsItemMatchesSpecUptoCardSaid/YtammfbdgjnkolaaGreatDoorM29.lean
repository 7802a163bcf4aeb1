/-Part 29 of the proof. -/
import Derived.Test.YtammfbdgjnkolaaGreatDoorM28
namespace Go.Proofs.YtammfbdgjnkolaaGreatDoor
open Go.RowKit
variable{md me:Bool}
def txL(b:Bool)(a i:Nat):List UInt8:=(if b=true then [45]else [])++((hxL a).reverse.take i).map fun d=>UInt8.ofNat (bAt alB d)
theorem hxL_ne{a:Nat}(h:¬hxL a=[]):¬a=0:=by
 rintro rfl;exact h pT
theorem hxL_e{a:Nat}(h:hxL a=[]):a=0:=by
 by_cases h0:a=0
 ·exact h0
 ·rw[uD0 h0]at h;cases h
theorem zT1{b:Bool}{a:Nat}(h:¬a=0):hxS b a=⟨(txL b a (hxL a).length).toArray⟩:=by
 unfold hxS txL;rw[Aa h,Ai (by rw[Ey];exact Ar _)]
theorem kF1{a i:Nat}(h:i<(hxL a).length):(hxL a).reverse.getD i 0<16:=by
 rw[Af,Ac (by rw[Ey];exact h)];exact vE1 (n:=a+1) (x:=a) om (List.mem_reverse.1 (Cj _))
theorem u8_bAt(s:ByteArray)(d:Nat):[D.v (.int .u8 ((bAt s d:Nat):Int))]=u8D (UInt8.ofNat (bAt s d)):=by
 have h:=xQ0 s d;show _=[D.v (.int .u8 (((UInt8.ofNat (bAt s d)).toNat:Nat):Int))];have e:(UInt8.ofNat (bAt s d)).toNat=bAt s d:=by simp;omega
 rw[e]
theorem tP0(b:Bool)(a:Nat){i:Nat}(h:i<=(hxL a).length):(txL b a i).length<=i+1:=by
 unfold txL;rw[Ae,An,As,Ey];have:(if b=true then [(45:UInt8)]else []).length<=1:=by split<;>decide
 omega
theorem jE0{b:Bool}{a i:Nat}(h:i<(hxL a).length):txL b a (i+1)=txL b a i++[UInt8.ofNat (bAt alB ((hxL a).reverse.getD i 0))]:=by
 unfold txL;rw[Cg,List.take_add_one,Ad,Ac (by rw[Ey];exact h),Af,Ac (by rw[Ey];exact h)];rfl
theorem mK0{b:Bool}{a i:Nat}(h:i<(hxL a).length):(txL b a i).map u8D++[[D.v (.int .u8 ((bAt alB ((hxL a).reverse.getD i 0):Nat):Int))]]=(txL b a (i+1)).map u8D:=by
 rw[jE0 h,Ad,u8_bAt];rfl
theorem bI0:alB.size=36:=rfl
theorem xY1{P:Program}{E:Pn}{K:DS->Prop}{p:Prop}{r:Out}(hr:r.sat P E K)(hp:p:=by first|(refine⟨by omega,?_⟩;show _<36;omega)|(simp only[An,Ey];omega)|(simp only[MR.len,An];done)|(rw[MR.len];omega)|(show _<alB.size;rw[bI0];omega)|(rw[bI0];omega)|exact Fa):(Out.need p r).sat P E K:=⟨hp,hr⟩
theorem xX1{P:Program}{E:Pn}{K:DS->Prop}{p:Prop}{r:Out}(hr:r.sat P E K)(hp:p:=by first|rfl|exact(congrArg (List.map u8D) (kC _)).symm|exact Fa):(Out.need p r).sat P E K:=⟨hp,hr⟩
theorem qT0(b:Bool)(a:Nat)(ha:(dig a).length<=10000000):Fx 195 [rD b a,.v (.int .i64 16)] (.v (.string (hxS b a))):=by
 have hxd:=vD1 a;refine yD zJ Tryz.func195 rfl rfl rfl rfl rfl rfl ?_;intros;refine zK 100 ?_;refine zB (zE zJ [12] 200 rfl ?_);refine zF ?_;refine jJ _ _ _ (Figures3_ok a ha) ?_;refine zF ?_;refine zC (zA (zB (zK 300 ?_)));refine zU rfl (fun c2=>?_) (fun c2=>?_)
 ·have he:a=0:=hxL_e (by simpa using c2);refine zK 400 ?_;refine zL (zO ?_);exact u4 rfl (SubP.str (by rw[he];rfl))
 ·have he:¬a=0:=hxL_ne (by simpa using c2);refine zM (zA (zK 500 ?_));refine zB (zK 600 ?_);refine zZ (fun c5=>?_) (fun c5=>?_)
  ·
   refine yM zJ [] 700 ?_;refine zA ?_;refine zB (zE zJ [1019] 800 rfl ?_);repeat(first|refine zH ?_|refine zW (by first|decide|exact Fa) ?_)
   refine zC (zA (zB (zK 900 ?_)));refine zP ?_;refine yC (ι:={i:Nat//i<=(hxL a).length}) [] [] 950 (fun x=>[(8,.v (.int .i64 x.1)),(7,.mo 701 (txL b a x.1).length),(5,.sl false 1 (hxL a).reverse nD 0)]) (fun x=>[(701,.mrow 5 1 (.map (txL b a x.1) u8D 0))]) (fun x=>(hxL a).length-x.1) ⟨0,Aq _⟩ ?_;refine⟨⟨⟨u21 rfl,Sub.mo (by simp[txL,c5];try rfl),u5 rfl,yG⟩,⟨SubO.mp (by simp[txL,c5];try rfl),yF⟩,rfl,rfl⟩,fun x=>?_⟩;have hk:x.1<=(hxL a).length:=x.2;have htl:=tP0 b a hk;refine zB (zK 1000 ?_);refine zU rfl (fun c9=>?_) (fun c9=>?_)
   ·have hlt:x.1<(hxL a).length:=by simpa using c9
    have h16:(hxL a).reverse.getD ((x.1:Nat):Int).toNat 0<16:=kF1 hlt;refine zM (zA (zB (zP ?_)));refine zE zJ [] 1200 rfl ?_;repeat(first|refine zH ?_|refine xY1 ?_)
    refine zC (zN (zA (yM zJ [] 1300 ?_)));exact zS ⟨x.1+1,by omega⟩ ⟨⟨u21 (by push_cast;rfl),Sub.mo (by show(txL b a x.1).length+1=_;rw[jE0 hlt,Ae];rfl),u0 _,yG⟩,⟨SubO.mr (mK0 hlt),yF⟩,rfl,rfl⟩ (by show(hxL a).length-(x.1+1)<(hxL a).length-x.1;omega)
   ·have hlt:x.1=(hxL a).length:=by simp at c9;omega
    refine yE (yA (yB (zY (zA ?_))));refine qT 701 rfl (by repeat(first|exact trivial|exact rfl|refine⟨?_,?_⟩)) (by repeat(first|exact trivial|refine⟨?_,?_⟩)) ?_;refine zB (zE zJ [] 1300 rfl ?_);repeat(first|refine zH ?_|refine xX1 ?_)
    refine zC (zA (zL ?_));exact u4 rfl (SubP.str (by rw[zT1 he,<-congrArg (txL b a) hlt];exact congrArg (fun l:List UInt8=>(⟨l.toArray⟩:ByteArray)) (kC _)))
  ·
   refine zM (zA ?_);refine zB (zE zJ [1019] 800 rfl ?_);repeat(first|refine zH ?_|refine zW (by first|decide|exact Fa) ?_)
   refine zC (zA (zB (zK 900 ?_)));refine zP ?_;refine yC (ι:={i:Nat//i<=(hxL a).length}) [] [] 950 (fun x=>[(8,.v (.int .i64 x.1)),(7,.mo 601 (txL b a x.1).length),(5,.sl false 1 (hxL a).reverse nD 0)]) (fun x=>[(601,.mrow 5 1 (.map (txL b a x.1) u8D 0))]) (fun x=>(hxL a).length-x.1) ⟨0,Aq _⟩ ?_;refine⟨⟨⟨u21 rfl,Sub.mo (by simp[txL,c5];try rfl),u5 rfl,yG⟩,⟨SubO.mp (by simp[txL,c5];try rfl),yF⟩,rfl,rfl⟩,fun x=>?_⟩;have hk:x.1<=(hxL a).length:=x.2;have htl:=tP0 b a hk;refine zB (zK 1000 ?_);refine zU rfl (fun c9=>?_) (fun c9=>?_)
   ·have hlt:x.1<(hxL a).length:=by simpa using c9
    have h16:(hxL a).reverse.getD ((x.1:Nat):Int).toNat 0<16:=kF1 hlt;refine zM (zA (zB (zP ?_)));refine zE zJ [] 1200 rfl ?_;repeat(first|refine zH ?_|refine xY1 ?_)
    refine zC (zN (zA (yM zJ [] 1300 ?_)));exact zS ⟨x.1+1,by omega⟩ ⟨⟨u21 (by push_cast;rfl),Sub.mo (by show(txL b a x.1).length+1=_;rw[jE0 hlt,Ae];rfl),u0 _,yG⟩,⟨SubO.mr (mK0 hlt),yF⟩,rfl,rfl⟩ (by show(hxL a).length-(x.1+1)<(hxL a).length-x.1;omega)
   ·have hlt:x.1=(hxL a).length:=by simp at c9;omega
    refine yE (yA (yB (zY (zA ?_))));refine qT 601 rfl (by repeat(first|exact trivial|exact rfl|refine⟨?_,?_⟩)) (by repeat(first|exact trivial|refine⟨?_,?_⟩)) ?_;refine zB (zE zJ [] 1300 rfl ?_);repeat(first|refine zH ?_|refine xX1 ?_)
    refine zC (zA (zL ?_));exact u4 rfl (SubP.str (by rw[zT1 he,<-congrArg (txL b a) hlt];exact congrArg (fun l:List UInt8=>(⟨l.toArray⟩:ByteArray)) (kC _)))
variable{md me:Bool}
theorem uH0{α:Type}{b:Int}{N:Nat}{f:Skt->α->Skt}{c:α->Nat}{P:α->Prop}(d:α)(hf:∀k a,SkI b N k->P a->SkS b N k (f k a) (c a)):
  ∀{l:List α}{k:Skt}{i:Nat},SkI b N k->(∀a∈l,P a)->i<l.length->
  SkI b N ((l.take i).foldl f k)/\((l.take i).foldl f k).out.length+c (l.getD i d)<=k.out.length+(l.map c).sum/\P (l.getD i d)/\(l.take (i+1)).foldl f k=f ((l.take i).foldl f k) (l.getD i d)
 |[],_,_,_,_,h=>absurd h (Nat.not_lt_zero _)
 |a::l,k,0,hk,hl,_=>by
  refine⟨hk,?_,hl a Bc,rfl⟩;show k.out.length+c a<=k.out.length+((a::l).map c).sum;rw[Bw,Cn];omega
 |a::l,k,i+1,hk,hl,h=>by
  have hs:=hf k a hk (hl a Bc);obtain⟨h1,h2,h3,h4⟩:=uH0 d hf (l:=l) (k:=f k a) (i:=i) hs.inv (fun x hx=>hl x (Be _ hx)) (by rw[Am]at h;omega);have h5:=hs.len;refine⟨h1,?_,h3,h4⟩;show((l.take i).foldl f (f k a)).out.length+c (l.getD i d)<=k.out.length+((a::l).map c).sum;rw[Bw,Cn];omega
theorem vl_st{b:Int}{N:Nat}(hb:0<=b)(hN:N<=1000000000){l:List Vl}{k:Skt}{i:Nat}(hk:SkI b N k)(hl:∀a∈l,VlC N a)(hi:i<l.length):
  SkI b N ((l.take i).foldl (Skt.v b) k)/\((l.take i).foldl (Skt.v b) k).out.length+cV (l.getD i vl0)<=k.out.length+(l.map cV).sum/\VlC N (l.getD i vl0)/\(l.take (i+1)).foldl (Skt.v b) k=((l.take i).foldl (Skt.v b) k).v b (l.getD i vl0):=
 uH0 (b:=b) (N:=N) (f:=Skt.v b) (c:=cV) (P:=VlC N) vl0 (fun _ _ h1 h2=>v_ok h1 hb hN h2) hk hl hi
theorem sB1(n:UInt8):(sB n).size=1:=rfl
theorem lit1(n:UInt8):(⟨#[n]⟩:ByteArray).size=1:=rfl
theorem gK0{P:Program}{E:Pn}{K:DS->Prop}{p:Prop}{r:Out}(hr:r.sat P E K)(hp:p:=by first|(simp only[Da,lit1];omega)|exact Fa):(Out.need p r).sat P E K:=⟨hp,hr⟩
theorem skVal_G(h:List Ob)(b:Int)(k:Skt)(v:Vl)(hv:VlIn v)(hl:k.out.length+cV v<=1073741824)(ho:k.ord.length<=1000000000):FnG Tryz.prog 148 [.bp 0 0,.agg (vlD v)] (skO md h b k) (.v (.tuple #[])) (skO md h b (k.v b v)):=by
 have hq:=tP v.s;have hx1:=tX (b:=v.nn) hv.nl;have hx2:=tX (b:=v.dn) hv.dl;have hT:=mG0 hv;have hs1:=hv.s;have hs2:=hv.nn;have hs3:=hv.dn;have hd1:=qI1 hv.nl;have hd2:=qI1 hv.dl;have hc:cV v=60+10*v.s.size+8*v.nl.length+8*v.dl.length:=rfl;have e1:=(wT1 (k:=k) hv.k1 hv.k2).1;have e2:=(wT1 (k:=k.n v.k) hv.r1 hv.r2).1;refine uE zJ Tryz.func148 rfl rfl rfl rfl rfl rfl rfl ?_;intros;refine zK 100 ?_;refine zB (zK 200 ?_);refine zZ (fun c1=>?_) (fun c1=>?_)
 ·
  refine zB (zE zJ [1010] 300 rfl ?_);refine zF ?_;refine yO _ _ (mP h b k v.r hv.r1 hv.r2 om ho) rfl ?_;refine zf (zA (zL (zO ?_)));rw[show k.v b v=k.see b v.r from Ab c1];exact u11 3 rfl rfl (u0 _) ⟨⟨rfl,u0 _,rfl,u0 _,rfl,u0 _,rfl,u0 _,rfl,trivial⟩,SubO.mp rfl,SubO.mp rfl,trivial⟩
 ·
  refine zM (zA ?_);refine zB (zE zJ [1014] 400 rfl ?_);refine zF ?_;refine yO _ _ (kB h b k v.k hv.k1 hv.k2 om) rfl ?_;refine zf (zA ?_);refine yL [0,3] [3] 410 [] [(0,.box 124 [.sl md 10 h obD ob0,.v (.int .i64 b),.mo 1 (k.n v.k).ord.length,.mo 2 (k.n v.k).out.length]),(1,.mrow 3 1 (.map (k.n v.k).ord iD 0)),(2,.mrow 5 1 (.map (k.n v.k).out u8D 0))] ?_;refine⟨⟨yG,⟨⟨rfl,u0 _,rfl,u0 _,rfl,Sub.mo (by simp[Skt.w,Skt.n]),rfl,Sub.mo (by simp[Skt.w,Skt.n]),rfl,trivial⟩,SubO.mp rfl,SubO.mp rfl,yF⟩,rfl,rfl⟩,?_⟩;refine zB (zE zJ [1018] 500 rfl ?_);refine zF ?_;refine yO _ _ (kB h b (k.n v.k) v.r hv.r1 hv.r2 om) rfl ?_;refine zf (zA ?_);refine yL [0,3] [3] 510 [] [(0,.box 124 [.sl md 10 h obD ob0,.v (.int .i64 b),.mo 1 ((k.n v.k).n v.r).ord.length,.mo 2 ((k.n v.k).n v.r).out.length]),(1,.mrow 3 1 (.map ((k.n v.k).n v.r).ord iD 0)),(2,.mrow 5 1 (.map ((k.n v.k).n v.r).out u8D 0))] ?_;refine⟨⟨yG,⟨⟨rfl,u0 _,rfl,u0 _,rfl,Sub.mo (by simp[Skt.w,Skt.n]),rfl,Sub.mo (by simp[Skt.w,Skt.n]),rfl,trivial⟩,SubO.mp rfl,SubO.mp rfl,yF⟩,rfl,rfl⟩,?_⟩;refine zX zJ [1036] [[],[],[1],[1,2],[1,2,3],[],[5],[1,2,3,5,6],[1,2,3,5,6,7],[1,2,3,4,5,6,7,8],[1,2,3,4,5,6,7,8,9],[],[11],[1,2,3,5,6,7,8,11,12],[1,2,3,5,6,7,8,11,12,13],[1,2,3,4,5,6,7,8,9,10,11,12,13,14],[1,2,3,4,5,6,7,8,9,10,11,12,13,14,15],(rgN 17)] 600 yP kr rfl ?_;repeat(first|refine zH ?_|refine gK0 ?_)
  refine zQ _ (bM0 v.s om) rfl ?_;repeat(first|refine zH ?_|refine gK0 ?_)
  refine zQ _ (xU v.nn v.nl hv.nl om) rfl ?_;repeat(first|refine zH ?_|refine gK0 ?_)
  refine zQ _ (qT0 v.nn (VL v.nl) om) rfl ?_;repeat(first|refine zH ?_|refine gK0 ?_)
  refine zQ _ (xU v.dn v.dl hv.dl om) rfl ?_;repeat(first|refine zH ?_|refine gK0 ?_)
  refine zQ _ (qT0 v.dn (VL v.dl) om) rfl ?_;repeat(first|refine zH ?_|refine gK0 ?_)
  refine yO _ _ (uA h b ((k.n v.k).n v.r) (vlT v) om) rfl ?_;repeat(first|refine zH ?_|refine gK0 ?_)
  refine zC ?_;rw[show k.v b v=((k.n v.k).n v.r).w (vlT v)from Aa c1];exact FinH.normal 3 rfl rfl (u0 _) ⟨⟨rfl,u0 _,rfl,u0 _,rfl,u0 _,rfl,u0 _,rfl,trivial⟩,SubO.mp rfl,SubO.mp rfl,trivial⟩
theorem pH(h:List Ob)(b:Int)(N:Nat)(k:Skt)(l:List Vl)(hb:0<=b)(hN0:N<=1000000000)(hk:SkI b N k)(hv:∀a∈l,VlC N a)(hl:k.out.length+cVs l<=1073741824)(hll:l.length<=2000000):FnG Tryz.prog 89 [.bp 0 0,.sl false 7 l vlD vl0] (skO md h b k) (.v (.tuple #[])) (skO md h b (k.vs b l)):=by
 have hc:cVs l=(l.map cV).sum+1:=rfl;refine uE zJ Tryz.func89 rfl rfl rfl rfl rfl rfl rfl ?_;intros;refine xN 1 rfl fun hl1=>?_;refine zB (zK 100 ?_);refine zP ?_;refine yC (ι:={i:Nat//i<=l.length}) [0,6,7] [] 150 (fun x=>[(8,.v (.int .i64 x.1))]) (fun x=>[(0,.box 124 [.sl md 10 h obD ob0,.v (.int .i64 b),.mo 1 (((l.take x.1).foldl (Skt.v b) k)).ord.length,.mo 2 (((l.take x.1).foldl (Skt.v b) k)).out.length]),(1,.mrow 3 1 (.map (((l.take x.1).foldl (Skt.v b) k)).ord iD 0)),(2,.mrow 5 1 (.map (((l.take x.1).foldl (Skt.v b) k)).out u8D 0))]) (fun x=>l.length-x.1) ⟨0,Aq _⟩ ?_;refine⟨⟨⟨u21 rfl,yG⟩,⟨⟨rfl,u0 _,rfl,u0 _,rfl,Sub.mo (by simp[Skt.w,Skt.n]),rfl,Sub.mo (by simp[Skt.w,Skt.n]),rfl,trivial⟩,SubO.mp rfl,SubO.mp rfl,yF⟩,rfl,rfl⟩,fun x=>?_⟩;have hk0:x.1<=l.length:=x.2;refine zK 200 ?_;refine zB (zU rfl (fun c1=>?_) (fun c1=>?_))
 ·have hlt:x.1<l.length:=by simpa using c1
  obtain⟨hI,hL,hP,hN⟩:=vl_st hb hN0 hk hv hlt;have hI2:=hI.len hb;refine zM (zA (zB (zP (zK 300 ?_))));refine zE zJ [1014] 400 rfl ?_;refine zF ?_;refine yO _ _ (skVal_G h b ((l.take x.1).foldl (Skt.v b) k) (l.getD x.1 vl0) hP.vin om om) rfl ?_;refine zF ?_;refine zC (zN (zA (yM zJ [] 500 ?_)));exact zS ⟨x.1+1,by omega⟩ ⟨⟨u21 (by push_cast;rfl),yG⟩,⟨⟨rfl,u0 _,rfl,u0 _,rfl,Sub.mo (congrArg (fun k:Skt=>k.ord.length) hN).symm,rfl,Sub.mo (congrArg (fun k:Skt=>k.out.length) hN).symm,rfl,trivial⟩,SubO.mp (congrArg (fun k:Skt=>D.pvss (k.ord.map iD)) hN).symm,SubO.mp (congrArg (fun k:Skt=>D.pvss (k.out.map u8D)) hN).symm,yF⟩,rfl,rfl⟩ (by show l.length-(x.1+1)<l.length-x.1;omega)
 ·have hke:x.1=l.length:=by simp at c1;omega
  have htk:l.take x.1=l:=Ai om;refine yE (yA (yB (zY (zA ?_))));refine yL [0] [] 210 [] [(0,.box 124 [.sl md 10 h obD ob0,.v (.int .i64 b),.mo 1 (l.foldl (Skt.v b) k).ord.length,.mo 2 (l.foldl (Skt.v b) k).out.length]),(1,.mrow 3 1 (.map (l.foldl (Skt.v b) k).ord iD 0)),(2,.mrow 5 1 (.map (l.foldl (Skt.v b) k).out u8D 0))] ?_;refine⟨⟨yG,⟨⟨rfl,u0 _,rfl,u0 _,rfl,Sub.mo (by rw[htk]),rfl,Sub.mo (by rw[htk]),rfl,trivial⟩,SubO.mp (by rw[htk]),SubO.mp (by rw[htk]),yF⟩,rfl,rfl⟩,?_⟩;refine zE zJ [1017] 600 rfl ?_;refine zF ?_;refine yO _ _ (uA h b (l.foldl (Skt.v b) k) (sB 124) (by have h1:=(tH0 hb hN0 hk hv).len;show _+1<=_;omega)) rfl ?_;refine zf ?_;exact FinH.normal 3 rfl rfl (u0 _) ⟨⟨rfl,u0 _,rfl,u0 _,rfl,u0 _,rfl,u0 _,rfl,trivial⟩,SubO.mp rfl,SubO.mp rfl,trivial⟩
end Go.Proofs.YtammfbdgjnkolaaGreatDoor
