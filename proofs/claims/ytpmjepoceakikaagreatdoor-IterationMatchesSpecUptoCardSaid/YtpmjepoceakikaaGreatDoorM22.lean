/-Part 22 of the proof. -/
import Derived.Test.YtpmjepoceakikaaGreatDoorM21
namespace Go.Proofs.YtpmjepoceakikaaGreatDoor
open Go.RowKit
variable{md me:Bool}
theorem FnG.mr{P:Program}{f:FuncId}{args:List D}{e:TypeId}{sz:Nat}{m m1:MR}{out:D}{own':List DOwn}(h:FnG P f args [.mrow e sz m] out own')(hr:m1.rows=m.rows):FnG P f args [.mrow e sz m1] out own':=by
 unfold FnG at h⊢;have e1:ows (vD 0 [DOwn.mrow e sz m1])=ows (vD 0 [DOwn.mrow e sz m]):=by
  show [(0,Own.mrow e sz (D.pvss m1.rows))]=[(0,Own.mrow e sz (D.pvss m.rows))];rw[hr]
 rw[e1];exact h
structure TrmW(l:List Nat)where
 k:Nat
 le:k<=l.length
 eq:VL (l.take k)=VL l
def TrmW.next{l:List Nat}(x:TrmW l)(h:0<x.k)(h0:l.getD (x.k-1) 0=0):TrmW l:=⟨x.k-1,by have:=x.le;omega,by
 have h1:=qM l (x.k-1);rw[show x.k-1+1=x.k by omega,h0,Nat.mul_zero,Cj,x.eq]at h1;exact h1.symm⟩
theorem TrmW.fin{l:List Nat}(hg:Lg l)(x:TrmW l)(h:0<x.k->l.getD (x.k-1) 0≠0):x.k=(lim (VL l)).length:=by
 have hle:=x.le;have hl:(l.take x.k).length=x.k:=by rw[At];omega
 have e:lim (VL (l.take x.k))=l.take x.k:=qS1 (hg.take _) fun hne=>by
  have hp:0<x.k:=by rw[<-hl];exact Da.2 hne
  rw[Ej,<-qQ om,hl];have:=h hp;rw[Ac]at this⊢;rw[Df,Ab om];exact this
 rw[x.eq]at e;rw[e,hl]
theorem tL0{k:Nat}(h:0<k):((k:Int)-1).toNat=k-1:=by omega
theorem qE1{P:Program}{E:Pn}{K:DS->Prop}{p:Prop}{r:Out}(hr:r.sat P E K)(hp:p:=by first|exact⟨hm,by rw[<-hm];omega⟩|(intro hh;simp at hh;exact⟨hm,by rw[<-hm];omega⟩)|(intro hh;simp at hh;exact ini om om)|(intro hh;simp at hh;exact⟨by omega,by omega⟩)|exact⟨by omega,by omega,by omega,by omega⟩|exact Ew):(Out.need p r).sat P E K:=⟨hp,hr⟩
theorem natTrim_G(l:List Nat)(n:Nat)(hg:Lg l)(hn:n=l.length)(h0:0<n)(hl:n<=100000000):FnG Tryz.prog 261 [.mo 0 n] [.mrow 100 1 (.map l uD 0)] (.mw 0 n 0 1 (lim (VL l)).length) [.mrow 100 1 (.map l uD 0)]:=by
 have hm:n=(MR.map l uD 0).len:=hn;refine jY zJ Tryz.func261 rfl rfl rfl rfl rfl rfl rfl ?_;intros;refine zB (zE zJ [] 100 rfl ?_);repeat(first|refine zH ?_|refine qE1 ?_)
 refine zC (zA (zB (zO ?_)));refine yC (ι:=TrmW l) [] [] 150 (fun x=>[(0,.mw 0 n 0 1 x.k)]) (fun x=>[(0,.mrow 100 1 (.map l uD 0))]) (fun x=>x.k) ⟨l.length,Aq _,by rw[Ak (Aq _)]⟩ ?_;refine⟨⟨⟨Sub.moMw h0 rfl rfl hn,yG⟩,yE,rfl,rfl⟩,fun x=>?_⟩;have hk:=x.le;refine zB ?_;refine zB (zE zJ [] 200 rfl ?_);repeat(first|refine zH ?_|refine qE1 ?_)
 refine zC (zA (zY (fun c1=>?_) (fun c1=>?_)))
 ·
  refine zL (zA (zO ?_));refine zE zJ [] 300 rfl ?_;repeat(first|refine zH ?_|refine qE1 ?_)
  refine zC (zN ?_);have hkp:0<x.k:=by have:=c1.1;omega
  have h9:=c1.2;rw[tL0 hkp,Co]at h9;exact zS (x.next hkp om) ⟨⟨Sub.mw rfl (by simp) (by show _=x.k-1;omega),yG⟩,yE,rfl,rfl⟩ (by show x.k-1<x.k;omega)
 ·
  refine yD (yA (yB (zZ (zA ?_))));refine zB (zE zJ [] 400 rfl ?_);repeat(first|refine zH ?_|refine qE1 ?_)
  refine zC (zA (zM ?_));have e:=x.fin hg (fun hp h9=>by rw[tL0 hp,Co,h9]at c1;exact absurd c1 (by simp;omega));exact u11 1 rfl rfl (Sub.mw rfl rfl e) ⟨SubO.mr rfl,trivial⟩
theorem gU0{l:List Nat}{n v:Nat}(hg:Lg l)(hl:l.length=n)(hv:VL l=v):l=limN n v:=by
 subst hl;subst hv;exact(uA1 hg).symm
theorem div_lt32{n:Nat}(h:n<32):n/32=0:=Er h
theorem vT1{P:Program}{E:Pn}{K:DS->Prop}{p:Prop}{r:Out}(hr:r.sat P E K)(hp:p:=by first|rfl|(rw[x.lo];omega)|exact Ew):(Out.need p r).sat P E K:=⟨hp,hr⟩
theorem natLeft_G(a n:Nat)(ha:(lim a).length<=100000)(hn:n<32):FnG Tryz.prog 269 [usD (lim a),.v (.int .i64 n)] [] (.mw 0 ((lim a).length+1) 0 1 (lim (a*2^n)).length) [.mrow 100 1 (.map (limN ((lim a).length+1) (a*2^n)) uD 0)]:=by
 have htd:=td32 n;have hd0:=div_lt32 hn;rw[hd0]at htd;refine jY zJ Tryz.func269 rfl rfl rfl rfl rfl rfl rfl ?_;intros;refine zK 100 ?_;refine zB (zE zJ [1018] 200 rfl ?_);repeat(first|refine zH ?_|refine zT (by first|(rw[htd];exact ini om om)|(simp only[htd];exact ini om om)|exact⟨by decide,by rw[htd];exact ini om om⟩|(simp only[htd];refine⟨?_,?_⟩<;>omega)|(simp only[htd];refine⟨?_,?_,?_⟩<;>omega)|exact Ew) ?_)
 refine zC (zA ?_);refine yK [0,1] [] 210 [(5,.mo 108 0)] [(108,.mrow 100 1 (.map [] uD 0))] ?_;refine⟨⟨⟨Sub.mo (by rw[htd];rfl),yG⟩,⟨SubO.mr (by rw[htd];rfl),yE⟩,rfl,rfl⟩,?_⟩;refine zK 300 ?_;refine zB (zK 400 ?_);refine zO ?_;refine yC (ι:=Lf (lim a) n) [1,19,20] [] 450 (fun x=>[(21,.v (.int .i64 (x.k:Nat))),(6,.v (.int .u32 (x.c:Nat))),(5,.mo 108 x.o.length)]) (fun x=>[(108,.mrow 100 1 (.map x.o uD 0))]) (fun x=>(lim a).length-x.k) (Lf.start _ _) ?_;refine⟨⟨⟨u21 rfl,u21 rfl,Sub.mo (by show 0=(List.replicate (n/32) 0).length;rw[hd0];rfl),yG⟩,⟨SubO.mr (by show _=(List.replicate (n/32) 0).map uD;rw[hd0];rfl),yE⟩,rfl,rfl⟩,fun x=>?_⟩;have hk:=x.le;have hlo:=x.lo;have hc1:=x.hc;have hP:=P_le n;have ew:=lf_w x (yX a);have eo:=lf_o x;have ec:=lf_c x (yX a);refine zK 500 ?_;refine zB (zY (fun c4=>?_) (fun c4=>?_))
 ·
  refine zL (zA (zB (zO (zK 600 ?_))));refine zB (zE zJ [] 700 rfl ?_);repeat(first|refine zH ?_|refine zT (by first|(rw[Int.tmod_eq_emod_of_nonneg (by omega)];omega)|exact Ew) ?_)
  refine zC (zA ?_);refine zB (zE zJ [] 800 rfl ?_);repeat(first|refine zH ?_|refine vT1 ?_)
  refine zC (zA (yM zJ [] 900 ?_));refine zN (zA (yM zJ [] 1000 ?_));exact zS (x.next (yX a) om) ⟨⟨u21 (by show(x.k:Int)+1=((x.k+1:Nat):Int);omega),u21 (by(try simp only[Ah]);rw[ew];exact ec),Sub.mo (by show x.o.length+_=(x.o++[_]).length;simp),yG⟩,⟨SubO.mr (vW (by(try simp only[Ah]);rw[ew];exact eo)),yE⟩,rfl,rfl⟩ (by show(lim a).length-(x.k+1)<(lim a).length-x.k;omega)
 ·
  refine yD (yA (yB (zZ (zA ?_))));refine zB (zE zJ [1045] 1100 rfl ?_);repeat(first|refine zH ?_|refine vT1 ?_)
  refine yP _ _ ((natTrim_G (x.o++[x.c]) _ (x.lg.snoc om) (by simp) (by simp) (by rw[x.lo];simp;omega)).mr (vW rfl)) rfl ?_;repeat(first|refine zH ?_|refine vT1 ?_)
  refine zC (zA (zM ?_));obtain⟨e1,e2,e3⟩:=x.fin om;rw[vG]at e1;rw[hd0,Co]at e3;exact u11 108 rfl rfl (Sub.mw (by rw[<-e3];simp) rfl (by rw[e1])) ⟨SubO.mr (by show List.map uD _=List.map uD _;rw[gU0 e2 e3 e1]),trivial⟩
def bl8(x:Nat):Nat:=if x<1 then 0 else if x<2 then 1 else if x<4 then 2 else if x<8 then 3 else if x<16 then 4 else if x<32 then 5 else if x<64 then 6 else if x<128 then 7 else 8
def blN(x:Nat):Nat:=if 65536<=x then(if 256<=x/65536 then 24+bl8 (x/65536/256)else 16+bl8 (x/65536))else if 256<=x then 8+bl8 (x/256)else bl8 x
def chk8(p:ByteArray):Bool:=Nat.blt 255 p.size&&(List.range 256).all fun i=>Nat.beq (bAt p i) (bl8 i)
theorem chk8_at{p:ByteArray}{i:Nat}(h:chk8 p=true)(hi:i<256):bAt p i=bl8 i:=by
 unfold chk8 at h;rw[Aj,Be]at h;exact Ai (h.2 i (Ct.2 hi))
theorem chk8_size{p:ByteArray}{i:Nat}(h:chk8 p=true)(hi:i<256):i<p.size:=by
 unfold chk8 at h;rw[Aj]at h;have:=Av h.1;omega
theorem tA(x:Nat):bl8 x<=8:=by unfold bl8;(repeat' split)<;>omega
theorem uY1(x:Nat):blN x<=32:=by
 unfold blN;have h1:=tA (x/65536/256);have h2:=tA (x/65536);have h3:=tA (x/256);have h4:=tA x;split
 ·split<;>omega
 ·split<;>omega
theorem uW0{x:Nat}(h0:0<x)(h:x<256):2^bl8 x<=2*x/\x<2^bl8 x:=by
 unfold bl8;rw[Aa om];by_cases h1:x<2
 ·rw[Ab h1];omega
 rw[Aa h1];by_cases h2:x<4
 ·rw[Ab h2];omega
 rw[Aa h2];by_cases h3:x<8
 ·rw[Ab h3];omega
 rw[Aa h3];by_cases h4:x<16
 ·rw[Ab h4];omega
 rw[Aa h4];by_cases h5:x<32
 ·rw[Ab h5];omega
 rw[Aa h5];by_cases h6:x<64
 ·rw[Ab h6];omega
 rw[Aa h6];by_cases h7:x<128
 ·rw[Ab h7];omega
 rw[Aa h7];omega
theorem blN_pow{x:Nat}(h0:0<x)(h:x<4294967296):2^blN x<=2*x/\x<2^blN x:=by
 unfold blN;by_cases h1:65536<=x
 ·rw[Ab h1];by_cases h2:256<=x/65536
  ·rw[Ab h2];have h3:=uW0 (x:=x/65536/256) om om;rw[El,show 2^24=16777216 by decide];generalize 2^bl8 (x/65536/256)=B at*;omega
  ·rw[Aa h2];have h3:=uW0 (x:=x/65536) om om;rw[El,show 2^16=65536 by decide];generalize 2^bl8 (x/65536)=B at*;omega
 ·rw[Aa h1];by_cases h2:256<=x
  ·rw[Ab h2];have h3:=uW0 (x:=x/256) om om;rw[El,show 2^8=256 by decide];generalize 2^bl8 (x/256)=B at*;omega
  ·rw[Aa h2];exact uW0 h0 om
theorem w8n{n:Nat}(h:n<256):IntKind.u8.wrap (n:Int)=(n:Int):=by
 simp only[IntKind.wrap,IntKind.signed,IntKind.bits,Cd,Bb,if_false];omega
theorem sh16(x:Nat):Int.fdiv (x:Int) (2^min (Int.toNat 16) IntKind.u32.bits)=((x/65536:Nat):Int):=tW de
theorem sh8(x:Nat):Int.fdiv (x:Int) (2^min (Int.toNat 8) IntKind.u32.bits)=((x/256:Nat):Int):=tW de
theorem bAt8{x:Nat}{p:ByteArray}(h:x<256)(hc:chk8 p=true):bAt p (IntKind.u8.wrap (x:Int)).toNat=bl8 x:=by rw[w8n h,Ah,chk8_at hc h]
theorem mT{P:Program}{E:Pn}{K:DS->Prop}{p:Prop}{r:Out}(hr:r.sat P E K)(hp:p:=by first|exact trivial|exact⟨by(try simp only[h16,h8,h168]);rw[w8n om];omega,chk8_size (by decide+kernel) (by(try simp only[h16,h8,h168]);rw[w8n om];omega)⟩|((try simp only[h16,h8,h168]);rw[bAt8 om (by decide+kernel),InI.wrap (ini om om)];exact ini om om)|omega|exact ini om om):(Out.need p r).sat P E K:=⟨hp,hr⟩
theorem Len32_ok(x:Nat)(hx:x<4294967296):Fx 272 [.v (.int .u32 x)] (.v (.int .i64 (blN x:Nat))):=by
 have h16:=sh16 x;have h8:=sh8 x;have h168:=sh8 (x/65536);have hb1:=tA (x/65536/256);have hb2:=tA (x/65536);have hb3:=tA (x/256);have hb4:=tA x;refine yF zJ Tryz.func272 rfl rfl rfl rfl rfl rfl ?_;intros;refine zB (zE zJ [] 100 rfl ?_);repeat(first|refine zH ?_|refine mT ?_)
 refine zC (zA (zB ?_));refine zB (zE zJ [] 200 rfl ?_);repeat(first|refine zH ?_|refine mT ?_)
 refine zC (zA (zY (fun c1=>?_) (fun c1=>?_)))
 ·
  refine zB (zE zJ [] 300 rfl ?_);repeat(first|refine zH ?_|refine mT ?_)
  refine zC (zA ?_);refine yK [] [] 310 [(0,.v (.int .u32 (x/65536:Nat)))] [] ?_;refine⟨⟨⟨u21 h16,yG⟩,yE,rfl,rfl⟩,?_⟩;refine zE zJ [] 400 rfl ?_;repeat(first|refine zH ?_|refine mT ?_)
  refine zC (zA (zB ?_));refine zB (zE zJ [] 500 rfl ?_);repeat(first|refine zH ?_|refine mT ?_)
  refine zC (zA (zY (fun c4=>?_) (fun c4=>?_)))
  ·
   refine zB (zE zJ [] 600 rfl ?_);repeat(first|refine zH ?_|refine mT ?_)
   refine zC (zA ?_);refine zE zJ [] 700 rfl ?_;repeat(first|refine zH ?_|refine mT ?_)
   refine zC (zA ?_);refine zB (zE zJ [] 800 rfl ?_);repeat(first|refine zH ?_|refine mT ?_)
   refine zC (zA (zM ?_));exact u4 rfl (u10 (by(try simp only[h16,h8,h168]at*);rw[bAt8 om (by decide+kernel),InI.wrap (ini om om)];unfold blN;(repeat(first|rw[Ab (by omega)]|rw[Aa (by omega)]));omega))
  ·
   refine zL (zA ?_);refine zB (zE zJ [] 800 rfl ?_);repeat(first|refine zH ?_|refine mT ?_)
   refine zC (zA (zM ?_));exact u4 rfl (u10 (by(try simp only[h16,h8,h168]at*);rw[bAt8 om (by decide+kernel),InI.wrap (ini om om)];unfold blN;(repeat(first|rw[Ab (by omega)]|rw[Aa (by omega)]));omega))
 ·
  refine zL (zA (zB ?_));refine zB (zE zJ [] 500 rfl ?_);repeat(first|refine zH ?_|refine mT ?_)
  refine zC (zA (zY (fun c4=>?_) (fun c4=>?_)))
  ·
   refine zB (zE zJ [] 600 rfl ?_);repeat(first|refine zH ?_|refine mT ?_)
   refine zC (zA ?_);refine zE zJ [] 700 rfl ?_;repeat(first|refine zH ?_|refine mT ?_)
   refine zC (zA ?_);refine zB (zE zJ [] 800 rfl ?_);repeat(first|refine zH ?_|refine mT ?_)
   refine zC (zA (zM ?_));exact u4 rfl (u10 (by(try simp only[h16,h8,h168]at*);rw[bAt8 om (by decide+kernel),InI.wrap (ini om om)];unfold blN;(repeat(first|rw[Ab (by omega)]|rw[Aa (by omega)]));omega))
  ·
   refine zL (zA ?_);refine zB (zE zJ [] 800 rfl ?_);repeat(first|refine zH ?_|refine mT ?_)
   refine zC (zA (zM ?_));exact u4 rfl (u10 (by(try simp only[h16,h8,h168]at*);rw[bAt8 om (by decide+kernel),InI.wrap (ini om om)];unfold blN;(repeat(first|rw[Ab (by omega)]|rw[Aa (by omega)]));omega))
theorem Lz32_ok(x:Nat)(hx:x<4294967296):Fx 268 [.v (.int .u32 x)] (.v (.int .i64 (32-blN x:Nat))):=by
 have hb:=uY1 x;refine yF zJ Tryz.func268 rfl rfl rfl rfl rfl rfl ?_;intros;refine zK 100 ?_;refine zB (zE zJ [] 200 rfl ?_);refine zF ?_;refine zQ _ (Len32_ok x hx) rfl ?_;refine zf (zA (zM ?_));exact u4 rfl (u10 om)
theorem add32_ok{x y b:Int}(hx:I32 x)(hy:I32 y)(hb:0<=b/\b<=1):IntKind.u64.wrap (IntKind.u64.wrap (IntKind.u64.wrap x+IntKind.u64.wrap y)+IntKind.u64.wrap b)=((b.toNat+x.toNat+y.toNat:Nat):Int):=by
 obtain⟨h1,h2⟩:=hx;obtain⟨h3,h4⟩:=hy;simp only[IntKind.wrap,IntKind.signed,IntKind.bits,Cd,Bb,if_false];omega
theorem Add32_ok(x y b:Int)(hx:I32 x)(hy:I32 y)(hb:0<=b/\b<=1):Fx 273 [.v (.int .u32 x),.v (.int .u32 y),.v (.int .u32 b)] (.tup [.v (.int .u32 ((b.toNat+x.toNat+y.toNat)%4294967296:Nat)),.v (.int .u32 ((b.toNat+x.toNat+y.toNat)/4294967296:Nat))]):=by
 refine yF zJ Tryz.func273 rfl rfl rfl rfl rfl rfl ?_;intros;refine zK 100 ?_;refine zK 200 ?_;refine zK 300 ?_;refine zK 400 ?_;refine zM ?_;have e:=add32_ok hx hy hb;have h2:=hx.2;have h3:=hy.2;exact u4 rfl (u19 ⟨u10 (lo32 e),u10 (by rw[hi32 e,w32n om]),trivial⟩)
end Go.Proofs.YtpmjepoceakikaaGreatDoor
