/-Part 19 of the proof. -/
import Derived.Test.YtammfbdgjnkolaaGreatDoorM18
namespace Go.Proofs.YtammfbdgjnkolaaGreatDoor
open Go.RowKit
variable{md me:Bool}
def kcL:List Int:=[2,3,4,5,6,7,0,15,27,2]
def ocL:List Int:=[0,8,9,10,11,12,13,14,16,1,0,17,18,19,20,21,22,23,24,25,26]
def ocS(o:Ob):Int:=if o.kind=10 then o.cls else ocL.getD o.kind.toNat 0
def clA(h:List Ob)(v:Vl):Int:=if v.k=6 then ocS (yJ h v.r)else kcL.getD v.k.toNat 0
theorem voks_k{v:Vl}(h:qH v=true):0<=v.k/\v.k<9:=by
 unfold qH at h;repeat' split at h
 all_goals first|omega|cases h
structure Cf(h:List Ob)(v:Vl):Prop where
 k:0<=v.k/\v.k<9
 obj:v.k=6->qA h v.r=true
 kind:v.k=6->0<(yJ h v.r).kind/\(yJ h v.r).kind<21
 cls:v.k=6->(yJ h v.r).kind=10->inH h (yJ h v.r).cls
theorem Uh.kind{h:List Ob}(g:Uh h){n:Int}(hn:qA h n=true):0<(yJ h n).kind/\(yJ h n).kind<21:=by
 have hi:=yW hn;by_cases h49:n.toNat<49
 ·rw[show yJ h n=bgO n.toNat from g.lo_at h49];exact⟨by show(0:Int)<9;decide,by show(9:Int)<21;decide⟩
 ·have h1:=(g.hi_at om hi.2).kind;have h2:¬(yJ h n).kind=0:=by
   intro h0;simp only[qA,Aj]at hn;have:=hn.2;rw[show(h.getD n.toNat ob0).kind=0 from h0]at this;exact absurd this de
  exact⟨by have:=h1.1;show 0<(yJ h n).kind;have h3:(yJ h ((n.toNat:Nat):Int)).kind=(yJ h n).kind:=rfl;omega,h1.2⟩
theorem yV0{h:List Ob}{v:Vl}(g:Uh h)(hh:hasS h v=true):Cf h v:=by
 have hv:qH v=true:=by
  simp only[hasS,Aj]at hh;exact hh.1
 exact⟨voks_k hv,zM0 hh,fun hk=>g.kind (zM0 hh hk),fun hk=>g.cls (yW (zM0 hh hk))⟩
theorem oc_ge{k:Int}(h:15<=k)(h2:k<21):ocL.getD k.toNat 0=21+k-15:=by
 obtain⟨n,rfl⟩:∃n:Nat,k=(n:Int):=⟨k.toNat,by omega⟩;have:=Bl.1 (show(List.range 21).all (fun n=>decide (n<15\/ocL.getD n 0=21+(n:Int)-15))=true by decide+kernel) n (Ct.2 om);have:=(Ag this).resolve_left om;exact this
theorem oc_lt{k:Int}(h:1<=k)(h2:k<8):ocL.getD k.toNat 0=8+k-1:=by
 obtain⟨n,rfl⟩:∃n:Nat,k=(n:Int):=⟨k.toNat,by omega⟩;have:=Bl.1 (show(List.range 8).all (fun n=>decide (n<1\/ocL.getD n 0=8+(n:Int)-1))=true by decide+kernel) n (Ct.2 om);have:=(Ag this).resolve_left om;exact this
theorem ocS_in{h:List Ob}{o:Ob}(g:Uh h)(hk:0<o.kind/\o.kind<21)(hc:o.kind=10->inH h o.cls):inH h (ocS o):=by
 unfold ocS;split
 ·rename_i h1;exact hc h1
 ·have h3:=Bl.1 (show(List.range 21).all (fun n=>decide (0<=ocL.getD n 0/\ocL.getD n 0<49))=true by decide+kernel) o.kind.toNat (Ct.2 om);have h4:=Ag h3;have:=g.lo;exact⟨h4.1,by omega⟩
theorem qQ0{h:List Ob}{v:Vl}(g:Uh h)(c:Cf h v):inH h (clA h v):=by
 unfold clA;split
 ·rename_i h1;exact ocS_in g (c.kind h1) (c.cls h1)
 ·have h3:=Bl.1 (show(List.range 9).all (fun n=>decide (0<=kcL.getD n 0/\kcL.getD n 0<49))=true by decide+kernel) v.k.toNat (Ct.2 (by have:=c.k;omega));have h4:=Ag h3;have:=g.lo;exact⟨h4.1,by omega⟩
theorem kindClasses_ok:Fx 176 [] (isD kcL):=by
 refine yD zJ Tryz.func176 rfl rfl rfl rfl rfl rfl ?_;intros;refine zK 100 ?_;refine zK 200 ?_;refine zL ?_;exact u4 rfl (u18 rfl)
theorem objectClasses_ok:Fx 177 [] (isD ocL):=by
 refine yD zJ Tryz.func177 rfl rfl rfl rfl rfl rfl ?_;intros;refine zK 100 ?_;refine zK 200 ?_;refine zL ?_;exact u4 rfl (u18 rfl)
theorem heapClassOf_ok(h:List Ob)(v:Vl)(c:Cf h v):Fx 128 [hpD md h,.agg (vlD v)] (.v (.int .i64 (clA h v))):=by
 refine yD zJ Tryz.func128 rfl rfl rfl rfl rfl rfl ?_;intros;refine zK 100 ?_;refine zB (zK 200 ?_);refine zU rfl (fun c1=>?_) (fun c1=>?_)
 ·replace c1:¬v.k=6:=by have h1:=c1;simp only[Bq,Ay]at h1;exact h1
  refine zB (zX zJ [] [[],[],[1],[0,1,2],[0,1,2,3],(rgN 5)] 300 yP kr rfl ?_);repeat(first|refine zH ?_|refine zW (by exact⟨c.k.1,by show v.k.toNat<10;have:=c.k;omega⟩) ?_)
  refine zQ _ (kindClasses_ok) rfl ?_;repeat(first|refine zH ?_|refine zW (by exact⟨c.k.1,by show v.k.toNat<10;have:=c.k;omega⟩) ?_)
  refine zC (zA (zL (zO ?_)));exact u4 rfl (u10 (by rw[clA,Aa c1]))
 ·replace c1:v.k=6:=by have h1:=c1;simp only[Cb,Ap]at h1;exact h1
  refine zM (zA ?_);refine zB (zE zJ [] 400 rfl ?_);repeat(first|refine zH ?_|refine zW (by exact yW (c.obj c1)) ?_)
  refine zC (zA (zB (zK 500 ?_)));refine zU rfl (fun c4=>?_) (fun c4=>?_)
  ·first|replace c4:=Ag c4|replace c4:=of_decide_eq_false c4
   refine zK 600 ?_;refine zL (zO ?_);exact u4 rfl (u10 (by rw[clA,Ab c1,ocS,Ab c4]))
  ·first|replace c4:=Ag c4|replace c4:=of_decide_eq_false c4
   refine zM (zA ?_);refine zB (zX zJ [] [[],[],[1],[0,1,2],[0,1,2,3],(rgN 5)] 700 yP kr rfl ?_);repeat(first|refine zH ?_|refine zW (by exact⟨Int.le_of_lt (c.kind c1).1,by show(yJ h v.r).kind.toNat<21;have h1:0<(yJ h v.r).kind/\(yJ h v.r).kind<21:=c.kind c1;omega⟩) ?_)
   refine zQ _ (objectClasses_ok) rfl ?_;repeat(first|refine zH ?_|refine zW (by exact⟨Int.le_of_lt (c.kind c1).1,by show(yJ h v.r).kind.toNat<21;have h1:0<(yJ h v.r).kind/\(yJ h v.r).kind<21:=c.kind c1;omega⟩) ?_)
   refine zC (zA (zL ?_));exact u4 rfl (u10 (by rw[clA,Ab c1,ocS,Aa c4]))
theorem xZ{P:Program}{E:Pn}{K:DS->Prop}{p:Prop}{r:Out}(hr:r.sat P E K)(hp:p:=by first|exact ini (by omega) (by omega)|omega):(Out.need p r).sat P E K:=⟨hp,hr⟩
theorem classOfObject_ok(o:Ob)(hk:0<o.kind/\o.kind<21):Fx 188 [.agg (obD o)] (.v (.int .i64 (ocS o))):=by
 refine yD zJ Tryz.func188 rfl rfl rfl rfl rfl rfl ?_;intros;refine zB (zE zJ [] 100 rfl ?_);repeat(first|refine zH ?_|refine xZ ?_)
 refine zC (zA (zB ?_));refine zB (zE zJ [] 200 rfl ?_);repeat(first|refine zH ?_|refine xZ ?_)
 refine zC (zA (zP ?_));refine zB (zE zJ [] 300 rfl ?_);repeat(first|refine zH ?_|refine xZ ?_)
 refine zC (zA (zU rfl (fun c2=>?_) (fun c2=>?_)))
 ·first|replace c2:=Ag c2|replace c2:=of_decide_eq_false c2
  refine zB (zE zJ [] 400 rfl ?_);repeat(first|refine zH ?_|refine xZ ?_)
  refine zC (zA (zL (zR (zO ?_))));exact u4 rfl (u10 (by rw[ocS,Ab c2]))
 ·first|replace c2:=Ag c2|replace c2:=of_decide_eq_false c2
  refine zB (zE zJ [] 500 rfl ?_);repeat(first|refine zH ?_|refine xZ ?_)
  refine zC (zA (zU rfl (fun c4=>?_) (fun c4=>?_)))
  ·first|replace c4:=Ag c4|replace c4:=of_decide_eq_false c4
   refine zB (zE zJ [] 600 rfl ?_);repeat(first|refine zH ?_|refine xZ ?_)
   refine zC (zA (zL (zR (zO ?_))));exact u4 rfl (u10 (by rw[ocS,Aa c2,c4];rfl))
  ·first|replace c4:=Ag c4|replace c4:=of_decide_eq_false c4
   refine zB (zE zJ [] 700 rfl ?_);repeat(first|refine zH ?_|refine xZ ?_)
   refine zC (zA (zU rfl (fun c6=>?_) (fun c6=>?_)))
   ·first|replace c6:=Ag c6|replace c6:=of_decide_eq_false c6
    refine zB (zE zJ [] 800 rfl ?_);repeat(first|refine zH ?_|refine xZ ?_)
    refine zC (zA (zL (zR (zO ?_))));exact u4 rfl (u10 (by rw[ocS,Aa c2,c6];rfl))
   ·first|replace c6:=Ag c6|replace c6:=of_decide_eq_false c6
    refine zB (zE zJ [] 900 rfl ?_);repeat(first|refine zH ?_|refine xZ ?_)
    refine zC (zA (zU rfl (fun c8=>?_) (fun c8=>?_)))
    ·first|replace c8:=Ag c8|replace c8:=of_decide_eq_false c8
     refine zB (zE zJ [] 1000 rfl ?_);repeat(first|refine zH ?_|refine xZ ?_)
     refine zC (zA (zL (zR (zO ?_))));exact u4 rfl (u10 (by rw[ocS,Aa c2,c8];rfl))
    ·first|replace c8:=Ag c8|replace c8:=of_decide_eq_false c8
     refine zB (zE zJ [] 1100 rfl ?_);repeat(first|refine zH ?_|refine xZ ?_)
     refine zC (zA (zU rfl (fun c10=>?_) (fun c10=>?_)))
     ·first|replace c10:=Ag c10|replace c10:=of_decide_eq_false c10
      refine zB (zE zJ [] 1200 rfl ?_);repeat(first|refine zH ?_|refine xZ ?_)
      refine zC (zA (zL (zR (zO ?_))));exact u4 rfl (u10 (by rw[ocS,Aa c2,c10];rfl))
     ·first|replace c10:=Ag c10|replace c10:=of_decide_eq_false c10
      refine zB (zE zJ [] 1300 rfl ?_);repeat(first|refine zH ?_|refine xZ ?_)
      refine zC (zA (zU rfl (fun c12=>?_) (fun c12=>?_)))
      ·first|replace c12:=Ag c12|replace c12:=of_decide_eq_false c12
       refine zB (zE zJ [] 1400 rfl ?_);repeat(first|refine zH ?_|refine xZ ?_)
       refine zC (zA (zL (zR (zO ?_))));exact u4 rfl (u10 (by rw[ocS,Aa c2,c12];rfl))
      ·first|replace c12:=Ag c12|replace c12:=of_decide_eq_false c12
       refine zB (zE zJ [] 1500 rfl ?_);repeat(first|refine zH ?_|refine xZ ?_)
       refine zC (zA (zU rfl (fun c14=>?_) (fun c14=>?_)))
       ·first|replace c14:=Ag c14|replace c14:=of_decide_eq_false c14
        refine zB (zE zJ [] 1600 rfl ?_);repeat(first|refine zH ?_|refine xZ ?_)
        refine zC (zA (zL (zR (zO ?_))));exact u4 rfl (u10 (by rw[ocS,Aa c2,c14];rfl))
       ·first|replace c14:=Ag c14|replace c14:=of_decide_eq_false c14
        refine zM (zN (zA (zB ?_)));refine zB (zE zJ [] 1700 rfl ?_);repeat(first|refine zH ?_|refine xZ ?_)
        refine zC (zA (zU rfl (fun c16=>?_) (fun c16=>?_)))
        ·first|replace c16:=Ag c16|replace c16:=of_decide_eq_false c16
         refine zB (zE zJ [] 1800 rfl ?_);repeat(first|refine zH ?_|refine xZ ?_)
         refine zC (zA (zL (zO ?_)));exact u4 rfl (u10 (by rw[ocS,Aa c2,oc_ge om hk.2]))
        ·first|replace c16:=Ag c16|replace c16:=of_decide_eq_false c16
         refine zM (zA ?_);refine zB (zE zJ [] 1900 rfl ?_);repeat(first|refine zH ?_|refine xZ ?_)
         refine zC (zA (zL ?_));exact u4 rfl (u10 (by rw[ocS,Aa c2,oc_lt om om]))
theorem ClassOf_ok(h:List Ob)(v:Vl)(c:Cf h v):Fx 133 [hpD md h,.agg (vlD v)] (.v (.int .i64 (clA h v))):=by
 refine yD zJ Tryz.func133 rfl rfl rfl rfl rfl rfl ?_;intros;refine zK 100 ?_;refine zB (zK 200 ?_);refine zP (zK 300 ?_);refine zU rfl (fun c2=>?_) (fun c2=>?_)
 ·first|replace c2:=Ag c2|replace c2:=of_decide_eq_false c2
  refine zK 400 ?_;refine zL (zR (zO ?_));exact u4 rfl (u10 (by rw[clA,Aa om,c2];rfl))
 ·first|replace c2:=Ag c2|replace c2:=of_decide_eq_false c2
  refine zK 500 ?_;refine zU rfl (fun c4=>?_) (fun c4=>?_)
  ·first|replace c4:=Ag c4|replace c4:=of_decide_eq_false c4
   refine zK 600 ?_;refine zL (zR (zO ?_));exact u4 rfl (u10 (by rw[clA,Aa om,c4];rfl))
  ·first|replace c4:=Ag c4|replace c4:=of_decide_eq_false c4
   refine zK 700 ?_;refine zU rfl (fun c6=>?_) (fun c6=>?_)
   ·first|replace c6:=Ag c6|replace c6:=of_decide_eq_false c6
    refine zK 800 ?_;refine zL (zR (zO ?_));exact u4 rfl (u10 (by rw[clA,Aa om,c6];rfl))
   ·first|replace c6:=Ag c6|replace c6:=of_decide_eq_false c6
    refine zK 900 ?_;refine zU rfl (fun c8=>?_) (fun c8=>?_)
    ·first|replace c8:=Ag c8|replace c8:=of_decide_eq_false c8
     refine zK 1000 ?_;refine zL (zR (zO ?_));exact u4 rfl (u10 (by rw[clA,Aa om,c8];rfl))
    ·first|replace c8:=Ag c8|replace c8:=of_decide_eq_false c8
     refine zK 1100 ?_;refine zU rfl (fun c10=>?_) (fun c10=>?_)
     ·first|replace c10:=Ag c10|replace c10:=of_decide_eq_false c10
      refine zK 1200 ?_;refine zL (zR (zO ?_));exact u4 rfl (u10 (by rw[clA,Aa om,c10];rfl))
     ·first|replace c10:=Ag c10|replace c10:=of_decide_eq_false c10
      refine zK 1300 ?_;refine zU rfl (fun c12=>?_) (fun c12=>?_)
      ·first|replace c12:=Ag c12|replace c12:=of_decide_eq_false c12
       refine zK 1400 ?_;refine zL (zR (zO ?_));exact u4 rfl (u10 (by rw[clA,Aa om,c12];rfl))
      ·first|replace c12:=Ag c12|replace c12:=of_decide_eq_false c12
       refine zK 1500 ?_;refine zU rfl (fun c14=>?_) (fun c14=>?_)
       ·first|replace c14:=Ag c14|replace c14:=of_decide_eq_false c14
        refine zK 1600 ?_;refine zL (zR (zO ?_));exact u4 rfl (u10 (by rw[clA,Aa om,c14];rfl))
       ·first|replace c14:=Ag c14|replace c14:=of_decide_eq_false c14
        refine zK 1700 ?_;refine zU rfl (fun c16=>?_) (fun c16=>?_)
        ·first|replace c16:=Ag c16|replace c16:=of_decide_eq_false c16
         refine zB (zE zJ [] 1800 rfl ?_);repeat(first|refine zH ?_|refine zW (by exact yW (c.obj c16)) ?_)
         refine zQ _ (classOfObject_ok _ (c.kind c16)) rfl ?_;repeat(first|refine zH ?_|refine zW (by exact yW (c.obj c16)) ?_)
         refine zC (zA (zL (zR (zO ?_))));exact u4 rfl (u10 (by rw[clA,Ab c16]))
        ·first|replace c16:=Ag c16|replace c16:=of_decide_eq_false c16
         refine zM (zN (zA (zK 1900 ?_)));refine zL ?_;exact u4 rfl (u10 (by rw[clA,Aa c16,show v.k=0 by have:=c.k;omega];rfl))
theorem zL0(h:List Ob)(v:Vl)(g:Uh h)(c:Cf h v):Fx 64 [hpD md h,.agg (vlD v)] (.v (.string (yJ h (clA h v)).name)):=by
 refine yD zJ Tryz.func64 rfl rfl rfl rfl rfl rfl ?_;intros;refine zK 100 ?_;refine zB (zX zJ [] mK15 200 yP kr rfl ?_);repeat(first|refine zH ?_|refine zW (by exact qQ0 g c) ?_)
 refine zQ _ (heapClassOf_ok h v c) rfl ?_;repeat(first|refine zH ?_|refine zW (by exact qQ0 g c) ?_)
 refine zC (zA (zL ?_));exact u4 rfl (u6 _)
theorem tG(h:List Ob)(v:Vl)(g:Uh h)(c:Cf h v):Fx 73 [hpD md h,.agg (vlD v)] (.v (.string (yJ h (clA h v)).name)):=by
 refine yD zJ Tryz.func73 rfl rfl rfl rfl rfl rfl ?_;intros;refine zK 100 ?_;refine zB (zX zJ [] mK15 200 yP kr rfl ?_);repeat(first|refine zH ?_|refine zW (by exact qQ0 g c) ?_)
 refine zQ _ (ClassOf_ok h v c) rfl ?_;repeat(first|refine zH ?_|refine zW (by exact qQ0 g c) ?_)
 refine zC (zA (zL ?_));exact u4 rfl (u6 _)
variable{md me:Bool}
variable{md me:Bool}
theorem xQ0(s:ByteArray)(i:Nat):bAt s i<256:=by
 unfold bAt;split
 ·exact UInt8.toNat_lt _
 ·decide
variable{md me:Bool}
def nuV(n:Int):Vl:=⟨2,decide (n<0),lim n.natAbs,false,[],ByteArray.empty,0⟩
structure Lm(m:Nat)where
 u:Nat
 l:List Nat
 eq:l++lim u=lim m
 le:u<=m
 pw:u*4294967296^l.length<=m
def Lm.next{m:Nat}(x:Lm m)(h:x.u≠0):Lm m:=⟨x.u/4294967296,x.l++[x.u%4294967296],by rw[<-x.eq,xD h,Cg];rfl,by have:=x.le;omega,by
 refine At ?_ x.pw;rw[Ae,Co,By,Aw (4294967296^_),<-Bp];exact Bh _ (Nat.div_mul_le_self _ _)⟩
theorem Lm.short{m:Nat}(x:Lm m)(h:0<x.u)(hm:m<18446744073709551616):x.l.length<=2:=by
 rcases Br 2 x.l.length with h3|h3
 ·have h1:4294967296^3<=4294967296^x.l.length:=Bb om h3;have h2:1*4294967296^x.l.length<=x.u*4294967296^x.l.length:=Bh _ h;have h4:=x.pw;omega
 ·exact h3
theorem w_neg{n:Int}(h:n<0)(h1: -9223372036854775808<=n):IntKind.u64.wrap (0-IntKind.u64.wrap n)=((n.natAbs:Nat):Int):=by
 simp only[IntKind.wrap,IntKind.signed,IntKind.bits,Ch,Az,if_false];omega
theorem w_pos{n:Int}(h:0<=n)(h1:n<=9223372036854775807):IntKind.u64.wrap n=((n.natAbs:Nat):Int):=by
 simp only[IntKind.wrap,IntKind.signed,IntKind.bits,Ch,Az,if_false];omega
theorem sh32(u:Nat):((u:Int)).fdiv (2^min (Int.toNat 32) IntKind.u64.bits)=((u/4294967296:Nat):Int):=by
 show((u:Int)).fdiv 4294967296=_;rw[Ep _ de];omega
theorem w32(u:Nat):IntKind.u32.wrap (u:Int)=((u%4294967296:Nat):Int):=by
 simp only[IntKind.wrap,IntKind.signed,IntKind.bits,Ch,Az,if_false];omega
set_option maxHeartbeats 1000000 in
theorem heapInt_ok(n:Int)(h1: -9223372036854775808<=n)(h2:n<=9223372036854775807):Fx 69 [.v (.int .i64 n)] (.agg (vlD (nuV n))):=by
 refine yD zJ Tryz.func69 rfl rfl rfl rfl rfl rfl ?_;intros;refine zK 100 ?_;refine zK 200 ?_;refine vN 101 2 91 1 rfl rfl ?_;refine zK 300 ?_;refine zB (zK 400 ?_);refine zU rfl (fun c3=>?_) (fun c3=>?_)
 ·replace c3:=Ag c3
  refine zK 500 ?_;refine yM zJ [] 600 ?_;refine zA (zB (zP ?_));refine yC (ι:=Lm n.natAbs) [2,3] [0] 650 (fun x=>[(4,.v (.int .u64 (x.u:Nat)))]) (fun x=>[(101,.box 29 [.v (.int .i64 2),.v (.bool (decide (n<0))),.own 200 1 (x.l.map uD),.v (.bool false),.v (.slice none 0 0),.v (.string ByteArray.empty),.v (.int .i64 0)]),(200,.row 91 1 (x.l.map uD).length)]) (fun x=>x.u) ⟨n.natAbs,[],rfl,Ar _,by simp⟩ ?_;refine⟨⟨⟨Sub.of_eq (by rw[w_neg c3 h1]),by repeat(first|exact trivial|exact u0 _|refine⟨?_,?_⟩)⟩,⟨⟨rfl,u0 _,rfl,Sub.of_eq (by rw[Bf c3]),rfl,u0 _,rfl,u0 _,rfl,u0 _,rfl,u0 _,rfl,u0 _,rfl,trivial⟩,⟨rfl,rfl,rfl⟩,by repeat(first|exact trivial|exact u15 rfl|refine⟨?_,?_⟩)⟩,rfl,rfl⟩,fun x=>?_⟩;have hk:=x.le;have hm:n.natAbs<18446744073709551616:=by omega
  refine zB (zK 700 ?_);refine zZ (fun c6=>?_) (fun c6=>?_)
  ·
   refine zM (zA (zB (zP ?_)));refine zE zJ [] 900 rfl ?_;repeat(first|refine zH ?_|refine zW (by first|rfl|(have h3:=x.short (by omega) hm;simp only[An,Am,Au];omega)) ?_)
   refine zC (zN (zA (yM zJ [] 1000 ?_)));exact zS (x.next om) ⟨⟨Sub.of_eq (by show _=D.v (Value.int .u64 ((x.u/4294967296:Nat):Int));rw[sh32]),by repeat(first|exact trivial|exact u0 _|refine⟨?_,?_⟩)⟩,⟨⟨rfl,u0 _,rfl,u0 _,rfl,Sub.own (by show _=List.map uD (x.l++[x.u%4294967296]);rw[Ad,w32];rfl),rfl,u0 _,rfl,u0 _,rfl,u0 _,rfl,u0 _,rfl,trivial⟩,⟨rfl,rfl,by show _=(List.map uD (x.l++[x.u%4294967296])).length;simp⟩,by repeat(first|exact trivial|exact u15 rfl|refine⟨?_,?_⟩)⟩,rfl,rfl⟩ (by show x.u/4294967296<x.u;omega)
  ·
   refine yE (yA (yB (zY (zA (zK 1000 ?_)))));refine zL ?_;exact u4 rfl (u20 ⟨u6 _,u6 _,SubP.ownSl (by show _=(lim n.natAbs).map uD;rw[<-x.eq,show x.u=0 by omega,qI,Cr]),u6 _,u12 rfl,u6 _,u6 _,trivial⟩)
 ·replace c3:=Int.not_lt.1 (of_decide_eq_false c3)
  refine zM (zA (zB (zP ?_)));refine yC (ι:=Lm n.natAbs) [2,3] [0] 450 (fun x=>[(4,.v (.int .u64 (x.u:Nat)))]) (fun x=>[(101,.box 29 [.v (.int .i64 2),.v (.bool (decide (n<0))),.own 200 1 (x.l.map uD),.v (.bool false),.v (.slice none 0 0),.v (.string ByteArray.empty),.v (.int .i64 0)]),(200,.row 91 1 (x.l.map uD).length)]) (fun x=>x.u) ⟨n.natAbs,[],rfl,Ar _,by simp⟩ ?_;refine⟨⟨⟨Sub.of_eq (by rw[w_pos c3 h2]),by repeat(first|exact trivial|exact u0 _|refine⟨?_,?_⟩)⟩,⟨⟨rfl,u0 _,rfl,Sub.of_eq (by rw[Ce (Int.not_lt.2 c3)]),rfl,u0 _,rfl,u0 _,rfl,u0 _,rfl,u0 _,rfl,u0 _,rfl,trivial⟩,⟨rfl,rfl,rfl⟩,by repeat(first|exact trivial|exact u15 rfl|refine⟨?_,?_⟩)⟩,rfl,rfl⟩,fun x=>?_⟩;have hk:=x.le;have hm:n.natAbs<18446744073709551616:=by omega
  refine zB (zK 700 ?_);refine zZ (fun c6=>?_) (fun c6=>?_)
  ·
   refine zM (zA (zB (zP ?_)));refine zE zJ [] 900 rfl ?_;repeat(first|refine zH ?_|refine zW (by first|rfl|(have h3:=x.short (by omega) hm;simp only[An,Am,Au];omega)) ?_)
   refine zC (zN (zA (yM zJ [] 1000 ?_)));exact zS (x.next om) ⟨⟨Sub.of_eq (by show _=D.v (Value.int .u64 ((x.u/4294967296:Nat):Int));rw[sh32]),by repeat(first|exact trivial|exact u0 _|refine⟨?_,?_⟩)⟩,⟨⟨rfl,u0 _,rfl,u0 _,rfl,Sub.own (by show _=List.map uD (x.l++[x.u%4294967296]);rw[Ad,w32];rfl),rfl,u0 _,rfl,u0 _,rfl,u0 _,rfl,u0 _,rfl,trivial⟩,⟨rfl,rfl,by show _=(List.map uD (x.l++[x.u%4294967296])).length;simp⟩,by repeat(first|exact trivial|exact u15 rfl|refine⟨?_,?_⟩)⟩,rfl,rfl⟩ (by show x.u/4294967296<x.u;omega)
  ·
   refine yE (yA (yB (zY (zA (zK 1000 ?_)))));refine zL ?_;exact u4 rfl (u20 ⟨u6 _,u6 _,SubP.ownSl (by show _=(lim n.natAbs).map uD;rw[<-x.eq,show x.u=0 by omega,qI,Cr]),u6 _,u12 rfl,u6 _,u6 _,trivial⟩)
variable{md me:Bool}
structure Bn(l:List Bool)where
 j:Nat
 o:List Nat
 eq:V o=VB (l.take (16*j))
 lo:o.length=j
 dg:Dg o
 le:16*j<=l.length+15
def Bn.next{l:List Bool}(x:Bn l)(h:16*x.j<l.length):Bn l:=⟨x.j+1,x.o++[gY l (16*x.j) 0],binary_step x.eq x.lo h,by simp[x.lo],x.dg.snoc (dX0 _ _ _),by omega⟩
theorem dY0{l:List Bool}{i k:Nat}(hk:k<16):gY l i k=gY l i (k+1)*2+(if decide (i+k<l.length)&&l.getD (i+k) false then 1 else 0):=by
 rw[chunk_step hk,Aw];by_cases h:i+k<l.length
 ·rw[dif_pos h,Bf h,Dm,Af,Ac h];cases l[i+k]<;>rfl
 ·rw[dif_neg h,Ce h];rfl
def xO0(l:List Bool)(i k:Nat):Bool:=decide (i+k<l.length)&&l.getD (i+k) false
theorem chunk_one{l:List Bool}{i k:Nat}(hk:k<16)(h:xO0 l i k=true):gY l i k=gY l i (k+1)*2+1:=by rw[dY0 hk];unfold xO0 at h;rw[h];rfl
theorem chunk_nil{l:List Bool}{i k:Nat}(hk:k<16)(h:xO0 l i k=false):gY l i k=gY l i (k+1)*2:=by rw[dY0 hk];unfold xO0 at h;rw[h];rfl
structure Bj where
 k:Nat
 le:k<=16
theorem bit_T{l:List Bool}{I k:Nat}(hk:1<=k)(h:(I:Int)+((k:Int)-1)<l.length/\l.getD ((I:Int)+((k:Int)-1)).toNat false=true):xO0 l I (k-1)=true:=by
 unfold xO0;rw[show((I:Int)+((k:Int)-1)).toNat=I+(k-1) by omega]at h;rw[h.2,Bf om];rfl
theorem bit_F{l:List Bool}{I k:Nat}(hk:1<=k)(h:(decide ((I:Int)+((k:Int)-1)<l.length)&&l.getD ((I:Int)+((k:Int)-1)).toNat false)=false):xO0 l I (k-1)=false:=by
 unfold xO0;rw[show((I:Int)+((k:Int)-1)).toNat=I+(k-1) by omega]at h;rw[show decide (I+(k-1)<l.length)=decide ((I:Int)+((k:Int)-1)<l.length)from decide_eq_decide.2 om];exact h
theorem Bn.all{l:List Bool}(x:Bn l)(h:l.length<=16*x.j):V x.o=VB l:=by rw[x.eq,Ai h]
structure Nb(n:Int)where
 m:Int
 o:List Bool
 eq:VB o+m.natAbs*2^o.length=n.natAbs
 lo: -9223372036854775808<=m
 hi:m<=9223372036854775807
 ln:o.length<=64
theorem nb_bit(m:Int):(!decide (Int.tmod m 2=0))=(m.natAbs%2==1):=by
 have:(Int.tmod m 2).natAbs=m.natAbs%2:=by
  rw[Int.natAbs_tmod];rfl
 rw[Bool.eq_iff_iff,Bq,Ay,beq_iff_eq,<-this];have h:(Int.tmod m 2).natAbs<2:=by rw[this];omega
 omega
theorem zE0(m:Int):(Int.tdiv m 2).natAbs=m.natAbs/2:=by rw[Int.natAbs_tdiv];rfl
def Nb.next{n:Int}(x:Nb n)(h:x.o.length<=63):Nb n:=⟨Int.tdiv x.m 2,x.o++[!decide (Int.tmod x.m 2=0)],by
 rw[nb_bit,zE0,Ae,Co];exact wD0 x.eq rfl,by have:=zE0 x.m;have:=x.lo;have:=x.hi;omega,by have:=zE0 x.m;have:=x.lo;have:=x.hi;omega,by simp;omega⟩
theorem Nb.len{n:Int}(x:Nb n)(h:¬x.m=0)(h1: -9223372036854775808<=n)(h2:n<=9223372036854775807):x.o.length<=63:=by
 rcases Br 63 x.o.length with h3|h3
 ·have h4:2^64<=2^x.o.length:=Bb om h3;have h5:1*2^x.o.length<=x.m.natAbs*2^x.o.length:=Bh _ om;have h6:=x.eq;omega
 ·exact h3
theorem Nb.fin{n:Int}(x:Nb n)(h:x.m=0):VB x.o=n.natAbs:=by rw[<-x.eq,h];simp
structure Lb(n:Nat)where
 j:Nat
 o:List Nat
 eq:VL o=V ((dig n).take (2*j))
 lo:o.length=j
 lg:Lg o
 le:2*j<(dig n).length+2
def lbD(n j:Nat):Nat:=(dig n).getD (2*j) 0+(dig n).getD (2*j+1) 0*65536
theorem lb_T(n j:Nat):IntKind.u32.wrap (IntKind.u32.wrap (((dig n).getD (2*j) 0:Nat):Int)+IntKind.u32.wrap (IntKind.u32.wrap (((dig n).getD (2*j+1) 0:Nat):Int)*65536))=((lbD n j:Nat):Int):=by
 have h1:=uF n (2*j);have h2:=uF n (2*j+1);unfold lbD;simp only[IntKind.wrap,IntKind.signed,IntKind.bits,Ch,Az,if_false];omega
theorem lb_F(n j:Nat)(h:(dig n).length<=2*j+1):IntKind.u32.wrap (((dig n).getD (2*j) 0:Nat):Int)=((lbD n j:Nat):Int):=by
 have h1:=uF n (2*j);unfold lbD;rw[wB h];simp only[IntKind.wrap,IntKind.signed,IntKind.bits,Ch,Az,if_false];omega
def Lb.next{n:Nat}(x:Lb n)(h:2*x.j<(dig n).length):Lb n:=⟨x.j+1,x.o++[lbD n x.j],limbs_step x.eq x.lo,by simp[x.lo],x.lg.snoc (by have h1:=uF n (2*x.j);have h2:=uF n (2*x.j+1);unfold lbD;omega),by omega⟩
theorem Lb.fin{n:Nat}(x:Lb n)(h:(dig n).length<=2*x.j):x.o=lim n:=limbs_end (by rw[x.lo];exact x.eq) (by rw[x.lo];exact h) (by rw[x.lo];exact x.le) x.lg
theorem xX0(l:List Bool)(hl:l.length<=100000000):Fx 145 [.sl false 1 l bD false] (qK (VB l)):=by
 refine yD zJ Tryz.func145 rfl rfl rfl rfl rfl rfl ?_;intros;refine zK 100 ?_;refine zK 200 ?_;refine yY 3 3 1 rfl ?_;refine zB (zK 300 ?_);refine zP ?_;refine yC (ι:=Bn l) [0] [] 350 (fun x=>[(4,.v (.int .i64 (16*x.j:Nat))),(3,.own 200 1 (x.o.map nD))]) (fun x=>[(200,.row 3 1 (x.o.map nD).length)]) (fun x=>l.length+16-16*x.j) ⟨0,[],rfl,rfl,Dg.nil,by omega⟩ ?_;refine⟨⟨yG,yF,rfl,rfl⟩,fun x=>?_⟩;have hk:=x.le;have hk2:=x.lo;refine zB (zK 400 ?_);refine zZ (fun c3=>?_) (fun c3=>?_)
 ·
  refine zM (zA (zB (zP (zK 600 ?_))));refine zB (zK 700 ?_);refine zP ?_;refine yC (ι:=Bj) [0,3,4] [200] 750 (fun y=>[(6,.v (.int .i64 ((y.k:Int)-1))),(5,.v (.int .i64 (gY l (16*x.j) y.k:Nat)))]) (fun _=>[]) (fun y=>y.k) ⟨16,Ar _⟩ ?_;refine⟨⟨(by repeat(first|exact u21 (by rw[chunk_top];rfl)|refine⟨?_,?_⟩|exact lx)),yF,rfl,rfl⟩,fun y=>?_⟩;have hy:=y.le;have hy2:=dX0 l (16*x.j) y.k;refine zB (zK 800 ?_);refine zZ (fun c7=>?_) (fun c7=>?_)
  ·
   refine zM (zA (zB (zP (zK 1000 ?_))));refine zK 1100 ?_;refine zZ (fun c10=>?_) (fun c10=>?_)
   ·
    refine yM zJ [] 1200 ?_;refine zN (zA (yM zJ [] 1300 ?_));exact zS ⟨y.k-1,by omega⟩ ⟨(by repeat(first|exact u21 (by show(y.k:Int)-1-1=((y.k-1:Nat):Int)-1;omega)|exact u21 (by show _=((gY l (16*x.j) (y.k-1):Nat):Int);rw[chunk_one (k:=y.k-1) om (bit_T om c10),show y.k-1+1=y.k by omega];push_cast;rfl)|refine⟨?_,?_⟩|exact lx)),yF,rfl,rfl⟩ (by show y.k-1<y.k;omega)
   ·
    refine zM (zN (zA (yM zJ [] 1200 ?_)));exact zS ⟨y.k-1,by omega⟩ ⟨(by repeat(first|exact u21 (by show(y.k:Int)-1-1=((y.k-1:Nat):Int)-1;omega)|exact u21 (by show _=((gY l (16*x.j) (y.k-1):Nat):Int);rw[chunk_nil (k:=y.k-1) om (bit_F om c10),show y.k-1+1=y.k by omega];push_cast;rfl)|refine⟨?_,?_⟩|exact lx)),yF,rfl,rfl⟩ (by show y.k-1<y.k;omega)
  ·
   refine yE (yA (yB (zY (zA (yM zJ [] 1300 ?_)))));refine zN (zA (yM zJ [] 1400 ?_));obtain⟨ky,hky⟩:=y;have hz:ky=0:=by simp only at c7;omega
   subst hz;exact zS (x.next (by omega)) ⟨(by repeat(first|exact u21 (by show((16*x.j:Nat):Int)+16=((16*(x.j+1):Nat):Int);omega)|exact Sub.own (by show _=List.map nD (x.o++[_]);rw[Ad];rfl)|refine⟨?_,?_⟩|exact lx)),(by repeat(first|exact trivial|exact u15 rfl|exact⟨rfl,rfl,by show _=(List.map nD (x.o++[_])).length;simp⟩|refine⟨?_,?_⟩)),rfl,rfl⟩ (by show l.length+16-16*(x.j+1)<l.length+16-16*x.j;omega)
 ·
  refine yE (yA (yB (zY (zA ?_))));refine yL [] [] 410 [(3,.sl false 1 x.o nD 0)] [] ?_;refine⟨⟨⟨u5 rfl,trivial⟩,yF,rfl,rfl⟩,?_⟩;refine zB (zE zJ [] 1400 rfl ?_);refine zF ?_;refine zQ _ (xA _ x.dg (by rw[hk2];omega)) rfl ?_;refine zf (zA (zL ?_));exact u4 rfl (u9 (by rw[x.all om]))
theorem uC(n:Int)(h1: -9223372036854775808<=n)(h2:n<=9223372036854775807):Fx 86 [.v (.int .i64 n)] (.agg [.v (.bool (decide (n<0))),qK n.natAbs]):=by
 refine yD zJ Tryz.func86 rfl rfl rfl rfl rfl rfl ?_;intros;refine zK 100 ?_;refine zK 200 ?_;refine yY 3 4 1 rfl ?_;refine zK 300 ?_;refine zB (zP ?_);refine yC (ι:=Nb n) [2,4] [0] 350 (fun x=>[(0,.v (.int .i64 x.m)),(3,.own 200 1 (x.o.map bD))]) (fun x=>[(200,.row 4 1 (x.o.map bD).length)]) (fun x=>x.m.natAbs) ⟨n,[],by simp[VB],h1,h2,by simp⟩ ?_;refine⟨⟨yG,yF,rfl,rfl⟩,fun x=>?_⟩;have hk:=x.lo;have hk2:=x.hi;refine zB (zK 400 ?_);refine zZ (fun c3=>?_) (fun c3=>?_)
 ·
  refine zM (zA (zP ?_));refine zB (zE zJ [] 500 rfl ?_);repeat(first|refine zH ?_|refine zW (by first|exact trivial|omega|exact ini (by omega) (by omega)|(intro hh;simp at hh;exact ini om om)|(intro hh;simp at hh⊢;omega)|(simp at*;omega)|(simp_all;done)|(have h3:=x.len c3 h1 h2;simp only[An,Am,Au];omega)) ?_)
  refine zC (zA ?_);refine zE zJ [] 600 rfl ?_;repeat(first|refine zH ?_|refine zW (by first|exact trivial|omega|exact ini (by omega) (by omega)|(intro hh;simp at hh;exact ini om om)|(intro hh;simp at hh⊢;omega)|(simp at*;omega)|(simp_all;done)|(have h3:=zE0 x.m;exact⟨by decide,ini om om⟩)) ?_)
  refine zC (zN ?_);exact zS (x.next (x.len c3 h1 h2)) ⟨(by repeat(first|exact Sub.own (by show _=List.map bD (x.o++[_]);rw[Ad];rfl)|refine⟨?_,?_⟩|exact lx)),(by repeat(first|exact trivial|exact u15 rfl|exact⟨rfl,rfl,by show _=(List.map bD (x.o++[_])).length;simp⟩|refine⟨?_,?_⟩)),rfl,rfl⟩ (by show(Int.tdiv x.m 2).natAbs<x.m.natAbs;have:=zE0 x.m;omega)
 ·
  refine yE (yA (yB (zY (zA ?_))));refine yL [2,4] [0] 410 [(3,.sl false 1 x.o bD false)] [] ?_;refine⟨⟨⟨u5 rfl,by repeat(first|exact trivial|exact u0 _|refine⟨?_,?_⟩)⟩,yF,rfl,rfl⟩,?_⟩;refine zB (zE zJ [] 700 rfl ?_);refine zF ?_;refine zQ _ (xX0 _ (by have:=x.ln;omega)) rfl ?_;refine zf (zA (zL ?_));exact u4 rfl (u20 ⟨u6 _,u9 (by rw[x.fin om]),trivial⟩)
theorem yL0(n:Nat)(hl:(dig n).length<=100000000):Fx 191 [qK n] (.sl false 1 (lim n) uD 0):=by
 refine yD zJ Tryz.func191 rfl rfl rfl rfl rfl rfl ?_;intros;refine zK 100 ?_;refine zK 200 ?_;refine yY 3 91 1 rfl ?_;refine zB (zK 300 ?_);refine zP ?_;refine yC (ι:=Lb n) [0] [] 350 (fun x=>[(4,.v (.int .i64 (2*x.j:Nat))),(3,.own 200 1 (x.o.map uD))]) (fun x=>[(200,.row 91 1 (x.o.map uD).length)]) (fun x=>(dig n).length+2-2*x.j) ⟨0,[],by simp[VL,V],rfl,Lg.nil,by omega⟩ ?_;refine⟨⟨yG,yF,rfl,rfl⟩,fun x=>?_⟩;have hk:=x.le;have hk2:=x.lo;refine zB (zK 400 ?_);refine zZ (fun c3=>?_) (fun c3=>?_)
 ·
  refine zM (zA (zB (zP (zK 600 ?_))));refine zB (zK 700 ?_);refine zZ (fun c6=>?_) (fun c6=>?_)
  ·
   refine yM zJ [] 800 ?_;refine zA (yM zJ [] 900 ?_);refine zN (zA (yM zJ [] 1000 ?_));exact zS (x.next (by omega)) ⟨(by repeat(first|exact u21 (by show((2*x.j:Nat):Int)+2=((2*(x.j+1):Nat):Int);omega)|exact Sub.own (by show _=List.map uD (x.o++[_]);rw[Ad];show _=List.map uD x.o++[[D.v (Value.int .u32 ((lbD n x.j:Nat):Int))]];rw[<-lb_T n x.j];rfl)|refine⟨?_,?_⟩|exact lx)),(by repeat(first|exact trivial|exact u15 rfl|exact⟨rfl,rfl,by show _=(List.map uD (x.o++[_])).length;simp⟩|refine⟨?_,?_⟩)),rfl,rfl⟩ (by show(dig n).length+2-2*(x.j+1)<(dig n).length+2-2*x.j;omega)
  ·
   refine zM (zA (yM zJ [] 900 ?_));refine zN (zA (yM zJ [] 1000 ?_));exact zS (x.next (by omega)) ⟨(by repeat(first|exact u21 (by show((2*x.j:Nat):Int)+2=((2*(x.j+1):Nat):Int);omega)|exact Sub.own (by show _=List.map uD (x.o++[_]);rw[Ad];show _=List.map uD x.o++[[D.v (Value.int .u32 ((lbD n x.j:Nat):Int))]];rw[<-lb_F n x.j om];rfl)|refine⟨?_,?_⟩|exact lx)),(by repeat(first|exact trivial|exact u15 rfl|exact⟨rfl,rfl,by show _=(List.map uD (x.o++[_])).length;simp⟩|refine⟨?_,?_⟩)),rfl,rfl⟩ (by show(dig n).length+2-2*(x.j+1)<(dig n).length+2-2*x.j;omega)
 ·
  refine yE (yA (yB (zY (zA (zK 1000 ?_)))));refine zL ?_;exact u4 rfl (SubP.ownSl (by rw[x.fin om]))
theorem whole_neg(z:Int):(decide (z<0)&&decide ((0:Int)<((dig z.natAbs).length:Nat)))=decide (z<0):=by
 by_cases h:z<0
 ·rw[Bf h,Dm];refine Bf ?_;have h2:dig z.natAbs≠[]:=fun e=>by rw[qN0]at e;omega
  have:=Db.2 h2;omega
 ·rw[Ce h];rfl
theorem Whole7_ok(z:Int)(hl:(dig z.natAbs).length<=100000000):Fx 144 [.agg [.v (.bool (decide (z<0))),qK z.natAbs]] (.agg (vlD (nuV z))):=by
 refine yD zJ Tryz.func144 rfl rfl rfl rfl rfl rfl ?_;intros;refine zK 100 ?_;refine zB (zX zJ [] mK16 200 yP kr rfl ?_);refine zF ?_;refine zQ _ (yL0 _ ao) rfl ?_;refine zf (zA (zL ?_));exact u4 rfl (u20 ⟨u6 _,u9 (by rw[whole_neg];rfl),u6 _,u6 _,u12 rfl,u6 _,u6 _,trivial⟩)
theorem dig_small{n:Int}(h1: -9223372036854775808<=n)(h2:n<=9223372036854775807):(dig n.natAbs).length<=100000000:=At (qB (k:=4) om) om
theorem N_ok(n:Int)(h1: -9223372036854775808<=n)(h2:n<=9223372036854775807):Fx 85 [.v (.int .i64 n)] (.agg (vlD (nuV n))):=by
 refine yD zJ Tryz.func85 rfl rfl rfl rfl rfl rfl ?_;intros;refine zK 100 ?_;refine zB (zE zJ [] 200 rfl ?_);refine zF ?_;refine zQ _ (uC n h1 h2) rfl ?_;refine zF ?_;refine zQ _ (Whole7_ok n (dig_small h1 h2)) rfl ?_;refine zf (zA (zL ?_));exact u4 rfl (u6 _)
variable{md me:Bool}
theorem qG{l:List Nat}(h:Lg l)(i:Nat):l.getD i 0<4294967296:=by
 rcases Br i l.length with h1|h1
 ·rw[qQ h1];exact h.at h1
 ·rw[Af,Cz h1];show 0<_;omega
theorem bO0{l:List Nat}{n:Nat}(hl:l.length=n+1):VL l=VL (l.take n)+4294967296^n*l.getD n 0:=by
 rw[qQ om,<-vQ om,Ai om]
structure TrmL(l:List Nat)where
 r:List Nat
 lg:Lg r
 eq:VL r=VL l
 le:r.length<=l.length
theorem last_takeL{r:List Nat}(h:0<r.length)(h0:r.getD (r.length-1) 0=0):VL (r.take (r.length-1))=VL r:=by
 have h1:=bO0 (l:=r) (n:=r.length-1) om;rw[h0]at h1;omega
def TrmL.next{l:List Nat}(x:TrmL l)(h:0<x.r.length)(h0:x.r.getD (x.r.length-1) 0=0):TrmL l:=⟨x.r.take (x.r.length-1),x.lg.take _,by rw[last_takeL h h0,x.eq],by have:=x.le;simp;omega⟩
theorem TrmL.fin{l:List Nat}(x:TrmL l)(h:0<x.r.length->x.r.getD (x.r.length-1) 0≠0):x.r=lim (VL l):=by
 rw[<-x.eq];refine(jO1 x.lg fun hne=>?_).symm;have hp:0<x.r.length:=Db.2 hne;rw[Em,<-qQ om];exact h hp
theorem pR{b:Bool}{l:List Nat}(hg:Lg l)(h:uH b l=true):l=lim (VL l)/\b=decide (ZI b (VL l)<0)/\l.length<=128:=by
 unfold uH at h;rw[Aj,Dl,Aj,Aj,Ap,Ap,Ap,Ap]at h;obtain⟨h1,h2⟩:=h;rcases h2 with⟨h2,h3⟩|⟨h2,h3⟩
 ·have hl:l=[]:=Bm h2;subst hl;have hb:b=false:=by simpa using h3
  subst hb;exact⟨by rw[xU0,qI],rfl,Aq _⟩
 ·have hn:yJ0 l:=fun hne=>by
   rw[Em]
   rwa[qQ om]at h3
  have hv:=(jO1 hg hn).symm;refine⟨hv,?_,h1⟩;have hp:0<VL l:=by
   rcases Bz (VL l)with h0|h0
   ·rw[h0,qI]at hv;rw[hv]at h2;exact absurd h2 de
   ·exact h0
  unfold ZI
  cases b
  ·simp
  ·simp;omega
theorem lim_nil{n:Nat}:lim n=[]↔n=0:=by
 constructor
 ·intro h;rcases Bz n with h0|h0
  ·exact h0
  ·rw[xD om]at h;cases h
 ·rintro rfl;exact qI
theorem lim_len{n:Nat}:(decide ((0:Int)<((lim n).length:Nat)))=decide (0<n):=by
 apply decide_eq_decide.2;constructor
 ·intro h;rcases Bz n with h0|h0
  ·rw[h0,qI]at h;exact absurd h de
  ·exact h0
 ·intro h;have:lim n≠[]:=fun e=>by rw[lim_nil]at e;omega
  have:=Db.2 this;omega
theorem bJ{n:Nat}:(decide ((0:Int)<((dig n).length:Nat)))=decide (0<n):=by
 apply decide_eq_decide.2;constructor
 ·intro h;rcases Bz n with h0|h0
  ·rw[h0,jS]at h;exact absurd h de
  ·exact h0
 ·intro h;have:dig n≠[]:=fun e=>by rw[qN0]at e;omega
  have:=Db.2 this;omega
theorem bO(z:Int):ZI (decide (z<0)) z.natAbs=z:=by
 unfold ZI;by_cases h:z<0
 ·rw[Bf h,Ab rfl];omega
 ·rw[Ce h,Aa de];omega
theorem pow_256:(4294967296:Nat)^128=65536^256:=by decide+kernel
theorem fit_iff(n:Nat):(dig n).length<=256↔(lim n).length<=128:=by
 constructor
 ·intro h;have:=lim_dig_length n;omega
 ·intro h;refine qB ?_;rw[<-pow_256];exact Bt (mG n) (Bb de h)
theorem yB1(n:Nat):decide (((dig n).length:Int)<=256)=decide ((lim n).length<=128):=decide_eq_decide.2 (by have:=fit_iff n;omega)
theorem xK0:(dig 1).length=1:=by decide+kernel
def ivV(b:Bool)(n:Nat):Vl:=⟨2,b&&decide (0<n),lim n,false,[],ByteArray.empty,0⟩
def raV(b:Bool)(n d:Nat):Vl:=if d=1 then ivV b n else⟨3,b&&decide (0<n),lim n,false,lim d,ByteArray.empty,0⟩
def fitB(n d:Nat):Bool:=decide ((lim n).length<=128)&&decide ((lim d).length<=128)
def tooB:ByteArray:=⟨#[118,97,108,117,101,32,105,115,32,116,111,111,32,108,97,114,103,101]⟩
def nuS(b:Bool)(n d:Nat):St:=if fitB n d=true then vlS (raV b n d)else raS 42 tooB
def plB(b1:Bool)(n1:Nat)(b2:Bool)(n2:Nat):Bool×Nat:=if b1=b2 then(b1,n1+n2)else if n2<=n1 then(b1,n1-n2)else(b2,n2-n1)
variable{md me:Bool}
def iV(x:Bool×List Nat):List D:=[.v (.bool x.1),usD x.2]
def faD(c i:Int):D:= .agg [.v (.int .i64 c),.v (.int .i64 i)]
def sgB(b:Bool)(l:List Nat):Bool:=if l.length<=128 then b&&decide ((0:Int)<(l.length:Nat))else false
def sgL(l:List Nat):List Nat:=if l.length<=128 then l else []
def sgC(l:List Nat):Int:=if l.length<=128 then 0 else 14
def sgI(l:List Nat):Int:=if l.length<=128 then 0 else-1
def sgD(b:Bool)(l:List Nat):D:= .tup [.agg (iV (sgB b l,sgL l)),faD (sgC l) (sgI l)]
theorem uJ1{b:Bool}{l:List Nat}(h:l.length<=128):D.tup [.agg (iV (b&&decide ((0:Int)<(l.length:Nat)),l)),faD 0 0]=sgD b l:=by rw[sgD,sgB,sgL,sgC,sgI,Ab h,Ab h,Ab h,Ab h]
theorem sgD_gt{b:Bool}{l:List Nat}(h:¬l.length<=128):SubP (D.tup [.agg [.v (.bool false),.v (.slice none 0 0)],faD 14 (-1)]) (sgD b l):=by
 have e:D.tup [.agg (iV (false,[])),faD 14 (-1)]=sgD b l:=by rw[sgD,sgB,sgL,sgC,sgI,Aa h,Aa h,Aa h,Aa h]
 rw[<-e];exact u19 ⟨u20 ⟨u6 _,u12 rfl,trivial⟩,u6 _,trivial⟩
def limN:Nat->Nat->List Nat
 |0,_=>[]
 |n+1,v=>v%4294967296::limN n (v/4294967296)
theorem gE:∀n v,(limN n v).length=n
 |0,_=>rfl
 |n+1,v=>by rw[limN,Am,gE n]
theorem bC:∀n v,Lg (limN n v)
 |0,_=>Lg.nil
 |n+1,v=>fun x hx=>by
  rw[limN]at hx;rcases Bi.1 hx with rfl|hx
  ·exact Cx _ de
  ·exact bC n _ x hx
theorem uW1:∀{l:List Nat},Lg l->limN l.length (VL l)=l
 |[],_=>rfl
 |d::l,h=>by
  have h1:=h d Bc;rw[uU,Am,limN,show(d+4294967296*VL l)%4294967296=d by omega,show(d+4294967296*VL l)/4294967296=VL l by omega,uW1 fun x hx=>h x (Be _ hx)]
theorem bK0{n v:Nat}(h:v<4294967296^n):VL (limN n v)=v:=by
 induction n generalizing v with
 |zero=>simp at h;subst h;rfl
 |succ n ih=>
  rw[limN,uU,ih (by rw[By]at h;omega)];omega
theorem vW1{l r:List Nat}(h1:Lg l)(h2:Lg r):Lg (l++r):=fun x hx=>(Av.1 hx).elim (h1 x) (h2 x)
theorem cA{s:Nat}{p:Int}{q:Nat}(h:p=(q:Int)):Int.fdiv (s:Int) p=((s/q:Nat):Int):=by
 subst h;rw[Ep _ om];rfl
theorem jI0{o x:List Nat}{k v:Nat}(ho:o.length=k)(hk:k<x.length):(MR.upd (.map (o++x.drop k) uD 0) k (uD v)).rows=(MR.map ((o++[v])++x.drop (k+1)) uD 0).rows:=by
 simp only[MR.rows];rw[<-List.map_set];congr 1;rw[List.set_append_right _ _ om,ho,Nat.sub_self,Cd hk,List.set_cons_zero];simp
theorem vT0{o x:List Nat}{k:Nat}(ho:o.length=k):(o++x.drop k).getD k 0=x.getD k 0:=by
 rw[Af,Cs om,ho,Nat.sub_self,Ds,Af];rfl
theorem tW(c i:Int):Fx 224 [.v (.int .i64 c),.v (.int .i64 i)] (faD c i):=by
 refine yD zJ Tryz.func224 rfl rfl rfl rfl rfl rfl ?_;intros;refine zK 100 ?_;refine zK 200 ?_;refine zL ?_;exact u4 rfl (u6 _)
theorem gG(b:Bool)(l:List Nat)(hl:l.length<=2000000):Fx 153 [.agg [.v (.bool b),usD l]] (.v (.bool (uH b l))):=by
 refine yD zJ Tryz.func153 rfl rfl rfl rfl rfl rfl ?_;intros;refine zK 100 ?_;refine zK 200 ?_;refine zB (zE zJ [] 300 rfl ?_);repeat(first|refine zH ?_|refine zW (by first|exact trivial|omega|exact ini (by omega) (by omega)|(intro hh;simp at hh;exact ini om om)|(intro hh;simp at hh⊢;omega)|(simp at*;omega)|(simp_all;done)|(intros;exact ini om om)) ?_)
 refine zC (zA (zL ?_));exact u4 rfl (u7 (by rw[<-wS0]))
theorem vL(L:List (Bool×List Nat))(hv:∀k<L.length,uH (L.getD k (false,[])).1 (L.getD k (false,[])).2=true/\(L.getD k (false,[])).2.length<=2000000)(hl:L.length<=100):Fx 223 [.sl false 2 L iV (false,[])] (faD 0 0):=by
 refine yD zJ Tryz.func223 rfl rfl rfl rfl rfl rfl ?_;intros;refine zK 100 ?_;refine zB (zK 200 ?_);refine zP ?_;refine yC (ι:={k:Nat//k<=L.length}) [2,5,6] [0] 250 (fun x=>[(7,.v (.int .i64 x.1))]) (fun _=>[]) (fun x=>L.length-x.1) ⟨0,Aq _⟩ ?_;refine⟨⟨yG,yF,rfl,rfl⟩,fun x=>?_⟩;have hk:x.1<=L.length:=x.2;refine zK 300 ?_;refine zB (zZ (fun c2=>?_) (fun c2=>?_))
 ·
  refine zM (zA (zB (zP (zK 400 ?_))));refine zB (zE zJ [] 500 rfl ?_);refine zF ?_;refine zQ _ (gG _ _ ao) rfl ?_;refine zF ?_;refine zC (zA (zZ (fun c4=>?_) (fun c4=>?_)))
  ·
   exact Bool.noConfusion (c4.symm.trans (hv x.1 om).1)
  ·
   refine zM (zN (zA (yM zJ [] 700 ?_)));exact zS (⟨x.1+1,by omega⟩) ⟨⟨u21 (by push_cast;rfl),yG⟩,yF,rfl,rfl⟩ (by show L.length-(x.1+1)<L.length-x.1;omega)
 ·
  refine yE (yA (yB (zY (zA (zK 800 ?_)))));refine zL ?_;exact u4 rfl (u6 _)
theorem vW(b:Bool)(l:List Nat):Fx 247 [.v (.bool b),usD l] (sgD b l):=by
 refine yD zJ Tryz.func247 rfl rfl rfl rfl rfl rfl ?_;intros;refine zK 100 ?_;refine zB (zK 200 ?_);refine zZ (fun c1=>?_) (fun c1=>?_)
 ·
  refine zB (zE zJ [] 300 rfl ?_);refine zF ?_;refine zQ _ (tW _ _) rfl ?_;refine zf (zA (zL (zO ?_)));exact u4 rfl (sgD_gt (b:=b) (l:=l) om)
 ·
  refine zM (zA (zK 400 ?_));refine zL ?_;exact u4 rfl (u9 (uJ1 (b:=b) (l:=l) om))
theorem yQ0(l:List Nat)(hl:l.length<=2000000):FnO Tryz.prog 61 [usD l] 91 1 (l.map uD):=by
 refine bV Tryz.func61 rfl rfl rfl rfl rfl rfl ?_;intros;refine zB (zE zJ [5] 100 rfl ?_);repeat(first|refine zH ?_|refine zW (by exact qX hl) ?_)
 refine zC (zA (zB (zB ?_)));refine uT Tryz.underlying25 rfl rfl rfl fun c hc=>?_;refine zA (zU rfl (fun c1=>?_) (fun c1=>?_))
 ·
  refine zB (zE zJ [5] 300 rfl ?_);repeat(first|refine zH ?_|refine zW (by exact qX hl) ?_)
  refine zC (zA (zL (zO ?_)));exact FinO.nil rfl (by rw[hc c1];rfl)
 ·
  refine zM (zA ?_);refine zB (zE zJ [5] 400 rfl ?_);repeat(first|refine zH ?_|refine zW (by first|rfl|exact qX hl|(rw[Au];have:=qX (f:=uD) hl;omega)|(have:=qX (f:=uD) hl;simp at this⊢;omega)) ?_)
  refine zC (zA (zL ?_));exact FinO.ret rfl rfl rfl rfl
variable{md me:Bool}
theorem tS0{α:Type}{f:α->List D}{l:List α}{k:Nat}(e:α)(h:k<l.length):(l.take (k+1)).map f=(l.take k).map f++[f (l.getD ((k:Nat):Int).toNat e)]:=by
 rw[List.take_add_one,Ac h,Ad,Ak,Af,Ac h];rfl
theorem uG1{α:Type}{l:List α}{k:Nat}(h:k<l.length):(l.take (k+1)).length=(l.take k).length+1:=by
 rw[As,As];omega
theorem uS1{α:Type}{l:List α}{k:Nat}(e:α)(h:k<l.length):l.getD ((k:Nat):Int).toNat e∈l:=by
 rw[Ak,Af,Ac h];exact Cj _
theorem ob_own(o:Ob)(a b c d e:Nat):D.pvs [.v (.int .i64 o.kind),.v (.string o.name),.v (.int .i64 o.cls),.own a 1 (o.refs.map iD),.own b 1 (o.order.map iD),.own c 1 (o.names.map sD),.own d 7 (o.items.map vlD),.own e 7 (o.keys.map vlD),.v (.int .i64 o.code),.v (.int .i64 o.state)]=D.pvs (obD o):=by
 simp only[obD,D.pvs,D.pv,yS,Cw];rfl
theorem vY0{a:List (List D)}{r:List D}:D.pvss (a++[r])=D.pvss a++[D.pvs r]:=by rw[yS,yS,Ad];rfl
theorem xM0(l:List Vl)(hl:l.length<=2000000)(hv:∀v∈l,VlIn v):FnO Tryz.prog 17 [vsD l] 29 7 (l.map vlD):=by
 refine bV Tryz.func17 rfl rfl rfl rfl rfl rfl ?_;intros;refine zK 100 ?_;refine zK 200 ?_;refine yY 3 29 7 rfl ?_;refine zB (zK 300 ?_);refine zP ?_;refine yC (ι:={k:Nat//k<=l.length}) [6,7] [] 350 (fun x=>[(8,.v (.int .i64 x.1)),(3,.own 200 7 ((l.take x.1).map vlD))]) (fun x=>[(200,.row 29 7 ((l.take x.1).map vlD).length)]) (fun x=>l.length-x.1) ⟨0,Aq _⟩ ?_;refine⟨⟨yG,yF,rfl,rfl⟩,fun x=>?_⟩;have hk:x.1<=l.length:=x.2;refine zK 400 ?_;refine zB (zZ (fun c3=>?_) (fun c3=>?_))
 ·
  refine zM (zA (zB (zP ?_)));have hvk:VlIn (l.getD ((x.1:Nat):Int).toNat vl0):=hv _ (uS1 vl0 c3);refine zK 500 ?_;refine zB (zX zJ [15,19] [[],[0],[0,1],[0,1,2],[],[4],[4,5],(rgN 7),(rgN 7),[0,1,2,3,4,5,6,8],(rgN 10),(rgN 11),(rgN 12),(rgN 13)] 600 yP kr rfl ?_);refine zF ?_;refine jJ _ _ _ (yQ0 _ hvk.nn) ?_;refine zF ?_;refine jJ _ _ _ (yQ0 _ hvk.dn) ?_;refine zf (zA ?_);refine zE zJ [] 700 rfl ?_;repeat(first|refine zH ?_|refine zW (by first|rfl|(simp only[An,As,Am,Au];omega)|exact Fa) ?_)
  refine zC (zN (zA (yM zJ [] 800 ?_)));exact zS (⟨x.1+1,by omega⟩) ⟨⟨u21 (by push_cast;rfl),Sub.ownRows (by rw[tS0 vl0 c3];exact(RowsP.refl _).append ⟨⟨u6 _,u6 _,SubP.ownSl rfl,u6 _,SubP.ownSl rfl,u6 _,u6 _,trivial⟩,trivial⟩),yG⟩,⟨⟨rfl,rfl,by simp only[Ae,An];rw[uG1 c3];rfl⟩,yF⟩,rfl,rfl⟩ (by show l.length-(x.1+1)<l.length-x.1;omega)
 ·
  refine yE (yA (yB (zY (zA (zK 900 ?_)))));refine zL ?_;have e:l.take x.1=l:=Ai om;exact FinO.ret rfl rfl (by rw[e]) (by rw[e])
theorem qX0(h:List Ob)(hh:HpIn h):FnG Tryz.prog 5 [hpD md h] [] (.agg [.mo 0 h.length]) [.mrow 50 10 (.map h obD ob0)]:=by
 have hhl:=hh.len;refine uE zJ Tryz.func5 rfl rfl rfl rfl rfl rfl rfl ?_;intros;refine zK 100 ?_;refine zK 200 ?_;refine vN 100 0 50 10 rfl rfl ?_;refine zB ?_;refine zQ0 200 rfl ?_;refine zK 300 ?_;refine zP ?_;refine yC (ι:={k:Nat//k<=h.length}) [2,3,7,8] [1] 350 (fun x=>[(9,.v (.int .i64 x.1))]) (fun x=>[(100,.box 24 [.mo 200 (h.take x.1).length]),(200,.mrow 50 10 (.map (h.take x.1) obD ob0))]) (fun x=>h.length-x.1) ⟨0,Aq _⟩ ?_;refine⟨⟨yG,⟨⟨rfl,Sub.mo rfl,rfl,trivial⟩,SubO.mr rfl,yF⟩,rfl,rfl⟩,fun x=>?_⟩;have hk:x.1<=h.length:=x.2;refine zK 400 ?_;refine zB (zZ (fun c3=>?_) (fun c3=>?_))
 ·
  refine zM (zA (zB (zP ?_)));have hob:ObIn (h.getD ((x.1:Nat):Int).toNat ob0):=hh.ob _ (uS1 ob0 c3);refine zK 500 ?_;refine zB (zX zJ [15,18,21] [[],[0],[0,1],[],[3],(rgN 5),[],[6],(rgN 8),[0,1,2,3,4,6,7],(rgN 10),(rgN 11),(rgN 12),(rgN 13),(rgN 14)] 600 yP kr rfl ?_);refine zF ?_;refine jJ _ _ _ (xW0 _ hob.rl) ?_;refine zF ?_;refine jJ _ _ _ (xW0 _ hob.ol) ?_;refine zF ?_;refine jJ _ _ _ (CloneS_ok _ hob.nl) ?_;refine zf (zA ?_);refine zB (zX zJ [27,30] [[],[0],[0,1],[],[3],(rgN 5),(rgN 5),(rgN 7),(rgN 8),(rgN 9)] 700 yP kr rfl ?_);refine zF ?_;refine jJ _ _ _ (xM0 _ hob.il hob.iv) ?_;refine zF ?_;refine jJ _ _ _ (xM0 _ hob.kl hob.kv) ?_;refine zf (zA ?_);refine zE zJ [] 800 rfl ?_;repeat(first|refine zH ?_|refine zW (by first|rfl|(simp only[MR.len,As,Am,Au];have:=hh.len;omega)|exact Fa) ?_)
  refine zC (zN (zA (yM zJ [] 900 ?_)));exact zS (⟨x.1+1,by omega⟩) ⟨⟨u21 (by push_cast;rfl),yG⟩,⟨⟨rfl,Sub.mo (by rw[uG1 c3];rfl),rfl,trivial⟩,SubO.mp (by show D.pvss (List.map obD _++[_])=D.pvss (List.map obD _);rw[tS0 ob0 c3,vY0,vY0,ob_own]),yF⟩,rfl,rfl⟩ (by show h.length-(x.1+1)<h.length-x.1;omega)
 ·
  refine yE (yA (yB (zY (zA (zK 1000 ?_)))));refine zL ?_;have e:h.take x.1=h:=Ai om;exact u11 200 rfl rfl (by rw[e];exact u0 _) ⟨SubO.mr (by rw[e]),trivial⟩
variable{md me:Bool}
def hpO(h:List Ob):List DOwn:=[.box 24 [.mo 1 h.length],.mrow 50 10 (.map h obD ob0)]
theorem CloneV_G(l:List Vl)(hl:l.length<=2000000):FnG Tryz.prog 45 [vsD l] [] (.mo 0 l.length) [.mrow 29 7 (.map l vlD vl0)]:=by
 refine uE zJ Tryz.func45 rfl rfl rfl rfl rfl rfl rfl ?_;intros;refine zB (zE zJ [] 100 rfl ?_);repeat(first|refine zH ?_|refine zW (by exact qX hl) ?_)
 refine zC (zA (zB (zB ?_)));refine uT Tryz.underlying33 rfl rfl rfl fun c hc=>?_;refine zA (zU rfl (fun c1=>?_) (fun c1=>?_))
 ·
  refine zB (zE zJ [] 300 rfl ?_);repeat(first|refine zH ?_|refine zW (by exact qX hl) ?_)
  refine zC (zA ?_);refine yY 2 29 7 rfl ?_;refine zQ0 300 rfl ?_;refine zL (zO ?_);obtain rfl:=hc c1;exact u11 300 rfl rfl (u0 _) ⟨SubO.mr rfl,trivial⟩
 ·
  refine zM (zA ?_);refine zB (zE zJ [1005] 400 rfl ?_);repeat(first|refine zH ?_|refine zW (by first|rfl|exact qX hl|(simp only[MR.len,Au,An];omega)) ?_)
  refine zC (zA (zL ?_));exact u11 100 rfl rfl (Sub.mo (by rw[An,Cp])) ⟨SubO.mr rfl,trivial⟩
variable{md me:Bool}
theorem zR1{α:Type} [DecidableEq α]:∀(l:List α)(n:α),ixI l n<l.length
 |[],n=>by show(-1:Int)<((0:Nat):Int);omega
 |x::l,n=>by
  have:=zR1 l n;rw[ixI,Am];split
  ·omega
  ·split<;>omega
def ownB(o:Ob)(s:ByteArray):Bool:=decide (0<=ixI o.names s)
def ownV(o:Ob)(s:ByteArray):Vl:=if ixI o.names s<0 then vl0 else o.items.getD (ixI o.names s).toNat vl0
structure Fd{α:Type}(l:List α)(p:α->Bool)where
 k:Nat
 le:k<=l.length
 eq:(l.drop k).find? p=l.find? p
def Fd.next{α:Type}{l:List α}{p:α->Bool}(x:Fd l p)(e:α)(hk:x.k<l.length)(h0:p (l.getD (x.k:Int).toNat e)=false):Fd l p:=⟨x.k+1,hk,by rw[<-x.eq,uR0 hk e,List.find?_cons_of_neg (by rw[h0];decide)]⟩
theorem Fd.found{α:Type}{l:List α}{p:α->Bool}(x:Fd l p)(e:α)(hk:x.k<l.length)(h0:p (l.getD (x.k:Int).toNat e)=true):l.find? p=some (l.getD (x.k:Int).toNat e):=by rw[<-x.eq,uR0 hk e,List.find?_cons_of_pos h0]
theorem Fd.none{α:Type}{l:List α}{p:α->Bool}(x:Fd l p)(hk:l.length<=x.k):l.find? p=none:=by rw[<-x.eq,Bd hk];rfl
def fdO(h:List Ob)(l:List Int)(s:ByteArray):Option Int:=l.find? fun c=>ownB (yJ h c) s
def fdV(h:List Ob)(s:ByteArray):Option Int->Vl
 |some c=>ownV (yJ h c) s
 |none=>vl0
def fdC:Option Int->Int
 |some c=>c
 |none=>0
def Cok(h:List Ob)(l:List Int):Prop:=l.length<=2000000/\∀c∈l,inH h c/\(yJ h c).names.length<=(yJ h c).items.length
theorem qO0{h:List Ob}{l:List Int}(hc:Cok h l){k:Nat}(hk:k<l.length):inH h (l.getD (k:Int).toNat 0)/\(yJ h (l.getD (k:Int).toNat 0)).names.length<=(yJ h (l.getD (k:Int).toNat 0)).items.length:=hc.2 _ (by rw[wW hk];exact Cj _)
theorem gN(h:List Ob)(v:Vl)(hv:v.k=6->qA h v.r=true):Fx 124 [hpD md h,.agg (vlD v)] (.agg (obD (zT h v))):=by
 refine yD zJ Tryz.func124 rfl rfl rfl rfl rfl rfl ?_;intros;refine zK 100 ?_;refine zB (zK 200 ?_);refine zZ (fun c1=>?_) (fun c1=>?_)
 ·
  refine zK 300 ?_;refine zL (zO ?_);have e:zT h v=ob0:=jU0 c1;rw[e];exact u4 rfl (by repeat(first|exact trivial|exact u6 _|exact u12 rfl|refine u20 ?_|refine⟨?_,?_⟩))
 ·
  refine zM (zA ?_);refine zB (zE zJ [] 400 rfl ?_);repeat(first|refine zH ?_|refine zW (by exact yW (hv c1)) ?_)
  refine zC (zA (zL ?_));have e:zT h v=h.getD v.r.toNat ob0:=wA hv c1;rw[e];exact u4 rfl (by repeat(first|exact trivial|exact u6 _|exact u12 rfl|refine u20 ?_|refine⟨?_,?_⟩))
theorem attrOwn_ok(o:Ob)(s:ByteArray)(hn:o.names.length<=o.items.length):Fx 207 [.agg (obD o),.v (.string s)] (.tup [.agg (vlD (ownV o s)),.v (.bool (ownB o s))]):=by
 have hlt:=zR1 o.names s;refine yD zJ Tryz.func207 rfl rfl rfl rfl rfl rfl ?_;intros;refine zK 100 ?_;refine zB (zE zJ [] 200 rfl ?_);refine zF ?_;refine zQ _ (yM0 _ _) rfl ?_;refine zF ?_;refine zC (zA (zB (zK 300 ?_)));refine zZ (fun c2=>?_) (fun c2=>?_)
 ·
  refine zK 400 ?_;refine zL (zO ?_);exact u4 rfl (u19 ⟨by rw[ownV,Ab c2];exact(by repeat(first|exact trivial|exact u6 _|exact u12 rfl|refine u20 ?_|refine⟨?_,?_⟩)),u7 (by rw[ownB,Ce (by omega)]),trivial⟩)
 ·
  refine zM (zA (zK 500 ?_));refine zL ?_;exact u4 rfl (u19 ⟨by rw[ownV,Aa om];exact u6 _,u7 (by rw[ownB,Bf om]),trivial⟩)
theorem Own_ok(o:Ob)(s:ByteArray)(hn:o.names.length<=o.items.length)(hl:o.names.length<=2000000):Fx 238 [.agg (obD o),.v (.string s)] (.tup [.agg (vlD (ownV o s)),.v (.bool (ownB o s))]):=by
 refine yD zJ Tryz.func238 rfl rfl rfl rfl rfl rfl ?_;intros;refine zK 100 ?_;refine zB (zK 200 ?_);refine zP ?_;refine yC (ι:=Nf o.names s) [1,2,4,9,10] [0,1] 250 (fun x=>[(11,.v (.int .i64 x.k))]) (fun _=>[]) (fun x=>o.names.length-x.k) ⟨0,Aq _,fun j hj=>by omega⟩ ?_;refine⟨⟨yG,yF,rfl,rfl⟩,fun x=>?_⟩;have hk:=x.le;refine zK 300 ?_;refine zB (zZ (fun c2=>?_) (fun c2=>?_))
 ·
  refine zM (zA (zB (zP (zK 400 ?_))));refine zK 500 ?_;refine zU rfl (fun c4=>?_) (fun c4=>?_)
  ·replace c4:s=o.names.getD (x.k:Int).toNat ByteArray.empty:=(Ag c4).symm
   refine zK 600 ?_;refine zL (zR (zO (yQ (zR (zO ?_)))));have e:ixI o.names s=x.k:=x.found c2 c4;exact u4 rfl (u19 ⟨by rw[ownV,e,Aa om];exact u6 _,u7 (by rw[ownB,e,Bf om]),trivial⟩)
  ·replace c4:¬s=o.names.getD (x.k:Int).toNat ByteArray.empty:=fun e=>(of_decide_eq_false c4) e.symm
   refine zM (zN (zA (yM zJ [] 700 ?_)));exact zS (x.next c2 c4) ⟨yG,yF,rfl,rfl⟩ (by show o.names.length-(x.k+1)<o.names.length-x.k;omega)
 ·
  refine yE (yA (yB (zY (zA (zK 800 ?_)))));refine zL ?_;have e:ixI o.names s= -1:=x.none c2;exact u4 rfl (u19 ⟨by rw[ownV,e,Ab om];exact(by repeat(first|exact trivial|exact u6 _|exact u12 rfl|refine u20 ?_|refine⟨?_,?_⟩)),u7 (by rw[ownB,e];rfl),trivial⟩)
theorem attrFind0_ok(h:List Ob)(l:List Int)(s:ByteArray)(hh:HpIn h)(hc:Cok h l):Fx 175 [hpD md h,isD l,.v (.string s)] (.tup [.agg (vlD (fdV h s (fdO h l s))),.v (.int .i64 (fdC (fdO h l s))),.v (.bool (fdO h l s).isSome)]):=by
 have hl:=hc.1;refine yD zJ Tryz.func175 rfl rfl rfl rfl rfl rfl ?_;intros;refine zK 100 ?_;refine zB (zK 200 ?_);refine zP ?_;refine yC (ι:=Fd l (fun c=>ownB (yJ h c) s)) [2,3,6,13,14] [0,1] 250 (fun x=>[(15,.v (.int .i64 x.k))]) (fun _=>[]) (fun x=>l.length-x.k) ⟨0,Aq _,rfl⟩ ?_;refine⟨⟨yG,yF,rfl,rfl⟩,fun x=>?_⟩;have hk:=x.le;refine zK 300 ?_;refine zB (zZ (fun c2=>?_) (fun c2=>?_))
 ·
  refine zM (zA (zB (zP (zK 400 ?_))));refine zB (zE zJ [] 500 rfl ?_);repeat(first|refine zH ?_|refine zW (by exact(qO0 hc c2).1) ?_)
  refine zQ _ (attrOwn_ok _ _ (qO0 hc c2).2) rfl ?_;repeat(first|refine zH ?_|refine zW (by exact(qO0 hc c2).1) ?_)
  refine zC (zA (zK 600 ?_));refine zU rfl (fun c5=>?_) (fun c5=>?_)
  ·
   refine zK 700 ?_;refine zL (zR (zO (yQ (zR (zO ?_)))));have e:fdO h l s=some (l.getD (x.k:Int).toNat 0):=x.found 0 c2 c5;exact u4 rfl (u19 ⟨by rw[e];exact u6 _,by rw[e];exact u6 _,by rw[e];exact u6 _,trivial⟩)
  ·
   refine zM (zN (zA (yM zJ [] 800 ?_)));exact zS (x.next 0 c2 c5) ⟨yG,yF,rfl,rfl⟩ (by show l.length-(x.k+1)<l.length-x.k;omega)
 ·
  refine yE (yA (yB (zY (zA (zK 900 ?_)))));refine zL ?_;have e:fdO h l s=none:=x.none om;exact u4 rfl (u19 ⟨by rw[e];exact(by repeat(first|exact trivial|exact u6 _|exact u12 rfl|refine u20 ?_|refine⟨?_,?_⟩)),by rw[e];exact u6 _,by rw[e];exact u6 _,trivial⟩)
theorem Among_ok(h:List Ob)(l:List Int)(s:ByteArray)(hh:HpIn h)(hc:Cok h l):Fx 219 [hpD md h,isD l,.v (.string s)] (.tup [.agg (vlD (fdV h s (fdO h l s))),.v (.int .i64 (fdC (fdO h l s))),.v (.bool (fdO h l s).isSome)]):=by
 have hl:=hc.1;refine yD zJ Tryz.func219 rfl rfl rfl rfl rfl rfl ?_;intros;refine zK 100 ?_;refine zB (zK 200 ?_);refine zP ?_;refine yC (ι:=Fd l (fun c=>ownB (yJ h c) s)) [2,3,6,13,14] [0,1] 250 (fun x=>[(15,.v (.int .i64 x.k))]) (fun _=>[]) (fun x=>l.length-x.k) ⟨0,Aq _,rfl⟩ ?_;refine⟨⟨yG,yF,rfl,rfl⟩,fun x=>?_⟩;have hk:=x.le;refine zK 300 ?_;refine zB (zZ (fun c2=>?_) (fun c2=>?_))
 ·
  refine zM (zA (zB (zP (zK 400 ?_))));refine zB (zE zJ [] 500 rfl ?_);repeat(first|refine zH ?_|refine zW (by exact(qO0 hc c2).1) ?_)
  refine zQ _ (Own_ok _ _ (qO0 hc c2).2 (hh.at (l.getD (x.k:Int).toNat 0)).nl) rfl ?_;repeat(first|refine zH ?_|refine zW (by exact(qO0 hc c2).1) ?_)
  refine zC (zA (zK 600 ?_));refine zU rfl (fun c5=>?_) (fun c5=>?_)
  ·
   refine zK 700 ?_;refine zL (zR (zO (yQ (zR (zO ?_)))));have e:fdO h l s=some (l.getD (x.k:Int).toNat 0):=x.found 0 c2 c5;exact u4 rfl (u19 ⟨by rw[e];exact u6 _,by rw[e];exact u6 _,by rw[e];exact u6 _,trivial⟩)
  ·
   refine zM (zN (zA (yM zJ [] 800 ?_)));exact zS (x.next 0 c2 c5) ⟨yG,yF,rfl,rfl⟩ (by show l.length-(x.k+1)<l.length-x.k;omega)
 ·
  refine yE (yA (yB (zY (zA (zK 900 ?_)))));refine zL ?_;have e:fdO h l s=none:=x.none om;exact u4 rfl (u19 ⟨by rw[e];exact(by repeat(first|exact trivial|exact u6 _|exact u12 rfl|refine u20 ?_|refine⟨?_,?_⟩)),by rw[e];exact u6 _,by rw[e];exact u6 _,trivial⟩)
theorem attrFind_ok(h:List Ob)(c:Int)(s:ByteArray)(hh:HpIn h)(hn:inH h c)(hc:Cok h (yJ h c).order):Fx 125 [hpD md h,.v (.int .i64 c),.v (.string s)] (.tup [.agg (vlD (fdV h s (fdO h (yJ h c).order s))),.v (.int .i64 (fdC (fdO h (yJ h c).order s))),.v (.bool (fdO h (yJ h c).order s).isSome)]):=by
 refine yD zJ Tryz.func125 rfl rfl rfl rfl rfl rfl ?_;intros;refine zK 100 ?_;refine zB (zX zJ [] [[],[],[1],[],[1,2,3],[1,2,3,4],[1,2,3,4,5],[],(rgN 8),(rgN 9),(rgN 9),(rgN 9),(rgN 12),(rgN 13),(rgN 14)] 200 yP kr rfl ?_);repeat(first|refine zH ?_|refine zW (by exact hn) ?_)
 refine zQ _ (attrFind0_ok h (yJ h c).order s hh hc) rfl ?_;repeat(first|refine zH ?_|refine zW (by exact hn) ?_)
 refine zC (zA (zL ?_));exact u4 rfl (u6 _)
theorem Inherited_ok(h:List Ob)(c:Int)(s:ByteArray)(hh:HpIn h)(hn:inH h c)(hc:Cok h (yJ h c).order):Fx 193 [hpD md h,.v (.int .i64 c),.v (.string s)] (.tup [.agg (vlD (fdV h s (fdO h (yJ h c).order s))),.v (.bool (fdO h (yJ h c).order s).isSome)]):=by
 refine yD zJ Tryz.func193 rfl rfl rfl rfl rfl rfl ?_;intros;refine zK 100 ?_;refine zB (zX zJ [] [[],[],[1],[],[1,2,3],[1,2,3,4],[1,2,3,4,5],[],(rgN 8),(rgN 9),(rgN 10),(rgN 10),(rgN 10),[],[0,1,2,3,4,5,6,7,8,9,10,13],[0,1,2,3,4,5,6,7,8,9,10,11,13,14],(rgN 16)] 200 yP kr rfl ?_);repeat(first|refine zH ?_|refine zW (by exact hn) ?_)
 refine zQ _ (Among_ok h (yJ h c).order s hh hc) rfl ?_;repeat(first|refine zH ?_|refine zW (by exact hn) ?_)
 refine zC (zA (zK 300 ?_));refine zL ?_;exact u4 rfl (u6 _)
theorem attrFunction_ok(h:List Ob)(v:Vl)(hv:v.k=6->qA h v.r=true):Fx 126 [hpD md h,.agg (vlD v)] (.v (.bool (qA1 h v))):=by
 refine yD zJ Tryz.func126 rfl rfl rfl rfl rfl rfl ?_;intros;refine zK 100 ?_;refine zB (zE zJ [] 200 rfl ?_);refine zF ?_;refine yR _ (fun hg6=>gN _ _ ao) rfl ?_;refine zf (zA (zL ?_));exact u4 rfl (u6 _)
variable{md me:Bool}
theorem used_a{k:Nat}(hk:k<21)(ha:Lib.contains (uI (k:Int)).data.toList [97]=true):uI (k:Int)≠⟨#[]⟩/\yT0 (uI (k:Int))=61:=by
 have:=Bl.1 (show(List.range 21).all (fun(k:Nat)=> !(Lib.contains (uI (k:Int)).data.toList [97])||(!decide (uI (k:Int)=⟨#[]⟩)&&decide (yT0 (uI (k:Int))=61)))=true by decide+kernel) k (Ct.2 hk);rw[ha,Bool.not_true,Bool.false_or,Aj,Bq,Ay,Ap]at this;exact this
theorem names_items{o:Ob}(hk:0<=o.kind/\o.kind<21)(hs:jY o=0):o.names.length<=o.items.length:=by
 have h1:=(gN0 hs).1;unfold jY at hs;split at hs
 ·rename_i ha;have h3:=Bl.1 ha 3 de;by_cases hz:(o.names.length:Int)=0
  ·omega
  ·have e:Lib.contains (uI o.kind).data.toList [97]=true:=by
    have h4:(!(!(decide ((o.names.length:Int)=0))&& !(Lib.contains (uI o.kind).data.toList [97])))=true:=h3;rw[Ce hz]at h4;simpa using h4
   have hkk:o.kind=((o.kind.toNat:Nat):Int):=by omega
   rw[hkk]at e;have h5:=used_a (k:=o.kind.toNat) om e;rw[<-hkk]at h5;rw[cntS,Aa h5.1,Aa (by rw[h5.2];decide),Ab h5.2]at h1;omega
 ·cases hs
theorem gZ1{h:List Ob}(g:Uh h){n:Int}(hn:inH h n):(yJ h n).names.length<=(yJ h n).items.length:=by
 by_cases h49:n.toNat<49
 ·rw[show yJ h n=bgO n.toNat from g.lo_at h49];exact Aq _
 ·have u:=g.hi_at (i:=n.toNat) om hn.2;exact names_items u.kind u.shape
theorem bg_order{k:Nat}(hk:k<49){r:Int}(hr:r∈(bgO k).order):0<=r/\r<49:=by
 have:=Bl.1 (Bl.1 (show(List.range 49).all (fun k=>(bgO k).order.all fun r=>decide (0<=r)&&decide (r<49))=true by decide+kernel) k (Ct.2 hk)) r hr;rw[Aj,Ap,Ap]at this;exact this
theorem dR0{h:List Ob}(hh:HpIn h)(g:Uh h){c:Int}(hn:inH h c):Cok h (yJ h c).order:=by
 refine⟨(hh.at c).ol,fun r hr=>?_⟩;have hin:inH h r:=by
  by_cases h49:c.toNat<49
  ·rw[show yJ h c=bgO c.toNat from g.lo_at h49]at hr;have:=bg_order h49 hr;have:=g.lo;exact⟨by omega,by omega⟩
  ·exact yW ((tH (g.hi_at om hn.2).vals).order r hr)
 exact⟨hin,gZ1 g hin⟩
theorem own_rv{h:List Ob}(g:Uh h){n:Int}(hn:inH h n)(s:ByteArray)(hk:(ownV (yJ h n) s).k=6):qA h (ownV (yJ h n) s).r=true:=by
 have hlt:=zR1 (yJ h n).names s;have hni:=gZ1 g hn;by_cases hi:ixI (yJ h n).names s<0
 ·rw[ownV,Ab hi]at hk;exact absurd hk de
 ·rw[ownV,Aa hi]at hk⊢;have hj:(ixI (yJ h n).names s).toNat<(yJ h n).items.length:=by omega
  rw[Af,Ac hj]at hk⊢;exact g.items hn (Cj _) hk
theorem kI1{h:List Ob}(hh:HpIn h)(g:Uh h){c:Int}(hn:inH h c)(s:ByteArray)(hk:(fdV h s (fdO h (yJ h c).order s)).k=6):qA h (fdV h s (fdO h (yJ h c).order s)).r=true:=by
 cases hf:fdO h (yJ h c).order s with
 |none=>rw[hf]at hk;exact absurd hk (show ¬(0:Int)=6 by decide)
 |some r=>
  rw[hf]at hk;exact own_rv g ((dR0 hh g hn).2 r (List.mem_of_find?_eq_some hf)).1 s hk
theorem one_item{h:List Ob}(g:Uh h){n:Int}(hn:inH h n)(hk:(yJ h n).kind=13\/(yJ h n).kind=14):(yJ h n).items.length=1:=by
 by_cases h49:n.toNat<49
 ·rw[show yJ h n=bgO n.toNat from g.lo_at h49]at hk;have h9:(bgO n.toNat).kind=9:=rfl;omega
 ·have u:=g.hi_at (i:=n.toNat) om hn.2;have h1:=(gN0 u.shape).1;rw[<-wE hn]at h1;have hc:cntS (yJ h n)=1:=by
   rcases hk with hk|hk
   ·rw[pY 13 49 (by decide+kernel) hk];decide+kernel
   ·rw[pY 14 49 (by decide+kernel) hk];decide+kernel
  omega
def spS(h:List Ob)(v:Vl)(s:ByteArray):Vl×List Vl×Bool:=
 if ¬(zT h v).kind=10 then(vl0,[],false)
 else if(fdO h (yJ h (zT h v).cls).order s).isSome=false then(vl0,[],false)
 else if qA1 h (fdV h s (fdO h (yJ h (zT h v).cls).order s))=true then(fdV h s (fdO h (yJ h (zT h v).cls).order s),[v],true)
 else if(zT h (fdV h s (fdO h (yJ h (zT h v).cls).order s))).kind=13 then((zT h (fdV h s (fdO h (yJ h (zT h v).cls).order s))).items.getD 0 vl0,[],true)
 else if(zT h (fdV h s (fdO h (yJ h (zT h v).cls).order s))).kind=14 then((zT h (fdV h s (fdO h (yJ h (zT h v).cls).order s))).items.getD 0 vl0,[rfV (zT h v).cls],true)
 else(fdV h s (fdO h (yJ h (zT h v).cls).order s),[],true)
theorem kW{h:List Ob}(g:Uh h){v:Vl}(hk:(zT h v).kind=13\/(zT h v).kind=14):0<(zT h v).items.length:=by
 have h1:=jR (h:=h) (v:=v) om;rw[h1.2.2]at hk⊢;rw[one_item g (yW h1.2.1) hk];decide
theorem uA0{h:List Ob}(g:Uh h){v:Vl}(hk:(zT h v).kind=10):inH h (zT h v).cls:=by
 have h1:=jR (h:=h) (v:=v) om;rw[h1.2.2]at hk⊢;exact g.cls (yW h1.2.1) hk
set_option maxHeartbeats 1000000 in
theorem Special_ok(h:List Ob)(v:Vl)(s:ByteArray)(hh:HpIn h)(g:Uh h)(hv:v.k=6->qA h v.r=true):Fx 62 [hpD md h,.agg (vlD v),.v (.string s)] (.tup [.agg (vlD (spS h v s).1),vsD (spS h v s).2.1,.v (.bool (spS h v s).2.2)]):=by
 refine yD zJ Tryz.func62 rfl rfl rfl rfl rfl rfl ?_;intros;refine zK 100 ?_;refine zB ?_;refine zB (zE zJ [] 200 rfl ?_);refine zF ?_;refine zQ _ (gN _ _ ao) rfl ?_;refine zF ?_;refine zC (zA (zU rfl (fun c1=>?_) (fun c1=>?_)))
 ·replace c1:¬(zT h v).kind=10:=by simpa using c1
  refine zK 300 ?_;refine zL (zO ?_);exact u4 rfl (u19 ⟨by rw[spS,Ab c1];exact(by repeat(first|exact trivial|exact u6 _|exact u12 rfl|refine u20 ?_|refine⟨?_,?_⟩)),by rw[spS,Ab c1];exact u12 rfl,by rw[spS,Ab c1];exact u6 _,trivial⟩)
 ·replace c1:(zT h v).kind=10:=by simpa using c1
  have hob:=jR (h:=h) (v:=v) om;have hin:=uA0 g c1;have hrv:=fun hk=>kI1 hh g hin s hk;refine zM (zA ?_);refine zB (zE zJ [] 400 rfl ?_);repeat(first|refine zH ?_|refine zW (by exact yW hob.2.1) ?_)
  refine zC (zA ?_);refine yL [2,3,4,6] [0,1,2] 410 [(9,.v (.int .i64 (zT h v).cls))] [] ?_;refine⟨⟨⟨u21 (by rw[hob.2.2]),by repeat(first|exact trivial|exact u0 _|refine⟨?_,?_⟩)⟩,yF,rfl,rfl⟩,?_⟩;refine zB (zE zJ [] 500 rfl ?_);refine zF ?_;refine zQ _ (attrFind_ok h (zT h v).cls s hh hin (dR0 hh g hin)) rfl ?_;refine zF ?_;refine zC (zA (zB (zK 600 ?_)));refine zU rfl (fun c5=>?_) (fun c5=>?_)
  ·replace c5:(fdO h (yJ h (zT h v).cls).order s).isSome=false:=by simpa using c5
   refine zK 700 ?_;refine zL (zO ?_);exact u4 rfl (u19 ⟨by rw[spS,Aa (not_not_intro c1),Ab c5];exact(by repeat(first|exact trivial|exact u6 _|exact u12 rfl|refine u20 ?_|refine⟨?_,?_⟩)),by rw[spS,Aa (not_not_intro c1),Ab c5];exact u12 rfl,by rw[spS,Aa (not_not_intro c1),Ab c5];exact u6 _,trivial⟩)
  ·replace c5:(fdO h (yJ h (zT h v).cls).order s).isSome=true:=by simpa using c5
   refine zM (zA (zB ?_));refine zB (zE zJ [] 800 rfl ?_);refine zF ?_;refine zQ _ (gN h (fdV h s (fdO h (yJ h (zT h v).cls).order s)) hrv) rfl ?_;refine zf (zA (zP ?_));refine zB (zE zJ [] 900 rfl ?_);refine zF ?_;refine zQ _ (attrFunction_ok h (fdV h s (fdO h (yJ h (zT h v).cls).order s)) hrv) rfl ?_;refine zF ?_;refine zC (zA (zU rfl (fun c8=>?_) (fun c8=>?_)))
   ·
    refine zB (zX zJ [] [[],[],[1],[0],[0,1,2,3],(rgN 5)] 1000 yP kr rfl ?_);refine zf (zA (zL (zR (zO ?_))));exact u4 rfl (u19 ⟨by rw[spS,Aa (not_not_intro c1),Aa (by rw[c5];decide),Ab c8];exact u6 _,by rw[spS,Aa (not_not_intro c1),Aa (by rw[c5];decide),Ab c8];exact u18 rfl,by rw[spS,Aa (not_not_intro c1),Aa (by rw[c5];decide),Ab c8];exact u6 _,trivial⟩)
   ·
    refine zK 1100 ?_;refine zZ (fun c10=>?_) (fun c10=>?_)
    ·
     refine zB (zE zJ [] 1200 rfl ?_);repeat(first|refine zH ?_|refine zW (by exact⟨by omega,kW g (Or.inl c10)⟩) ?_)
     refine zC (zA (zL (zR (zO ?_))));exact u4 rfl (u19 ⟨by rw[spS,Aa (not_not_intro c1),Aa (by rw[c5];decide),Aa (by rw[c8];decide),Ab c10];exact u6 _,by rw[spS,Aa (not_not_intro c1),Aa (by rw[c5];decide),Aa (by rw[c8];decide),Ab c10];exact u12 rfl,by rw[spS,Aa (not_not_intro c1),Aa (by rw[c5];decide),Aa (by rw[c8];decide),Ab c10];exact u6 _,trivial⟩)
    ·
     refine zK 1300 ?_;refine zZ (fun c12=>?_) (fun c12=>?_)
     ·
      refine zB (zX zJ [] [[],[0],[0,1],[0,1,2],[],[4],[4,5],(rgN 6),(rgN 8),(rgN 9)] 1400 yP kr rfl ?_);repeat(first|refine zH ?_|refine zW (by exact⟨by omega,kW g (Or.inr c12)⟩) ?_)
      refine zQ _ (heapRef_ok _) rfl ?_;repeat(first|refine zH ?_|refine zW (by exact⟨by omega,kW g (Or.inr c12)⟩) ?_)
      refine zC (zA (zL (zR (zO ?_))));exact u4 rfl (u19 ⟨by rw[spS,Aa (not_not_intro c1),Aa (by rw[c5];decide),Aa (by rw[c8];decide),Aa om,Ab c12];exact u6 _,by rw[spS,Aa (not_not_intro c1),Aa (by rw[c5];decide),Aa (by rw[c8];decide),Aa om,Ab c12];exact u18 rfl,by rw[spS,Aa (not_not_intro c1),Aa (by rw[c5];decide),Aa (by rw[c8];decide),Aa om,Ab c12];exact u6 _,trivial⟩)
     ·
      refine zM (zN (zA (zK 1500 ?_)));refine zL ?_;exact u4 rfl (u19 ⟨by rw[spS,Aa (not_not_intro c1),Aa (by rw[c5];decide),Aa (by rw[c8];decide),Aa om,Aa om];exact u6 _,by rw[spS,Aa (not_not_intro c1),Aa (by rw[c5];decide),Aa (by rw[c8];decide),Aa om,Aa om];exact u12 rfl,by rw[spS,Aa (not_not_intro c1),Aa (by rw[c5];decide),Aa (by rw[c8];decide),Aa om,Aa om];exact u6 _,trivial⟩)
set_option maxHeartbeats 1000000 in
theorem Method_ok(h:List Ob)(v:Vl)(s:ByteArray)(hh:HpIn h)(g:Uh h)(hv:v.k=6->qA h v.r=true):Fx 146 [hpD md h,.agg (vlD v),.v (.string s)] (.tup [.agg (vlD (spS h v s).1),vsD (spS h v s).2.1,.v (.bool (spS h v s).2.2)]):=by
 refine yD zJ Tryz.func146 rfl rfl rfl rfl rfl rfl ?_;intros;refine zK 100 ?_;refine zB (zE zJ [] 200 rfl ?_);refine zF ?_;refine zQ _ (jL _ _) rfl ?_;refine zF ?_;refine zC (zA (zB (zK 300 ?_)));refine zU rfl (fun c2=>?_) (fun c2=>?_)
 ·replace c2:¬(zT h v).kind=10:=by simpa using c2
  refine zK 400 ?_;refine zL (zO ?_);exact u4 rfl (u19 ⟨by rw[spS,Ab c2];exact(by repeat(first|exact trivial|exact u6 _|exact u12 rfl|refine u20 ?_|refine⟨?_,?_⟩)),by rw[spS,Ab c2];exact u12 rfl,by rw[spS,Ab c2];exact u6 _,trivial⟩)
 ·replace c2:(zT h v).kind=10:=by simpa using c2
  have hin:=uA0 g c2;have hrv:=fun hk=>kI1 hh g hin s hk;refine zM (zA ?_);refine zB (zE zJ [] 500 rfl ?_);refine zF ?_;refine zQ _ (Inherited_ok h (zT h v).cls s hh hin (dR0 hh g hin)) rfl ?_;refine zF ?_;refine zC (zA (zB (zK 600 ?_)));refine zU rfl (fun c5=>?_) (fun c5=>?_)
  ·replace c5:(fdO h (yJ h (zT h v).cls).order s).isSome=false:=by simpa using c5
   refine zK 700 ?_;refine zL (zO ?_);exact u4 rfl (u19 ⟨by rw[spS,Aa (not_not_intro c2),Ab c5];exact(by repeat(first|exact trivial|exact u6 _|exact u12 rfl|refine u20 ?_|refine⟨?_,?_⟩)),by rw[spS,Aa (not_not_intro c2),Ab c5];exact u12 rfl,by rw[spS,Aa (not_not_intro c2),Ab c5];exact u6 _,trivial⟩)
  ·replace c5:(fdO h (yJ h (zT h v).cls).order s).isSome=true:=by simpa using c5
   refine zM (zA (zB ?_));refine zB (zE zJ [] 800 rfl ?_);refine zF ?_;refine zQ _ (mZ h (fdV h s (fdO h (yJ h (zT h v).cls).order s))) rfl ?_;refine zF ?_;refine zC (zA (zU rfl (fun c7=>?_) (fun c7=>?_)))
   ·
    refine zB (zX zJ [] [[],[],[1],[0],[0,1,2,3],(rgN 5)] 900 yP kr rfl ?_);refine zf (zA (zL (zO ?_)));exact u4 rfl (u19 ⟨by rw[spS,Aa (not_not_intro c2),Aa (by rw[c5];decide),Ab c7];exact u6 _,by rw[spS,Aa (not_not_intro c2),Aa (by rw[c5];decide),Ab c7];exact u18 rfl,by rw[spS,Aa (not_not_intro c2),Aa (by rw[c5];decide),Ab c7];exact u6 _,trivial⟩)
   ·
    refine zM (zA (zB ?_));refine zB (zE zJ [] 1000 rfl ?_);refine zF ?_;refine zQ _ (jL _ _) rfl ?_;refine zF ?_;refine zC (zA (zK 1100 ?_));refine zP (zK 1200 ?_);refine zZ (fun c11=>?_) (fun c11=>?_)
    ·
     refine zB (zX zJ [] [[],[0],[0,1],[0,1,2],[],[4],[4,5],[4,5,6],(rgN 7),(rgN 9),(rgN 10)] 1300 yP kr rfl ?_);repeat(first|refine zH ?_|refine zW (by exact⟨by omega,kW g (Or.inr c11)⟩) ?_)
     refine zQ _ (O_ok _) rfl ?_;repeat(first|refine zH ?_|refine zW (by exact⟨by omega,kW g (Or.inr c11)⟩) ?_)
     refine zC (zA (zL (zR (zO ?_))));exact u4 rfl (u19 ⟨by rw[spS,Aa (not_not_intro c2),Aa (by rw[c5];decide),Aa (by rw[c7];decide),Aa om,Ab c11];exact u6 _,by rw[spS,Aa (not_not_intro c2),Aa (by rw[c5];decide),Aa (by rw[c7];decide),Aa om,Ab c11];exact u18 rfl,by rw[spS,Aa (not_not_intro c2),Aa (by rw[c5];decide),Aa (by rw[c7];decide),Aa om,Ab c11];exact u6 _,trivial⟩)
    ·
     refine zK 1400 ?_;refine zZ (fun c13=>?_) (fun c13=>?_)
     ·
      refine zB (zE zJ [] 1500 rfl ?_);repeat(first|refine zH ?_|refine zW (by exact⟨by omega,kW g (Or.inl c13)⟩) ?_)
      refine zC (zA (zL (zR (zO ?_))));exact u4 rfl (u19 ⟨by rw[spS,Aa (not_not_intro c2),Aa (by rw[c5];decide),Aa (by rw[c7];decide),Ab c13];exact u6 _,by rw[spS,Aa (not_not_intro c2),Aa (by rw[c5];decide),Aa (by rw[c7];decide),Ab c13];exact u12 rfl,by rw[spS,Aa (not_not_intro c2),Aa (by rw[c5];decide),Aa (by rw[c7];decide),Ab c13];exact u6 _,trivial⟩)
     ·
      refine zM (zN (zA (zK 1600 ?_)));refine zL ?_;exact u4 rfl (u19 ⟨by rw[spS,Aa (not_not_intro c2),Aa (by rw[c5];decide),Aa (by rw[c7];decide),Aa om,Aa om];exact u6 _,by rw[spS,Aa (not_not_intro c2),Aa (by rw[c5];decide),Aa (by rw[c7];decide),Aa om,Aa om];exact u12 rfl,by rw[spS,Aa (not_not_intro c2),Aa (by rw[c5];decide),Aa (by rw[c7];decide),Aa om,Aa om];exact u6 _,trivial⟩)
section
variable{P:Program}{b:Ba}{ops:Array Oper}
end
theorem SubP.slrRows{α:Type}{m:Bool}{sz:Nat}{rows:List (List D)}{l:List α}{f:α->List D}{e:α}(h:RowsP rows (l.map f)):SubP (.slr m sz rows) (.sl m sz l f e):=fun w s v hv=>by
 have h1:=jK0 h hv;rw[yS,Cw]at h1;exact h1
end Go.Proofs.YtammfbdgjnkolaaGreatDoor
