/-Part 13 of the proof. -/
import Derived.Shelf.Unicode.ValidAny
import Derived.Shelf.Strings.Split
import Derived.Shelf.Strings.Fields
import Derived.Shelf.Strings.Cut
import Derived.Test.YtammfbdgjnkolaaGreatDoorM12
/-
  DERIVED:THE SHELF's CONTRACTS AT THIS DUMP,IN PLAIN WORDS (tools/lay-plain.mjs out of 'YtammfbdgjnkolaaGreatDoorShelf.lean',which tools/lay-shelf.mjs wrote):THE SAME DECLARATIONS UNDER THE SAME NAMES:'import','namespace','open','def','theorem' AND NOTHING ELSE:no command of the shelf's:FOR A HAND-IN. Each laying:the table of numbers ('.._ren') and one theorem,a field a fact of the dump's own or the kernel's comparison;each contract:ONE APPLICATION.
-/
namespace Go.Proofs
open Go.Shelf
theorem nz{p:Prop}(h:p:=by repeat(first|exact trivial|exact u6 _|exact u12 rfl|refine⟨?_,?_⟩)):p:=h
def Tryz.laysValid_ren:Go.Shelf.Ren:=⟨fun|196=>123|259=>174|n=>n,fun|9=>9|4=>4|3=>3|5=>5|12=>12|119=>185|0=>0|46=>153|139=>199|138=>198|53=>165|n=>n,fun|3=>1|4=>2|n=>n⟩
theorem qJ{α:Type}{a b:α}(h:a=b:=by kernel_rfl):some a=some b:=congrArg some h
theorem Tryz.laysValid:Go.Proofs.Lays.n196 Tryz.prog Tryz.laysValid_ren:={
 mixed:=by kernel_rfl
 f196:=Tryz.func123.trans qJ
 f259:=Tryz.func174.trans qJ
 t0:=Tryz.underlying0
 a0:=Tryz.isAgg0
 z0:=Tryz.sizeOf0
 v0:=Tryz.zeroValue0
 t3:=Tryz.underlying3
 a3:=Tryz.isAgg3
 z3:=Tryz.sizeOf3
 v3:=Tryz.zeroValue3
 t4:=Tryz.underlying4
 a4:=Tryz.isAgg4
 z4:=Tryz.sizeOf4
 v4:=Tryz.zeroValue4
 t5:=Tryz.underlying5
 a5:=Tryz.isAgg5
 z5:=Tryz.sizeOf5
 v5:=Tryz.zeroValue5
 t9:=Tryz.underlying9
 a9:=Tryz.isAgg9
 z9:=Tryz.sizeOf9
 v9:=Tryz.zeroValue9
 t12:=Tryz.underlying12
 a12:=Tryz.isAgg12
 z12:=Tryz.sizeOf12
 v12:=Tryz.zeroValue12
 t46:=Tryz.underlying153
 a46:=Tryz.isAgg153
 z46:=Tryz.sizeOf153
 v46:=Tryz.zeroValue153
 t53:=Tryz.underlying165
 a53:=Tryz.isAgg165
 z53:=Tryz.sizeOf165
 v53:=Tryz.zeroValue165
 t119:=Tryz.underlying185
 a119:=Tryz.isAgg185
 z119:=Tryz.sizeOf185
 t138:=Tryz.underlying198
 a138:=Tryz.isAgg198
 z138:=Tryz.sizeOf198
 v138:=Tryz.zeroValue198
 t139:=Tryz.underlying199
 a139:=Tryz.isAgg199
 z139:=Tryz.sizeOf199
 v139:=Tryz.zeroValue199
 g3:=by kernel_rfl
 g4:=by kernel_rfl}
def Tryz.laysSplit_ren:Go.Shelf.Ren:=⟨fun|146=>164|221=>202|268=>231|138=>232|143=>165|195=>244|197=>240|218=>245|219=>201|260=>257|217=>227|225=>228|224=>229|267=>230|266=>242|314=>243|n=>n,fun|9=>9|31=>48|3=>3|4=>4|0=>0|105=>255|21=>21|5=>5|46=>153|119=>185|139=>199|138=>198|146=>261|51=>91|n=>n,fun|1=>4|3=>1|4=>2|n=>n⟩
theorem Tryz.laysSplit:Go.Proofs.Lays.n146 Tryz.prog Tryz.laysSplit_ren:={
 mixed:=by kernel_rfl
 f138:=Tryz.func232.trans qJ
 f143:=Tryz.func165.trans qJ
 f146:=Tryz.func164.trans qJ
 f195:=Tryz.func244.trans qJ
 f197:=Tryz.func240.trans qJ
 f217:=Tryz.func227.trans qJ
 f218:=Tryz.func245.trans qJ
 f219:=Tryz.func201.trans qJ
 f221:=Tryz.func202.trans qJ
 f224:=Tryz.func229.trans qJ
 f225:=Tryz.func228.trans qJ
 f260:=Tryz.func257.trans qJ
 f266:=Tryz.func242.trans qJ
 f267:=Tryz.func230.trans qJ
 f268:=Tryz.func231.trans qJ
 f314:=Tryz.func243.trans qJ
 t0:=Tryz.underlying0
 a0:=Tryz.isAgg0
 z0:=Tryz.sizeOf0
 v0:=Tryz.zeroValue0
 t3:=Tryz.underlying3
 a3:=Tryz.isAgg3
 z3:=Tryz.sizeOf3
 v3:=Tryz.zeroValue3
 t4:=Tryz.underlying4
 a4:=Tryz.isAgg4
 z4:=Tryz.sizeOf4
 v4:=Tryz.zeroValue4
 t5:=Tryz.underlying5
 a5:=Tryz.isAgg5
 z5:=Tryz.sizeOf5
 v5:=Tryz.zeroValue5
 t9:=Tryz.underlying9
 a9:=Tryz.isAgg9
 z9:=Tryz.sizeOf9
 v9:=Tryz.zeroValue9
 t21:=Tryz.underlying21
 a21:=Tryz.isAgg21
 z21:=Tryz.sizeOf21
 v21:=Tryz.zeroValue21
 t31:=Tryz.underlying48
 a31:=Tryz.isAgg48
 z31:=Tryz.sizeOf48
 v31:=Tryz.zeroValue48
 t46:=Tryz.underlying153
 a46:=Tryz.isAgg153
 z46:=Tryz.sizeOf153
 v46:=Tryz.zeroValue153
 t51:=Tryz.underlying91
 a51:=Tryz.isAgg91
 z51:=Tryz.sizeOf91
 v51:=Tryz.zeroValue91
 t105:=Tryz.underlying255
 a105:=Tryz.isAgg255
 z105:=Tryz.sizeOf255
 v105:=Tryz.zeroValue255
 t119:=Tryz.underlying185
 a119:=Tryz.isAgg185
 z119:=Tryz.sizeOf185
 t138:=Tryz.underlying198
 a138:=Tryz.isAgg198
 z138:=Tryz.sizeOf198
 v138:=Tryz.zeroValue198
 t139:=Tryz.underlying199
 a139:=Tryz.isAgg199
 z139:=Tryz.sizeOf199
 v139:=Tryz.zeroValue199
 t146:=Tryz.underlying261
 a146:=Tryz.isAgg261
 z146:=Tryz.sizeOf261
 v146:=Tryz.zeroValue261
 g1:=by kernel_rfl
 g3:=by kernel_rfl
 g4:=by kernel_rfl}
def Tryz.laysFields_ren:Go.Shelf.Ren:=⟨fun|157=>100|229=>159|199=>160|261=>200|311=>225|312=>226|n=>n,fun|9=>9|31=>48|3=>3|5=>5|4=>4|119=>185|0=>0|40=>187|152=>218|21=>21|154=>220|51=>91|141=>222|196=>241|193=>238|198=>244|49=>242|194=>239|201=>247|226=>259|46=>153|227=>260|n=>n,fun|0=>0|6=>3|n=>n⟩
theorem Tryz.laysFields:Go.Proofs.Lays.n157 Tryz.prog Tryz.laysFields_ren:={
 mixed:=by kernel_rfl
 f157:=Tryz.func100.trans qJ
 f199:=Tryz.func160.trans qJ
 f229:=Tryz.func159.trans qJ
 f261:=Tryz.func200.trans qJ
 f311:=Tryz.func225.trans qJ
 f312:=Tryz.func226.trans qJ
 t0:=Tryz.underlying0
 a0:=Tryz.isAgg0
 z0:=Tryz.sizeOf0
 v0:=Tryz.zeroValue0
 t3:=Tryz.underlying3
 a3:=Tryz.isAgg3
 z3:=Tryz.sizeOf3
 v3:=Tryz.zeroValue3
 t4:=Tryz.underlying4
 a4:=Tryz.isAgg4
 z4:=Tryz.sizeOf4
 v4:=Tryz.zeroValue4
 t5:=Tryz.underlying5
 a5:=Tryz.isAgg5
 z5:=Tryz.sizeOf5
 v5:=Tryz.zeroValue5
 t9:=Tryz.underlying9
 a9:=Tryz.isAgg9
 z9:=Tryz.sizeOf9
 v9:=Tryz.zeroValue9
 t21:=Tryz.underlying21
 a21:=Tryz.isAgg21
 z21:=Tryz.sizeOf21
 v21:=Tryz.zeroValue21
 t31:=Tryz.underlying48
 a31:=Tryz.isAgg48
 z31:=Tryz.sizeOf48
 v31:=Tryz.zeroValue48
 t40:=Tryz.underlying187
 a40:=Tryz.isAgg187
 z40:=Tryz.sizeOf187
 v40:=Tryz.zeroValue187
 t46:=Tryz.underlying153
 a46:=Tryz.isAgg153
 z46:=Tryz.sizeOf153
 v46:=Tryz.zeroValue153
 t49:=Tryz.underlying242
 a49:=Tryz.isAgg242
 z49:=Tryz.sizeOf242
 v49:=Tryz.zeroValue242
 t51:=Tryz.underlying91
 a51:=Tryz.isAgg91
 z51:=Tryz.sizeOf91
 v51:=Tryz.zeroValue91
 t119:=Tryz.underlying185
 a119:=Tryz.isAgg185
 z119:=Tryz.sizeOf185
 t141:=Tryz.underlying222
 a141:=Tryz.isAgg222
 z141:=Tryz.sizeOf222
 v141:=Tryz.zeroValue222
 t152:=Tryz.underlying218
 a152:=Tryz.isAgg218
 z152:=Tryz.sizeOf218
 v152:=Tryz.zeroValue218
 t154:=Tryz.underlying220
 a154:=Tryz.isAgg220
 z154:=Tryz.sizeOf220
 v154:=Tryz.zeroValue220
 t193:=Tryz.underlying238
 a193:=Tryz.isAgg238
 z193:=Tryz.sizeOf238
 v193:=Tryz.zeroValue238
 t194:=Tryz.underlying239
 a194:=Tryz.isAgg239
 z194:=Tryz.sizeOf239
 v194:=Tryz.zeroValue239
 t196:=Tryz.underlying241
 a196:=Tryz.isAgg241
 z196:=Tryz.sizeOf241
 v196:=Tryz.zeroValue241
 t198:=Tryz.underlying244
 a198:=Tryz.isAgg244
 z198:=Tryz.sizeOf244
 v198:=Tryz.zeroValue244
 t201:=Tryz.underlying247
 a201:=Tryz.isAgg247
 z201:=Tryz.sizeOf247
 v201:=Tryz.zeroValue247
 t226:=Tryz.underlying259
 a226:=Tryz.isAgg259
 z226:=Tryz.sizeOf259
 v226:=Tryz.zeroValue259
 t227:=Tryz.underlying260
 a227:=Tryz.isAgg260
 z227:=Tryz.sizeOf260
 v227:=Tryz.zeroValue260
 g0:=by kernel_rfl
 g6:=by kernel_rfl}
def Tryz.laysCut_ren:Go.Shelf.Ren:=⟨fun|145=>101|220=>161|219=>201|217=>227|225=>228|224=>229|267=>230|266=>242|314=>243|n=>n,fun|9=>9|4=>4|59=>135|3=>3|5=>5|46=>153|146=>261|51=>91|n=>n,fun|1=>4|n=>n⟩
theorem Tryz.laysCut:Go.Proofs.Lays.n145 Tryz.prog Tryz.laysCut_ren:={
 mixed:=by kernel_rfl
 f145:=Tryz.func101.trans qJ
 f217:=Tryz.func227.trans qJ
 f219:=Tryz.func201.trans qJ
 f220:=Tryz.func161.trans qJ
 f224:=Tryz.func229.trans qJ
 f225:=Tryz.func228.trans qJ
 f266:=Tryz.func242.trans qJ
 f267:=Tryz.func230.trans qJ
 f314:=Tryz.func243.trans qJ
 t3:=Tryz.underlying3
 a3:=Tryz.isAgg3
 z3:=Tryz.sizeOf3
 v3:=Tryz.zeroValue3
 t4:=Tryz.underlying4
 a4:=Tryz.isAgg4
 z4:=Tryz.sizeOf4
 v4:=Tryz.zeroValue4
 t5:=Tryz.underlying5
 a5:=Tryz.isAgg5
 z5:=Tryz.sizeOf5
 v5:=Tryz.zeroValue5
 t9:=Tryz.underlying9
 a9:=Tryz.isAgg9
 z9:=Tryz.sizeOf9
 v9:=Tryz.zeroValue9
 t46:=Tryz.underlying153
 a46:=Tryz.isAgg153
 z46:=Tryz.sizeOf153
 v46:=Tryz.zeroValue153
 t51:=Tryz.underlying91
 a51:=Tryz.isAgg91
 z51:=Tryz.sizeOf91
 v51:=Tryz.zeroValue91
 t59:=Tryz.underlying135
 a59:=Tryz.isAgg135
 z59:=Tryz.sizeOf135
 v59:=Tryz.zeroValue135
 t146:=Tryz.underlying261
 a146:=Tryz.isAgg261
 z146:=Tryz.sizeOf261
 v146:=Tryz.zeroValue261
 g1:=by kernel_rfl}
def Tryz.laysContains_ren:Go.Shelf.Ren:=⟨fun|144=>107|143=>165|219=>201|217=>227|225=>228|224=>229|267=>230|266=>242|314=>243|n=>n,fun|9=>9|4=>4|3=>3|5=>5|46=>153|146=>261|51=>91|n=>n,fun|1=>4|n=>n⟩
theorem Tryz.laysContains:Go.Proofs.Lays.n144 Tryz.prog Tryz.laysContains_ren:={
 mixed:=by kernel_rfl
 f143:=Tryz.func165.trans qJ
 f144:=Tryz.func107.trans qJ
 f217:=Tryz.func227.trans qJ
 f219:=Tryz.func201.trans qJ
 f224:=Tryz.func229.trans qJ
 f225:=Tryz.func228.trans qJ
 f266:=Tryz.func242.trans qJ
 f267:=Tryz.func230.trans qJ
 f314:=Tryz.func243.trans qJ
 t3:=Tryz.underlying3
 a3:=Tryz.isAgg3
 z3:=Tryz.sizeOf3
 v3:=Tryz.zeroValue3
 t4:=Tryz.underlying4
 a4:=Tryz.isAgg4
 z4:=Tryz.sizeOf4
 v4:=Tryz.zeroValue4
 t5:=Tryz.underlying5
 a5:=Tryz.isAgg5
 z5:=Tryz.sizeOf5
 v5:=Tryz.zeroValue5
 t9:=Tryz.underlying9
 a9:=Tryz.isAgg9
 z9:=Tryz.sizeOf9
 v9:=Tryz.zeroValue9
 t46:=Tryz.underlying153
 a46:=Tryz.isAgg153
 z46:=Tryz.sizeOf153
 v46:=Tryz.zeroValue153
 t51:=Tryz.underlying91
 a51:=Tryz.isAgg91
 z51:=Tryz.sizeOf91
 v51:=Tryz.zeroValue91
 t146:=Tryz.underlying261
 a146:=Tryz.isAgg261
 z146:=Tryz.sizeOf261
 v146:=Tryz.zeroValue261
 g1:=by kernel_rfl}
end Go.Proofs
namespace Go.Proofs.YtammfbdgjnkolaaGreatDoor
open Go.RowKit
def uB0(x:Int):List Int->Nat->Int
 |[],_=> -1
 |y::l,k=>if x==y then k else uB0 x l (k+1)
def before(l:List Int)(a b:Int):Bool:=decide (0<=uB0 a l 0)&&decide (uB0 a l 0<uB0 b l 0)
def V:List Nat->Nat
 |[]=>0
 |d::l=>d+65536*V l
def Dg(l:List Nat):Prop:=∀d∈l,d<65536
def dig(n:Nat):List Nat:=if n=0 then []else(n%65536)::dig (n/65536)
decreasing_by omega
theorem jS:dig 0=[]:=by rw[dig];simp
theorem gL{n:Nat}(h:n≠0):dig n=(n%65536)::dig (n/65536):=by rw[dig];simp[h]
theorem tA0:V []=0:=rfl
theorem kM(d:Nat)(l:List Nat):V (d::l)=d+65536*V l:=rfl
theorem vB0(a b:List Nat):V (a++b)=V a+65536^a.length*V b:=by
 induction a with
 |nil=>simp[tA0]
 |cons d a ih=>rw[List.cons_append,kM,ih,kM,Am,By,Bv];rw[Ed];congr 2;rw[<-Bp];congr 1;exact Aw _ _
theorem yF0(a:List Nat)(d:Nat):V (a++[d])=V a+65536^a.length*d:=by rw[vB0,kM,tA0];simp
theorem Dg.nil:Dg []:=fun _ h=>by cases h
theorem Dg.snoc{a:List Nat}(h:Dg a){d:Nat}(h1:d<65536):Dg (a++[d]):=fun x hx=>by
 rcases Av.1 hx with hx|hx
 ·exact h x hx
 ·rw[Cc.1 hx];exact h1
theorem Dg.take{a:List Nat}(h:Dg a)(n:Nat):Dg (a.take n):=fun x hx=>h x (Cu hx)
theorem Dg.at{a:List Nat}(h:Dg a){i:Nat}(hi:i<a.length):a[i]<65536:=h _ (Cj hi)
theorem Dg.set{a:List Nat}(h:Dg a)(i:Nat){d:Nat}(h1:d<65536):Dg (a.set i d):=fun x hx=>by
 rcases Dy hx with hx|rfl
 ·exact h x hx
 ·exact h1
theorem V_lt{l:List Nat}(h:Dg l):V l<65536^l.length:=by
 induction l with
 |nil=>simp[tA0]
 |cons d l ih=>
  have h1:=h d (Bc ..);have h2:=ih (fun x hx=>h x (Be _ hx));rw[kM,Am,By];omega
theorem wP{l:List Nat}{m:Nat}(h:m<l.length):V (l.take (m+1))=V (l.take m)+65536^m*l[m]:=by
 rw[Dh h,yF0,As,De (Dn h)]
theorem V_take_drop(l:List Nat)(m:Nat)(h:m<=l.length):V l=V (l.take m)+65536^m*V (l.drop m):=by
 have e:=vB0 (l.take m) (l.drop m);rw[Eb,As,De h]at e;exact e
theorem V_zeros(n:Nat):V (List.replicate n 0)=0:=by
 induction n with
 |zero=>rfl
 |succ n ih=>rw[List.replicate_succ,kM,ih]
theorem Dg_zeros(n:Nat):Dg (List.replicate n 0):=fun x hx=>by rw[List.eq_of_mem_replicate hx];decide
theorem bY(n:Nat):Dg (dig n):=by
 induction n using Nat.strongRecOn with
 |_ n ih=>
  by_cases h:n=0
  ·subst h;rw[jS];exact Dg.nil
  ·rw[gL h];intro x hx;rcases Bi.1 hx with rfl|hx
   ·omega
   ·exact ih (n/65536) om x hx
theorem xE(n:Nat):V (dig n)=n:=by
 induction n using Nat.strongRecOn with
 |_ n ih=>
  by_cases h:n=0
  ·subst h;rw[jS];rfl
  ·rw[gL h,kM,ih (n/65536) om];omega
def vV1(l:List Nat):Prop:=∀h:l≠[],l.getLast h≠0
theorem dig_V{l:List Nat}(h:Dg l)(hn:vV1 l):dig (V l)=l:=by
 induction l with
 |nil=>exact jS
 |cons d l ih=>
  have h1:=h d (Bc ..);have hl:Dg l:=fun x hx=>h x (Be _ hx);have hnl:vV1 l:=fun hne=>by
   have:=hn (by simp);rw[List.getLast_cons hne]at this;exact this
  have h0:V (d::l)≠0:=by
   rw[kM];intro e;have hd:d=0:=by omega
   have hv:V l=0:=by omega
   cases l with
   |nil=>exact hn (by simp) (by simpa using hd)
   |cons x l=>
    have:=ih hl hnl;rw[hv,jS]at this
    cases this
  rw[gL h0,kM];have e1:(d+65536*V l)%65536=d:=by omega
  have e2:(d+65536*V l)/65536=V l:=by omega
  rw[e1,e2,ih hl hnl]
theorem qB{n k:Nat}(h:n<65536^k):(dig n).length<=k:=by
 induction k generalizing n with
 |zero=>
  have:n=0:=by simpa using h
  subst this;rw[jS];simp
 |succ k ih=>
  by_cases h0:n=0
  ·subst h0;rw[jS];simp
  ·rw[gL h0,Am];have:=ih (n:=n/65536) (by rw[By]at h;omega);omega
theorem pX(n:Nat):n<65536^(dig n).length:=by
 have:=V_lt (bY n)
 rwa[xE]at this
theorem vM1{n:Nat}(h:n≠0):65536^((dig n).length-1)<=n:=by
 rcases Br n (65536^((dig n).length-1))with h1|h1
 ·have h2:=qB h1;have:(dig n).length≠0:=by rw[gL h];simp
  omega
 ·exact h1
theorem bI{x y:Nat}(h:(dig x).length<(dig y).length):x<y:=by
 have h0:y≠0:=by intro e;subst e;rw[jS]at h;simp at h
 have h1:=pX x;have h2:=vM1 h0;exact Bt h1 (At (Bb om om) h2)
theorem yT{x y:Nat}(h:x<=y):(dig x).length<=(dig y).length:=by
 rcases Br (dig y).length (dig x).length with h1|h1
 ·have:=bI h1;omega
 ·exact h1
theorem qN0{n:Nat}:dig n=[]↔n=0:=by
 constructor
 ·intro h;by_cases h0:n=0
  ·exact h0
  ·rw[gL h0]at h;cases h
 ·rintro rfl;exact jS
theorem vM{l:List Nat}{i:Nat}(h:i<l.length):l.getD i 0=l[i]:=by rw[Af,Ac h];rfl
theorem wB{l:List Nat}{i:Nat}(h:l.length<=i):l.getD i 0=0:=by rw[Af,Cz h];rfl
theorem jO(l:List Nat)(i:Nat):V (l.take (i+1))=V (l.take i)+65536^i*(l.getD i 0):=by
 by_cases hl:i<l.length
 ·rw[wP hl,vM hl]
 ·rw[Ai om,Ai om,wB om];simp
theorem plus_step{la lb o:List Nat}{i c x:Nat}(h:V o+c*65536^i=V (la.take i)+V (lb.take i))(ho:o.length=i)
  (hx:x=c+(la.getD i 0)+(lb.getD i 0)):
  V (o++[(x%65536)])+x/65536*65536^(i+1)=V (la.take (i+1))+V (lb.take (i+1)):=by
 rw[yF0,ho,jO la,jO lb,By];generalize 65536^i=B at*;have e:x=65536*(x/65536)+x%65536:=(Dd x 65536).symm;have e2:B*x=B*(65536*(x/65536))+B*(x%65536):=by rw[<-Bv,<-e]
 have e3:B*x=B*c+B*(la.getD i 0)+B*(lb.getD i 0):=by rw[hx,Bv,Bv]
 have e4:x/65536*(B*65536)=B*(65536*(x/65536)):=by rw[Aw,Bp]
 have e5:c*B=B*c:=Aw _ _;omega
theorem minus_step{la lb o:List Nat}{i c x c':Nat}(h:V o+V (lb.take i)=V (la.take i)+c*65536^i)(ho:o.length=i)(hi:i<la.length)(hx:x+(lb.getD i 0)+c=la[i]+65536*c'):
  V (o++[x])+V (lb.take (i+1))=V (la.take (i+1))+c'*65536^(i+1):=by
 rw[yF0,ho,jO lb,wP hi,By];generalize 65536^i=B at*;have e1:B*x+B*(lb.getD i 0)+B*c=B*la[i]+B*(65536*c'):=by rw[<-Bv,<-Bv,<-Bv,hx]
 have e2:c'*(B*65536)=B*(65536*c'):=by rw[Aw,Bp]
 have e3:c*B=B*c:=Aw _ _;omega
def cmpN(x y:Nat):Int:=if x<y then-1 else if y<x then 1 else 0
theorem vA0{l:List Nat}{i:Nat}(h:i<l.length):V l=V (l.take i)+65536^i*(l[i]+65536*V (l.drop (i+1))):=by
 rw[V_take_drop l i (Dn h),Cd h,kM]
theorem lt_at{la lb:List Nat}{i:Nat}(ha:Dg la)(hl:la.length=lb.length)(hi:i<la.length)(hd:la.drop (i+1)=lb.drop (i+1))(h:la[i]<lb[i]):V la<V lb:=by
 rw[vA0 hi,vA0 (l:=lb) (i:=i) om,hd];have h1:=V_lt (ha.take i);rw[As,De (Dn hi)]at h1;generalize 65536*V (lb.drop (i+1))=D;have h4:65536^i*(la[i]+D)+65536^i<=65536^i*(lb[i]+D):=by
  rw[<-Nat.mul_succ];exact Cv _ om
 omega
theorem double_step{la o:List Nat}{i c one x:Nat}(h:V o+c*65536^i=2*V (la.take i)+one)(ho:o.length=i)(hi:i<la.length)(hx:x=2*la[i]+c):
  V (o++[(x%65536)])+x/65536*65536^(i+1)=2*V (la.take (i+1))+one:=by
 rw[yF0,ho,wP hi,By];generalize 65536^i=B at*;have e:x=65536*(x/65536)+x%65536:=(Dd x 65536).symm;have e2:B*x=B*(65536*(x/65536))+B*(x%65536):=by rw[<-Bv,<-e]
 have e3:B*x=B*(2*la[i])+B*c:=by rw[hx,Bv]
 have e4:x/65536*(B*65536)=B*(65536*(x/65536)):=by rw[Aw,Bp]
 have e5:c*B=B*c:=Aw _ _;have e6:B*(2*la[i])=2*(B*la[i]):=by rw[Nat.mul_left_comm]
 omega
def VB:List Bool->Nat
 |[]=>0
 |b::l=>b.toNat+2*VB l
theorem xF(b:Bool)(l:List Bool):VB (b::l)=b.toNat+2*VB l:=rfl
theorem xS0(a b:List Bool):VB (a++b)=VB a+2^a.length*VB b:=by
 induction a with
 |nil=>simp[VB]
 |cons d a ih=>rw[List.cons_append,xF,ih,xF,Am,By,Bv,Ed];congr 2;rw[<-Bp];congr 1;exact Aw _ _
theorem qJ1(a:List Bool)(b:Bool):VB (a++[b])=VB a+2^a.length*b.toNat:=by rw[xS0,xF];simp[VB]
theorem VB_lt(l:List Bool):VB l<2^l.length:=by
 induction l with
 |nil=>simp[VB]
 |cons b l ih=>rw[xF,Am,By];cases b<;>simp<;>omega
theorem VB_take_succ{l:List Bool}{m:Nat}(h:m<l.length):VB (l.take (m+1))=VB (l.take m)+2^m*l[m].toNat:=by
 rw[Dh h,qJ1,As,De (Dn h)]
def qM1(l:List Bool):Prop:=∀h:l≠[],l.getLast h=true
def wC(n:Nat):List Bool:=if n=0 then []else(n%2==1)::wC (n/2)
decreasing_by omega
theorem xQ:wC 0=[]:=by rw[wC];simp
theorem yD0{n:Nat}(h:n≠0):wC n=(n%2==1)::wC (n/2):=by rw[wC];simp[h]
theorem VB_bitsN(n:Nat):VB (wC n)=n:=by
 induction n using Nat.strongRecOn with
 |_ n ih=>
  by_cases h:n=0
  ·subst h;rw[xQ];rfl
  ·rw[yD0 h,xF,ih (n/2) om];rcases Nat.mod_two_eq_zero_or_one n with h2|h2<;>simp[h2]<;>omega
theorem bitsN_VB{l:List Bool}(hn:qM1 l):wC (VB l)=l:=by
 induction l with
 |nil=>exact xQ
 |cons d l ih=>
  have hnl:qM1 l:=fun hne=>by
   have:=hn (by simp);rw[List.getLast_cons hne]at this;exact this
  have h0:VB (d::l)≠0:=by
   rw[xF];intro e;have hv:VB l=0:=by omega
   cases l with
   |nil=>
    have h1:d=true:=by simpa using hn (by simp)
    subst h1;simp at e
   |cons x l=>
    have:=ih hnl;rw[hv,xQ]at this
    cases this
  rw[yD0 h0,xF];have e1:(d.toNat+2*VB l)%2=d.toNat:=by cases d<;>simp<;>omega
  have e2:(d.toNat+2*VB l)/2=VB l:=by cases d<;>simp<;>omega
  rw[e1,e2,ih hnl]
  cases d<;>rfl
theorem bitsN_length_le{n k:Nat}(h:n<2^k):(wC n).length<=k:=by
 induction k generalizing n with
 |zero=>
  have:n=0:=by simpa using h
  subst this;rw[xQ];simp
 |succ k ih=>
  by_cases h0:n=0
  ·subst h0;rw[xQ];simp
  ·rw[yD0 h0,Am];have:=ih (n:=n/2) (by rw[By]at h;omega);omega
theorem wD0{o:List Bool}{j x X:Nat}(h:VB o+x*2^j=X)(ho:o.length=j):VB (o++[x%2==1])+x/2*2^(j+1)=X:=by
 rw[qJ1,ho,By,<-h];have e:x=2*(x/2)+x%2:=(Dd x 2).symm;have e2:x*2^j=x/2*(2^j*2)+2^j*(x%2):=by
  conv=>lhs;rw[e,Bo]
  rw[Aw (x%2),Aw 2 (x/2),Bp,Aw 2 (2^j)]
 have e3:(x%2==1).toNat=x%2:=by rcases Nat.mod_two_eq_zero_or_one x with h2|h2<;>simp[h2]
 rw[e3];omega
theorem V_set{o:List Nat}{j:Nat}{d:Nat}(h:j<o.length):V (o.set j d)+65536^j*o[j]=V o+65536^j*d:=by
 have e1:=vA0 (l:=o.set j d) (i:=j) (by simpa using h);have e2:=vA0 (l:=o) (i:=j) h;rw[List.getElem_set_self,List.take_set_of_le (Ar _),List.drop_set_of_lt om]at e1;rw[e1,e2];generalize V (o.drop (j+1))=D;generalize V (o.take j)=T;generalize 65536^j=B;rw[Bv,Bv];omega
theorem times_step{o lb:List Nat}{i k c a x S:Nat}(h:V o+c*65536^(i+k)=S+a*65536^i*V (lb.take k))(hj:i+k<o.length)(hx:x=o[i+k]+c+a*(lb.getD k 0)):
  V (o.set (i+k) (x%65536))+x/65536*65536^(i+(k+1))=S+a*65536^i*V (lb.take (k+1)):=by
 have e1:=V_set (o:=o) (j:=i+k) (d:=(x%65536)) hj;rw[jO,show i+(k+1)=i+k+1 by omega,Bv (a*65536^i),<-Ed S,<-h,By 65536 (i+k)];have e0:a*65536^i*(65536^k*(lb.getD k 0))=65536^(i+k)*(a*(lb.getD k 0)):=by
  rw[Eo,Bp,Nat.mul_left_comm a,Nat.mul_left_comm a (65536^k),Bp]
 rw[e0];generalize 65536^(i+k)=B at*;have e:x=65536*(x/65536)+x%65536:=(Dd x 65536).symm;have e2:B*x=B*(65536*(x/65536))+B*(x%65536):=by rw[<-Bv,<-e]
 have e3:B*x=B*o[i+k]+B*c+B*(a*(lb.getD k 0)):=by rw[hx,Bv,Bv]
 have e4:x/65536*(B*65536)=B*(65536*(x/65536)):=by rw[Aw,Bp]
 have e5:c*B=B*c:=Aw _ _;omega
theorem times_in{o la lb:List Nat}{i k c:Nat}(ha:Dg la)(hb:Dg lb)(hi:i<la.length)(hc:0<c)
  (h:V o+c*65536^(i+k)=V (la.take i)*V lb+la[i]*65536^i*V lb):k<=lb.length:=by
 have e1:V (la.take i)*V lb+la[i]*65536^i*V lb=V (la.take (i+1))*V lb:=by
  rw[wP hi,Bo,Aw (65536^i)]
 have h1:=V_lt (ha.take (i+1));rw[As,De hi]at h1;have h2:=V_lt hb;have h3:V (la.take (i+1))*V lb<65536^(i+1)*65536^lb.length:=Nat.mul_lt_mul_of_lt_of_le h1 (Dn h2) (Nat.pow_pos om);rw[<-Eo]at h3;have h4:65536^(i+k)<=c*65536^(i+k):=Nat.le_mul_of_pos_left _ hc;rcases Br lb.length k with h5|h5
 ·have h6:65536^(i+1+lb.length)<=65536^(i+k):=Bb om om;omega
 ·exact h5
theorem times_row{la:List Nat}{i y:Nat}(hi:i<la.length):V (la.take i)*y+la[i]*65536^i*y=V (la.take (i+1))*y:=by
 rw[wP hi,Bo,Aw (65536^i)]
def gY(l:List Bool)(i k:Nat):Nat:=VB ((l.drop (i+k)).take (16-k))
theorem chunk_top(l:List Bool)(i:Nat):gY l i 16=0:=by unfold gY;simp[VB]
theorem chunk_step{l:List Bool}{i k:Nat}(hk:k<16):gY l i k=2*gY l i (k+1)+(if h:i+k<l.length then(l[i+k]).toNat else 0):=by
 unfold gY;by_cases h:i+k<l.length
 ·rw[dif_pos h,Cd h,show 16-k=16-(k+1)+1 by omega,List.take_succ_cons,xF,show i+(k+1)=i+k+1 by omega];omega
 ·rw[dif_neg h,Bd om,Bd om];simp[VB]
theorem dX0(l:List Bool)(i k:Nat):gY l i k<65536:=by
 have h1:=VB_lt ((l.drop (i+k)).take (16-k));have h2:2^((l.drop (i+k)).take (16-k)).length<=2^16:=Bb om (by simp;omega);unfold gY;omega
theorem binary_step{l:List Bool}{o:List Nat}{j:Nat}(h:V o=VB (l.take (16*j)))(ho:o.length=j)(hj:16*j<l.length):V (o++[(gY l (16*j) 0)])=VB (l.take (16*(j+1))):=by
 rw[yF0,h,ho];have e:l.take (16*(j+1))=l.take (16*j)++(l.drop (16*j)).take 16:=by rw[show 16*(j+1)=16*j+16 by omega,List.take_add]
 rw[e,xS0,As,De (Dn hj),Nat.pow_mul];rfl
theorem divide_end{x b Q R:Nat}(h:x=Q*b+R)(hR:R<b):Q=x/b/\R=x%b:=by
 subst h;constructor
 ·rw[Aw,Nat.mul_add_div om,Ei hR];simp
 ·rw[Aw,Nat.mul_add_mod,Dr hR]
theorem gcd_even2{a b:Nat}(ha:a%2=0)(hb:b%2=0):Nat.gcd a b=2*Nat.gcd (a/2) (b/2):=by
 rw[<-Nat.gcd_mul_left,show 2*(a/2)=a by omega,show 2*(b/2)=b by omega]
theorem wY0{a b:Nat}(ha:a%2=0)(hb:b%2=1):Nat.gcd a b=Nat.gcd (a/2) b:=by
 have h:Nat.Coprime 2 b:=by
  have h1:Nat.gcd 2 b∣2:=Nat.gcd_dvd_left 2 b;have h2:=Nat.gcd_dvd_right 2 b;have h3:=Nat.le_of_dvd om h1;have h0:Nat.gcd 2 b≠0:=fun e=>by rw[e]at h1;simp at h1
  rcases(show Nat.gcd 2 b=1\/Nat.gcd 2 b=2 by omega)with h4|h4
  ·exact h4
  ·rw[h4]at h2;omega
 have e:a=2*(a/2):=by omega
 conv=>lhs;rw[e]
 exact Nat.Coprime.gcd_mul_left_cancel _ h
theorem dC0{a b:Nat}(h:b<=a):Nat.gcd a b=Nat.gcd (a-b) b:=by
 conv=>lhs;rw[show a=(a-b)+b by omega]
 exact Nat.gcd_add_self_left ..
theorem plus_in{la lb o:List Nat}{k c:Nat}(ha:Dg la)(hb:Dg lb)(h:V o+c*65536^k=V (la.take k)+V (lb.take k))(hc:0<c):k<=la.length+lb.length:=by
 rcases Br (la.length+lb.length) k with h1|h1
 ·rw[Ai om,Ai om]at h;have h2:=V_lt ha;have h3:=V_lt hb;have h4:65536^la.length<=65536^(la.length+lb.length):=Bb om om;have h5:65536^lb.length<=65536^(la.length+lb.length):=Bb om om;have h6:65536^(la.length+lb.length+1)<=65536^k:=Bb om om;have h7:65536^k<=c*65536^k:=Nat.le_mul_of_pos_left _ hc;rw[By]at h6;omega
 ·exact h1
theorem plus_done{la lb o:List Nat}{k:Nat}(h:V o+0*65536^k=V (la.take k)+V (lb.take k))(h1:la.length<=k)(h2:lb.length<=k):V o=V la+V lb:=by
 rw[Ai h1,Ai h2]at h;omega
theorem minus_done{la lb o:List Nat}{c:Nat}(ho:Dg o)(hl:o.length=la.length)(h:V o+V (lb.take la.length)=V (la.take la.length)+c*65536^la.length)(hle:V lb<=V la)(hbl:lb.length<=la.length):V o=V la-V lb:=by
 rw[Ai hbl,Ai (Ar _)]at h;have h1:=V_lt ho;rw[hl]at h1;rcases Bz c with rfl|hc
 ·omega
 ·have h7:65536^la.length<=c*65536^la.length:=Nat.le_mul_of_pos_left _ hc;omega
def VL:List Nat->Nat
 |[]=>0
 |d::l=>d+4294967296*VL l
def Lg(l:List Nat):Prop:=∀d∈l,d<4294967296
def lim(n:Nat):List Nat:=if n=0 then []else(n%4294967296)::lim (n/4294967296)
decreasing_by omega
theorem qI:lim 0=[]:=by rw[lim];simp
theorem xD{n:Nat}(h:n≠0):lim n=(n%4294967296)::lim (n/4294967296):=by rw[lim];simp[h]
theorem xU0:VL []=0:=rfl
theorem uU(d:Nat)(l:List Nat):VL (d::l)=d+4294967296*VL l:=rfl
theorem vD0(a b:List Nat):VL (a++b)=VL a+4294967296^a.length*VL b:=by
 induction a with
 |nil=>simp[xU0]
 |cons d a ih=>rw[List.cons_append,uU,ih,uU,Am,By,Bv];rw[Ed];congr 2;rw[<-Bp];congr 1;exact Aw _ _
theorem mL(a:List Nat)(d:Nat):VL (a++[d])=VL a+4294967296^a.length*d:=by rw[vD0,uU,xU0];simp
theorem Lg.nil:Lg []:=fun _ h=>by cases h
theorem Lg.snoc{a:List Nat}(h:Lg a){d:Nat}(h1:d<4294967296):Lg (a++[d]):=fun x hx=>by
 rcases Av.1 hx with hx|hx
 ·exact h x hx
 ·rw[Cc.1 hx];exact h1
theorem Lg.take{a:List Nat}(h:Lg a)(n:Nat):Lg (a.take n):=fun x hx=>h x (Cu hx)
theorem Lg.at{a:List Nat}(h:Lg a){i:Nat}(hi:i<a.length):a[i]<4294967296:=h _ (Cj hi)
theorem Lg.set{a:List Nat}(h:Lg a)(i:Nat){d:Nat}(h1:d<4294967296):Lg (a.set i d):=fun x hx=>by
 rcases Dy hx with hx|rfl
 ·exact h x hx
 ·exact h1
theorem L_lt{l:List Nat}(h:Lg l):VL l<4294967296^l.length:=by
 induction l with
 |nil=>simp[xU0]
 |cons d l ih=>
  have h1:=h d (Bc ..);have h2:=ih (fun x hx=>h x (Be _ hx));rw[uU,Am,By];omega
theorem vQ{l:List Nat}{m:Nat}(h:m<l.length):VL (l.take (m+1))=VL (l.take m)+4294967296^m*l[m]:=by
 rw[Dh h,mL,As,De (Dn h)]
theorem wQ(l:List Nat)(m:Nat)(h:m<=l.length):VL l=VL (l.take m)+4294967296^m*VL (l.drop m):=by
 have e:=vD0 (l.take m) (l.drop m);rw[Eb,As,De h]at e;exact e
theorem mB0(n:Nat):VL (List.replicate n 0)=0:=by
 induction n with
 |zero=>rfl
 |succ n ih=>rw[List.replicate_succ,uU,ih]
theorem cG(n:Nat):Lg (List.replicate n 0):=fun x hx=>by rw[List.eq_of_mem_replicate hx];decide
theorem yV(n:Nat):Lg (lim n):=by
 induction n using Nat.strongRecOn with
 |_ n ih=>
  by_cases h:n=0
  ·subst h;rw[qI];exact Lg.nil
  ·rw[xD h];intro x hx;rcases Bi.1 hx with rfl|hx
   ·omega
   ·exact ih (n/4294967296) om x hx
theorem vF(n:Nat):VL (lim n)=n:=by
 induction n using Nat.strongRecOn with
 |_ n ih=>
  by_cases h:n=0
  ·subst h;rw[qI];rfl
  ·rw[xD h,uU,ih (n/4294967296) om];omega
def yJ0(l:List Nat):Prop:=∀h:l≠[],l.getLast h≠0
theorem lim_noLead(n:Nat):yJ0 (lim n):=by
 induction n using Nat.strongRecOn with
 |_ n ih=>
  by_cases h:n=0
  ·subst h;rw[qI];exact fun h=>absurd rfl h
  ·rw[xD h];intro hne;by_cases h2:n/4294967296=0
   ·simp only[h2,qI,List.getLast_singleton];omega
   ·have h3:lim (n/4294967296)≠[]:=by rw[xD h2];simp
    rw[List.getLast_cons h3];exact ih (n/4294967296) om h3
theorem jO1{l:List Nat}(h:Lg l)(hn:yJ0 l):lim (VL l)=l:=by
 induction l with
 |nil=>exact qI
 |cons d l ih=>
  have h1:=h d (Bc ..);have hl:Lg l:=fun x hx=>h x (Be _ hx);have hnl:yJ0 l:=fun hne=>by
   have:=hn (by simp);rw[List.getLast_cons hne]at this;exact this
  have h0:VL (d::l)≠0:=by
   rw[uU];intro e;have hd:d=0:=by omega
   have hv:VL l=0:=by omega
   cases l with
   |nil=>exact hn (by simp) (by simpa using hd)
   |cons x l=>
    have:=ih hl hnl;rw[hv,qI]at this
    cases this
  rw[xD h0,uU];have e1:(d+4294967296*VL l)%4294967296=d:=by omega
  have e2:(d+4294967296*VL l)/4294967296=VL l:=by omega
  rw[e1,e2,ih hl hnl]
theorem qV{n k:Nat}(h:n<4294967296^k):(lim n).length<=k:=by
 induction k generalizing n with
 |zero=>
  have:n=0:=by simpa using h
  subst this;rw[qI];simp
 |succ k ih=>
  by_cases h0:n=0
  ·subst h0;rw[qI];simp
  ·rw[xD h0,Am];have:=ih (n:=n/4294967296) (by rw[By]at h;omega);omega
theorem mG(n:Nat):n<4294967296^(lim n).length:=by
 have:=L_lt (yV n)
 rwa[vF]at this
theorem uV1{n:Nat}(h:n≠0):4294967296^((lim n).length-1)<=n:=by
 rcases Br n (4294967296^((lim n).length-1))with h1|h1
 ·have h2:=qV h1;have:(lim n).length≠0:=by rw[xD h];simp
  omega
 ·exact h1
theorem qQ{l:List Nat}{i:Nat}(h:i<l.length):l.getD i 0=l[i]:=by rw[Af,Ac h];rfl
theorem of_step{l o:List Nat}{i:Nat}(h:V o=VL (l.take i))(ho:o.length=2*i)(hi:i<l.length):V (o++[l[i]%65536,l[i]/65536])=VL (l.take (i+1)):=by
 rw[vB0,h,ho,vQ hi,kM,kM,tA0];have e:l[i]%65536+65536*(l[i]/65536+65536*0)=l[i]:=by omega
 rw[e,Nat.pow_mul]
theorem of_Dg{o:List Nat}(h:Dg o){x:Nat}(hx:x<4294967296):Dg (o++[x%65536,x/65536]):=fun y hy=>by
 rcases Av.1 hy with hy|hy
 ·exact h y hy
 ·simp only[Bi,List.not_mem_nil,or_false]at hy;rcases hy with rfl|rfl<;>omega
theorem limbs_step{a o:List Nat}{j:Nat}(h:VL o=V (a.take (2*j)))(ho:o.length=j):VL (o++[a.getD (2*j) 0+a.getD (2*j+1) 0*65536])=V (a.take (2*(j+1))):=by
 rw[mL,h,ho,show 2*(j+1)=2*j+1+1 by omega,jO,jO,By,Bv,Nat.pow_mul,Ed];congr 2;show 4294967296^j*_=_;rw[Aw (a.getD (2*j+1) 0),<-Bp]
theorem limbs_end{n:Nat}{o:List Nat}(h:VL o=V ((dig n).take (2*o.length)))(hl:(dig n).length<=2*o.length)(hl2:2*o.length<(dig n).length+2)(hg:Lg o):o=lim n:=by
 rw[Ai hl,xE]at h;have hn:yJ0 o:=fun hne=>by
  intro e;have hpos:0<o.length:=Db.2 hne;rw[Em]at e;have h1:=vQ (l:=o) (m:=o.length-1) om;rw[e,show o.length-1+1=o.length by omega,Ai (Ar _),h]at h1;have h2:=L_lt (hg.take (o.length-1));rw[As,De om]at h2;have h0:n≠0:=by
   intro e0;subst e0;rw[jS]at hl2;simp at hl2;omega
  have h3:=vM1 h0;have h4:4294967296^(o.length-1)=65536^(2*(o.length-1)):=by rw[Nat.pow_mul]
  have h5:65536^(2*(o.length-1))<=65536^((dig n).length-1):=Bb om om;omega
 rw[<-jO1 hg hn,h]
theorem lim_dig_length(n:Nat):2*(lim n).length<=(dig n).length+1:=by
 rcases Bz n with rfl|hp
 ·rw[qI];simp
 ·have h1:=uV1 (n:=n) om;have h2:=pX n;rcases Br (2*((lim n).length-1)) (dig n).length with h3|h3
  ·omega
  ·have h4:4294967296^((lim n).length-1)=65536^(2*((lim n).length-1)):=by rw[Nat.pow_mul]
   have h5:65536^(dig n).length<=65536^(2*((lim n).length-1)):=Bb om h3;omega
def cmpZ(x y:Int):Int:=if x<y then-1 else if y<x then 1 else 0
def ZI(b:Bool)(n:Nat):Int:=if b then-(n:Int)else n
theorem ZI_neg(b:Bool)(n:Nat):ZI (!b&&decide (0<n)) n= -ZI b n:=by
 cases b<;>unfold ZI<;>simp
 intro h;omega
theorem xR(b:Bool)(n:Nat):(ZI b n).natAbs=n:=by cases b<;>unfold ZI<;>simp
section
variable{P:Program}{b:Ba}
def exJ{ι:Type}(I:ι->DS)(K:Exit->DS->Prop)(ex:Exit)(S:DS):Prop:=match ex with
 | .normal=>∃i,LeD S (I i)
 |e=>K e S
theorem xM{ι:Type}{I:ι->DS}{K:Exit->DS->Prop}{S:DS}(i:ι)(h:LeD S (I i)):exJ I K .normal S:=⟨i,h⟩
theorem dK0{ι:Type}(ks os:List Nat)(N:Nat)(chg:ι->List (Nat×D))(ochg:ι->List (Nat×DOwn)){x y:Code}{tm:List (Nat×D)}{ow:List (Nat×DOwn)}{nx:Nat}{K:Exit->DS->Prop}
  (h:bW0 ks tm fun base=>bV0 os ow fun ob=>Ev P b x ⟨tm,ow,nx⟩ (exJ (fun i=>⟨chg i++base,ochg i++ob,N⟩) K)/\∀i,Ev P b y ⟨chg i++base,ochg i++ob,N⟩ K):Ev P b (.seq x y) ⟨tm,ow,nx⟩ K:=by
 obtain⟨base,h1⟩:=pQ h;obtain⟨ob,h2,h3⟩:=pP h1;refine zB ?_;intro w s g a Q hr hK;refine h2 w s g a Q hr fun ex w' s' g' a' S' h4 h5=>hK ex w' s' g' a' S' h4 ?_
 cases ex with
 |normal=>
  obtain⟨i,hi⟩:=h5;exact kJ1 _ hi (h3 i)
 |_=>exact h5
end
def thwD(k:Nat):D->D
 | .own k' sz rows=>match Nat.beq k' k with
  |true=>match rows with
   |[]=> .mo k' 0
   |r::l=> .own k' sz (r::l)
  |false=> .own k' sz rows
 |d=>d
def thwL(k:Nat):List D->List D
 |[]=>[]
 |d::l=>thwD k d::thwL k l
def thwT(k:Nat):List (Nat×D)->List (Nat×D)
 |[]=>[]
 |(t,d)::l=>(t,thwD k d)::thwT k l
def thwO(k:Nat)(e:TypeId)(sz:Nat):List (Nat×DOwn)->List (Nat×DOwn)
 |[]=>[]
 |(j,c)::l=>(match Nat.beq j k with
  |true=>(j,.mrow e sz (.lst []))
  |false=>match c with
   | .box t cs=>(j,.box t (thwL k cs))
   |c=>(j,c))::thwO k e sz l
theorem mL0{k:Nat}:∀{l:List (Nat×D)}{t:Nat},yX t (thwT k l)=(yX t l).map (thwD k)
 |[],_=>rfl
 |(u,d)::l,t=>by
  show yX t ((u,thwD k d)::thwT k l)=_;rw[yU,yU];by_cases h:u=t
  ·simp[h]
  ·rw[Aa h,Aa h];exact mL0
theorem tU0{w:World}{s:Sb}{g:Gh}{k:Nat}(hmo:∀v,g.gn k 0=some v->(TV.mo k 0).P w s g v){d:D}{v:Value}(hv:d.tv.P w s g v):(thwD k d).tv.P w s g v:=by
 cases d with
 |own k' sz rows=>
  show(match Nat.beq k' k with|true=>(match rows with|[]=>D.mo k' 0|r::l=>D.own k' sz (r::l))|false=>D.own k' sz rows).tv.P w s g v
  cases hb:Nat.beq k' k with
  |false=>exact hv
  |true=>
   have e:=Ah hb;subst e
   cases rows with
   |nil=>
    rw[D.tv,TV.P]at hv;show(D.mo k' 0).tv.P w s g v;rw[D.tv];exact hmo v hv.2
   |cons r l=>exact hv
 |_=>exact hv
theorem tT0{w:World}{s:Sb}{g:Gh}{k:Nat}(hmo:∀v,g.gn k 0=some v->(TV.mo k 0).P w s g v):∀{l:List D}{vs:List Value},AllT w s g (D.tvl l) vs->AllT w s g (D.tvl (thwL k l)) vs
 |[],vs,hv=>by cases vs with|nil=>rw[thwL,D.tvl];trivial|cons _ _=>exact hv.elim
 |d::l,[],hv=>by rw[D.tvl]at hv;exact hv.elim
 |d::l,v::vs,hv=>by
  rw[D.tvl]at hv;rw[thwL,D.tvl];exact⟨tU0 hmo hv.1,tT0 hmo hv.2⟩
theorem mN0{k:Nat}:∀{l:List D},(∀d∈D.tvl l,d.one=true)->∀d∈D.tvl (thwL k l),d.one=true
 |[],_,d,hd=>by rw[thwL,D.tvl]at hd;cases hd
 |x::l,h,d,hd=>by
  rw[thwL,D.tvl]at hd;rw[D.tvl]at h;rcases Bi.1 hd with rfl|hd
  ·have h1:=h x.tv (by simp)
   cases x with
   |own k' sz rows=>
    show(match Nat.beq k' k with|true=>(match rows with|[]=>D.mo k' 0|r::l=>D.own k' sz (r::l))|false=>D.own k' sz rows).tv.one=true
    cases Nat.beq k' k with
    |false=>rfl
    |true=>cases rows<;>rfl
   |_=>exact h1
  ·exact mN0 (fun y hy=>h y (by simp[hy])) d hd
theorem mM0{k:Nat}{e:TypeId}{sz:Nat}:∀{l:List (Nat×DOwn)}{j:Nat}{c:DOwn},yX j (thwO k e sz l)=some c->∃c0,yX j l=some c0/\((j=k/\c= .mrow e sz (.lst []))\/(j≠k/\((∃t cs,c0= .box t cs/\c= .box t (thwL k cs))\/(c=c0/\∀t cs,c0≠ .box t cs))))
 |[],_,_,h=>by cases h
 |(i,c0)::l,j,c,h=>by
  unfold thwO at h;have step:∀x:DOwn,yX j ((i,x)::thwO k e sz l)=some c->(i=j/\x=c)\/(i≠j/\yX j (thwO k e sz l)=some c):=fun x hx=>by
   rw[yU]at hx;by_cases hi:i=j
   ·rw[Ab hi]at hx;exact .inl ⟨hi,Option.some.inj hx⟩
   ·rw[Aa hi]at hx;exact .inr ⟨hi,hx⟩
  have rest:i≠j->yX j (thwO k e sz l)=some c->∃c0',yX j ((i,c0)::l)=some c0'/\((j=k/\c= .mrow e sz (.lst []))\/(j≠k/\((∃t cs,c0'= .box t cs/\c= .box t (thwL k cs))\/(c=c0'/\∀t cs,c0'≠ .box t cs)))):=fun hi hx=>by
   obtain⟨c1,h1,h2⟩:=mM0 hx;exact⟨c1,by rw[yU,Aa hi];exact h1,h2⟩
  cases hb:Nat.beq i k with
  |true=>
   rw[hb]at h;have hik:=Ah hb;rcases step _ h with⟨rfl,rfl⟩|⟨hi,hx⟩
   ·exact⟨c0,by rw[yU];simp,.inl ⟨hik,rfl⟩⟩
   ·exact rest hi hx
  |false=>
   rw[hb]at h;have hik:i≠k:=by rintro rfl;rw[Nat.beq_refl]at hb;cases hb
   cases c0 with
   |box t cs=>
    rcases step _ h with⟨rfl,rfl⟩|⟨hi,hx⟩
    ·exact⟨_,by rw[yU];simp,.inr ⟨hik,.inl ⟨t,cs,rfl,rfl⟩⟩⟩
    ·exact rest hi hx
   |_=>
    rcases step _ h with⟨rfl,rfl⟩|⟨hi,hx⟩
    ·exact⟨_,by rw[yU];simp,.inr ⟨hik,.inr ⟨rfl,fun _ _ h=>by cases h⟩⟩⟩
    ·exact rest hi hx
section
variable{P:Program}{b:Ba}
theorem zQ0(k:Nat){e:TypeId}{sz:Nat}{c:Code}{tm:List (Nat×D)}{ow:List (Nat×DOwn)}{nx:Nat}{K:Exit->DS->Prop}(hk:yX k ow=some (.row e sz 0))
  (h:Ev P b c ⟨thwT k tm,thwO k e sz ow,nx⟩ K):Ev P b c ⟨tm,ow,nx⟩ K:=by
 intro w s g a Q hr hK;have hk0:fnd k (ows ow)=some (.row e sz 0):=by rw[qR,hk];rfl
 obtain⟨hok,hblk⟩:=hr.ow k _ hk0;obtain⟨hmr,hmo⟩:=hok.thaw;have howf:∀{j:Nat}{c:Own},fnd j (ows (thwO k e sz ow))=some c->∃c0,fnd j (ows ow)=some c0/\Ok1 w s g j c/\blk g j c=blk g j c0:=fun{j c}hj=>by
  rw[qR]at hj
  cases hq:yX j (thwO k e sz ow)with
  |none=>rw[hq]at hj;cases hj
  |some d=>
   rw[hq]at hj
   cases hj;obtain⟨c0,h1,h2⟩:=mM0 hq;have h1':fnd j (ows ow)=some c0.o:=by rw[qR,h1];rfl
   refine⟨c0.o,h1',?_⟩;rcases h2 with⟨rfl,rfl⟩|⟨hne,⟨t,cs,rfl,rfl⟩|⟨rfl,_⟩⟩
   ·rw[hk]at h1
    cases h1;exact⟨hmr,rfl⟩
   ·obtain⟨N,vs,g1,g2,g3,g4,g5⟩:=(hr.ow j _ h1').1;exact⟨⟨N,vs,g1,g2,tT0 hmo g3,mN0 g4,g5⟩,rfl⟩
   ·exact⟨(hr.ow j _ h1').1,rfl⟩
 refine h w s g a Q ⟨hr.kp,hr.lt,hr.sz,fun t d hd=>?_,fun j c hj=>?_,fun j j' c c' N h1 h2 hne hb=>?_,hr.fr,hr.df,hr.gb⟩ hK
 ·have hd':fnd t (tvs (thwT k tm))=some d:=hd;rw[qP,mL0]at hd'
  cases hq:yX t tm with
  |none=>rw[hq]at hd';cases hd'
  |some x=>
   rw[hq]at hd'
   cases hd';obtain⟨v,h1,h2⟩:=hr.tm t x.tv (by show fnd t (tvs tm)=_;rw[qP,hq];rfl);exact⟨v,h1,tU0 hmo h2⟩
 ·obtain⟨c0,h1,h2,h3⟩:=howf hj;exact⟨h2,fun N hb=>(hr.ow j c0 h1).2 N (by rw[<-h3];exact hb)⟩
 ·obtain⟨c0,e1,_,e3⟩:=howf h1;obtain⟨d0,f1,_,f3⟩:=howf h2;rw[f3];exact hr.sep j j' c0 d0 N e1 f1 hne (by rw[<-e3];exact hb)
end
theorem Sub.mo{k n m:Nat}(h:n=m):Sub (.mo k n) (.mo k m):=by subst h;exact u0 _
theorem Sub.mw{k q i sz n q' i' n':Nat}(h1:q=q')(h2:i=i')(h3:n=n'):Sub (.mw k q i sz n) (.mw k q' i' sz n'):=by subst h1;subst h2;subst h3;exact u0 _
theorem Sub.moMw{k n q i sz m:Nat}(h0:0<n)(h1:n=q)(h2:0=i)(h3:n=m):Sub (.mo k n) (.mw k q i sz m):=by subst h1;subst h2;subst h3;exact fun w s g v hv=>mo_mw h0 hv
theorem SubO.mr{ty:TypeId}{sz:Nat}{m m':MR}(h:m.rows=m'.rows):SubO (.mrow ty sz m) (.mrow ty sz m'):=⟨rfl,rfl,congrArg D.pvss h⟩
theorem SubO.mp{ty:TypeId}{sz:Nat}{m m':MR}(h:D.pvss m.rows=D.pvss m'.rows):SubO (.mrow ty sz m) (.mrow ty sz m'):=⟨rfl,rfl,h⟩
end Go.Proofs.YtammfbdgjnkolaaGreatDoor
