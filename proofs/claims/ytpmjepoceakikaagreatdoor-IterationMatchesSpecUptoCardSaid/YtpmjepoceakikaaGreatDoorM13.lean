/-Part 13 of the proof. -/
import Derived.Shelf.Unicode.ValidAny
import Derived.Shelf.Strings.Split
import Derived.Shelf.Strings.Fields
import Derived.Shelf.Strings.Cut
import Derived.Test.YtpmjepoceakikaaGreatDoorM12
/-
  DERIVED:THE SHELF's CONTRACTS AT THIS DUMP,IN PLAIN WORDS (tools/lay-plain.mjs out of 'YtpmjepoceakikaaGreatDoorShelf.lean',which tools/lay-shelf.mjs wrote):THE SAME DECLARATIONS UNDER THE SAME NAMES:'import','namespace','open','def','theorem' AND NOTHING ELSE:no command of the shelf's:FOR A HAND-IN. Each laying:the table of numbers ('.._ren') and one theorem,a field a fact of the dump's own or the kernel's comparison;each contract:ONE APPLICATION.
-/
namespace Go.Proofs
open Go.Shelf
theorem nz{p:Prop}(h:p:=by repeat(first|exact trivial|exact u6 _|exact u12 rfl|refine⟨?_,?_⟩)):p:=h
def Tryz.laysValid_ren:Go.Shelf.Ren:=⟨fun|196=>125|259=>166|n=>n,fun|9=>9|4=>4|3=>3|5=>5|12=>12|119=>172|0=>0|46=>102|139=>185|138=>184|53=>101|n=>n,fun|3=>1|4=>2|n=>n⟩
theorem qE{α:Type}{a b:α}(h:a=b:=by kernel_rfl):some a=some b:=congrArg some h
theorem Tryz.laysValid:Go.Proofs.Lays.n196 Tryz.prog Tryz.laysValid_ren:={
 mixed:=by kernel_rfl
 f196:=Tryz.func125.trans qE
 f259:=Tryz.func166.trans qE
 t0:=Tryz.underlying0
 a0:=Tryz.isAgg0
 z0:=Tryz.sizeOf0
 v0:=Tryz.zeroValue0
 t3:=Tryz.underlying3
 a3:=Tryz.isAgg3
 z3:=Tryz.sizeOf3
 v3:=Tryz.zeroValue3
 t4:=Tryz.underlying4
 a4:=Tryz.isAgg4
 z4:=Tryz.sizeOf4
 v4:=Tryz.zeroValue4
 t5:=Tryz.underlying5
 a5:=Tryz.isAgg5
 z5:=Tryz.sizeOf5
 v5:=Tryz.zeroValue5
 t9:=Tryz.underlying9
 a9:=Tryz.isAgg9
 z9:=Tryz.sizeOf9
 v9:=Tryz.zeroValue9
 t12:=Tryz.underlying12
 a12:=Tryz.isAgg12
 z12:=Tryz.sizeOf12
 v12:=Tryz.zeroValue12
 t46:=Tryz.underlying102
 a46:=Tryz.isAgg102
 z46:=Tryz.sizeOf102
 v46:=Tryz.zeroValue102
 t53:=Tryz.underlying101
 a53:=Tryz.isAgg101
 z53:=Tryz.sizeOf101
 v53:=Tryz.zeroValue101
 t119:=Tryz.underlying172
 a119:=Tryz.isAgg172
 z119:=Tryz.sizeOf172
 t138:=Tryz.underlying184
 a138:=Tryz.isAgg184
 z138:=Tryz.sizeOf184
 v138:=Tryz.zeroValue184
 t139:=Tryz.underlying185
 a139:=Tryz.isAgg185
 z139:=Tryz.sizeOf185
 v139:=Tryz.zeroValue185
 g3:=by kernel_rfl
 g4:=by kernel_rfl}
def Tryz.laysSplit_ren:Go.Shelf.Ren:=⟨fun|146=>157|221=>186|268=>210|138=>211|143=>158|195=>224|197=>225|218=>226|219=>185|260=>237|217=>206|225=>207|224=>208|267=>209|266=>222|314=>223|n=>n,fun|9=>9|31=>41|3=>3|4=>4|0=>0|105=>241|21=>21|5=>5|46=>102|119=>172|139=>185|138=>184|146=>238|51=>100|n=>n,fun|1=>4|3=>1|4=>2|n=>n⟩
theorem Tryz.laysSplit:Go.Proofs.Lays.n146 Tryz.prog Tryz.laysSplit_ren:={
 mixed:=by kernel_rfl
 f138:=Tryz.func211.trans qE
 f143:=Tryz.func158.trans qE
 f146:=Tryz.func157.trans qE
 f195:=Tryz.func224.trans qE
 f197:=Tryz.func225.trans qE
 f217:=Tryz.func206.trans qE
 f218:=Tryz.func226.trans qE
 f219:=Tryz.func185.trans qE
 f221:=Tryz.func186.trans qE
 f224:=Tryz.func208.trans qE
 f225:=Tryz.func207.trans qE
 f260:=Tryz.func237.trans qE
 f266:=Tryz.func222.trans qE
 f267:=Tryz.func209.trans qE
 f268:=Tryz.func210.trans qE
 f314:=Tryz.func223.trans qE
 t0:=Tryz.underlying0
 a0:=Tryz.isAgg0
 z0:=Tryz.sizeOf0
 v0:=Tryz.zeroValue0
 t3:=Tryz.underlying3
 a3:=Tryz.isAgg3
 z3:=Tryz.sizeOf3
 v3:=Tryz.zeroValue3
 t4:=Tryz.underlying4
 a4:=Tryz.isAgg4
 z4:=Tryz.sizeOf4
 v4:=Tryz.zeroValue4
 t5:=Tryz.underlying5
 a5:=Tryz.isAgg5
 z5:=Tryz.sizeOf5
 v5:=Tryz.zeroValue5
 t9:=Tryz.underlying9
 a9:=Tryz.isAgg9
 z9:=Tryz.sizeOf9
 v9:=Tryz.zeroValue9
 t21:=Tryz.underlying21
 a21:=Tryz.isAgg21
 z21:=Tryz.sizeOf21
 v21:=Tryz.zeroValue21
 t31:=Tryz.underlying41
 a31:=Tryz.isAgg41
 z31:=Tryz.sizeOf41
 v31:=Tryz.zeroValue41
 t46:=Tryz.underlying102
 a46:=Tryz.isAgg102
 z46:=Tryz.sizeOf102
 v46:=Tryz.zeroValue102
 t51:=Tryz.underlying100
 a51:=Tryz.isAgg100
 z51:=Tryz.sizeOf100
 v51:=Tryz.zeroValue100
 t105:=Tryz.underlying241
 a105:=Tryz.isAgg241
 z105:=Tryz.sizeOf241
 v105:=Tryz.zeroValue241
 t119:=Tryz.underlying172
 a119:=Tryz.isAgg172
 z119:=Tryz.sizeOf172
 t138:=Tryz.underlying184
 a138:=Tryz.isAgg184
 z138:=Tryz.sizeOf184
 v138:=Tryz.zeroValue184
 t139:=Tryz.underlying185
 a139:=Tryz.isAgg185
 z139:=Tryz.sizeOf185
 v139:=Tryz.zeroValue185
 t146:=Tryz.underlying238
 a146:=Tryz.isAgg238
 z146:=Tryz.sizeOf238
 v146:=Tryz.zeroValue238
 g1:=by kernel_rfl
 g3:=by kernel_rfl
 g4:=by kernel_rfl}
def Tryz.laysFields_ren:Go.Shelf.Ren:=⟨fun|157=>105|229=>152|199=>153|261=>184|311=>204|312=>205|n=>n,fun|9=>9|31=>41|3=>3|5=>5|4=>4|119=>172|0=>0|40=>174|152=>198|21=>21|154=>200|51=>100|141=>202|196=>220|193=>217|198=>223|49=>221|194=>218|201=>226|226=>236|46=>102|227=>237|n=>n,fun|0=>0|6=>3|n=>n⟩
theorem Tryz.laysFields:Go.Proofs.Lays.n157 Tryz.prog Tryz.laysFields_ren:={
 mixed:=by kernel_rfl
 f157:=Tryz.func105.trans qE
 f199:=Tryz.func153.trans qE
 f229:=Tryz.func152.trans qE
 f261:=Tryz.func184.trans qE
 f311:=Tryz.func204.trans qE
 f312:=Tryz.func205.trans qE
 t0:=Tryz.underlying0
 a0:=Tryz.isAgg0
 z0:=Tryz.sizeOf0
 v0:=Tryz.zeroValue0
 t3:=Tryz.underlying3
 a3:=Tryz.isAgg3
 z3:=Tryz.sizeOf3
 v3:=Tryz.zeroValue3
 t4:=Tryz.underlying4
 a4:=Tryz.isAgg4
 z4:=Tryz.sizeOf4
 v4:=Tryz.zeroValue4
 t5:=Tryz.underlying5
 a5:=Tryz.isAgg5
 z5:=Tryz.sizeOf5
 v5:=Tryz.zeroValue5
 t9:=Tryz.underlying9
 a9:=Tryz.isAgg9
 z9:=Tryz.sizeOf9
 v9:=Tryz.zeroValue9
 t21:=Tryz.underlying21
 a21:=Tryz.isAgg21
 z21:=Tryz.sizeOf21
 v21:=Tryz.zeroValue21
 t31:=Tryz.underlying41
 a31:=Tryz.isAgg41
 z31:=Tryz.sizeOf41
 v31:=Tryz.zeroValue41
 t40:=Tryz.underlying174
 a40:=Tryz.isAgg174
 z40:=Tryz.sizeOf174
 v40:=Tryz.zeroValue174
 t46:=Tryz.underlying102
 a46:=Tryz.isAgg102
 z46:=Tryz.sizeOf102
 v46:=Tryz.zeroValue102
 t49:=Tryz.underlying221
 a49:=Tryz.isAgg221
 z49:=Tryz.sizeOf221
 v49:=Tryz.zeroValue221
 t51:=Tryz.underlying100
 a51:=Tryz.isAgg100
 z51:=Tryz.sizeOf100
 v51:=Tryz.zeroValue100
 t119:=Tryz.underlying172
 a119:=Tryz.isAgg172
 z119:=Tryz.sizeOf172
 t141:=Tryz.underlying202
 a141:=Tryz.isAgg202
 z141:=Tryz.sizeOf202
 v141:=Tryz.zeroValue202
 t152:=Tryz.underlying198
 a152:=Tryz.isAgg198
 z152:=Tryz.sizeOf198
 v152:=Tryz.zeroValue198
 t154:=Tryz.underlying200
 a154:=Tryz.isAgg200
 z154:=Tryz.sizeOf200
 v154:=Tryz.zeroValue200
 t193:=Tryz.underlying217
 a193:=Tryz.isAgg217
 z193:=Tryz.sizeOf217
 v193:=Tryz.zeroValue217
 t194:=Tryz.underlying218
 a194:=Tryz.isAgg218
 z194:=Tryz.sizeOf218
 v194:=Tryz.zeroValue218
 t196:=Tryz.underlying220
 a196:=Tryz.isAgg220
 z196:=Tryz.sizeOf220
 v196:=Tryz.zeroValue220
 t198:=Tryz.underlying223
 a198:=Tryz.isAgg223
 z198:=Tryz.sizeOf223
 v198:=Tryz.zeroValue223
 t201:=Tryz.underlying226
 a201:=Tryz.isAgg226
 z201:=Tryz.sizeOf226
 v201:=Tryz.zeroValue226
 t226:=Tryz.underlying236
 a226:=Tryz.isAgg236
 z226:=Tryz.sizeOf236
 v226:=Tryz.zeroValue236
 t227:=Tryz.underlying237
 a227:=Tryz.isAgg237
 z227:=Tryz.sizeOf237
 v227:=Tryz.zeroValue237
 g0:=by kernel_rfl
 g6:=by kernel_rfl}
def Tryz.laysCut_ren:Go.Shelf.Ren:=⟨fun|145=>106|220=>154|219=>185|217=>206|225=>207|224=>208|267=>209|266=>222|314=>223|n=>n,fun|9=>9|4=>4|59=>128|3=>3|5=>5|46=>102|146=>238|51=>100|n=>n,fun|1=>4|n=>n⟩
theorem Tryz.laysCut:Go.Proofs.Lays.n145 Tryz.prog Tryz.laysCut_ren:={
 mixed:=by kernel_rfl
 f145:=Tryz.func106.trans qE
 f217:=Tryz.func206.trans qE
 f219:=Tryz.func185.trans qE
 f220:=Tryz.func154.trans qE
 f224:=Tryz.func208.trans qE
 f225:=Tryz.func207.trans qE
 f266:=Tryz.func222.trans qE
 f267:=Tryz.func209.trans qE
 f314:=Tryz.func223.trans qE
 t3:=Tryz.underlying3
 a3:=Tryz.isAgg3
 z3:=Tryz.sizeOf3
 v3:=Tryz.zeroValue3
 t4:=Tryz.underlying4
 a4:=Tryz.isAgg4
 z4:=Tryz.sizeOf4
 v4:=Tryz.zeroValue4
 t5:=Tryz.underlying5
 a5:=Tryz.isAgg5
 z5:=Tryz.sizeOf5
 v5:=Tryz.zeroValue5
 t9:=Tryz.underlying9
 a9:=Tryz.isAgg9
 z9:=Tryz.sizeOf9
 v9:=Tryz.zeroValue9
 t46:=Tryz.underlying102
 a46:=Tryz.isAgg102
 z46:=Tryz.sizeOf102
 v46:=Tryz.zeroValue102
 t51:=Tryz.underlying100
 a51:=Tryz.isAgg100
 z51:=Tryz.sizeOf100
 v51:=Tryz.zeroValue100
 t59:=Tryz.underlying128
 a59:=Tryz.isAgg128
 z59:=Tryz.sizeOf128
 v59:=Tryz.zeroValue128
 t146:=Tryz.underlying238
 a146:=Tryz.isAgg238
 z146:=Tryz.sizeOf238
 v146:=Tryz.zeroValue238
 g1:=by kernel_rfl}
def Tryz.laysContains_ren:Go.Shelf.Ren:=⟨fun|144=>111|143=>158|219=>185|217=>206|225=>207|224=>208|267=>209|266=>222|314=>223|n=>n,fun|9=>9|4=>4|3=>3|5=>5|46=>102|146=>238|51=>100|n=>n,fun|1=>4|n=>n⟩
theorem Tryz.laysContains:Go.Proofs.Lays.n144 Tryz.prog Tryz.laysContains_ren:={
 mixed:=by kernel_rfl
 f143:=Tryz.func158.trans qE
 f144:=Tryz.func111.trans qE
 f217:=Tryz.func206.trans qE
 f219:=Tryz.func185.trans qE
 f224:=Tryz.func208.trans qE
 f225:=Tryz.func207.trans qE
 f266:=Tryz.func222.trans qE
 f267:=Tryz.func209.trans qE
 f314:=Tryz.func223.trans qE
 t3:=Tryz.underlying3
 a3:=Tryz.isAgg3
 z3:=Tryz.sizeOf3
 v3:=Tryz.zeroValue3
 t4:=Tryz.underlying4
 a4:=Tryz.isAgg4
 z4:=Tryz.sizeOf4
 v4:=Tryz.zeroValue4
 t5:=Tryz.underlying5
 a5:=Tryz.isAgg5
 z5:=Tryz.sizeOf5
 v5:=Tryz.zeroValue5
 t9:=Tryz.underlying9
 a9:=Tryz.isAgg9
 z9:=Tryz.sizeOf9
 v9:=Tryz.zeroValue9
 t46:=Tryz.underlying102
 a46:=Tryz.isAgg102
 z46:=Tryz.sizeOf102
 v46:=Tryz.zeroValue102
 t51:=Tryz.underlying100
 a51:=Tryz.isAgg100
 z51:=Tryz.sizeOf100
 v51:=Tryz.zeroValue100
 t146:=Tryz.underlying238
 a146:=Tryz.isAgg238
 z146:=Tryz.sizeOf238
 v146:=Tryz.zeroValue238
 g1:=by kernel_rfl}
end Go.Proofs
namespace Go.Proofs.YtpmjepoceakikaaGreatDoor
open Go.RowKit
def Fits(x:Int):Prop:= -9223372036854775808<=x/\x<=9223372036854775807
def uB0(x:Int):List Int->Nat->Int
 |[],_=> -1
 |y::l,k=>if x==y then k else uB0 x l (k+1)
def before(l:List Int)(a b:Int):Bool:=decide (0<=uB0 a l 0)&&decide (uB0 a l 0<uB0 b l 0)
def V:List Nat->Nat
 |[]=>0
 |d::l=>d+65536*V l
def Dg(l:List Nat):Prop:=∀d∈l,d<65536
def dig(n:Nat):List Nat:=if n=0 then []else(n%65536)::dig (n/65536)
decreasing_by omega
theorem jW:dig 0=[]:=by rw[dig];simp
theorem gG{n:Nat}(h:n≠0):dig n=(n%65536)::dig (n/65536):=by rw[dig];simp[h]
theorem bR0:V []=0:=rfl
theorem kI(d:Nat)(l:List Nat):V (d::l)=d+65536*V l:=rfl
theorem vC0(a b:List Nat):V (a++b)=V a+65536^a.length*V b:=by
 induction a with
 |nil=>simp[bR0]
 |cons d a ih=>rw[List.cons_append,kI,ih,kI,An,Bx,Bt];rw[Dy];congr 2;rw[<-Bp];congr 1;exact Ax _ _
theorem yD0(a:List Nat)(d:Nat):V (a++[d])=V a+65536^a.length*d:=by rw[vC0,kI,bR0];simp
theorem Dg.nil:Dg []:=fun _ h=>by cases h
theorem Dg.snoc{a:List Nat}(h:Dg a){d:Nat}(h1:d<65536):Dg (a++[d]):=fun x hx=>by
 rcases As.1 hx with hx|hx
 ·exact h x hx
 ·rw[Bv.1 hx];exact h1
theorem Dg.take{a:List Nat}(h:Dg a)(n:Nat):Dg (a.take n):=fun x hx=>h x (Cn hx)
theorem Dg.at{a:List Nat}(h:Dg a){i:Nat}(hi:i<a.length):a[i]<65536:=h _ (Cv hi)
theorem Dg.set{a:List Nat}(h:Dg a)(i:Nat){d:Nat}(h1:d<65536):Dg (a.set i d):=fun x hx=>by
 rcases Es hx with hx|rfl
 ·exact h x hx
 ·exact h1
theorem V_lt{l:List Nat}(h:Dg l):V l<65536^l.length:=by
 induction l with
 |nil=>simp[bR0]
 |cons d l ih=>
  have h1:=h d (Bc ..);have h2:=ih (fun x hx=>h x (Az _ hx));rw[kI,An,Bx];omega
theorem wO{l:List Nat}{m:Nat}(h:m<l.length):V (l.take (m+1))=V (l.take m)+65536^m*l[m]:=by
 rw[Dh h,yD0,At,Dj (Dl h)]
theorem V_take_drop(l:List Nat)(m:Nat)(h:m<=l.length):V l=V (l.take m)+65536^m*V (l.drop m):=by
 have e:=vC0 (l.take m) (l.drop m);rw[Dz,At,Dj h]at e;exact e
theorem V_zeros(n:Nat):V (List.replicate n 0)=0:=by
 induction n with
 |zero=>rfl
 |succ n ih=>rw[List.replicate_succ,kI,ih]
theorem Dg_zeros(n:Nat):Dg (List.replicate n 0):=fun x hx=>by rw[List.eq_of_mem_replicate hx];decide
theorem bX(n:Nat):Dg (dig n):=by
 induction n using Nat.strongRecOn with
 |_ n ih=>
  by_cases h:n=0
  ·subst h;rw[jW];exact Dg.nil
  ·rw[gG h];intro x hx;rcases Bl.1 hx with rfl|hx
   ·omega
   ·exact ih (n/65536) om x hx
theorem xB(n:Nat):V (dig n)=n:=by
 induction n using Nat.strongRecOn with
 |_ n ih=>
  by_cases h:n=0
  ·subst h;rw[jW];rfl
  ·rw[gG h,kI,ih (n/65536) om];omega
def vE1(l:List Nat):Prop:=∀h:l≠[],l.getLast h≠0
theorem dig_V{l:List Nat}(h:Dg l)(hn:vE1 l):dig (V l)=l:=by
 induction l with
 |nil=>exact jW
 |cons d l ih=>
  have h1:=h d (Bc ..);have hl:Dg l:=fun x hx=>h x (Az _ hx);have hnl:vE1 l:=fun hne=>by
   have:=hn (by simp);rw[List.getLast_cons hne]at this;exact this
  have h0:V (d::l)≠0:=by
   rw[kI];intro e;have hd:d=0:=by omega
   have hv:V l=0:=by omega
   cases l with
   |nil=>exact hn (by simp) (by simpa using hd)
   |cons x l=>
    have:=ih hl hnl;rw[hv,jW]at this
    cases this
  rw[gG h0,kI];have e1:(d+65536*V l)%65536=d:=by omega
  have e2:(d+65536*V l)/65536=V l:=by omega
  rw[e1,e2,ih hl hnl]
theorem qH{n k:Nat}(h:n<65536^k):(dig n).length<=k:=by
 induction k generalizing n with
 |zero=>
  have:n=0:=by simpa using h
  subst this;rw[jW];simp
 |succ k ih=>
  by_cases h0:n=0
  ·subst h0;rw[jW];simp
  ·rw[gG h0,An];have:=ih (n:=n/65536) (by rw[Bx]at h;omega);omega
theorem bW(n:Nat):n<65536^(dig n).length:=by
 have:=V_lt (bX n)
 rwa[xB]at this
theorem uS1{n:Nat}(h:n≠0):65536^((dig n).length-1)<=n:=by
 rcases Br n (65536^((dig n).length-1))with h1|h1
 ·have h2:=qH h1;have:(dig n).length≠0:=by rw[gG h];simp
  omega
 ·exact h1
theorem bG{x y:Nat}(h:(dig x).length<(dig y).length):x<y:=by
 have h0:y≠0:=by intro e;subst e;rw[jW]at h;simp at h
 have h1:=bW x;have h2:=uS1 h0;exact Bu h1 (Au (Bg om om) h2)
theorem yW{x y:Nat}(h:x<=y):(dig x).length<=(dig y).length:=by
 rcases Br (dig y).length (dig x).length with h1|h1
 ·have:=bG h1;omega
 ·exact h1
theorem qI0{n:Nat}:dig n=[]↔n=0:=by
 constructor
 ·intro h;by_cases h0:n=0
  ·exact h0
  ·rw[gG h0]at h;cases h
 ·rintro rfl;exact jW
theorem vL{l:List Nat}{i:Nat}(h:i<l.length):l.getD i 0=l[i]:=by rw[Ac,Ae h];rfl
theorem vY{l:List Nat}{i:Nat}(h:l.length<=i):l.getD i 0=0:=by rw[Ac,Dq h];rfl
theorem jR(l:List Nat)(i:Nat):V (l.take (i+1))=V (l.take i)+65536^i*(l.getD i 0):=by
 by_cases hl:i<l.length
 ·rw[wO hl,vL hl]
 ·rw[Ak om,Ak om,vY om];simp
theorem plus_step{la lb o:List Nat}{i c x:Nat}(h:V o+c*65536^i=V (la.take i)+V (lb.take i))(ho:o.length=i)
  (hx:x=c+(la.getD i 0)+(lb.getD i 0)):
  V (o++[(x%65536)])+x/65536*65536^(i+1)=V (la.take (i+1))+V (lb.take (i+1)):=by
 rw[yD0,ho,jR la,jR lb,Bx];generalize 65536^i=B at*;have e:x=65536*(x/65536)+x%65536:=(Dd x 65536).symm;have e2:B*x=B*(65536*(x/65536))+B*(x%65536):=by rw[<-Bt,<-e]
 have e3:B*x=B*c+B*(la.getD i 0)+B*(lb.getD i 0):=by rw[hx,Bt,Bt]
 have e4:x/65536*(B*65536)=B*(65536*(x/65536)):=by rw[Ax,Bp]
 have e5:c*B=B*c:=Ax _ _;omega
theorem minus_step{la lb o:List Nat}{i c x c':Nat}(h:V o+V (lb.take i)=V (la.take i)+c*65536^i)(ho:o.length=i)(hi:i<la.length)(hx:x+(lb.getD i 0)+c=la[i]+65536*c'):
  V (o++[x])+V (lb.take (i+1))=V (la.take (i+1))+c'*65536^(i+1):=by
 rw[yD0,ho,jR lb,wO hi,Bx];generalize 65536^i=B at*;have e1:B*x+B*(lb.getD i 0)+B*c=B*la[i]+B*(65536*c'):=by rw[<-Bt,<-Bt,<-Bt,hx]
 have e2:c'*(B*65536)=B*(65536*c'):=by rw[Ax,Bp]
 have e3:c*B=B*c:=Ax _ _;omega
def cmpN(x y:Nat):Int:=if x<y then-1 else if y<x then 1 else 0
theorem vB0{l:List Nat}{i:Nat}(h:i<l.length):V l=V (l.take i)+65536^i*(l[i]+65536*V (l.drop (i+1))):=by
 rw[V_take_drop l i (Dl h),Ce h,kI]
theorem lt_at{la lb:List Nat}{i:Nat}(ha:Dg la)(hl:la.length=lb.length)(hi:i<la.length)(hd:la.drop (i+1)=lb.drop (i+1))(h:la[i]<lb[i]):V la<V lb:=by
 rw[vB0 hi,vB0 (l:=lb) (i:=i) om,hd];have h1:=V_lt (ha.take i);rw[At,Dj (Dl hi)]at h1;generalize 65536*V (lb.drop (i+1))=D;have h4:65536^i*(la[i]+D)+65536^i<=65536^i*(lb[i]+D):=by
  rw[<-Nat.mul_succ];exact Cx _ om
 omega
theorem double_step{la o:List Nat}{i c one x:Nat}(h:V o+c*65536^i=2*V (la.take i)+one)(ho:o.length=i)(hi:i<la.length)(hx:x=2*la[i]+c):
  V (o++[(x%65536)])+x/65536*65536^(i+1)=2*V (la.take (i+1))+one:=by
 rw[yD0,ho,wO hi,Bx];generalize 65536^i=B at*;have e:x=65536*(x/65536)+x%65536:=(Dd x 65536).symm;have e2:B*x=B*(65536*(x/65536))+B*(x%65536):=by rw[<-Bt,<-e]
 have e3:B*x=B*(2*la[i])+B*c:=by rw[hx,Bt]
 have e4:x/65536*(B*65536)=B*(65536*(x/65536)):=by rw[Ax,Bp]
 have e5:c*B=B*c:=Ax _ _;have e6:B*(2*la[i])=2*(B*la[i]):=by rw[Nat.mul_left_comm]
 omega
def VB:List Bool->Nat
 |[]=>0
 |b::l=>b.toNat+2*VB l
theorem xC(b:Bool)(l:List Bool):VB (b::l)=b.toNat+2*VB l:=rfl
theorem xV0(a b:List Bool):VB (a++b)=VB a+2^a.length*VB b:=by
 induction a with
 |nil=>simp[VB]
 |cons d a ih=>rw[List.cons_append,xC,ih,xC,An,Bx,Bt,Dy];congr 2;rw[<-Bp];congr 1;exact Ax _ _
theorem yS1(a:List Bool)(b:Bool):VB (a++[b])=VB a+2^a.length*b.toNat:=by rw[xV0,xC];simp[VB]
theorem VB_lt(l:List Bool):VB l<2^l.length:=by
 induction l with
 |nil=>simp[VB]
 |cons b l ih=>rw[xC,An,Bx];cases b<;>simp<;>omega
theorem VB_take_succ{l:List Bool}{m:Nat}(h:m<l.length):VB (l.take (m+1))=VB (l.take m)+2^m*l[m].toNat:=by
 rw[Dh h,yS1,At,Dj (Dl h)]
def yV1(l:List Bool):Prop:=∀h:l≠[],l.getLast h=true
def vZ(n:Nat):List Bool:=if n=0 then []else(n%2==1)::vZ (n/2)
decreasing_by omega
theorem xM:vZ 0=[]:=by rw[vZ];simp
theorem yA0{n:Nat}(h:n≠0):vZ n=(n%2==1)::vZ (n/2):=by rw[vZ];simp[h]
theorem VB_bitsN(n:Nat):VB (vZ n)=n:=by
 induction n using Nat.strongRecOn with
 |_ n ih=>
  by_cases h:n=0
  ·subst h;rw[xM];rfl
  ·rw[yA0 h,xC,ih (n/2) om];rcases Nat.mod_two_eq_zero_or_one n with h2|h2<;>simp[h2]<;>omega
theorem bitsN_VB{l:List Bool}(hn:yV1 l):vZ (VB l)=l:=by
 induction l with
 |nil=>exact xM
 |cons d l ih=>
  have hnl:yV1 l:=fun hne=>by
   have:=hn (by simp);rw[List.getLast_cons hne]at this;exact this
  have h0:VB (d::l)≠0:=by
   rw[xC];intro e;have hv:VB l=0:=by omega
   cases l with
   |nil=>
    have h1:d=true:=by simpa using hn (by simp)
    subst h1;simp at e
   |cons x l=>
    have:=ih hnl;rw[hv,xM]at this
    cases this
  rw[yA0 h0,xC];have e1:(d.toNat+2*VB l)%2=d.toNat:=by cases d<;>simp<;>omega
  have e2:(d.toNat+2*VB l)/2=VB l:=by cases d<;>simp<;>omega
  rw[e1,e2,ih hnl]
  cases d<;>rfl
theorem bitsN_length_le{n k:Nat}(h:n<2^k):(vZ n).length<=k:=by
 induction k generalizing n with
 |zero=>
  have:n=0:=by simpa using h
  subst this;rw[xM];simp
 |succ k ih=>
  by_cases h0:n=0
  ·subst h0;rw[xM];simp
  ·rw[yA0 h0,An];have:=ih (n:=n/2) (by rw[Bx]at h;omega);omega
theorem wC0{o:List Bool}{j x X:Nat}(h:VB o+x*2^j=X)(ho:o.length=j):VB (o++[x%2==1])+x/2*2^(j+1)=X:=by
 rw[yS1,ho,Bx,<-h];have e:x=2*(x/2)+x%2:=(Dd x 2).symm;have e2:x*2^j=x/2*(2^j*2)+2^j*(x%2):=by
  conv=>lhs;rw[e,Bm]
  rw[Ax (x%2),Ax 2 (x/2),Bp,Ax 2 (2^j)]
 have e3:(x%2==1).toNat=x%2:=by rcases Nat.mod_two_eq_zero_or_one x with h2|h2<;>simp[h2]
 rw[e3];omega
theorem V_set{o:List Nat}{j:Nat}{d:Nat}(h:j<o.length):V (o.set j d)+65536^j*o[j]=V o+65536^j*d:=by
 have e1:=vB0 (l:=o.set j d) (i:=j) (by simpa using h);have e2:=vB0 (l:=o) (i:=j) h;rw[List.getElem_set_self,List.take_set_of_le (Aq _),List.drop_set_of_lt om]at e1;rw[e1,e2];generalize V (o.drop (j+1))=D;generalize V (o.take j)=T;generalize 65536^j=B;rw[Bt,Bt];omega
theorem times_step{o lb:List Nat}{i k c a x S:Nat}(h:V o+c*65536^(i+k)=S+a*65536^i*V (lb.take k))(hj:i+k<o.length)(hx:x=o[i+k]+c+a*(lb.getD k 0)):
  V (o.set (i+k) (x%65536))+x/65536*65536^(i+(k+1))=S+a*65536^i*V (lb.take (k+1)):=by
 have e1:=V_set (o:=o) (j:=i+k) (d:=(x%65536)) hj;rw[jR,show i+(k+1)=i+k+1 by omega,Bt (a*65536^i),<-Dy S,<-h,Bx 65536 (i+k)];have e0:a*65536^i*(65536^k*(lb.getD k 0))=65536^(i+k)*(a*(lb.getD k 0)):=by
  rw[El,Bp,Nat.mul_left_comm a,Nat.mul_left_comm a (65536^k),Bp]
 rw[e0];generalize 65536^(i+k)=B at*;have e:x=65536*(x/65536)+x%65536:=(Dd x 65536).symm;have e2:B*x=B*(65536*(x/65536))+B*(x%65536):=by rw[<-Bt,<-e]
 have e3:B*x=B*o[i+k]+B*c+B*(a*(lb.getD k 0)):=by rw[hx,Bt,Bt]
 have e4:x/65536*(B*65536)=B*(65536*(x/65536)):=by rw[Ax,Bp]
 have e5:c*B=B*c:=Ax _ _;omega
theorem times_in{o la lb:List Nat}{i k c:Nat}(ha:Dg la)(hb:Dg lb)(hi:i<la.length)(hc:0<c)
  (h:V o+c*65536^(i+k)=V (la.take i)*V lb+la[i]*65536^i*V lb):k<=lb.length:=by
 have e1:V (la.take i)*V lb+la[i]*65536^i*V lb=V (la.take (i+1))*V lb:=by
  rw[wO hi,Bm,Ax (65536^i)]
 have h1:=V_lt (ha.take (i+1));rw[At,Dj hi]at h1;have h2:=V_lt hb;have h3:V (la.take (i+1))*V lb<65536^(i+1)*65536^lb.length:=Nat.mul_lt_mul_of_lt_of_le h1 (Dl h2) (Nat.pow_pos om);rw[<-El]at h3;have h4:65536^(i+k)<=c*65536^(i+k):=Nat.le_mul_of_pos_left _ hc;rcases Br lb.length k with h5|h5
 ·have h6:65536^(i+1+lb.length)<=65536^(i+k):=Bg om om;omega
 ·exact h5
theorem times_row{la:List Nat}{i y:Nat}(hi:i<la.length):V (la.take i)*y+la[i]*65536^i*y=V (la.take (i+1))*y:=by
 rw[wO hi,Bm,Ax (65536^i)]
def gQ(l:List Bool)(i k:Nat):Nat:=VB ((l.drop (i+k)).take (16-k))
theorem chunk_top(l:List Bool)(i:Nat):gQ l i 16=0:=by unfold gQ;simp[VB]
theorem chunk_step{l:List Bool}{i k:Nat}(hk:k<16):gQ l i k=2*gQ l i (k+1)+(if h:i+k<l.length then(l[i+k]).toNat else 0):=by
 unfold gQ;by_cases h:i+k<l.length
 ·rw[dif_pos h,Ce h,show 16-k=16-(k+1)+1 by omega,List.take_succ_cons,xC,show i+(k+1)=i+k+1 by omega];omega
 ·rw[dif_neg h,Bd om,Bd om];simp[VB]
theorem dN0(l:List Bool)(i k:Nat):gQ l i k<65536:=by
 have h1:=VB_lt ((l.drop (i+k)).take (16-k));have h2:2^((l.drop (i+k)).take (16-k)).length<=2^16:=Bg om (by simp;omega);unfold gQ;omega
theorem binary_step{l:List Bool}{o:List Nat}{j:Nat}(h:V o=VB (l.take (16*j)))(ho:o.length=j)(hj:16*j<l.length):V (o++[(gQ l (16*j) 0)])=VB (l.take (16*(j+1))):=by
 rw[yD0,h,ho];have e:l.take (16*(j+1))=l.take (16*j)++(l.drop (16*j)).take 16:=by rw[show 16*(j+1)=16*j+16 by omega,List.take_add]
 rw[e,xV0,At,Dj (Dl hj),Nat.pow_mul];rfl
theorem divide_end{x b Q R:Nat}(h:x=Q*b+R)(hR:R<b):Q=x/b/\R=x%b:=by
 subst h;constructor
 ·rw[Ax,Nat.mul_add_div om,Er hR];simp
 ·rw[Ax,Nat.mul_add_mod,Ea hR]
theorem gcd_even2{a b:Nat}(ha:a%2=0)(hb:b%2=0):Nat.gcd a b=2*Nat.gcd (a/2) (b/2):=by
 rw[<-Nat.gcd_mul_left,show 2*(a/2)=a by omega,show 2*(b/2)=b by omega]
theorem wZ0{a b:Nat}(ha:a%2=0)(hb:b%2=1):Nat.gcd a b=Nat.gcd (a/2) b:=by
 have h:Nat.Coprime 2 b:=by
  have h1:Nat.gcd 2 b∣2:=Nat.gcd_dvd_left 2 b;have h2:=Nat.gcd_dvd_right 2 b;have h3:=Nat.le_of_dvd om h1;have h0:Nat.gcd 2 b≠0:=fun e=>by rw[e]at h1;simp at h1
  rcases(show Nat.gcd 2 b=1\/Nat.gcd 2 b=2 by omega)with h4|h4
  ·exact h4
  ·rw[h4]at h2;omega
 have e:a=2*(a/2):=by omega
 conv=>lhs;rw[e]
 exact Nat.Coprime.gcd_mul_left_cancel _ h
theorem pU0{a b:Nat}(h:b<=a):Nat.gcd a b=Nat.gcd (a-b) b:=by
 conv=>lhs;rw[show a=(a-b)+b by omega]
 exact Nat.gcd_add_self_left ..
theorem plus_in{la lb o:List Nat}{k c:Nat}(ha:Dg la)(hb:Dg lb)(h:V o+c*65536^k=V (la.take k)+V (lb.take k))(hc:0<c):k<=la.length+lb.length:=by
 rcases Br (la.length+lb.length) k with h1|h1
 ·rw[Ak om,Ak om]at h;have h2:=V_lt ha;have h3:=V_lt hb;have h4:65536^la.length<=65536^(la.length+lb.length):=Bg om om;have h5:65536^lb.length<=65536^(la.length+lb.length):=Bg om om;have h6:65536^(la.length+lb.length+1)<=65536^k:=Bg om om;have h7:65536^k<=c*65536^k:=Nat.le_mul_of_pos_left _ hc;rw[Bx]at h6;omega
 ·exact h1
theorem plus_done{la lb o:List Nat}{k:Nat}(h:V o+0*65536^k=V (la.take k)+V (lb.take k))(h1:la.length<=k)(h2:lb.length<=k):V o=V la+V lb:=by
 rw[Ak h1,Ak h2]at h;omega
theorem minus_done{la lb o:List Nat}{c:Nat}(ho:Dg o)(hl:o.length=la.length)(h:V o+V (lb.take la.length)=V (la.take la.length)+c*65536^la.length)(hle:V lb<=V la)(hbl:lb.length<=la.length):V o=V la-V lb:=by
 rw[Ak hbl,Ak (Aq _)]at h;have h1:=V_lt ho;rw[hl]at h1;rcases Cb c with rfl|hc
 ·omega
 ·have h7:65536^la.length<=c*65536^la.length:=Nat.le_mul_of_pos_left _ hc;omega
def VL:List Nat->Nat
 |[]=>0
 |d::l=>d+4294967296*VL l
def Lg(l:List Nat):Prop:=∀d∈l,d<4294967296
def lim(n:Nat):List Nat:=if n=0 then []else(n%4294967296)::lim (n/4294967296)
decreasing_by omega
theorem qK:lim 0=[]:=by rw[lim];simp
theorem xA{n:Nat}(h:n≠0):lim n=(n%4294967296)::lim (n/4294967296):=by rw[lim];simp[h]
theorem xZ0:VL []=0:=rfl
theorem uW(d:Nat)(l:List Nat):VL (d::l)=d+4294967296*VL l:=rfl
theorem vF0(a b:List Nat):VL (a++b)=VL a+4294967296^a.length*VL b:=by
 induction a with
 |nil=>simp[xZ0]
 |cons d a ih=>rw[List.cons_append,uW,ih,uW,An,Bx,Bt];rw[Dy];congr 2;rw[<-Bp];congr 1;exact Ax _ _
theorem mE(a:List Nat)(d:Nat):VL (a++[d])=VL a+4294967296^a.length*d:=by rw[vF0,uW,xZ0];simp
theorem Lg.nil:Lg []:=fun _ h=>by cases h
theorem Lg.snoc{a:List Nat}(h:Lg a){d:Nat}(h1:d<4294967296):Lg (a++[d]):=fun x hx=>by
 rcases As.1 hx with hx|hx
 ·exact h x hx
 ·rw[Bv.1 hx];exact h1
theorem Lg.take{a:List Nat}(h:Lg a)(n:Nat):Lg (a.take n):=fun x hx=>h x (Cn hx)
theorem Lg.at{a:List Nat}(h:Lg a){i:Nat}(hi:i<a.length):a[i]<4294967296:=h _ (Cv hi)
theorem Lg.set{a:List Nat}(h:Lg a)(i:Nat){d:Nat}(h1:d<4294967296):Lg (a.set i d):=fun x hx=>by
 rcases Es hx with hx|rfl
 ·exact h x hx
 ·exact h1
theorem L_lt{l:List Nat}(h:Lg l):VL l<4294967296^l.length:=by
 induction l with
 |nil=>simp[xZ0]
 |cons d l ih=>
  have h1:=h d (Bc ..);have h2:=ih (fun x hx=>h x (Az _ hx));rw[uW,An,Bx];omega
theorem vP{l:List Nat}{m:Nat}(h:m<l.length):VL (l.take (m+1))=VL (l.take m)+4294967296^m*l[m]:=by
 rw[Dh h,mE,At,Dj (Dl h)]
theorem wP(l:List Nat)(m:Nat)(h:m<=l.length):VL l=VL (l.take m)+4294967296^m*VL (l.drop m):=by
 have e:=vF0 (l.take m) (l.drop m);rw[Dz,At,Dj h]at e;exact e
theorem kY0(n:Nat):VL (List.replicate n 0)=0:=by
 induction n with
 |zero=>rfl
 |succ n ih=>rw[List.replicate_succ,uW,ih]
theorem cB(n:Nat):Lg (List.replicate n 0):=fun x hx=>by rw[List.eq_of_mem_replicate hx];decide
theorem yX(n:Nat):Lg (lim n):=by
 induction n using Nat.strongRecOn with
 |_ n ih=>
  by_cases h:n=0
  ·subst h;rw[qK];exact Lg.nil
  ·rw[xA h];intro x hx;rcases Bl.1 hx with rfl|hx
   ·omega
   ·exact ih (n/4294967296) om x hx
theorem vG(n:Nat):VL (lim n)=n:=by
 induction n using Nat.strongRecOn with
 |_ n ih=>
  by_cases h:n=0
  ·subst h;rw[qK];rfl
  ·rw[xA h,uW,ih (n/4294967296) om];omega
def yF0(l:List Nat):Prop:=∀h:l≠[],l.getLast h≠0
theorem lim_noLead(n:Nat):yF0 (lim n):=by
 induction n using Nat.strongRecOn with
 |_ n ih=>
  by_cases h:n=0
  ·subst h;rw[qK];exact fun h=>absurd rfl h
  ·rw[xA h];intro hne;by_cases h2:n/4294967296=0
   ·simp only[h2,qK,List.getLast_singleton];omega
   ·have h3:lim (n/4294967296)≠[]:=by rw[xA h2];simp
    rw[List.getLast_cons h3];exact ih (n/4294967296) om h3
theorem qS1{l:List Nat}(h:Lg l)(hn:yF0 l):lim (VL l)=l:=by
 induction l with
 |nil=>exact qK
 |cons d l ih=>
  have h1:=h d (Bc ..);have hl:Lg l:=fun x hx=>h x (Az _ hx);have hnl:yF0 l:=fun hne=>by
   have:=hn (by simp);rw[List.getLast_cons hne]at this;exact this
  have h0:VL (d::l)≠0:=by
   rw[uW];intro e;have hd:d=0:=by omega
   have hv:VL l=0:=by omega
   cases l with
   |nil=>exact hn (by simp) (by simpa using hd)
   |cons x l=>
    have:=ih hl hnl;rw[hv,qK]at this
    cases this
  rw[xA h0,uW];have e1:(d+4294967296*VL l)%4294967296=d:=by omega
  have e2:(d+4294967296*VL l)/4294967296=VL l:=by omega
  rw[e1,e2,ih hl hnl]
theorem qF{n k:Nat}(h:n<4294967296^k):(lim n).length<=k:=by
 induction k generalizing n with
 |zero=>
  have:n=0:=by simpa using h
  subst this;rw[qK];simp
 |succ k ih=>
  by_cases h0:n=0
  ·subst h0;rw[qK];simp
  ·rw[xA h0,An];have:=ih (n:=n/4294967296) (by rw[Bx]at h;omega);omega
theorem pG(n:Nat):n<4294967296^(lim n).length:=by
 have:=L_lt (yX n)
 rwa[vG]at this
theorem lim_ge{n:Nat}(h:n≠0):4294967296^((lim n).length-1)<=n:=by
 rcases Br n (4294967296^((lim n).length-1))with h1|h1
 ·have h2:=qF h1;have:(lim n).length≠0:=by rw[xA h];simp
  omega
 ·exact h1
theorem qQ{l:List Nat}{i:Nat}(h:i<l.length):l.getD i 0=l[i]:=by rw[Ac,Ae h];rfl
theorem of_step{l o:List Nat}{i:Nat}(h:V o=VL (l.take i))(ho:o.length=2*i)(hi:i<l.length):V (o++[l[i]%65536,l[i]/65536])=VL (l.take (i+1)):=by
 rw[vC0,h,ho,vP hi,kI,kI,bR0];have e:l[i]%65536+65536*(l[i]/65536+65536*0)=l[i]:=by omega
 rw[e,Nat.pow_mul]
theorem of_Dg{o:List Nat}(h:Dg o){x:Nat}(hx:x<4294967296):Dg (o++[x%65536,x/65536]):=fun y hy=>by
 rcases As.1 hy with hy|hy
 ·exact h y hy
 ·simp only[Bl,List.not_mem_nil,or_false]at hy;rcases hy with rfl|rfl<;>omega
theorem limbs_step{a o:List Nat}{j:Nat}(h:VL o=V (a.take (2*j)))(ho:o.length=j):VL (o++[a.getD (2*j) 0+a.getD (2*j+1) 0*65536])=V (a.take (2*(j+1))):=by
 rw[mE,h,ho,show 2*(j+1)=2*j+1+1 by omega,jR,jR,Bx,Bt,Nat.pow_mul,Dy];congr 2;show 4294967296^j*_=_;rw[Ax (a.getD (2*j+1) 0),<-Bp]
theorem limbs_end{n:Nat}{o:List Nat}(h:VL o=V ((dig n).take (2*o.length)))(hl:(dig n).length<=2*o.length)(hl2:2*o.length<(dig n).length+2)(hg:Lg o):o=lim n:=by
 rw[Ak hl,xB]at h;have hn:yF0 o:=fun hne=>by
  intro e;have hpos:0<o.length:=Da.2 hne;rw[Ej]at e;have h1:=vP (l:=o) (m:=o.length-1) om;rw[e,show o.length-1+1=o.length by omega,Ak (Aq _),h]at h1;have h2:=L_lt (hg.take (o.length-1));rw[At,Dj om]at h2;have h0:n≠0:=by
   intro e0;subst e0;rw[jW]at hl2;simp at hl2;omega
  have h3:=uS1 h0;have h4:4294967296^(o.length-1)=65536^(2*(o.length-1)):=by rw[Nat.pow_mul]
  have h5:65536^(2*(o.length-1))<=65536^((dig n).length-1):=Bg om om;omega
 rw[<-qS1 hg hn,h]
def cmpZ(x y:Int):Int:=if x<y then-1 else if y<x then 1 else 0
def ZI(b:Bool)(n:Nat):Int:=if b then-(n:Int)else n
theorem ZI_neg(b:Bool)(n:Nat):ZI (!b&&decide (0<n)) n= -ZI b n:=by
 cases b<;>unfold ZI<;>simp
 intro h;omega
theorem tC(b:Bool)(n:Nat):(ZI b n).natAbs=n:=by cases b<;>unfold ZI<;>simp
section
variable{P:Program}{b:Ba}
def exJ{ι:Type}(I:ι->DS)(K:Exit->DS->Prop)(ex:Exit)(S:DS):Prop:=match ex with
 | .normal=>∃i,LeD S (I i)
 |e=>K e S
theorem qI{ι:Type}{I:ι->DS}{K:Exit->DS->Prop}{S:DS}(i:ι)(h:LeD S (I i)):exJ I K .normal S:=⟨i,h⟩
theorem exJ_ret{ι:Type}{I:ι->DS}{K:Exit->DS->Prop}{S:DS}(h:K .ret S):exJ I K .ret S:=h
theorem pU{ι:Type}(ks os:List Nat)(N:Nat)(chg:ι->List (Nat×D))(ochg:ι->List (Nat×DOwn)){x y:Code}{tm:List (Nat×D)}{ow:List (Nat×DOwn)}{nx:Nat}{K:Exit->DS->Prop}
  (h:bN0 ks tm fun base=>bM0 os ow fun ob=>Ev P b x ⟨tm,ow,nx⟩ (exJ (fun i=>⟨chg i++base,ochg i++ob,N⟩) K)/\∀i,Ev P b y ⟨chg i++base,ochg i++ob,N⟩ K):Ev P b (.seq x y) ⟨tm,ow,nx⟩ K:=by
 obtain⟨base,h1⟩:=pK h;obtain⟨ob,h2,h3⟩:=pJ h1;refine zB ?_;intro w s g a Q hr hK;refine h2 w s g a Q hr fun ex w' s' g' a' S' h4 h5=>hK ex w' s' g' a' S' h4 ?_
 cases ex with
 |normal=>
  obtain⟨i,hi⟩:=h5;exact gP1 _ hi (h3 i)
 |_=>exact h5
end
def thwD(k:Nat):D->D
 | .own k' sz rows=>match Nat.beq k' k with
  |true=>match rows with
   |[]=> .mo k' 0
   |r::l=> .own k' sz (r::l)
  |false=> .own k' sz rows
 |d=>d
def thwL(k:Nat):List D->List D
 |[]=>[]
 |d::l=>thwD k d::thwL k l
def thwT(k:Nat):List (Nat×D)->List (Nat×D)
 |[]=>[]
 |(t,d)::l=>(t,thwD k d)::thwT k l
def thwO(k:Nat)(e:TypeId)(sz:Nat):List (Nat×DOwn)->List (Nat×DOwn)
 |[]=>[]
 |(j,c)::l=>(match Nat.beq j k with
  |true=>(j,.mrow e sz (.lst []))
  |false=>match c with
   | .box t cs=>(j,.box t (thwL k cs))
   |c=>(j,c))::thwO k e sz l
theorem mH0{k:Nat}:∀{l:List (Nat×D)}{t:Nat},yY t (thwT k l)=(yY t l).map (thwD k)
 |[],_=>rfl
 |(u,d)::l,t=>by
  show yY t ((u,thwD k d)::thwT k l)=_;rw[yV,yV];by_cases h:u=t
  ·simp[h]
  ·rw[Aa h,Aa h];exact mH0
theorem tI0{w:World}{s:Sb}{g:Gh}{k:Nat}(hmo:∀v,g.gn k 0=some v->(TV.mo k 0).P w s g v){d:D}{v:Value}(hv:d.tv.P w s g v):(thwD k d).tv.P w s g v:=by
 cases d with
 |own k' sz rows=>
  show(match Nat.beq k' k with|true=>(match rows with|[]=>D.mo k' 0|r::l=>D.own k' sz (r::l))|false=>D.own k' sz rows).tv.P w s g v
  cases hb:Nat.beq k' k with
  |false=>exact hv
  |true=>
   have e:=Ai hb;subst e
   cases rows with
   |nil=>
    rw[D.tv,TV.P]at hv;show(D.mo k' 0).tv.P w s g v;rw[D.tv];exact hmo v hv.2
   |cons r l=>exact hv
 |_=>exact hv
theorem tH0{w:World}{s:Sb}{g:Gh}{k:Nat}(hmo:∀v,g.gn k 0=some v->(TV.mo k 0).P w s g v):∀{l:List D}{vs:List Value},AllT w s g (D.tvl l) vs->AllT w s g (D.tvl (thwL k l)) vs
 |[],vs,hv=>by cases vs with|nil=>rw[thwL,D.tvl];trivial|cons _ _=>exact hv.elim
 |d::l,[],hv=>by rw[D.tvl]at hv;exact hv.elim
 |d::l,v::vs,hv=>by
  rw[D.tvl]at hv;rw[thwL,D.tvl];exact⟨tI0 hmo hv.1,tH0 hmo hv.2⟩
theorem mJ0{k:Nat}:∀{l:List D},(∀d∈D.tvl l,d.one=true)->∀d∈D.tvl (thwL k l),d.one=true
 |[],_,d,hd=>by rw[thwL,D.tvl]at hd;cases hd
 |x::l,h,d,hd=>by
  rw[thwL,D.tvl]at hd;rw[D.tvl]at h;rcases Bl.1 hd with rfl|hd
  ·have h1:=h x.tv (by simp)
   cases x with
   |own k' sz rows=>
    show(match Nat.beq k' k with|true=>(match rows with|[]=>D.mo k' 0|r::l=>D.own k' sz (r::l))|false=>D.own k' sz rows).tv.one=true
    cases Nat.beq k' k with
    |false=>rfl
    |true=>cases rows<;>rfl
   |_=>exact h1
  ·exact mJ0 (fun y hy=>h y (by simp[hy])) d hd
theorem mI0{k:Nat}{e:TypeId}{sz:Nat}:∀{l:List (Nat×DOwn)}{j:Nat}{c:DOwn},yY j (thwO k e sz l)=some c->∃c0,yY j l=some c0/\((j=k/\c= .mrow e sz (.lst []))\/(j≠k/\((∃t cs,c0= .box t cs/\c= .box t (thwL k cs))\/(c=c0/\∀t cs,c0≠ .box t cs))))
 |[],_,_,h=>by cases h
 |(i,c0)::l,j,c,h=>by
  unfold thwO at h;have step:∀x:DOwn,yY j ((i,x)::thwO k e sz l)=some c->(i=j/\x=c)\/(i≠j/\yY j (thwO k e sz l)=some c):=fun x hx=>by
   rw[yV]at hx;by_cases hi:i=j
   ·rw[Ab hi]at hx;exact .inl ⟨hi,Option.some.inj hx⟩
   ·rw[Aa hi]at hx;exact .inr ⟨hi,hx⟩
  have rest:i≠j->yY j (thwO k e sz l)=some c->∃c0',yY j ((i,c0)::l)=some c0'/\((j=k/\c= .mrow e sz (.lst []))\/(j≠k/\((∃t cs,c0'= .box t cs/\c= .box t (thwL k cs))\/(c=c0'/\∀t cs,c0'≠ .box t cs)))):=fun hi hx=>by
   obtain⟨c1,h1,h2⟩:=mI0 hx;exact⟨c1,by rw[yV,Aa hi];exact h1,h2⟩
  cases hb:Nat.beq i k with
  |true=>
   rw[hb]at h;have hik:=Ai hb;rcases step _ h with⟨rfl,rfl⟩|⟨hi,hx⟩
   ·exact⟨c0,by rw[yV];simp,.inl ⟨hik,rfl⟩⟩
   ·exact rest hi hx
  |false=>
   rw[hb]at h;have hik:i≠k:=by rintro rfl;rw[Nat.beq_refl]at hb;cases hb
   cases c0 with
   |box t cs=>
    rcases step _ h with⟨rfl,rfl⟩|⟨hi,hx⟩
    ·exact⟨_,by rw[yV];simp,.inr ⟨hik,.inl ⟨t,cs,rfl,rfl⟩⟩⟩
    ·exact rest hi hx
   |_=>
    rcases step _ h with⟨rfl,rfl⟩|⟨hi,hx⟩
    ·exact⟨_,by rw[yV];simp,.inr ⟨hik,.inr ⟨rfl,fun _ _ h=>by cases h⟩⟩⟩
    ·exact rest hi hx
section
variable{P:Program}{b:Ba}
theorem zN0(k:Nat){e:TypeId}{sz:Nat}{c:Code}{tm:List (Nat×D)}{ow:List (Nat×DOwn)}{nx:Nat}{K:Exit->DS->Prop}(hk:yY k ow=some (.row e sz 0))
  (h:Ev P b c ⟨thwT k tm,thwO k e sz ow,nx⟩ K):Ev P b c ⟨tm,ow,nx⟩ K:=by
 intro w s g a Q hr hK;have hk0:fnd k (ows ow)=some (.row e sz 0):=by rw[qS,hk];rfl
 obtain⟨hok,hblk⟩:=hr.ow k _ hk0;obtain⟨hmr,hmo⟩:=hok.thaw;have howf:∀{j:Nat}{c:Own},fnd j (ows (thwO k e sz ow))=some c->∃c0,fnd j (ows ow)=some c0/\Ok1 w s g j c/\blk g j c=blk g j c0:=fun{j c}hj=>by
  rw[qS]at hj
  cases hq:yY j (thwO k e sz ow)with
  |none=>rw[hq]at hj;cases hj
  |some d=>
   rw[hq]at hj
   cases hj;obtain⟨c0,h1,h2⟩:=mI0 hq;have h1':fnd j (ows ow)=some c0.o:=by rw[qS,h1];rfl
   refine⟨c0.o,h1',?_⟩;rcases h2 with⟨rfl,rfl⟩|⟨hne,⟨t,cs,rfl,rfl⟩|⟨rfl,_⟩⟩
   ·rw[hk]at h1
    cases h1;exact⟨hmr,rfl⟩
   ·obtain⟨N,vs,g1,g2,g3,g4,g5⟩:=(hr.ow j _ h1').1;exact⟨⟨N,vs,g1,g2,tH0 hmo g3,mJ0 g4,g5⟩,rfl⟩
   ·exact⟨(hr.ow j _ h1').1,rfl⟩
 refine h w s g a Q ⟨hr.kp,hr.lt,hr.sz,fun t d hd=>?_,fun j c hj=>?_,fun j j' c c' N h1 h2 hne hb=>?_,hr.fr,hr.df,hr.gb⟩ hK
 ·have hd':fnd t (tvs (thwT k tm))=some d:=hd;rw[qG,mH0]at hd'
  cases hq:yY t tm with
  |none=>rw[hq]at hd';cases hd'
  |some x=>
   rw[hq]at hd'
   cases hd';obtain⟨v,h1,h2⟩:=hr.tm t x.tv (by show fnd t (tvs tm)=_;rw[qG,hq];rfl);exact⟨v,h1,tI0 hmo h2⟩
 ·obtain⟨c0,h1,h2,h3⟩:=howf hj;exact⟨h2,fun N hb=>(hr.ow j c0 h1).2 N (by rw[<-h3];exact hb)⟩
 ·obtain⟨c0,e1,_,e3⟩:=howf h1;obtain⟨d0,f1,_,f3⟩:=howf h2;rw[f3];exact hr.sep j j' c0 d0 N e1 f1 hne (by rw[<-e3];exact hb)
end
theorem Sub.mo{k n m:Nat}(h:n=m):Sub (.mo k n) (.mo k m):=by subst h;exact u0 _
theorem Sub.mw{k q i sz n q' i' n':Nat}(h1:q=q')(h2:i=i')(h3:n=n'):Sub (.mw k q i sz n) (.mw k q' i' sz n'):=by subst h1;subst h2;subst h3;exact u0 _
theorem Sub.moMw{k n q i sz m:Nat}(h0:0<n)(h1:n=q)(h2:0=i)(h3:n=m):Sub (.mo k n) (.mw k q i sz m):=by subst h1;subst h2;subst h3;exact fun w s g v hv=>mo_mw h0 hv
theorem SubO.mr{ty:TypeId}{sz:Nat}{m m':MR}(h:m.rows=m'.rows):SubO (.mrow ty sz m) (.mrow ty sz m'):=⟨rfl,rfl,congrArg D.pvss h⟩
theorem SubO.mp{ty:TypeId}{sz:Nat}{m m':MR}(h:D.pvss m.rows=D.pvss m'.rows):SubO (.mrow ty sz m) (.mrow ty sz m'):=⟨rfl,rfl,h⟩
end Go.Proofs.YtpmjepoceakikaaGreatDoor
