/-Part 13 of the proof. -/
import Derived.Test.YtmakjjodkiedmaaGreatDoorM12
import Derived.Shelf.Unicode.ValidAny
import Derived.Shelf.Strings.Split
import Derived.Shelf.Strings.Fields
import Derived.Shelf.Strings.Cut
namespace Go.Proofs.YtmakjjodkiedmaaGreatDoor
open Go.RowKit
theorem nq9{p:Prop}(h:p:=by repeat(first|exact trivial|exact u4 _|exact u10 rfl|refine⟨?_,?_⟩)):p:=h
variable{md me:Bool}
def smI(b1:Bool)(l1:List Nat)(b2:Bool)(l2:List Nat):Bool:=(b1==b2)&&decide (l1=l2)
theorem zT0{b1 b2:Bool}{l1 l2:List Nat}:smI b1 l1 b2 l2=true↔b1=b2/\l1=l2:=by simp[smI]
def smV(a b:Vl):Bool:=(((decide (a.k=b.k)&&decide (a.r=b.r))&&decide (a.s=b.s))&&smI a.nn a.nl b.nn b.nl)&&smI a.dn a.dl b.dn b.dl
theorem vH0{a b:Vl}:smV a b=true↔a=b:=by
 cases a;cases b;simp only[smV,Ah,Ai,zT0,Vl.mk.injEq];constructor
 ·rintro⟨⟨⟨⟨rfl,rfl⟩,rfl⟩,rfl,rfl⟩,rfl,rfl⟩;simp
 ·rintro⟨rfl,rfl,rfl,rfl,rfl,rfl,rfl⟩;simp
instance:DecidableEq Vl:=fun _ _=>decidable_of_iff _ vH0
theorem smV_eq(a b:Vl):smV a b=decide (a=b):=by
 rw[Bool.eq_iff_iff,Ai];exact vH0
def smO(a b:Ob):Bool:=((((((((((decide (a.kind=b.kind)&&decide (a.name=b.name))&&decide (a.cls=b.cls))&&decide (a.code=b.code))&&decide (a.state=b.state))&&decide (a.refs=b.refs))&&decide (a.order=b.order))&&decide (a.names=b.names))&&decide (a.items=b.items))&&decide (a.keys=b.keys)))
theorem vI0{a b:Ob}:smO a b=true↔a=b:=by
 cases a;cases b;simp only[smO,Ah,Ai,Ob.mk.injEq];constructor
 ·rintro⟨⟨⟨⟨⟨⟨⟨⟨⟨rfl,rfl⟩,rfl⟩,rfl⟩,rfl⟩,rfl⟩,rfl⟩,rfl⟩,rfl⟩,rfl⟩;simp
 ·rintro⟨rfl,rfl,rfl,rfl,rfl,rfl,rfl,rfl,rfl,rfl⟩;simp
instance:DecidableEq Ob:=fun _ _=>decidable_of_iff _ vI0
theorem smO_eq(a b:Ob):smO a b=decide (a=b):=by
 rw[Bool.eq_iff_iff,Ai];exact vI0
structure Al{α:Type}(l:List α)(p:α->Bool)where
 k:Nat
 le:k<=l.length
 all:∀j x,j<k->l[j]?=some x->p x=true
def Al.next{α:Type}{l:List α}{p:α->Bool}{e:α}(x:Al l p)(h1:x.k<l.length)(h2:p (l.getD (x.k:Int).toNat e)=true):Al l p:=⟨x.k+1,by omega,fun j y hj hy=>by
 rcases Nat.lt_succ_iff_lt_or_eq.1 hj with h|rfl
 ·exact x.all j y h hy
 ·rw[jA0 h1 e]at hy;cases hy;exact h2⟩
theorem Al.yes{α:Type}{l:List α}{p:α->Bool}(x:Al l p)(h1:¬x.k<l.length):l.all p=true:=by
 rw[Bt];intro y hy;obtain⟨j,hj,e⟩:=List.mem_iff_getElem.1 hy;exact x.all j y om (by rw[Af hj,e])
theorem Al.no{α:Type}{l:List α}{p:α->Bool}{k:Nat}{e:α}(h1:k<l.length)(h2:p (l.getD (k:Int).toNat e)=false):l.all p=false:=by
 rw[<-Dj,Bt];intro h;have:=h (l.getD (k:Int).toNat e) (by rw[mB h1];exact Di _);rw[h2]at this;cases this
def inH(h:List Ob)(n:Int):Prop:=0<=n/\n.toNat<h.length
theorem jU{h:List Ob}{n:Int}(hi:qA h n=true):inH h n:=uZ hi
abbrev yV(h:List Ob)(n:Int):Ob:=h.getD n.toNat ob0
def gH0(h:List Ob)(v:Vl):Bool:=decide (v.k=7)||decide ((yD h v).kind=7)
def excS(h:List Ob)(v:Vl):Bool:=(decide ((yD h v).kind=10)&&qA h (yD h v).cls)&&hasB (yV h (yD h v).cls).order 28
def rngP(v:Vl):Bool:=decide (v.k=2)&&decide (v.nl.length<=40)
def rngS(o:Ob):Bool:=o.items.all rngP&&decide (0<(o.items.getD 2 vl0).nl.length)
def xF(k:Int):Int:=if k=7 then 1 else if k=17 then 3 else if k=19 then 3 else if k=16\/k=9 then 1099511627776 else if k=18 then 5000 else 0
theorem xB(b1 b2:Bool)(l1 l2:List Nat):Fn Tryz.prog 40 [.agg [.v (.bool b1),usD l1],.agg [.v (.bool b2),usD l2]] (.v (.bool (smI b1 l1 b2 l2))):=by
 refine yM zO Tryz.func40 rfl rfl rfl rfl rfl rfl ?_;intros;refine zK 100 ?_;refine zB (zE zO [] 200 rfl ?_);refine zF ?_;refine yP _ (fun hg10=>EqualU_ok _ _) rfl ?_;refine zf (zA (zN ?_));exact u1 rfl (u4 _)
theorem vD(a b:Vl):Fn Tryz.prog 12 [.agg (vlD a),.agg (vlD b)] (.v (.bool (decide (a=b)))):=by
 refine yM zO Tryz.func12 rfl rfl rfl rfl rfl rfl ?_;intros;refine zK 100 ?_;refine zB (zE zO [] 200 rfl ?_);refine zF ?_;refine yP _ (fun hg24=>xB _ _ _ _) rfl ?_;refine zF ?_;refine yP _ (fun hg31=>xB _ _ _ _) rfl ?_;refine zf (zA (zN ?_));exact u1 rfl (u5 (smV_eq a b))
theorem gQ(l m:List Vl):Fn Tryz.prog 89 [vsD l,vsD m] (.v (.bool (decide (l=m)))):=by
 refine yM zO Tryz.func89 rfl rfl rfl rfl rfl rfl ?_;intros;refine xG 0 rfl fun hl0=>?_;refine zK 100 ?_;refine zB (zK 200 ?_);refine zT rfl (fun c1=>?_) (fun c1=>?_)
 ·simp at c1;refine zK 300 ?_;refine zN (zM ?_);exact u1 rfl (u5 (by simp;rintro rfl;exact c1 rfl))
 ·simp at c1;have c1:=Int.ofNat_inj.1 c1;refine zJ (zA (zB (zK 400 ?_)));refine zQ ?_;refine yB (ι:=Eq2 l m) [0,1,12] [] 450 (fun x=>[(13,.v (.int .i64 x.k))]) (fun _=>[]) (fun x=>l.length-x.k) ⟨0,Aq _,rfl⟩ ?_;refine⟨⟨yK,yH,rfl,rfl⟩,fun x=>?_⟩;have hk:=x.le;refine zK 500 ?_;refine zB (zX (fun c4=>?_) (fun c4=>?_))
  ·
   refine zJ (zA (zB (zQ (zK 600 ?_))));refine zB (yE zO [] [[],[],[0,1],[0,1,2],[],[],[4,5],[4,5,6],(rgN 8),(rgN 9)] 700 yX kr rfl ?_);refine zF ?_;refine zS _ (vD _ _) rfl ?_;refine zF ?_;refine zC (zA (zT rfl (fun c6=>?_) (fun c6=>?_)))
   ·simp only[Bd,Av]at c6;refine zK 800 ?_;refine zN (zP (zM (yL (zP (zM ?_)))));exact u1 rfl (u5 (by simpa using gC0 c6))
   ·simp only[Be,Ai]at c6;refine zJ (zL (zA (yO zO [] 900 ?_)));exact zR (x.next c1 c4 c6) ⟨yK,yH,rfl,rfl⟩ (by show l.length-(x.k+1)<l.length-x.k;omega)
  ·
   refine yF (zZ (yA (zW (zA (zK 1000 ?_)))));refine zN ?_;exact u1 rfl (u5 (by simpa using x.all c1 c4))
theorem gR(a b:Ob):Fn Tryz.prog 46 [.agg (obD a),.agg (obD b)] (.v (.bool (decide (a=b)))):=by
 refine yM zO Tryz.func46 rfl rfl rfl rfl rfl rfl ?_;intros;refine zK 100 ?_;refine zB (zE zO [] 200 rfl ?_);refine zF ?_;refine yP _ (fun hg38=>yV0 _ _) rfl ?_;refine zF ?_;refine yP _ (fun hg45=>yV0 _ _) rfl ?_;refine zF ?_;refine yP _ (fun hg52=>kV _ _) rfl ?_;refine zF ?_;refine yP _ (fun hg59=>gQ _ _) rfl ?_;refine zF ?_;refine yP _ (fun hg66=>gQ _ _) rfl ?_;refine zf (zA (zN ?_));exact u1 rfl (u5 (smO_eq a b))
theorem pW(h:List Ob)(v:Vl):Fn Tryz.prog 100 [hpD md h,.agg (vlD v)] (.v (.bool (gH0 h v))):=by
 refine yM zO Tryz.func100 rfl rfl rfl rfl rfl rfl ?_;intros;refine zK 100 ?_;refine zB (zE zO [] 200 rfl ?_);refine zF ?_;refine yP _ (fun hg6=>qX _ _) rfl ?_;refine zf (zA (zN ?_));exact u1 rfl (u4 _)
theorem dU(h:List Ob)(n:Int)(hn:inH h n):Fn Tryz.prog 101 [hpD md h,.v (.int .i64 n)] (.v (.bool (decide ((yV h n).kind=9)))):=by
 refine yM zO Tryz.func101 rfl rfl rfl rfl rfl rfl ?_;intros;refine zB (zE zO [] 100 rfl ?_);repeat(first|refine zH ?_|refine zU (by exact hn) ?_)
 refine zC (zA ?_);refine zB (zE zO [] 200 rfl ?_);repeat(first|refine zH ?_|refine zU (by exact hn) ?_)
 refine zC (zA (zN ?_));exact u1 rfl (u4 _)
theorem vE(h:List Ob)(v:Vl):Fn Tryz.prog 146 [hpD md h,.agg (vlD v)] (.v (.bool (excS h v))):=by
 refine yM zO Tryz.func146 rfl rfl rfl rfl rfl rfl ?_;intros;refine zK 100 ?_;refine zB (zE zO [] 200 rfl ?_);refine zF ?_;refine zS _ (qX _ _) rfl ?_;refine zf (zA ?_);refine zB (zE zO [] 300 rfl ?_);repeat(first|refine zH ?_|refine zU (by intro hh;simp at hh;exact jU hh.2) ?_)
 refine yP _ (fun hg7=>jP _ _) rfl ?_;repeat(first|refine zH ?_|refine zU (by intro hh;simp at hh;exact jU hh.2) ?_)
 refine yP _ (fun hg17=>jR _ _) rfl ?_;repeat(first|refine zH ?_|refine zU (by intro hh;simp at hh;exact jU hh.2) ?_)
 refine zC (zA (zN ?_));exact u1 rfl (u4 _)
theorem RangeOk_ok(o:Ob)(ho:2<o.items.length)(hl:o.items.length<=2000000):Fn Tryz.prog 99 [.agg (obD o)] (.v (.bool (rngS o))):=by
 refine yM zO Tryz.func99 rfl rfl rfl rfl rfl rfl ?_;intros;refine zK 100 ?_;refine zB (zK 200 ?_);refine zQ ?_;refine yB (ι:=Al o.items rngP) [1,6,7] [0] 250 (fun x=>[(8,.v (.int .i64 x.k))]) (fun _=>[]) (fun x=>o.items.length-x.k) ⟨0,Aq _,fun j x hj=>by omega⟩ ?_;refine⟨⟨yK,yH,rfl,rfl⟩,fun x=>?_⟩;have hk:=x.le;refine zK 300 ?_;refine zB (zX (fun c2=>?_) (fun c2=>?_))
 ·
  refine zJ (zA (zB (zQ (zK 400 ?_))));refine zK 500 ?_;refine zX (fun c4=>?_) (fun c4=>?_)
  ·
   refine zK 600 ?_;refine zN (zP (zM (yL (zP (zM ?_)))))
   exact u1 rfl (u5 (by rw[rngS,Al.no (e:=vl0) c2 (by
     rw[<-Dj];simp only[rngP,Ah,Ai];rcases c4 with c4|c4
     ·exact fun h=>c4 h.1
     ·exact fun h=>by have:=h.2;omega)];rfl))
  ·
   refine zJ (zL (zA (yO zO [] 700 ?_)));exact zR (x.next (e:=vl0) c2 (by rw[rngP,Bo c4.1,Bo om];rfl)) ⟨yK,yH,rfl,rfl⟩ (by show o.items.length-(x.k+1)<o.items.length-x.k;omega)
 ·
  refine yF (zZ (yA (zW (zA ?_))));refine zB (zE zO [] 800 rfl ?_);repeat(first|refine zH ?_|refine zU (by exact⟨by decide,ho⟩) ?_)
  refine zC (zA (zN ?_));exact u1 rfl (u5 (by rw[rngS,x.yes c2];simp))
theorem uS(k:Int):Fn Tryz.prog 95 [.v (.int .i64 k)] (.v (.int .i64 (xF k))):=by
 refine yM zO Tryz.func95 rfl rfl rfl rfl rfl rfl ?_;intros;refine zK 100 ?_;refine zB (zK 200 ?_);refine zQ (zK 300 ?_);refine zX (fun c2=>?_) (fun c2=>?_)
 ·
  refine zK 400 ?_;refine zN (zP (zM ?_));exact u1 rfl (u7 (by simp_all[xF]))
 ·
  refine zK 500 ?_;refine zX (fun c4=>?_) (fun c4=>?_)
  ·
   refine zK 600 ?_;refine zN (zP (zM ?_));exact u1 rfl (u7 (by simp_all[xF]))
  ·
   refine zK 700 ?_;refine zX (fun c6=>?_) (fun c6=>?_)
   ·
    refine zK 800 ?_;refine zN (zP (zM ?_));exact u1 rfl (u7 (by simp_all[xF]))
   ·
    refine zB (zK 900 ?_);refine zX (fun c8=>?_) (fun c8=>?_)
    ·
     refine zJ (zA (zX (fun c8x=>?_) (fun c8x=>?_)))
     ·
      refine zK 1100 ?_;refine zN (zP (zM ?_));exact u1 rfl (u7 (by simp_all[xF]))
     ·
      simp_all
    ·
     refine yO zO [] 1000 ?_;refine zA (zX (fun c9=>?_) (fun c9=>?_))
     ·
      refine zK 1100 ?_;refine zN (zP (zM ?_));exact u1 rfl (u7 (by simp_all[xF]))
     ·
      refine zK 1200 ?_;refine zX (fun c11=>?_) (fun c11=>?_)
      ·
       refine zK 1300 ?_;refine zN (zP (zM ?_));exact u1 rfl (u7 (by simp_all[xF]))
      ·
       refine zJ (zL (zA (zK 1400 ?_)));refine zN ?_;exact u1 rfl (u7 (by simp_all[xF]))
end Go.Proofs.YtmakjjodkiedmaaGreatDoor
/-
  DERIVED:THE SHELF's CONTRACTS AT THIS DUMP,IN PLAIN WORDS (tools/lay-plain.mjs out of 'YtmakjjodkiedmaaGreatDoorShelf.lean',which tools/lay-shelf.mjs wrote):THE SAME DECLARATIONS UNDER THE SAME NAMES:'import','namespace','open','def','theorem' AND NOTHING ELSE:no command of the shelf's:FOR A HAND-IN. Each laying:the table of numbers ('.._ren') and one theorem,a field a fact of the dump's own or the kernel's comparison;each contract:ONE APPLICATION.
-/
namespace Go.Proofs
open Go.Shelf
def Tryz.laysValid_ren:Go.Shelf.Ren:=⟨fun|196=>110|259=>153|n=>n,fun|9=>9|4=>4|3=>3|5=>5|12=>12|119=>180|0=>0|46=>153|139=>195|138=>194|53=>167|n=>n,fun|3=>1|4=>2|n=>n⟩
theorem yZ{α:Type}{a b:α}(h:a=b:=by kernel_rfl):some a=some b:=congrArg some h
theorem Tryz.laysValid:Go.Proofs.Lays.n196 Tryz.prog Tryz.laysValid_ren:={
 mixed:=by kernel_rfl
 f196:=Tryz.func110.trans yZ
 f259:=Tryz.func153.trans yZ
 t0:=Tryz.underlying0
 a0:=Tryz.isAgg0
 z0:=Tryz.sizeOf0
 v0:=Tryz.zeroValue0
 t3:=Tryz.underlying3
 a3:=Tryz.isAgg3
 z3:=Tryz.sizeOf3
 v3:=Tryz.zeroValue3
 t4:=Tryz.underlying4
 a4:=Tryz.isAgg4
 z4:=Tryz.sizeOf4
 v4:=Tryz.zeroValue4
 t5:=Tryz.underlying5
 a5:=Tryz.isAgg5
 z5:=Tryz.sizeOf5
 v5:=Tryz.zeroValue5
 t9:=Tryz.underlying9
 a9:=Tryz.isAgg9
 z9:=Tryz.sizeOf9
 v9:=Tryz.zeroValue9
 t12:=Tryz.underlying12
 a12:=Tryz.isAgg12
 z12:=Tryz.sizeOf12
 v12:=Tryz.zeroValue12
 t46:=Tryz.underlying153
 a46:=Tryz.isAgg153
 z46:=Tryz.sizeOf153
 v46:=Tryz.zeroValue153
 t53:=Tryz.underlying167
 a53:=Tryz.isAgg167
 z53:=Tryz.sizeOf167
 v53:=Tryz.zeroValue167
 t119:=Tryz.underlying180
 a119:=Tryz.isAgg180
 z119:=Tryz.sizeOf180
 t138:=Tryz.underlying194
 a138:=Tryz.isAgg194
 z138:=Tryz.sizeOf194
 v138:=Tryz.zeroValue194
 t139:=Tryz.underlying195
 a139:=Tryz.isAgg195
 z139:=Tryz.sizeOf195
 v139:=Tryz.zeroValue195
 g3:=by kernel_rfl
 g4:=by kernel_rfl}
def Tryz.laysSplit_ren:Go.Shelf.Ren:=⟨fun|146=>143|221=>176|268=>201|138=>202|143=>144|195=>209|197=>210|218=>211|219=>175|260=>213|217=>197|225=>198|224=>199|267=>200|266=>207|314=>208|n=>n,fun|9=>9|31=>34|3=>3|4=>4|0=>0|105=>254|21=>21|5=>5|46=>153|119=>180|139=>195|138=>194|146=>247|51=>101|n=>n,fun|1=>5|3=>1|4=>2|n=>n⟩
theorem Tryz.laysSplit:Go.Proofs.Lays.n146 Tryz.prog Tryz.laysSplit_ren:={
 mixed:=by kernel_rfl
 f138:=Tryz.func202.trans yZ
 f143:=Tryz.func144.trans yZ
 f146:=Tryz.func143.trans yZ
 f195:=Tryz.func209.trans yZ
 f197:=Tryz.func210.trans yZ
 f217:=Tryz.func197.trans yZ
 f218:=Tryz.func211.trans yZ
 f219:=Tryz.func175.trans yZ
 f221:=Tryz.func176.trans yZ
 f224:=Tryz.func199.trans yZ
 f225:=Tryz.func198.trans yZ
 f260:=Tryz.func213.trans yZ
 f266:=Tryz.func207.trans yZ
 f267:=Tryz.func200.trans yZ
 f268:=Tryz.func201.trans yZ
 f314:=Tryz.func208.trans yZ
 t0:=Tryz.underlying0
 a0:=Tryz.isAgg0
 z0:=Tryz.sizeOf0
 v0:=Tryz.zeroValue0
 t3:=Tryz.underlying3
 a3:=Tryz.isAgg3
 z3:=Tryz.sizeOf3
 v3:=Tryz.zeroValue3
 t4:=Tryz.underlying4
 a4:=Tryz.isAgg4
 z4:=Tryz.sizeOf4
 v4:=Tryz.zeroValue4
 t5:=Tryz.underlying5
 a5:=Tryz.isAgg5
 z5:=Tryz.sizeOf5
 v5:=Tryz.zeroValue5
 t9:=Tryz.underlying9
 a9:=Tryz.isAgg9
 z9:=Tryz.sizeOf9
 v9:=Tryz.zeroValue9
 t21:=Tryz.underlying21
 a21:=Tryz.isAgg21
 z21:=Tryz.sizeOf21
 v21:=Tryz.zeroValue21
 t31:=Tryz.underlying34
 a31:=Tryz.isAgg34
 z31:=Tryz.sizeOf34
 v31:=Tryz.zeroValue34
 t46:=Tryz.underlying153
 a46:=Tryz.isAgg153
 z46:=Tryz.sizeOf153
 v46:=Tryz.zeroValue153
 t51:=Tryz.underlying101
 a51:=Tryz.isAgg101
 z51:=Tryz.sizeOf101
 v51:=Tryz.zeroValue101
 t105:=Tryz.underlying254
 a105:=Tryz.isAgg254
 z105:=Tryz.sizeOf254
 v105:=Tryz.zeroValue254
 t119:=Tryz.underlying180
 a119:=Tryz.isAgg180
 z119:=Tryz.sizeOf180
 t138:=Tryz.underlying194
 a138:=Tryz.isAgg194
 z138:=Tryz.sizeOf194
 v138:=Tryz.zeroValue194
 t139:=Tryz.underlying195
 a139:=Tryz.isAgg195
 z139:=Tryz.sizeOf195
 v139:=Tryz.zeroValue195
 t146:=Tryz.underlying247
 a146:=Tryz.isAgg247
 z146:=Tryz.sizeOf247
 v146:=Tryz.zeroValue247
 g1:=by kernel_rfl
 g3:=by kernel_rfl
 g4:=by kernel_rfl}
def Tryz.laysFields_ren:Go.Shelf.Ren:=⟨fun|157=>90|229=>140|199=>141|261=>174|311=>195|312=>196|n=>n,fun|9=>9|31=>34|3=>3|5=>5|4=>4|119=>180|0=>0|40=>182|152=>212|21=>21|154=>214|51=>101|141=>216|196=>235|193=>232|198=>238|49=>236|194=>233|201=>241|226=>250|46=>153|227=>251|n=>n,fun|0=>0|6=>3|n=>n⟩
theorem Tryz.laysFields:Go.Proofs.Lays.n157 Tryz.prog Tryz.laysFields_ren:={
 mixed:=by kernel_rfl
 f157:=Tryz.func90.trans yZ
 f199:=Tryz.func141.trans yZ
 f229:=Tryz.func140.trans yZ
 f261:=Tryz.func174.trans yZ
 f311:=Tryz.func195.trans yZ
 f312:=Tryz.func196.trans yZ
 t0:=Tryz.underlying0
 a0:=Tryz.isAgg0
 z0:=Tryz.sizeOf0
 v0:=Tryz.zeroValue0
 t3:=Tryz.underlying3
 a3:=Tryz.isAgg3
 z3:=Tryz.sizeOf3
 v3:=Tryz.zeroValue3
 t4:=Tryz.underlying4
 a4:=Tryz.isAgg4
 z4:=Tryz.sizeOf4
 v4:=Tryz.zeroValue4
 t5:=Tryz.underlying5
 a5:=Tryz.isAgg5
 z5:=Tryz.sizeOf5
 v5:=Tryz.zeroValue5
 t9:=Tryz.underlying9
 a9:=Tryz.isAgg9
 z9:=Tryz.sizeOf9
 v9:=Tryz.zeroValue9
 t21:=Tryz.underlying21
 a21:=Tryz.isAgg21
 z21:=Tryz.sizeOf21
 v21:=Tryz.zeroValue21
 t31:=Tryz.underlying34
 a31:=Tryz.isAgg34
 z31:=Tryz.sizeOf34
 v31:=Tryz.zeroValue34
 t40:=Tryz.underlying182
 a40:=Tryz.isAgg182
 z40:=Tryz.sizeOf182
 v40:=Tryz.zeroValue182
 t46:=Tryz.underlying153
 a46:=Tryz.isAgg153
 z46:=Tryz.sizeOf153
 v46:=Tryz.zeroValue153
 t49:=Tryz.underlying236
 a49:=Tryz.isAgg236
 z49:=Tryz.sizeOf236
 v49:=Tryz.zeroValue236
 t51:=Tryz.underlying101
 a51:=Tryz.isAgg101
 z51:=Tryz.sizeOf101
 v51:=Tryz.zeroValue101
 t119:=Tryz.underlying180
 a119:=Tryz.isAgg180
 z119:=Tryz.sizeOf180
 t141:=Tryz.underlying216
 a141:=Tryz.isAgg216
 z141:=Tryz.sizeOf216
 v141:=Tryz.zeroValue216
 t152:=Tryz.underlying212
 a152:=Tryz.isAgg212
 z152:=Tryz.sizeOf212
 v152:=Tryz.zeroValue212
 t154:=Tryz.underlying214
 a154:=Tryz.isAgg214
 z154:=Tryz.sizeOf214
 v154:=Tryz.zeroValue214
 t193:=Tryz.underlying232
 a193:=Tryz.isAgg232
 z193:=Tryz.sizeOf232
 v193:=Tryz.zeroValue232
 t194:=Tryz.underlying233
 a194:=Tryz.isAgg233
 z194:=Tryz.sizeOf233
 v194:=Tryz.zeroValue233
 t196:=Tryz.underlying235
 a196:=Tryz.isAgg235
 z196:=Tryz.sizeOf235
 v196:=Tryz.zeroValue235
 t198:=Tryz.underlying238
 a198:=Tryz.isAgg238
 z198:=Tryz.sizeOf238
 v198:=Tryz.zeroValue238
 t201:=Tryz.underlying241
 a201:=Tryz.isAgg241
 z201:=Tryz.sizeOf241
 v201:=Tryz.zeroValue241
 t226:=Tryz.underlying250
 a226:=Tryz.isAgg250
 z226:=Tryz.sizeOf250
 v226:=Tryz.zeroValue250
 t227:=Tryz.underlying251
 a227:=Tryz.isAgg251
 z227:=Tryz.sizeOf251
 v227:=Tryz.zeroValue251
 g0:=by kernel_rfl
 g6:=by kernel_rfl}
def Tryz.laysCut_ren:Go.Shelf.Ren:=⟨fun|145=>91|220=>142|219=>175|217=>197|225=>198|224=>199|267=>200|266=>207|314=>208|n=>n,fun|9=>9|4=>4|59=>138|3=>3|5=>5|46=>153|146=>247|51=>101|n=>n,fun|1=>5|n=>n⟩
theorem Tryz.laysCut:Go.Proofs.Lays.n145 Tryz.prog Tryz.laysCut_ren:={
 mixed:=by kernel_rfl
 f145:=Tryz.func91.trans yZ
 f217:=Tryz.func197.trans yZ
 f219:=Tryz.func175.trans yZ
 f220:=Tryz.func142.trans yZ
 f224:=Tryz.func199.trans yZ
 f225:=Tryz.func198.trans yZ
 f266:=Tryz.func207.trans yZ
 f267:=Tryz.func200.trans yZ
 f314:=Tryz.func208.trans yZ
 t3:=Tryz.underlying3
 a3:=Tryz.isAgg3
 z3:=Tryz.sizeOf3
 v3:=Tryz.zeroValue3
 t4:=Tryz.underlying4
 a4:=Tryz.isAgg4
 z4:=Tryz.sizeOf4
 v4:=Tryz.zeroValue4
 t5:=Tryz.underlying5
 a5:=Tryz.isAgg5
 z5:=Tryz.sizeOf5
 v5:=Tryz.zeroValue5
 t9:=Tryz.underlying9
 a9:=Tryz.isAgg9
 z9:=Tryz.sizeOf9
 v9:=Tryz.zeroValue9
 t46:=Tryz.underlying153
 a46:=Tryz.isAgg153
 z46:=Tryz.sizeOf153
 v46:=Tryz.zeroValue153
 t51:=Tryz.underlying101
 a51:=Tryz.isAgg101
 z51:=Tryz.sizeOf101
 v51:=Tryz.zeroValue101
 t59:=Tryz.underlying138
 a59:=Tryz.isAgg138
 z59:=Tryz.sizeOf138
 v59:=Tryz.zeroValue138
 t146:=Tryz.underlying247
 a146:=Tryz.isAgg247
 z146:=Tryz.sizeOf247
 v146:=Tryz.zeroValue247
 g1:=by kernel_rfl}
def Tryz.laysContains_ren:Go.Shelf.Ren:=⟨fun|144=>94|143=>144|219=>175|217=>197|225=>198|224=>199|267=>200|266=>207|314=>208|n=>n,fun|9=>9|4=>4|3=>3|5=>5|46=>153|146=>247|51=>101|n=>n,fun|1=>5|n=>n⟩
theorem Tryz.laysContains:Go.Proofs.Lays.n144 Tryz.prog Tryz.laysContains_ren:={
 mixed:=by kernel_rfl
 f143:=Tryz.func144.trans yZ
 f144:=Tryz.func94.trans yZ
 f217:=Tryz.func197.trans yZ
 f219:=Tryz.func175.trans yZ
 f224:=Tryz.func199.trans yZ
 f225:=Tryz.func198.trans yZ
 f266:=Tryz.func207.trans yZ
 f267:=Tryz.func200.trans yZ
 f314:=Tryz.func208.trans yZ
 t3:=Tryz.underlying3
 a3:=Tryz.isAgg3
 z3:=Tryz.sizeOf3
 v3:=Tryz.zeroValue3
 t4:=Tryz.underlying4
 a4:=Tryz.isAgg4
 z4:=Tryz.sizeOf4
 v4:=Tryz.zeroValue4
 t5:=Tryz.underlying5
 a5:=Tryz.isAgg5
 z5:=Tryz.sizeOf5
 v5:=Tryz.zeroValue5
 t9:=Tryz.underlying9
 a9:=Tryz.isAgg9
 z9:=Tryz.sizeOf9
 v9:=Tryz.zeroValue9
 t46:=Tryz.underlying153
 a46:=Tryz.isAgg153
 z46:=Tryz.sizeOf153
 v46:=Tryz.zeroValue153
 t51:=Tryz.underlying101
 a51:=Tryz.isAgg101
 z51:=Tryz.sizeOf101
 v51:=Tryz.zeroValue101
 t146:=Tryz.underlying247
 a146:=Tryz.isAgg247
 z146:=Tryz.sizeOf247
 v146:=Tryz.zeroValue247
 g1:=by kernel_rfl}
end Go.Proofs
namespace Go.Proofs.YtmakjjodkiedmaaGreatDoor
open Go.RowKit
def bT(x:Int):List Int->Nat->Int
 |[],_=> -1
 |y::l,k=>if x==y then k else bT x l (k+1)
def before(l:List Int)(a b:Int):Bool:=decide (0<=bT a l 0)&&decide (bT a l 0<bT b l 0)
def V:List Nat->Nat
 |[]=>0
 |d::l=>d+65536*V l
def Dg(l:List Nat):Prop:=∀d∈l,d<65536
def dig(n:Nat):List Nat:=if n=0 then []else(n%65536)::dig (n/65536)
decreasing_by omega
theorem jM:dig 0=[]:=by rw[dig];simp
theorem vX{n:Nat}(h:n≠0):dig n=(n%65536)::dig (n/65536):=by rw[dig];simp[h]
theorem gI0:V []=0:=rfl
theorem xI(d:Nat)(l:List Nat):V (d::l)=d+65536*V l:=rfl
theorem tO(a b:List Nat):V (a++b)=V a+65536^a.length*V b:=by
 induction a with
 |nil=>simp[gI0]
 |cons d a ih=>rw[List.cons_append,xI,ih,xI,Ak,Cs,Nat.mul_add];rw[Nat.add_assoc];congr 2;rw[<-Nat.mul_assoc];congr 1;exact Cf _ _
theorem dA(a:List Nat)(d:Nat):V (a++[d])=V a+65536^a.length*d:=by rw[tO,xI,gI0];simp
theorem Dg.nil:Dg []:=fun _ h=>by cases h
theorem Dg.snoc{a:List Nat}(h:Dg a){d:Nat}(h1:d<65536):Dg (a++[d]):=fun x hx=>by
 rcases Az.1 hx with hx|hx
 ·exact h x hx
 ·rw[List.mem_singleton.1 hx];exact h1
theorem Dg.take{a:List Nat}(h:Dg a)(n:Nat):Dg (a.take n):=fun x hx=>h x (List.mem_of_mem_take hx)
theorem Dg.at{a:List Nat}(h:Dg a){i:Nat}(hi:i<a.length):a[i]<65536:=h _ (Di hi)
theorem V_lt{l:List Nat}(h:Dg l):V l<65536^l.length:=by
 induction l with
 |nil=>simp[gI0]
 |cons d l ih=>
  have h1:=h d (By ..);have h2:=ih (fun x hx=>h x (Bl _ hx));rw[xI,Ak,Cs];omega
theorem xT{l:List Nat}{m:Nat}(h:m<l.length):V (l.take (m+1))=V (l.take m)+65536^m*l[m]:=by
 rw[Df h,dA,At,Nat.min_eq_left (Nat.le_of_lt h)]
theorem V_take_drop(l:List Nat)(m:Nat)(h:m<=l.length):V l=V (l.take m)+65536^m*V (l.drop m):=by
 have e:=tO (l.take m) (l.drop m);rw[Da,At,Nat.min_eq_left h]at e;exact e
theorem zC0(n:Nat):Dg (dig n):=by
 induction n using Nat.strongRecOn with
 |_ n ih=>
  by_cases h:n=0
  ·subst h;rw[jM];exact Dg.nil
  ·rw[vX h];intro x hx;rcases Bc.1 hx with rfl|hx
   ·omega
   ·exact ih (n/65536) om x hx
theorem gO(n:Nat):V (dig n)=n:=by
 induction n using Nat.strongRecOn with
 |_ n ih=>
  by_cases h:n=0
  ·subst h;rw[jM];rfl
  ·rw[vX h,xI,ih (n/65536) om];omega
def kU0(l:List Nat):Prop:=∀h:l≠[],l.getLast h≠0
theorem dig_V{l:List Nat}(h:Dg l)(hn:kU0 l):dig (V l)=l:=by
 induction l with
 |nil=>exact jM
 |cons d l ih=>
  have h1:=h d (By ..);have hl:Dg l:=fun x hx=>h x (Bl _ hx);have hnl:kU0 l:=fun hne=>by
   have:=hn (by simp);rw[List.getLast_cons hne]at this;exact this
  have h0:V (d::l)≠0:=by
   rw[xI];intro e;have hd:d=0:=by omega
   have hv:V l=0:=by omega
   cases l with
   |nil=>exact hn (by simp) (by simpa using hd)
   |cons x l=>
    have:=ih hl hnl;rw[hv,jM]at this
    cases this
  rw[vX h0,xI];have e1:(d+65536*V l)%65536=d:=by omega
  have e2:(d+65536*V l)/65536=V l:=by omega
  rw[e1,e2,ih hl hnl]
theorem qL{n k:Nat}(h:n<65536^k):(dig n).length<=k:=by
 induction k generalizing n with
 |zero=>
  have:n=0:=by simpa using h
  subst this;rw[jM];simp
 |succ k ih=>
  by_cases h0:n=0
  ·subst h0;rw[jM];simp
  ·rw[vX h0,Ak];have:=ih (n:=n/65536) (by rw[Cs]at h;omega);omega
theorem jN0(n:Nat):n<65536^(dig n).length:=by
 have:=V_lt (zC0 n)
 rwa[gO]at this
theorem dig_ge{n:Nat}(h:n≠0):65536^((dig n).length-1)<=n:=by
 rcases Bm n (65536^((dig n).length-1))with h1|h1
 ·have h2:=qL h1;have:(dig n).length≠0:=by rw[vX h];simp
  omega
 ·exact h1
theorem kR{x y:Nat}(h:(dig x).length<(dig y).length):x<y:=by
 have h0:y≠0:=by intro e;subst e;rw[jM]at h;simp at h
 have h1:=jN0 x;have h2:=dig_ge h0;exact Cr h1 (Bg (Cp om om) h2)
theorem yW{x y:Nat}(h:x<=y):(dig x).length<=(dig y).length:=by
 rcases Bm (dig y).length (dig x).length with h1|h1
 ·have:=kR h1;omega
 ·exact h1
theorem dig_eq_nil{n:Nat}:dig n=[]↔n=0:=by
 constructor
 ·intro h;by_cases h0:n=0
  ·exact h0
  ·rw[vX h0]at h;cases h
 ·rintro rfl;exact jM
theorem vU{l:List Nat}{i:Nat}(h:i<l.length):l.getD i 0=l[i]:=by rw[Aj,Af h];rfl
theorem wM{l:List Nat}{i:Nat}(h:l.length<=i):l.getD i 0=0:=by rw[Aj,Dc h];rfl
theorem vC(l:List Nat)(i:Nat):V (l.take (i+1))=V (l.take i)+65536^i*(l.getD i 0):=by
 by_cases hl:i<l.length
 ·rw[xT hl,vU hl]
 ·rw[Am om,Am om,wM om];simp
theorem plus_step{la lb o:List Nat}{i c x:Nat}(h:V o+c*65536^i=V (la.take i)+V (lb.take i))(ho:o.length=i)
  (hx:x=c+(la.getD i 0)+(lb.getD i 0)):
  V (o++[(x%65536)])+x/65536*65536^(i+1)=V (la.take (i+1))+V (lb.take (i+1)):=by
 rw[dA,ho,vC la,vC lb,Cs];generalize 65536^i=B at*;have e:x=65536*(x/65536)+x%65536:=(Nat.div_add_mod x 65536).symm;have e2:B*x=B*(65536*(x/65536))+B*(x%65536):=by rw[<-Nat.mul_add,<-e]
 have e3:B*x=B*c+B*(la.getD i 0)+B*(lb.getD i 0):=by rw[hx,Nat.mul_add,Nat.mul_add]
 have e4:x/65536*(B*65536)=B*(65536*(x/65536)):=by rw[Cf,Nat.mul_assoc]
 have e5:c*B=B*c:=Cf _ _;omega
theorem minus_step{la lb o:List Nat}{i c x c':Nat}(h:V o+V (lb.take i)=V (la.take i)+c*65536^i)(ho:o.length=i)(hi:i<la.length)(hx:x+(lb.getD i 0)+c=la[i]+65536*c'):
  V (o++[x])+V (lb.take (i+1))=V (la.take (i+1))+c'*65536^(i+1):=by
 rw[dA,ho,vC lb,xT hi,Cs];generalize 65536^i=B at*;have e1:B*x+B*(lb.getD i 0)+B*c=B*la[i]+B*(65536*c'):=by rw[<-Nat.mul_add,<-Nat.mul_add,<-Nat.mul_add,hx]
 have e2:c'*(B*65536)=B*(65536*c'):=by rw[Cf,Nat.mul_assoc]
 have e3:c*B=B*c:=Cf _ _;omega
def cmpN(x y:Nat):Int:=if x<y then-1 else if y<x then 1 else 0
theorem xP0{l:List Nat}{i:Nat}(h:i<l.length):V l=V (l.take i)+65536^i*(l[i]+65536*V (l.drop (i+1))):=by
 rw[V_take_drop l i (Nat.le_of_lt h),Dk h,xI]
theorem lt_at{la lb:List Nat}{i:Nat}(ha:Dg la)(hl:la.length=lb.length)(hi:i<la.length)(hd:la.drop (i+1)=lb.drop (i+1))(h:la[i]<lb[i]):V la<V lb:=by
 rw[xP0 hi,xP0 (l:=lb) (i:=i) om,hd];have h1:=V_lt (ha.take i);rw[At,Nat.min_eq_left (Nat.le_of_lt hi)]at h1;generalize 65536*V (lb.drop (i+1))=D;have h4:65536^i*(la[i]+D)+65536^i<=65536^i*(lb[i]+D):=by
  rw[<-Nat.mul_succ];exact Nat.mul_le_mul_left _ om
 omega
theorem double_step{la o:List Nat}{i c one x:Nat}(h:V o+c*65536^i=2*V (la.take i)+one)(ho:o.length=i)(hi:i<la.length)(hx:x=2*la[i]+c):
  V (o++[(x%65536)])+x/65536*65536^(i+1)=2*V (la.take (i+1))+one:=by
 rw[dA,ho,xT hi,Cs];generalize 65536^i=B at*;have e:x=65536*(x/65536)+x%65536:=(Nat.div_add_mod x 65536).symm;have e2:B*x=B*(65536*(x/65536))+B*(x%65536):=by rw[<-Nat.mul_add,<-e]
 have e3:B*x=B*(2*la[i])+B*c:=by rw[hx,Nat.mul_add]
 have e4:x/65536*(B*65536)=B*(65536*(x/65536)):=by rw[Cf,Nat.mul_assoc]
 have e5:c*B=B*c:=Cf _ _;have e6:B*(2*la[i])=2*(B*la[i]):=by rw[Nat.mul_left_comm]
 omega
def VB:List Bool->Nat
 |[]=>0
 |b::l=>b.toNat+2*VB l
theorem dB(b:Bool)(l:List Bool):VB (b::l)=b.toNat+2*VB l:=rfl
theorem zI0(a b:List Bool):VB (a++b)=VB a+2^a.length*VB b:=by
 induction a with
 |nil=>simp[VB]
 |cons d a ih=>rw[List.cons_append,dB,ih,dB,Ak,Cs,Nat.mul_add,Nat.add_assoc];congr 2;rw[<-Nat.mul_assoc];congr 1;exact Cf _ _
theorem VB_snoc(a:List Bool)(b:Bool):VB (a++[b])=VB a+2^a.length*b.toNat:=by rw[zI0,dB];simp[VB]
theorem VB_lt(l:List Bool):VB l<2^l.length:=by
 induction l with
 |nil=>simp[VB]
 |cons b l ih=>rw[dB,Ak,Cs];cases b<;>simp<;>omega
theorem ones_step{o:List Bool}{j x X:Nat}(h:VB o+x*2^j=X)(ho:o.length=j):VB (o++[x%2==1])+x/2*2^(j+1)=X:=by
 rw[VB_snoc,ho,Cs,<-h];have e:x=2*(x/2)+x%2:=(Nat.div_add_mod x 2).symm;have e2:x*2^j=x/2*(2^j*2)+2^j*(x%2):=by
  conv=>lhs;rw[e,Bh]
  rw[Cf (x%2),Cf 2 (x/2),Nat.mul_assoc,Cf 2 (2^j)]
 have e3:(x%2==1).toNat=x%2:=by rcases Nat.mod_two_eq_zero_or_one x with h2|h2<;>simp[h2]
 rw[e3];omega
def wE(l:List Bool)(i k:Nat):Nat:=VB ((l.drop (i+k)).take (16-k))
theorem chunk_top(l:List Bool)(i:Nat):wE l i 16=0:=by unfold wE;simp[VB]
theorem chunk_step{l:List Bool}{i k:Nat}(hk:k<16):wE l i k=2*wE l i (k+1)+(if h:i+k<l.length then(l[i+k]).toNat else 0):=by
 unfold wE;by_cases h:i+k<l.length
 ·rw[dif_pos h,Dk h,show 16-k=16-(k+1)+1 by omega,List.take_succ_cons,dB,show i+(k+1)=i+k+1 by omega];omega
 ·rw[dif_neg h,Bq om,Bq om];simp[VB]
theorem jT0(l:List Bool)(i k:Nat):wE l i k<65536:=by
 have h1:=VB_lt ((l.drop (i+k)).take (16-k));have h2:2^((l.drop (i+k)).take (16-k)).length<=2^16:=Cp om (by simp;omega);unfold wE;omega
theorem binary_step{l:List Bool}{o:List Nat}{j:Nat}(h:V o=VB (l.take (16*j)))(ho:o.length=j)(hj:16*j<l.length):V (o++[(wE l (16*j) 0)])=VB (l.take (16*(j+1))):=by
 rw[dA,h,ho];have e:l.take (16*(j+1))=l.take (16*j)++(l.drop (16*j)).take 16:=by rw[show 16*(j+1)=16*j+16 by omega,List.take_add]
 rw[e,zI0,At,Nat.min_eq_left (Nat.le_of_lt hj),Nat.pow_mul];rfl
theorem gcd_even2{a b:Nat}(ha:a%2=0)(hb:b%2=0):Nat.gcd a b=2*Nat.gcd (a/2) (b/2):=by
 rw[<-Nat.gcd_mul_left,show 2*(a/2)=a by omega,show 2*(b/2)=b by omega]
theorem cR{a b:Nat}(ha:a%2=0)(hb:b%2=1):Nat.gcd a b=Nat.gcd (a/2) b:=by
 have h:Nat.Coprime 2 b:=by
  have h1:Nat.gcd 2 b∣2:=Nat.gcd_dvd_left 2 b;have h2:=Nat.gcd_dvd_right 2 b;have h3:=Nat.le_of_dvd om h1;have h0:Nat.gcd 2 b≠0:=fun e=>by rw[e]at h1;simp at h1
  rcases(show Nat.gcd 2 b=1\/Nat.gcd 2 b=2 by omega)with h4|h4
  ·exact h4
  ·rw[h4]at h2;omega
 have e:a=2*(a/2):=by omega
 conv=>lhs;rw[e]
 exact Nat.Coprime.gcd_mul_left_cancel _ h
theorem jB0{a b:Nat}(h:b<=a):Nat.gcd a b=Nat.gcd (a-b) b:=by
 conv=>lhs;rw[show a=(a-b)+b by omega]
 exact Nat.gcd_add_self_left ..
theorem plus_in{la lb o:List Nat}{k c:Nat}(ha:Dg la)(hb:Dg lb)(h:V o+c*65536^k=V (la.take k)+V (lb.take k))(hc:0<c):k<=la.length+lb.length:=by
 rcases Bm (la.length+lb.length) k with h1|h1
 ·rw[Am om,Am om]at h;have h2:=V_lt ha;have h3:=V_lt hb;have h4:65536^la.length<=65536^(la.length+lb.length):=Cp om om;have h5:65536^lb.length<=65536^(la.length+lb.length):=Cp om om;have h6:65536^(la.length+lb.length+1)<=65536^k:=Cp om om;have h7:65536^k<=c*65536^k:=Nat.le_mul_of_pos_left _ hc;rw[Cs]at h6;omega
 ·exact h1
theorem plus_done{la lb o:List Nat}{k:Nat}(h:V o+0*65536^k=V (la.take k)+V (lb.take k))(h1:la.length<=k)(h2:lb.length<=k):V o=V la+V lb:=by
 rw[Am h1,Am h2]at h;omega
theorem minus_done{la lb o:List Nat}{c:Nat}(ho:Dg o)(hl:o.length=la.length)(h:V o+V (lb.take la.length)=V (la.take la.length)+c*65536^la.length)(hle:V lb<=V la)(hbl:lb.length<=la.length):V o=V la-V lb:=by
 rw[Am hbl,Am (Ap _)]at h;have h1:=V_lt ho;rw[hl]at h1;rcases Bp c with rfl|hc
 ·omega
 ·have h7:65536^la.length<=c*65536^la.length:=Nat.le_mul_of_pos_left _ hc;omega
def VL:List Nat->Nat
 |[]=>0
 |d::l=>d+4294967296*VL l
def Lg(l:List Nat):Prop:=∀d∈l,d<4294967296
def lim(n:Nat):List Nat:=if n=0 then []else(n%4294967296)::lim (n/4294967296)
decreasing_by omega
theorem jT:lim 0=[]:=by rw[lim];simp
theorem xM{n:Nat}(h:n≠0):lim n=(n%4294967296)::lim (n/4294967296):=by rw[lim];simp[h]
theorem gJ0:VL []=0:=rfl
theorem dE(d:Nat)(l:List Nat):VL (d::l)=d+4294967296*VL l:=rfl
theorem L_append(a b:List Nat):VL (a++b)=VL a+4294967296^a.length*VL b:=by
 induction a with
 |nil=>simp[gJ0]
 |cons d a ih=>rw[List.cons_append,dE,ih,dE,Ak,Cs,Nat.mul_add];rw[Nat.add_assoc];congr 2;rw[<-Nat.mul_assoc];congr 1;exact Cf _ _
theorem L_snoc(a:List Nat)(d:Nat):VL (a++[d])=VL a+4294967296^a.length*d:=by rw[L_append,dE,gJ0];simp
theorem Lg.nil:Lg []:=fun _ h=>by cases h
theorem Lg.at{a:List Nat}(h:Lg a){i:Nat}(hi:i<a.length):a[i]<4294967296:=h _ (Di hi)
theorem L_lt{l:List Nat}(h:Lg l):VL l<4294967296^l.length:=by
 induction l with
 |nil=>simp[gJ0]
 |cons d l ih=>
  have h1:=h d (By ..);have h2:=ih (fun x hx=>h x (Bl _ hx));rw[dE,Ak,Cs];omega
theorem L_take_succ{l:List Nat}{m:Nat}(h:m<l.length):VL (l.take (m+1))=VL (l.take m)+4294967296^m*l[m]:=by
 rw[Df h,L_snoc,At,Nat.min_eq_left (Nat.le_of_lt h)]
theorem lim_Dg(n:Nat):Lg (lim n):=by
 induction n using Nat.strongRecOn with
 |_ n ih=>
  by_cases h:n=0
  ·subst h;rw[jT];exact Lg.nil
  ·rw[xM h];intro x hx;rcases Bc.1 hx with rfl|hx
   ·omega
   ·exact ih (n/4294967296) om x hx
theorem pR0(n:Nat):VL (lim n)=n:=by
 induction n using Nat.strongRecOn with
 |_ n ih=>
  by_cases h:n=0
  ·subst h;rw[jT];rfl
  ·rw[xM h,dE,ih (n/4294967296) om];omega
def tP(l:List Nat):Prop:=∀h:l≠[],l.getLast h≠0
theorem lim_noLead(n:Nat):tP (lim n):=by
 induction n using Nat.strongRecOn with
 |_ n ih=>
  by_cases h:n=0
  ·subst h;rw[jT];exact fun h=>absurd rfl h
  ·rw[xM h];intro hne;by_cases h2:n/4294967296=0
   ·simp only[h2,jT,List.getLast_singleton];omega
   ·have h3:lim (n/4294967296)≠[]:=by rw[xM h2];simp
    rw[List.getLast_cons h3];exact ih (n/4294967296) om h3
theorem lim_V{l:List Nat}(h:Lg l)(hn:tP l):lim (VL l)=l:=by
 induction l with
 |nil=>exact jT
 |cons d l ih=>
  have h1:=h d (By ..);have hl:Lg l:=fun x hx=>h x (Bl _ hx);have hnl:tP l:=fun hne=>by
   have:=hn (by simp);rw[List.getLast_cons hne]at this;exact this
  have h0:VL (d::l)≠0:=by
   rw[dE];intro e;have hd:d=0:=by omega
   have hv:VL l=0:=by omega
   cases l with
   |nil=>exact hn (by simp) (by simpa using hd)
   |cons x l=>
    have:=ih hl hnl;rw[hv,jT]at this
    cases this
  rw[xM h0,dE];have e1:(d+4294967296*VL l)%4294967296=d:=by omega
  have e2:(d+4294967296*VL l)/4294967296=VL l:=by omega
  rw[e1,e2,ih hl hnl]
theorem gF{n k:Nat}(h:n<4294967296^k):(lim n).length<=k:=by
 induction k generalizing n with
 |zero=>
  have:n=0:=by simpa using h
  subst this;rw[jT];simp
 |succ k ih=>
  by_cases h0:n=0
  ·subst h0;rw[jT];simp
  ·rw[xM h0,Ak];have:=ih (n:=n/4294967296) (by rw[Cs]at h;omega);omega
theorem vM{l:List Nat}{i:Nat}(h:i<l.length):l.getD i 0=l[i]:=by rw[Aj,Af h];rfl
theorem of_step{l o:List Nat}{i:Nat}(h:V o=VL (l.take i))(ho:o.length=2*i)(hi:i<l.length):V (o++[l[i]%65536,l[i]/65536])=VL (l.take (i+1)):=by
 rw[tO,h,ho,L_take_succ hi,xI,xI,gI0];have e:l[i]%65536+65536*(l[i]/65536+65536*0)=l[i]:=by omega
 rw[e,Nat.pow_mul]
theorem of_Dg{o:List Nat}(h:Dg o){x:Nat}(hx:x<4294967296):Dg (o++[x%65536,x/65536]):=fun y hy=>by
 rcases Az.1 hy with hy|hy
 ·exact h y hy
 ·simp only[Bc,List.not_mem_nil,or_false]at hy;rcases hy with rfl|rfl<;>omega
def ZI(b:Bool)(n:Nat):Int:=if b then-(n:Int)else n
theorem uG0(b:Bool)(n:Nat):(ZI b n).natAbs=n:=by cases b<;>unfold ZI<;>simp
section
variable{P:Program}{b:Ba}
def exJ{ι:Type}(I:ι->DS)(K:Exit->DS->Prop)(ex:Exit)(S:DS):Prop:=match ex with
 | .normal=>∃i,LeD S (I i)
 |e=>K e S
theorem yS{ι:Type}{I:ι->DS}{K:Exit->DS->Prop}{S:DS}(i:ι)(h:LeD S (I i)):exJ I K .normal S:=⟨i,h⟩
theorem uH{ι:Type}(ks os:List Nat)(N:Nat)(chg:ι->List (Nat×D))(ochg:ι->List (Nat×DOwn)){x y:Code}{tm:List (Nat×D)}{ow:List (Nat×DOwn)}{nx:Nat}{K:Exit->DS->Prop}
  (h:uQ0 ks tm fun base=>uP0 os ow fun ob=>Ev P b x ⟨tm,ow,nx⟩ (exJ (fun i=>⟨chg i++base,ochg i++ob,N⟩) K)/\∀i,Ev P b y ⟨chg i++base,ochg i++ob,N⟩ K):Ev P b (.seq x y) ⟨tm,ow,nx⟩ K:=by
 obtain⟨base,h1⟩:=gH h;obtain⟨ob,h2,h3⟩:=gG h1;refine zB ?_;intro w s g a Q hr hK;refine h2 w s g a Q hr fun ex w' s' g' a' S' h4 h5=>hK ex w' s' g' a' S' h4 ?_
 cases ex with
 |normal=>
  obtain⟨i,hi⟩:=h5;exact pM0 _ hi (h3 i)
 |_=>exact h5
end
def thwD(k:Nat):D->D
 | .own k' sz rows=>match Nat.beq k' k with
  |true=>match rows with
   |[]=> .mo k' 0
   |r::l=> .own k' sz (r::l)
  |false=> .own k' sz rows
 |d=>d
def thwL(k:Nat):List D->List D
 |[]=>[]
 |d::l=>thwD k d::thwL k l
def thwT(k:Nat):List (Nat×D)->List (Nat×D)
 |[]=>[]
 |(t,d)::l=>(t,thwD k d)::thwT k l
def thwO(k:Nat)(e:TypeId)(sz:Nat):List (Nat×DOwn)->List (Nat×DOwn)
 |[]=>[]
 |(j,c)::l=>(match Nat.beq j k with
  |true=>(j,.mrow e sz (.lst []))
  |false=>match c with
   | .box t cs=>(j,.box t (thwL k cs))
   |c=>(j,c))::thwO k e sz l
theorem yY0{k:Nat}:∀{l:List (Nat×D)}{t:Nat},yQ t (thwT k l)=(yQ t l).map (thwD k)
 |[],_=>rfl
 |(u,d)::l,t=>by
  show yQ t ((u,thwD k d)::thwT k l)=_;rw[yN,yN];by_cases h:u=t
  ·simp[h]
  ·rw[Aa h,Aa h];exact yY0
theorem vF0{w:World}{s:Sb}{g:Gh}{k:Nat}(hmo:∀v,g.gn k 0=some v->(TV.mo k 0).P w s g v){d:D}{v:Value}(hv:d.tv.P w s g v):(thwD k d).tv.P w s g v:=by
 cases d with
 |own k' sz rows=>
  show(match Nat.beq k' k with|true=>(match rows with|[]=>D.mo k' 0|r::l=>D.own k' sz (r::l))|false=>D.own k' sz rows).tv.P w s g v
  cases hb:Nat.beq k' k with
  |false=>exact hv
  |true=>
   have e:=Ab hb;subst e
   cases rows with
   |nil=>
    rw[D.tv,TV.P]at hv;show(D.mo k' 0).tv.P w s g v;rw[D.tv];exact hmo v hv.2
   |cons r l=>exact hv
 |_=>exact hv
theorem vE0{w:World}{s:Sb}{g:Gh}{k:Nat}(hmo:∀v,g.gn k 0=some v->(TV.mo k 0).P w s g v):∀{l:List D}{vs:List Value},AllT w s g (D.tvl l) vs->AllT w s g (D.tvl (thwL k l)) vs
 |[],vs,hv=>by cases vs with|nil=>rw[thwL,D.tvl];trivial|cons _ _=>exact hv.elim
 |d::l,[],hv=>by rw[D.tvl]at hv;exact hv.elim
 |d::l,v::vs,hv=>by
  rw[D.tvl]at hv;rw[thwL,D.tvl];exact⟨vF0 hmo hv.1,vE0 hmo hv.2⟩
theorem qA0{k:Nat}:∀{l:List D},(∀d∈D.tvl l,d.one=true)->∀d∈D.tvl (thwL k l),d.one=true
 |[],_,d,hd=>by rw[thwL,D.tvl]at hd;cases hd
 |x::l,h,d,hd=>by
  rw[thwL,D.tvl]at hd;rw[D.tvl]at h;rcases Bc.1 hd with rfl|hd
  ·have h1:=h x.tv (by simp)
   cases x with
   |own k' sz rows=>
    show(match Nat.beq k' k with|true=>(match rows with|[]=>D.mo k' 0|r::l=>D.own k' sz (r::l))|false=>D.own k' sz rows).tv.one=true
    cases Nat.beq k' k with
    |false=>rfl
    |true=>cases rows<;>rfl
   |_=>exact h1
  ·exact qA0 (fun y hy=>h y (by simp[hy])) d hd
theorem yZ0{k:Nat}{e:TypeId}{sz:Nat}:∀{l:List (Nat×DOwn)}{j:Nat}{c:DOwn},yQ j (thwO k e sz l)=some c->∃c0,yQ j l=some c0/\((j=k/\c= .mrow e sz (.lst []))\/(j≠k/\((∃t cs,c0= .box t cs/\c= .box t (thwL k cs))\/(c=c0/\∀t cs,c0≠ .box t cs))))
 |[],_,_,h=>by cases h
 |(i,c0)::l,j,c,h=>by
  unfold thwO at h;have step:∀x:DOwn,yQ j ((i,x)::thwO k e sz l)=some c->(i=j/\x=c)\/(i≠j/\yQ j (thwO k e sz l)=some c):=fun x hx=>by
   rw[yN]at hx;by_cases hi:i=j
   ·rw[Ag hi]at hx;exact .inl ⟨hi,Option.some.inj hx⟩
   ·rw[Aa hi]at hx;exact .inr ⟨hi,hx⟩
  have rest:i≠j->yQ j (thwO k e sz l)=some c->∃c0',yQ j ((i,c0)::l)=some c0'/\((j=k/\c= .mrow e sz (.lst []))\/(j≠k/\((∃t cs,c0'= .box t cs/\c= .box t (thwL k cs))\/(c=c0'/\∀t cs,c0'≠ .box t cs)))):=fun hi hx=>by
   obtain⟨c1,h1,h2⟩:=yZ0 hx;exact⟨c1,by rw[yN,Aa hi];exact h1,h2⟩
  cases hb:Nat.beq i k with
  |true=>
   rw[hb]at h;have hik:=Ab hb;rcases step _ h with⟨rfl,rfl⟩|⟨hi,hx⟩
   ·exact⟨c0,by rw[yN];simp,.inl ⟨hik,rfl⟩⟩
   ·exact rest hi hx
  |false=>
   rw[hb]at h;have hik:i≠k:=by rintro rfl;rw[Nat.beq_refl]at hb;cases hb
   cases c0 with
   |box t cs=>
    rcases step _ h with⟨rfl,rfl⟩|⟨hi,hx⟩
    ·exact⟨_,by rw[yN];simp,.inr ⟨hik,.inl ⟨t,cs,rfl,rfl⟩⟩⟩
    ·exact rest hi hx
   |_=>
    rcases step _ h with⟨rfl,rfl⟩|⟨hi,hx⟩
    ·exact⟨_,by rw[yN];simp,.inr ⟨hik,.inr ⟨rfl,fun _ _ h=>by cases h⟩⟩⟩
    ·exact rest hi hx
section
variable{P:Program}{b:Ba}
theorem wO0(k:Nat){e:TypeId}{sz:Nat}{c:Code}{tm:List (Nat×D)}{ow:List (Nat×DOwn)}{nx:Nat}{K:Exit->DS->Prop}(hk:yQ k ow=some (.row e sz 0))
  (h:Ev P b c ⟨thwT k tm,thwO k e sz ow,nx⟩ K):Ev P b c ⟨tm,ow,nx⟩ K:=by
 intro w s g a Q hr hK;have hk0:fnd k (ows ow)=some (.row e sz 0):=by rw[qD,hk];rfl
 obtain⟨hok,hblk⟩:=hr.ow k _ hk0;obtain⟨hmr,hmo⟩:=hok.thaw;have howf:∀{j:Nat}{c:Own},fnd j (ows (thwO k e sz ow))=some c->∃c0,fnd j (ows ow)=some c0/\Ok1 w s g j c/\blk g j c=blk g j c0:=fun{j c}hj=>by
  rw[qD]at hj
  cases hq:yQ j (thwO k e sz ow)with
  |none=>rw[hq]at hj;cases hj
  |some d=>
   rw[hq]at hj
   cases hj;obtain⟨c0,h1,h2⟩:=yZ0 hq;have h1':fnd j (ows ow)=some c0.o:=by rw[qD,h1];rfl
   refine⟨c0.o,h1',?_⟩;rcases h2 with⟨rfl,rfl⟩|⟨hne,⟨t,cs,rfl,rfl⟩|⟨rfl,_⟩⟩
   ·rw[hk]at h1
    cases h1;exact⟨hmr,rfl⟩
   ·obtain⟨N,vs,g1,g2,g3,g4,g5⟩:=(hr.ow j _ h1').1;exact⟨⟨N,vs,g1,g2,vE0 hmo g3,qA0 g4,g5⟩,rfl⟩
   ·exact⟨(hr.ow j _ h1').1,rfl⟩
 refine h w s g a Q ⟨hr.kp,hr.lt,hr.sz,fun t d hd=>?_,fun j c hj=>?_,fun j j' c c' N h1 h2 hne hb=>?_,hr.fr,hr.df,hr.gb⟩ hK
 ·have hd':fnd t (tvs (thwT k tm))=some d:=hd;rw[qE,yY0]at hd'
  cases hq:yQ t tm with
  |none=>rw[hq]at hd';cases hd'
  |some x=>
   rw[hq]at hd'
   cases hd';obtain⟨v,h1,h2⟩:=hr.tm t x.tv (by show fnd t (tvs tm)=_;rw[qE,hq];rfl);exact⟨v,h1,vF0 hmo h2⟩
 ·obtain⟨c0,h1,h2,h3⟩:=howf hj;exact⟨h2,fun N hb=>(hr.ow j c0 h1).2 N (by rw[<-h3];exact hb)⟩
 ·obtain⟨c0,e1,_,e3⟩:=howf h1;obtain⟨d0,f1,_,f3⟩:=howf h2;rw[f3];exact hr.sep j j' c0 d0 N e1 f1 hne (by rw[<-e3];exact hb)
end
theorem Sub.mo{k n m:Nat}(h:n=m):Sub (.mo k n) (.mo k m):=by subst h;exact u0 _
theorem SubO.mr{ty:TypeId}{sz:Nat}{m m':MR}(h:m.rows=m'.rows):SubO (.mrow ty sz m) (.mrow ty sz m'):=⟨rfl,rfl,congrArg D.pvss h⟩
theorem SubO.mp{ty:TypeId}{sz:Nat}{m m':MR}(h:D.pvss m.rows=D.pvss m'.rows):SubO (.mrow ty sz m) (.mrow ty sz m'):=⟨rfl,rfl,h⟩
end Go.Proofs.YtmakjjodkiedmaaGreatDoor
