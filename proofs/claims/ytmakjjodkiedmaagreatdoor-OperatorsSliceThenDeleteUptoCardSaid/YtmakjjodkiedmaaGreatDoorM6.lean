/-Part 6 of the proof. -/
import Derived.Test.YtmakjjodkiedmaaGreatDoorM5
namespace Go.Proofs.YtmakjjodkiedmaaGreatDoor
open Go.RowKit
def sLt(p q:ByteArray):Bool:=Op.bytesLess p.toList q.toList
def bAnd(k:IntKind)(n m:Int):Int:=k.wrap (BitVec.ofInt k.bits n&&&BitVec.ofInt k.bits m).toNat
def bOr(k:IntKind)(n m:Int):Int:=k.wrap (BitVec.ofInt k.bits n|||BitVec.ofInt k.bits m).toNat
def bXor(k:IntKind)(n m:Int):Int:=k.wrap (BitVec.ofInt k.bits n^^^BitVec.ofInt k.bits m).toNat
def mR0(k:IntKind)(n m:Int):Int:=k.wrap (BitVec.ofInt k.bits n&&& ~~~BitVec.ofInt k.bits m).toNat
def bNot(k:IntKind)(n:Int):Int:=bXor k (if k.signed then-1 else k.max) n
section
variable{P:Program}{tm:List (Nat×TV)}{dst:Option Tmp}{ty:TypeId}{pos:String}{aft:Array Edge}{gd:Option (Nat×Bool)}{x y:Operand}{t u:TypeId}{k:IntKind}{n m:Int}{p q:ByteArray}
theorem u_addStr(hx:Opd tm x (.pv (PV.lit (.string p))))(hy:Opd tm y (.pv (PV.lit (.string q))))(h:p.size+q.size<=9223372036854775807):UOp P ⟨dst,.binOp .add t x y u,ty,pos,aft,gd⟩ tm [] (.pv (PV.lit (.string (p++q)))) []:=
 UOp.two hx hy fun ρ w h1 h2=>by
  have hm:IntKind.i64.max=9223372036854775807:=by decide
  have:¬(((p.size+q.size:Nat):Int)>IntKind.i64.max):=by rw[hm];omega
  have hr:(Op.stringOp .add p q).run P w= .ok (.string (p++q)) w:=by
   unfold Op.stringOp;simp only[this,if_false];rfl
  have hb:(binOp .add t (.string p) (.string q)).run P w= .ok (.string (p++q)) w:=hr;simp only[execOp,h1,h2];simp[eqGuard,hb]
theorem uY0{op:BinOp}{b:Bool}(h:∀w,(Op.stringOp op p q).run P w= .ok (.bool b) w)(ho:op= .lss\/op= .geq)(hx:Opd tm x (.pv (PV.lit (.string p))))(hy:Opd tm y (.pv (PV.lit (.string q)))):UOp P ⟨dst,.binOp op t x y u,ty,pos,aft,gd⟩ tm [] (.pv (PV.lit (.bool b))) []:=
 UOp.two hx hy fun ρ w h1 h2=>by
  have hb:(binOp op t (.string p) (.string q)).run P w= .ok (.bool b) w:=by
   rcases ho with rfl|rfl<;>exact h w
  simp only[execOp,h1,h2];rcases ho with rfl|rfl<;>simp[eqGuard,hb]
theorem u_lssS(hx:Opd tm x (.pv (PV.lit (.string p))))(hy:Opd tm y (.pv (PV.lit (.string q)))):UOp P ⟨dst,.binOp .lss t x y u,ty,pos,aft,gd⟩ tm [] (.pv (PV.lit (.bool (sLt p q)))) []:=uY0 (fun _=>rfl) (.inl rfl) hx hy
theorem u_geqS(hx:Opd tm x (.pv (PV.lit (.string p))))(hy:Opd tm y (.pv (PV.lit (.string q)))):UOp P ⟨dst,.binOp .geq t x y u,ty,pos,aft,gd⟩ tm [] (.pv (PV.lit (.bool (!sLt p q)))) []:=uY0 (fun _=>rfl) (.inr rfl) hx hy
theorem u_and(hx:Opd tm x (.pv (PV.lit (.int k n))))(hy:Opd tm y (.pv (PV.lit (.int k m)))):UOp P ⟨dst,.binOp .and t x y u,ty,pos,aft,gd⟩ tm [] (.pv (PV.lit (.int k (bAnd k n m)))) []:=
 UOp.two hx hy fun ρ w h1 h2=>by simp[execOp,h1,h2,go_sem,Op.intBits,bAnd]
theorem u_or(hx:Opd tm x (.pv (PV.lit (.int k n))))(hy:Opd tm y (.pv (PV.lit (.int k m)))):UOp P ⟨dst,.binOp .or t x y u,ty,pos,aft,gd⟩ tm [] (.pv (PV.lit (.int k (bOr k n m)))) []:=
 UOp.two hx hy fun ρ w h1 h2=>by simp[execOp,h1,h2,go_sem,Op.intBits,bOr]
theorem u_xor(hx:Opd tm x (.pv (PV.lit (.int k n))))(hy:Opd tm y (.pv (PV.lit (.int k m)))):UOp P ⟨dst,.binOp .xor t x y u,ty,pos,aft,gd⟩ tm [] (.pv (PV.lit (.int k (bXor k n m)))) []:=
 UOp.two hx hy fun ρ w h1 h2=>by simp[execOp,h1,h2,go_sem,Op.intBits,bXor]
theorem u_andNot(hx:Opd tm x (.pv (PV.lit (.int k n))))(hy:Opd tm y (.pv (PV.lit (.int k m)))):UOp P ⟨dst,.binOp .andNot t x y u,ty,pos,aft,gd⟩ tm [] (.pv (PV.lit (.int k (mR0 k n m)))) []:=
 UOp.two hx hy fun ρ w h1 h2=>by simp[execOp,h1,h2,go_sem,Op.intBits,mR0]
theorem u_compl(hx:Opd tm x (.pv (PV.lit (.int k n)))):UOp P ⟨dst,.unOp .xor t x,ty,pos,aft,gd⟩ tm [] (.pv (PV.lit (.int k (bNot k n)))) []:=
 UOp.pure fun w s g a ht=>by
  have hb:=Opd.lit ht hx;refine⟨_,yG (s:=Op.unary .xor (a.eval x)) ?_,rfl⟩;rw[hb];simp[Op.unary,Op.intBits,bNot,bXor]
theorem mX0{k':IntKind}(hx:Opd tm x (.pv (PV.lit (.int k n))))(hy:Opd tm y (.pv (PV.lit (.int k' m))))(hm:0<=m):UOp P ⟨dst,.binOp .shl t x y u,ty,pos,aft,gd⟩ tm [] (.pv (PV.lit (.int k (k.wrap (n*2^(min m.toNat k.bits)))))) []:=
 UOp.two hx hy fun ρ w h1 h2=>by
  have:¬m<0:=by omega
  simp[execOp,h1,h2,go_sem,this,Op.shift]
theorem u_extractT{i:Nat}{l:List TV}{d:TV}(hx:Opd tm x (.tup l))(hd:l[i]?=some d):UOp P ⟨dst,.extract x i,ty,pos,aft,gd⟩ tm [] d []:=
 UOp.pure fun w s g a ht=>by
  have h:=Opd.eval ht hx;rw[TV.P]at h;obtain⟨vs,h1,h2⟩:=h;obtain⟨v,h3,h4⟩:=h2.get hd;refine⟨v,yG (s:=Instr.extract (a.eval x) i) ?_,h4⟩;rw[h1];simp[Instr.extract,h3]
end
def vF(p:ByteArray):List (List PV):=p.data.toList.map fun b=>[PV.lit (.int .u8 b.toNat)]
theorem mU(w:World)(s:Sb)(p:ByteArray):AllV w s (vF p).flatten (Lib.strCells p):=by
 have key:∀l:List UInt8,AllV w s ((l.map fun b=>[PV.lit (.int .u8 b.toNat)]).flatten) (l.map fun b=>Value.int .u8 b.toNat):=by
  intro l;induction l with
  |nil=>trivial
  |cons b l ih=>exact⟨rfl,ih⟩
 exact key p.data.toList
section
variable{P:Program}{tm:List (Nat×TV)}{dst:Option Tmp}{ty:TypeId}{pos:String}{aft:Array Edge}{gd:Option (Nat×Bool)}
theorem mE{x y:Operand}{t u:TypeId}{a:Act}{w w':World}{v':Value}(h:(Builtin.append_ #[t,u] ty #[a.eval x,a.eval y]).run P w= .ok v' w'):
  (execOp a.eval ⟨dst,.call {callee:= .builtin .append,args:= #[x,y],argTypes:= #[t,u]},ty,pos,aft,gd⟩).run P w= .ok (.value v') w':=by
 simp[execOp,resolve,invoke,builtin,h,Result.andThen]
theorem u_appendStr{x y:Operand}{t u e:TypeId}{sz k n m:Nat}{rows:List (List PV)}{p:ByteArray}(hA:AppT P t e sz)(hz1:sz=1)(hu:P.underlying u=some .string)(hx:Opd tm x (.mo k n))(hn:rows.length=n)(hy:Opd tm y (.pv (PV.lit (.string p))))(hm:p.size=m)(hb:n+m<=1073741824):
  UOp P ⟨dst,.call {callee:= .builtin .append,args:= #[x,y],argTypes:= #[t,u]},ty,pos,aft,gd⟩ tm [(k,.mrow e sz rows)] (.mo k (n+m)) [(k,.mrow e sz (rows++vF p))]:=by
 intro w s g a K Q ht hg hK;subst hn;obtain⟨ie,z,hty,hi,hz,hsz,hzs,hpos,hby,hby2⟩:=hA.h;subst hsz;have h1:=Opd.eval ht hx;rw[TV.P]at h1;obtain⟨hgn,hform⟩:=h1;obtain⟨hno,v0,hv0,hcase⟩:=hg.one;rw[hgn]at hv0;have hv0:=Option.some.inj hv0;have ex:a.eval y= .string p:=Opd.lit ht hy;generalize hr2e:vF p=rows2 at*;obtain rfl:rows2.length=m:=by rw[<-hm,<-hr2e,vF,Ao];rfl
 have hps:p.size=rows2.length:=hm;obtain⟨xs,hxe⟩:∃xs,xs=Lib.strCells p:=⟨_,rfl⟩;have hxl:xs.length=rows2.length*ie.size:=by rw[hxe,Lib.strCells_length,hz1,hps,Nat.mul_one]
 have hx1:∀v∈xs,v.oneCell'=true:=by rw[hxe];exact Lib.strCells_oneCell p
 have hrz2:∀row∈rows2,row.length=ie.size:=by
  intro row hrow;rw[<-hr2e]at hrow;obtain⟨b,_,rfl⟩:=Bu.1 hrow;rw[hz1];rfl
 have hxs:AllV w s.good rows2.flatten xs:=by rw[hxe,<-hr2e];exact mU _ _ p
 have hbytes:(rows.length+rows2.length)*ie.bytes<=140737488355328:=Bg (Nat.mul_le_mul hb hby2) de;have hlen:(rows++rows2).length=rows.length+rows2.length:=by simp
 --the end:a new slice over a block that holds what was and what came
 have fin:∀(w':World)(G cap:Nat)(olds rest:List Value),(Builtin.append_ #[t,u] ty #[a.eval x,a.eval y]).run P w= .ok (.slice (some ⟨G,0,none⟩) (rows.length+rows2.length) cap) w'->CellB w' G (List.toArray ((olds++xs)++rest)) e->AllV w s.good rows.flatten olds->(∀row∈rows,row.length=ie.size)->(∀v∈olds,v.oneCell'=true)->
   rows.length+rows2.length<=cap->cap<=maxLen->((olds++xs)++rest).length=cap*ie.size->(blk g k (.mrow e ie.size rows)=some G\/w.heap.size<=G)->w.heap.size<=w'.heap.size->(∀N,N<w.heap.size->N≠G->w'.heap[N]?=w.heap[N]?)->w'.os=w.os->w'.tape=w.tape->w'.output=w.output->
   (∀N o,blk g k (.mrow e ie.size rows)=some N->¬s N o)->(∀u,g.gn k (rows.length+rows2.length)=some u->u= .slice (some ⟨G,0,none⟩) (rows.length+rows2.length) cap)->(∀o,¬s G o)->
   Oper.wp P ⟨dst,.call {callee:= .builtin .append,args:= #[x,y],argTypes:= #[t,u]},ty,pos,aft,gd⟩ a w K Q:=by
  intro w' G cap olds rest hr hG holds hrows holdo hcap hcm hcl hGb hsz hblk e1 e2 e3 hns hgo hsG;unfold Oper.wp;rw[mE hr];refine hK w' s (g.setRow k (rows.length+rows2.length) (.slice (some ⟨G,0,none⟩) (rows.length+rows2.length) cap)) _ ?_ (Stp.reown hg hns hsz (fun N hN hne=>?_) e1 e2 e3 (uB hgo) jN (fun hex=>?_) fun N hN=>?_)
  ·rw[TV.P];exact⟨Gh.setRow_eq _ _ _ _,.inr ⟨G,cap,rfl,hcap,hcm⟩⟩
  ·refine hblk N hN fun e=>?_;subst e;rcases hGb with h|h
   ·exact hne h
   ·omega
  ·refine⟨fun i hi=>?_,_,by rw[hlen];exact Gh.setRow_eq _ _ _ _,.inr ⟨G,cap,olds++xs,rest,by rw[hlen],hG,by rw[hlen];exact hcap,hcm,hcl,?_,⟨fun row hrow=>?_,fun v hv=>(Az.1 hv).elim (holdo v) (hx1 v)⟩,hsG⟩⟩
   ·rw[hlen]at hi;rw[Gh.setRow_ne _ _ om];exact hno i om
   ·rw[List.flatten_append];exact(AllV.append holds hxs).mono hex.good
   ·rcases Az.1 hrow with h|h
    ·exact hrows row h
    ·exact hrz2 row h
  ·rw[qN (by rw[hlen];exact Gh.setRow_eq _ _ _ _)]at hN;have:G=N:=by simpa[Value.ownBlock]using hN
   subst this;exact hGb.elim .inr .inl
 rcases Bp rows2.length with hm0|hm0
 ·--nothing to append
  have hr2:rows2=[]:=Ax hm0;subst hr2;have hr:(Builtin.append_ #[t,u] ty #[a.eval x,a.eval y]).run P w= .ok (a.eval x) w:=by
   rw[ex];have hp0:p.size=0:=by rw[hps];rfl
   have hpe:p=ByteArray.empty:=by
    apply ByteArray.ext;exact Array.eq_empty_of_size_eq_zero hp0
   subst hpe;rcases hform with⟨e1,h0⟩|⟨G,c,e1,hnc,hcm⟩
   ·rw[e1];simp[Builtin.append_,run_underlying hty,run_underlying hu,sizeOf,typeInfo,hi,Builtin.lenOf,Builtin.firstCells]
   ·rw[e1];simp[Builtin.append_,run_underlying hty,run_underlying hu,sizeOf,typeInfo,hi,Builtin.lenOf,Builtin.firstCells,hnc,storeCells]
  unfold Oper.wp;rw[mE hr];refine hK w s g _ ?_ ?_
  ·rw[TV.P];exact⟨by simpa using hgn,by simpa using hform⟩
  ·rw[Ca]at hg⊢;exact Stp.read hg
 ·have hgo:∀u v,g.gn k (rows.length+rows2.length)=some u->u=v:=fun u v h=>by rw[hno _ om]at h;cases h
  rcases hcase with⟨rfl,h0⟩|⟨G,cap,vs,rest,rfl,hG,hnc,hcm,hcs,hav,hrow,hsG⟩
  ·subst h0;have hr:=run_append_nil_string (P:=P) w t u ty e ie z hty hu hi hz p om om (by have:=hbytes;simp only[Au,Bv]at this;rw[hps];omega);have hcs:p.data.map (fun b=>Value.int .u8 b.toNat)=xs.toArray:=by rw[hxe];apply Bx.1;simp[Lib.strCells]
   rw[hcs,hps]at hr;have hge:=grownCap_ge w rows2.length 0 e;have hcm:grownCap w rows2.length 0 e<=maxLen:=grownCap_le_maxLen w _ 0 e (by simp only[maxLen];omega);refine fin (w.drew.alloc (.cells (xs.toArray++Builtin.zeroCells z.cells (grownCap w rows2.length 0 e-rows2.length)) e)) w.heap.size (grownCap w rows2.length 0 e) [] (Builtin.zeroCells z.cells (grownCap w rows2.length 0 e-rows2.length)).toList ?_ ?_ trivial (fun _ h=>by cases h) (fun _ h=>by cases h) (by simpa using hge) hcm ?_ (.inr (Ap _)) ?_ ?_ ?_ ?_ ?_ (fun N o hN=>?_) (fun u h=>hgo u _ h) (fun o ho=>Nat.lt_irrefl _ (hg.lt _ _ ho))
   ·rw[ex,hv0];simpa using hr
   ·rw[show(([]++xs++(Builtin.zeroCells z.cells (grownCap w rows2.length 0 e-rows2.length)).toList:List Value)).toArray=xs.toArray++Builtin.zeroCells z.cells (grownCap w rows2.length 0 e-rows2.length)from by apply Bx.1;simp];exact .of (heap_alloc_new w.drew _)
   ·simp only[Dh,Ae,Cz,size_zeroCells,hzs,hxl,<-Bh];congr 1;omega
   ·simp
   ·exact fun N hN _=>heap_alloc_old w.drew _ hN
   ·rfl
   ·rfl
   ·rfl
   ·rw[qN (by exact hgn),hv0]at hN
    cases hN
  ·have hbl:blk g k (.mrow e ie.size rows)=some G:=by rw[qN hgn,hv0];rfl
   have hvl:vs.length=rows.length*ie.size:=by rw[hav.length,jW hrow.1]
   have holds:∀j u,vs[j]?=some u->w.cell? ((⟨G,0,none⟩:Addr).add j)=some u:=fun j u hj=>by
    rw[Addr.add_mid,Bv,hG.cell];have:=(Ac.1 hj).1;simp only[Db];rw[Bb this];exact hj
   by_cases hroom:rows.length+rows2.length<=cap
   ·have hfit:rows.length*ie.size+xs.length<=(vs++rest).toArray.size:=by rw[Br,hcs,hxl,<-Bh];exact Bs _ hroom
    have hr:=run_append_room_stringK (P:=P) w t u ty e ie hty hu hi hz1 G rows.length cap _ hG p (by rw[hps];exact hroom) (by rw[hps];have h3:=hfit;rw[hxl,hz1,Nat.mul_one,Nat.mul_one]at h3;exact h3);rw[<-hxe,hps]at hr;have hcut:((vs++rest).toArray.toList.take rows.length++xs++(vs++rest).toArray.toList.drop (rows.length+rows2.length))=(vs++xs)++rest.drop xs.length:=by
     have hv1:vs.length=rows.length:=by rw[hvl,hz1,Nat.mul_one]
     have hx2:xs.length=rows2.length:=by rw[hxl,hz1,Nat.mul_one]
     simp only[];rw[<-hv1,<-hx2,List.take_left,List.drop_append,Bq om,Dh,Nat.add_sub_cancel_left]
    rw[hcut]at hr;refine fin _ G cap vs (rest.drop xs.length) ?_ (hG.setRow (by simp only[Br,Ae,Ay]at hfit⊢;omega)) hav hrow.1 hrow.2 hroom hcm ?_ (.inl hbl) ?_ (fun N _ hN=>setRow_other w G N _ hN) ?_ ?_ ?_ (fun N o hN=>by rw[hbl]at hN;cases hN;exact hsG o) (fun u h=>hgo u _ h) hsG
    ·rw[ex,hv0];exact hr
    ·have h2:(vs++rest).length=cap*ie.size:=hcs;simp only[Ae,Ay,Br]at h2 hfit⊢;omega
    ·simp
    ·rfl
    ·rfl
    ·rfl
   ·have hr:=Lib.run_append_grow_string (P:=P) w t u ty e ie z hty hu hi hz ⟨G,0,none⟩ rows.length cap vs hvl holds p om om (by rw[hps];exact growslice_fits om hbytes);rw[<-hxe,hps]at hr;have hge:=grownCap_ge w (rows.length+rows2.length) cap e;have hcm2:grownCap w (rows.length+rows2.length) cap e<=maxLen:=grownCap_le_maxLen w _ cap e (by simp only[maxLen];omega);refine fin (w.drew.alloc (.cells (vs.toArray++xs.toArray++Builtin.zeroCells z.cells (grownCap w (rows.length+rows2.length) cap e-(rows.length+rows2.length))) e)) w.heap.size (grownCap w (rows.length+rows2.length) cap e) vs (Builtin.zeroCells z.cells (grownCap w (rows.length+rows2.length) cap e-(rows.length+rows2.length))).toList ?_ ?_ hav hrow.1 hrow.2 hge hcm2 ?_ (.inr (Ap _)) ?_ ?_ ?_ ?_ ?_ (fun N o hN=>by rw[hbl]at hN;cases hN;exact hsG o) (fun u h=>hgo u _ h) (fun o ho=>Nat.lt_irrefl _ (hg.lt _ _ ho))
    ·rw[ex,hv0];exact hr
    ·rw[show((vs++xs++(Builtin.zeroCells z.cells (grownCap w (rows.length+rows2.length) cap e-(rows.length+rows2.length))).toList:List Value)).toArray=vs.toArray++xs.toArray++Builtin.zeroCells z.cells (grownCap w (rows.length+rows2.length) cap e-(rows.length+rows2.length))from by apply Bx.1;simp];exact .of (heap_alloc_new w.drew _)
    ·simp only[Ae,Cz,size_zeroCells,hzs,hxl,hvl,<-Bh];congr 1;omega
    ·simp
    ·exact fun N hN _=>heap_alloc_old w.drew _ hN
    ·rfl
    ·rfl
    ·rfl
theorem u_appendNilM{x y:Operand}{t e:TypeId}{mo:Bool}{sz m:Nat}{rows2:List (List PV)}{d:TV}(k:Nat)(hA:AppT P t e sz)(hx:Opd tm x (.pv (PV.lit (.slice none 0 0))))(hy:Opd tm y d)(hd:∀w s g v,d.P w s g v->(PV.sl mo sz rows2).p w s v)(hm:rows2.length=m)(hb:m<=1073741824):
  UOp P ⟨dst,.call {callee:= .builtin .append,args:= #[x,y],argTypes:= #[t,t]},ty,pos,aft,gd⟩ tm [] (.mo k m) [(k,.mrow e sz rows2)]:=by
 intro w s g a K Q ht hg hK;subst hm;obtain⟨ie,z,hty,hi,hz,hsz,hzs,hpos,hby,hby2⟩:=hA.h;subst hsz;have h1:=Opd.lit ht hx;obtain⟨a1,c1,xs,ex,hxl,hx1,hxr,hxp⟩:=PV.sl_src (hd _ _ _ _ (Opd.eval ht hy));obtain⟨_,_,_,_,_,hrz2,_⟩:=hd _ _ _ _ (Opd.eval ht hy);have hxs:AllV w s.good rows2.flatten xs:=by
  refine AllV.mk (by rw[hxl,jW hrz2]) fun j d v hdj hvj=>?_;have hjl:j<rows2.length*ie.size:=by rw[<-hxl];exact(Ac.1 hvj).1
  have hi1:j/ie.size<rows2.length:=(Nat.div_lt_iff_lt_mul hpos).2 hjl;have hmod:j%ie.size<ie.size:=Nat.mod_lt _ hpos;have hrow:=Af hi1;have hf:=vW hrz2 hrow;have hj:j/ie.size*ie.size+j%ie.size=j:=by rw[Cf];exact Nat.div_add_mod j ie.size
  have hdd:rows2[j/ie.size][j%ie.size]?=some d:=by
   rw[<-hf,Ch,Ag hmod,Cb,hj];exact hdj
  obtain⟨u,e1,e2⟩:=hxp _ _ _ _ hrow hdd;rw[hj,hvj]at e1
  cases e1;exact e2
 have hbytes:rows2.length*ie.bytes<=140737488355328:=Bg (Nat.mul_le_mul hb hby2) de;have hfr:=hg.fr k (.mrow e ie.size rows2) (by rw[zY];simp) rfl;unfold Oper.wp;rcases Bp rows2.length with hm0|hm0
 ·have hr2:rows2=[]:=Ax hm0;subst hr2;have hr:(Builtin.append_ #[t,t] ty #[a.eval x,a.eval y]).run P w= .ok (.slice none 0 0) w:=by
   rw[ex,h1]
   cases a1<;>simp[Builtin.append_,run_underlying hty,sizeOf,typeInfo,hi,Builtin.lenOf,Builtin.firstCells,loadCells,loadCellsFrom]
  rw[jH hr];refine hK w s (g.setRow k 0 (.slice none 0 0)) _ ?_ (Stp.newO hg.lt (Ap _) (fun N hN=>rfl) rfl rfl rfl (uB fun u hu=>by rw[hfr.2]at hu;cases hu) jN (fun hex=>?_) fun N hN=>?_)
  ·rw[TV.P];exact⟨Gh.setRow_eq _ _ _ _,.inl ⟨rfl,rfl⟩⟩
  ·exact⟨fun m hm=>by rw[Gh.setRow_ne _ _ (by simp at hm;omega)];exact hfr.2 m,_,Gh.setRow_eq _ _ _ _,.inl ⟨rfl,rfl⟩⟩
  ·rw[qN (by exact Gh.setRow_eq _ _ _ _)]at hN
   cases hN
 ·obtain⟨b2,off2,ea,hra⟩:=hxr hm0;subst ea;have hnews:∀j u,xs[j]?=some u->w.cell? ((⟨b2,off2,none⟩:Addr).add j)=some u:=fun j u hj=>by rw[Addr.add_mid];exact hra j u hj
  have hr:=run_append_nil (P:=P) w t ty e ie z hty hi hz ⟨b2,off2,none⟩ rows2.length c1 xs hxl hnews hm0 om om;have hge:=grownCap_ge w rows2.length 0 e;have hcm:grownCap w rows2.length 0 e<=maxLen:=grownCap_le_maxLen w _ 0 e (by simp only[maxLen];omega);have hr':(Builtin.append_ #[t,t] ty #[a.eval x,a.eval y]).run P w= .ok (.slice (some ⟨w.heap.size,0,none⟩) rows2.length (grownCap w rows2.length 0 e)) (w.drew.alloc (.cells (xs.toArray++Builtin.zeroCells z.cells (grownCap w rows2.length 0 e-rows2.length)) e)):=by rw[ex,h1];simpa using hr
  rw[jH hr'];refine hK _ s (g.setRow k rows2.length (.slice (some ⟨w.heap.size,0,none⟩) rows2.length (grownCap w rows2.length 0 e))) _ ?_ (Stp.newO hg.lt (by simp) (fun N hN=>heap_alloc_old w.drew _ hN) rfl rfl rfl (uB fun u hu=>by rw[hfr.2]at hu;cases hu) jN (fun hex=>?_) fun N hN=>?_)
  ·rw[TV.P];exact⟨Gh.setRow_eq _ _ _ _,.inr ⟨_,_,rfl,hge,hcm⟩⟩
  ·refine⟨fun m hm=>?_,_,Gh.setRow_eq _ _ _ _,.inr ⟨w.heap.size,grownCap w rows2.length 0 e,xs,(Builtin.zeroCells z.cells (grownCap w rows2.length 0 e-rows2.length)).toList,rfl,?_,hge,hcm,?_,hxs.mono hex.good,⟨hrz2,hx1⟩,fun o ho=>Nat.lt_irrefl _ (hg.lt _ _ ho)⟩⟩
   ·rw[Gh.setRow_ne _ _ om];exact hfr.2 m
   ·rw[show(xs++(Builtin.zeroCells z.cells (grownCap w rows2.length 0 e-rows2.length)).toList).toArray=xs.toArray++Builtin.zeroCells z.cells (grownCap w rows2.length 0 e-rows2.length)from by apply Bx.1;simp];exact .of (heap_alloc_new w.drew _)
   ·simp only[Ae,Cz,size_zeroCells,hzs,hxl,<-Bh];congr 1;omega
  ·rw[qN (by exact Gh.setRow_eq _ _ _ _)]at hN;have:w.heap.size=N:=by simpa[Value.ownBlock]using hN
   omega
theorem u_bytesM{x:Operand}{src dt e:TypeId}{p:ByteArray}(k:Nat)(hs:P.underlying src=some .string)(hd:P.underlying dt=some (.slice e))(he:P.underlying e=some (.int .u8))(hp:p.size<=1073741824)(hx:Opd tm x (.pv (PV.lit (.string p)))):
  UOp P ⟨dst,.convert src dt x,ty,pos,aft,gd⟩ tm [] (.mo k p.size) [(k,.mrow e 1 (vF p))]:=by
 intro w s g a K Q ht hg hK;have h1:=Opd.lit ht hx;have hge:=grownCap_ge w p.size 0 e;have hcm:grownCap w p.size 0 e<=maxLen:=grownCap_le_maxLen w _ 0 e (by simp only[maxLen];omega);have hr:=run_bytes_of_string w src dt e p hs hd he;generalize grownCap w p.size 0 e=gc at*
 have he':(execOp a.eval ⟨dst,.convert src dt x,ty,pos,aft,gd⟩).run P w= .ok (.value (.slice (some ⟨w.heap.size,0,none⟩) p.size gc)) (w.drew.alloc (.cells (bytesRow p gc) e ((bytesRow p gc).size,(bytesRow p gc).size+1))):=
  yG (s:=convert src dt (a.eval x)) (by rw[h1];exact hr)
 unfold Oper.wp;rw[he'];have hl:(vF p).length=p.size:=by rw[vF,Ao];rfl
 have hfr:=hg.fr k (.mrow e 1 (vF p)) (by rw[zY];simp) rfl;obtain⟨rest,hrest⟩:∃rest,bytesRow p gc=(Lib.strCells p++rest).toArray:=by
  refine⟨(bytesRow p gc).toList.drop p.size,?_⟩;apply Bx.1;rw[bytesRow];simp[Lib.strCells]
 have hbs:(bytesRow p gc).size=gc:=by
  rw[bytesRow];simp;omega
 refine hK _ s (g.setRow k p.size (.slice (some ⟨w.heap.size,0,none⟩) p.size gc)) _ ?_ (Stp.newO hg.lt (by simp) (fun N hN=>Below.heap_alloc w.drew _ N hN) rfl rfl rfl (uB fun u hu=>by rw[hfr.2]at hu;cases hu) jN (fun hex=>?_) fun N hN=>?_)
 ·rw[TV.P];exact⟨Gh.setRow_eq _ _ _ _,.inr ⟨_,gc,rfl,by omega,hcm⟩⟩
 ·refine⟨fun m hm=>?_,_,by rw[hl];exact Gh.setRow_eq _ _ _ _,.inr ⟨w.heap.size,gc,Lib.strCells p,rest,by rw[hl],⟨_,?_,Mk.behind (b:=(bytesRow p gc).size+1) (a:=(bytesRow p gc).size) (by rw[hrest];exact Ap _)⟩,by rw[hl];omega,hcm,?_,mU _ _ p,⟨fun row hrow=>?_,Lib.strCells_oneCell p⟩,fun o ho=>Nat.lt_irrefl _ (hg.lt _ _ ho)⟩⟩
  ·rw[hl]at hm;rw[Gh.setRow_ne _ _ om];exact hfr.2 m
  ·rw[<-hrest];exact heap_alloc_new w.drew _
  ·have:=hbs;rw[hrest,Br]at this;rw[this,Nat.mul_one]
  ·rw[vF]at hrow;obtain⟨b,_,rfl⟩:=Bu.1 hrow;rfl
 ·rw[qN (by rw[hl];exact Gh.setRow_eq _ _ _ _)]at hN;have:w.heap.size=N:=by simpa[Value.ownBlock]using hN
  omega
theorem u_toStr{x:Operand}{src dt e:TypeId}{m:Bool}{l:List UInt8}{d:TV}(hs:P.underlying src=some (.slice e))(he:P.underlying e=some (.int .u8))(hd:P.underlying dt=some .string)(hx:Opd tm x d)
  (hp:∀w s g v,d.P w s g v->(PV.sl m 1 (l.map fun b=>[PV.lit (.int .u8 b.toNat)])).p w s v):
  UOp P ⟨dst,.convert src dt x,ty,pos,aft,gd⟩ tm [] (.pv (PV.lit (.string ⟨l.toArray⟩))) []:=
 UOp.pure fun w s g a ht=>by
  obtain⟨a1,c1,h1,h2,h3,h4,h5⟩:=hp _ _ _ _ (Opd.eval ht hx);rw[Ao]at h1;refine⟨.string ⟨l.toArray⟩,yG (s:=convert src dt (a.eval x)) ?_,rfl⟩;rw[h1]
  match l,h5 with
  |[],_=>
   rw[run_convert_bytes_string w src dt e a1 _ c1 hs he hd]
   cases a1 with
   |none=>rfl
   |some a1=>
    have:=run_bytesToString (P:=P) w a1 0 c1 [] (by simp[loadCells,loadCellsFrom]);exact this
  |b::l,h5=>
   obtain⟨B,off,e1,_⟩:=h5 0 _ rfl
   cases e1;refine run_convert_bytes_back w src dt e _ c1 (b::l) hs he hd fun j hj=>?_;obtain⟨B',off',e2,h6⟩:=h5 j [PV.lit (.int .u8 (b::l)[j].toNat)] (by rw[Bf,Af hj];rfl)
   cases e2;obtain⟨u,h7,_,h8,_⟩:=h6 0 _ rfl;have h8:u=_:=h8;rw[h8,Nat.mul_one,Ce]at h7;rw[Addr.add_mid];exact h7
end
theorem Ok1.thaw{w:World}{s:Sb}{g:Gh}{k sz:Nat}{e:TypeId}(h:Ok1 w s g k (.row e sz 0)):Ok1 w s g k (.mrow e sz [])/\∀v,g.gn k 0=some v->(TV.mo k 0).P w s g v:=by
 obtain⟨hno,v0,h1,h2⟩:=h;refine⟨⟨hno,v0,h1,?_⟩,fun v hv=>?_⟩
 ·rcases h2 with⟨rfl,_⟩|⟨G,cap,cur,rfl,h3,h4,h5,h6,h7⟩
  ·exact .inl ⟨rfl,rfl⟩
  ·exact .inr ⟨G,cap,[],cur.toList,rfl,by simpa using h3,h4,h5,by simpa using h6,trivial,⟨(fun _ h=>by cases h),(fun _ h=>by cases h)⟩,fun o=>h7 o om⟩
 ·rw[TV.P];rw[h1]at hv
  cases hv;refine⟨h1,?_⟩;rcases h2 with⟨rfl,_⟩|⟨G,cap,cur,rfl,h3,h4,h5,h6,h7⟩
  ·exact .inl ⟨rfl,rfl⟩
  ·exact .inr ⟨G,cap,rfl,h4,h5⟩
theorem UOp.thaw{P:Program}{o:Oper}{tm:List (Nat×TV)}{k sz:Nat}{e:TypeId}(h:UOp P o tm [] (.own k sz []) [(k,.row e sz 0)]):UOp P o tm [] (.mo k 0) [(k,.mrow e sz [])]:=by
 intro w s g a K Q ht hg hK;have one:∀{j:Nat}{c c0:Own},fnd j [(k,c0)]=some c->j=k/\c=c0:=fun{j c c0}hj=>by
  rw[zY]at hj;by_cases e':k=j
  ·simp only[e',if_true]at hj;cases hj;exact⟨e'.symm,rfl⟩
  ·simp only[e',if_false]at hj;cases hj
 refine h w s g a K Q ht ⟨hg.lt,hg.ok,hg.sep,fun j c h1 h2=>?_,hg.gl⟩ fun w' s' g' v hv S=>?_
 ·obtain⟨rfl,rfl⟩:=one h1;exact hg.fr j (.mrow e sz []) (by rw[zY,Ag rfl]) rfl
 ·have hok:=S.ok k (.row e sz 0) (by rw[zY,Ag rfl]);rw[TV.P]at hv;refine hK w' s' g' v (hok.thaw.2 v hv.2) ⟨S.ex,S.lt,S.gle,fun j hj=>S.same j ?_,S.os,S.tape,S.output,S.size,S.block,S.st,S.sst,fun j c hj=>?_,fun j c N hj hb=>?_,fun j j' c c' N h1 h2 hne=>?_,fun _ _ h=>by cases h⟩
  ·rw[zY]at hj⊢;by_cases e':k=j
   ·simp[e']at hj
   ·simp only[e',if_false]at hj⊢;rfl
  ·obtain⟨rfl,rfl⟩:=one hj;exact hok.thaw.1
  ·obtain⟨rfl,rfl⟩:=one hj;exact S.nb j (.row e sz 0) N (by rw[zY,Ag rfl]) hb
  ·obtain⟨rfl,rfl⟩:=one h1;obtain⟨rfl,rfl⟩:=one h2;exact absurd rfl hne
section
variable{P:Program}{tm:List (Nat×TV)}{dst:Option Tmp}{ty:TypeId}{pos:String}{aft:Array Edge}{gd:Option (Nat×Bool)}
theorem u_lenMw{x:Operand}{t:TypeId}{sz k q i z n:Nat}(hT:SlT P t sz)(hx:Opd tm x (.mw k q i z n)):
  UOp P ⟨dst,.call {callee:= .builtin .len,args:= #[x],argTypes:= #[t]},ty,pos,aft,gd⟩ tm [] (.pv (PV.lit (.int .i64 n))) []:=
 UOp.pure fun w s g a ht=>by
  obtain⟨e,hu,he⟩:=hT.h;have h:=Opd.eval ht hx;rw[TV.P]at h;obtain⟨G,c,_,h1,_⟩:=h;exact⟨.int .i64 n,by simp[execOp,resolve,invoke,builtin,h1,Builtin.len_,run_underlying hu,goInt],rfl⟩
theorem u_indexMw{x y:Operand}{t:TypeId}{sz k q i n:Nat}{ik:IntKind}{j:Int}(hT:SlT P t sz)(hx:Opd tm x (.mw k q i sz n))(hy:Opd tm y (.pv (PV.lit (.int ik j))))(h0:0<=j)(hr:j.toNat<n):
  UOp P ⟨dst,.indexAddr t x y,ty,pos,aft,gd⟩ tm [] (.mp k q ((i+j.toNat)*sz+0)) []:=
 UOp.pure fun w s g a ht=>by
  obtain⟨e,hu,he⟩:=hT.h;have h:=Opd.eval ht hx;rw[TV.P]at h;obtain⟨G,c,h1,h2,h3⟩:=h;have h7:=Opd.lit ht hy;refine⟨.pointer (some ⟨G,i*sz+j.toNat*sz,none⟩),yG (s:=Instr.indexAt t (a.eval x) (a.eval y)) ?_,?_⟩
  ·have hb:(0<=j/\j<(n:Int)):=⟨h0,by omega⟩;rw[h2,h7];simp only[Instr.indexAt,asIntOf,Sem.run_bind,Sem.run_pure,Result.andThen_ok,run_underlying hu,hb,and_self,if_true,qG he,Addr.add_mid]
  ·rw[TV.P];exact⟨G,c,h1,by rw[Ce,Bh]⟩
theorem jY0{w:World}{s:Sb}{g:Gh}{a:Act}{lo hi:Option Operand}{m n len cap:Nat}(ht:qW w s g tm a)(h1:Bnd tm lo 0 (m:Int))(h2:Bnd tm hi len (n:Int))(hmn:m<=n)(hn:n<=len)(h4:len<=cap):
  (Instr.sliceBounds true len cap (lo.map a.eval) (hi.map a.eval) none).run P w= .ok (m,n,cap) w:=by
 have hlo:∀h':Nat,m<=h'->(match lo.map a.eval with|some v=>Instr.sliceBound v h' .sliceB|none=>(pure 0:Sem Nat)).run P w= .ok m w:=by
  intro h' hm
  cases lo with
  |none=>
   have:(m:Int)=0:=h1;have:m=0:=by omega
   subst this;rfl
  |some o=>
   obtain⟨k,hk⟩:=h1;have hv:=Opd.lit ht hk;simp only[Option.map_some,hv];rw[run_sliceBound w k _ h' _ om om];rfl
 have hhi:(match hi.map a.eval with|some v=>Instr.sliceBound v cap .sliceAcap|none=>(pure len:Sem Nat)).run P w= .ok n w:=by
  cases hi with
  |none=>
   have:(n:Int)=len:=h2;have:n=len:=by omega
   subst this;rfl
  |some o=>
   obtain⟨k,hk⟩:=h2;have hv:=Opd.lit ht hk;simp only[Option.map_some,hv];rw[run_sliceBound w k _ cap _ om om];rfl
 have hlo':=hlo n hmn;unfold Instr.sliceBounds
 cases lo<;>cases hi<;>simp_all
theorem u_sliceMo{x:Operand}{t:TypeId}{sz k q:Nat}{lo hi:Option Operand}{l h:Int}(hT:SlT P t sz)(hx:Opd tm x (.mo k q))(h1:Bnd tm lo 0 l)(h2:Bnd tm hi q h)(h0:0<=l)(hlh:l<=h)(hhn:h<=q)(hq:l<q):
  UOp P ⟨dst,.slice t x lo hi none,ty,pos,aft,gd⟩ tm [] (.mw k q l.toNat sz (h.toNat-l.toNat)) []:=
 UOp.pure fun w s g a ht=>by
  obtain⟨e,hu,he⟩:=hT.h;have hv:=Opd.eval ht hx;rw[TV.P]at hv;obtain⟨g1,g2⟩:=hv;obtain⟨m,rfl⟩:=Ct h0;obtain⟨n,rfl⟩:=Ct (by omega:0<=h);simp only[As];rcases g2 with⟨_,rfl⟩|⟨G,c,e1,e2,e3⟩
  ·omega
  have hb:=jY0 (P:=P) (len:=q) (cap:=c) ht h1 h2 om om e2;refine⟨.slice (some ⟨G,m*sz,none⟩) (n-m) (c-m),yG (s:=Instr.sliceAt t (a.eval x) (lo.map a.eval) (hi.map a.eval) none) ?_,?_⟩
  ·rw[e1];have hc:c≠m:=by omega
   simp[Instr.sliceAt,run_underlying hu,Instr.slice,hb,qG he,hc,Addr.add_mid]
  ·rw[TV.P];exact⟨G,c,by rw[g1,e1],rfl,by omega,by omega,e2,e3⟩
theorem u_sliceMw{x:Operand}{t:TypeId}{sz k q i n0:Nat}{lo hi:Option Operand}{l h:Int}(hT:SlT P t sz)(hx:Opd tm x (.mw k q i sz n0))(h1:Bnd tm lo 0 l)(h2:Bnd tm hi n0 h)(h0:0<=l)(hlh:l<=h)(hhn:h<=n0)(hq:i+l.toNat<q):
  UOp P ⟨dst,.slice t x lo hi none,ty,pos,aft,gd⟩ tm [] (.mw k q (i+l.toNat) sz (h.toNat-l.toNat)) []:=
 UOp.pure fun w s g a ht=>by
  obtain⟨e,hu,he⟩:=hT.h;have hv:=Opd.eval ht hx;rw[TV.P]at hv;obtain⟨G,c,g1,g2,g3,g4,g5,g6⟩:=hv;obtain⟨m,rfl⟩:=Ct h0;obtain⟨n,rfl⟩:=Ct (by omega:0<=h);simp only[As]at hq⊢;have hb:=jY0 (P:=P) (len:=n0) (cap:=c-i) ht h1 h2 om om om;refine⟨.slice (some ⟨G,(i+m)*sz,none⟩) (n-m) (c-(i+m)),yG (s:=Instr.sliceAt t (a.eval x) (lo.map a.eval) (hi.map a.eval) none) ?_,?_⟩
  ·rw[g2];have hc:c-i≠m:=by omega
   simp[Instr.sliceAt,run_underlying hu,Instr.slice,hb,qG he,hc,Addr.add_mid,Bh,Nat.sub_sub]
  ·rw[TV.P];exact⟨G,c,g1,rfl,by omega,by omega,g5,g6⟩
theorem u_appendMw{x y:Operand}{t e:TypeId}{mo:Bool}{sz k q n:Nat}{rows:List (List PV)}{row:List PV}{d:TV}(hA:AppT P t e sz)(hx:Opd tm x (.mw k q 0 sz n))(hn:rows.length=q)(hy:Opd tm y d)(hd:∀w s g v,d.P w s g v->(PV.sl mo sz [row]).p w s v)(hb:n<q):
  UOp P ⟨dst,.call {callee:= .builtin .append,args:= #[x,y],argTypes:= #[t,t]},ty,pos,aft,gd⟩ tm [(k,.mrow e sz rows)] (.mw k q 0 sz (n+1)) [(k,.mrow e sz (rows.set n row))]:=by
 intro w s g a K Q ht hg hK;subst hn;obtain⟨ie,z,hty,hi,hz,hsz,hzs,hpos,hby,hby2⟩:=hA.h;subst hsz;have h1:=Opd.eval ht hx;rw[TV.P]at h1;obtain⟨G,c,hgn,hform,h3,h4,h5,h6⟩:=h1;rw[Nat.zero_mul,Nat.sub_zero]at hform;have hg1:=hg.one;obtain⟨vs,rest,hG,hnc,hcm,hcs,hav,hrow,hsG⟩:=pE hg1 rfl hgn;obtain⟨a1,c1,xs,ex,hxl,hx1,hxr,hxp⟩:=PV.sl_src (hd _ _ _ _ (Opd.eval ht hy));obtain⟨_,_,_,_,_,hrz2,_⟩:=hd _ _ _ _ (Opd.eval ht hy);have hrl:row.length=ie.size:=hrz2 row (by simp);have hxs:AllV w s.good row xs:=by
  refine AllV.mk (by rw[hxl,hrl];simp) fun j d v hdj hvj=>?_;obtain⟨u,e1,e2⟩:=hxp 0 row j d rfl hdj;rw[Nat.zero_mul,Bv,hvj]at e1
  cases e1;exact e2
 obtain⟨b2,off2,ea,hra⟩:=hxr (by simp);subst ea;have hxl1:xs.length=ie.size:=by rw[hxl];simp
 have hnews:∀j u,xs[j]?=some u->w.cell? ((⟨b2,off2,none⟩:Addr).add j)=some u:=fun j u hj=>by rw[Addr.add_mid];exact hra j u hj
 have hvl:vs.length=rows.length*ie.size:=by rw[hav.length,jW hrow.1]
 have hle:n*ie.size+ie.size<=rows.length*ie.size:=by
  have:=Bs ie.size (show n+1<=rows.length by omega);rw[Bh]at this;omega
 have hfit:n*ie.size+xs.length<=(vs++rest).toArray.size:=by rw[Br,Ae];omega
 have hr:=uK (P:=P) w t ty e ie hty hi G n c _ hG ⟨b2,off2,none⟩ 1 c1 xs (by rw[hxl1,Nat.one_mul]) hnews hx1 om hfit;have hcut:((vs++rest).toArray.toList.take (n*ie.size)++xs++(vs++rest).toArray.toList.drop (n*ie.size+xs.length))=(vs.take (n*ie.size)++xs++vs.drop (n*ie.size+xs.length))++rest:=by
  simp only[];rw[List.take_append_of_le_length om,List.drop_append_of_le_length om,Co,Co,Co]
 rw[hcut]at hr;unfold Oper.wp;rw[jH (by rw[ex,hform];exact hr)];have hbl:∀r:List (List PV),r.length=rows.length->blk g k (.mrow e ie.size r)=some G:=fun r hr=>by rw[qN (by rw[hr];exact hgn)];rfl
 refine hK _ s g _ (by rw[TV.P];exact⟨G,c,hgn,by rw[Nat.zero_mul,Nat.sub_zero],by omega,by omega,h5,h6⟩) (Stp.turn hg (hbl rows rfl) hsG (fun M hM=>setRow_other w G M _ hM) (by simp) rfl rfl rfl (fun hex=>?_) (hbl _ (by simp)));refine⟨fun m hm=>hg1.1 m (by rw[Ck]at hm;exact hm),_,by rw[Ck];exact hgn,.inr ⟨G,c,vs.take (n*ie.size)++xs++vs.drop (n*ie.size+xs.length),rest,by rw[Ck],hG.setRow (by simp only[Br,Ae,At,Ay]at*;omega),by rw[Ck];exact hnc,hcm,?_,?_,⟨fun r hr=>?_,fun v hv=>?_⟩,hsG⟩⟩
 ·rw[<-hcs];simp only[Ae,At,Ay];omega
 ·have e9:(rows.set n row).flatten=rows.flatten.take (n*ie.size)++row++rows.flatten.drop (n*ie.size+xs.length):=by rw[bX hrow.1 hb hrl,hxl1]
  rw[e9];exact(AllV.append (AllV.append (hav.take _) hxs) (hav.drop _)).mono hex.good
 ·rcases List.mem_or_eq_of_mem_set hr with h|rfl
  ·exact hrow.1 r h
  ·exact hrl
 ·rcases Az.1 hv with h|h
  ·rcases Az.1 h with h|h
   ·exact hrow.2 v (List.mem_of_mem_take h)
   ·exact hx1 v h
  ·exact hrow.2 v (List.mem_of_mem_drop h)
end
theorem mw_frozen{w:World}{s s':Sb}{g:Gh}{k sz i n:Nat}{rows:List (List PV)}(hmo:∀v,(TV.mo k rows.length).P w s g v->(TV.own k sz rows).P w s' g v){v:Value}(hv:(TV.mw k rows.length i sz n).P w s g v):(PV.sl false sz ((rows.drop i).take n)).p w s' v:=by
 rw[TV.P]at hv;obtain⟨G,c,g1,rfl,g3,g4,g5,g6⟩:=hv;have h:=hmo (.slice (some ⟨G,0,none⟩) rows.length c) (by rw[TV.P];exact⟨g1,.inr ⟨G,c,rfl,g5,g6⟩⟩);rw[TV.P]at h;obtain⟨ad,cap,e1,e2,e3,e4,e5⟩:=h.1
 cases e1;have:=PV.sl_cut (w:=w) (s:=s') (mo:=false) (l:=i) (h:=i+n) om g3 e2 e3 e4 e5;rw[Aa om,Nat.add_sub_cancel_left]at this;simpa[Addr.add_mid]using this
end Go.Proofs.YtmakjjodkiedmaaGreatDoor
