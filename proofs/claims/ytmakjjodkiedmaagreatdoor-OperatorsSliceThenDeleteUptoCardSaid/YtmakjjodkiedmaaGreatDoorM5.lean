/-Part 5 of the proof. -/
import Derived.Test.YtmakjjodkiedmaaGreatDoorM4
namespace Go.Proofs.YtmakjjodkiedmaaGreatDoor
open Go.RowKit
theorem Stp.newO{w w':World}{s:Sb}{g g':Gh}{k:Nat}{c:Own}(hl:∀B o,s B o->B<w.heap.size)(hs:w.heap.size<=w'.heap.size)(hb:∀N,N<w.heap.size->w'.heap[N]?=w.heap[N]?)(h1:w'.os=w.os)(h2:w'.tape=w.tape)(h3:w'.output=w.output)
  (hg:GLe g g') (hsame:∀j,j≠k->g'.bx j=g.bx j/\∀m,g'.gn j m=g.gn j m) (hok:Ex w s w' s->Ok1 w' s g' k c) (hnb:∀N,blk g' k c=some N->w.heap.size<=N):Stp w s g [] w' s g' [(k,c)]:=by
 have hx:Ex w s w' s:=⟨fun _ _ h=>h,fun b o h=>uO (hb b (hl b o h)),fun _ _ h=>h⟩;refine⟨hx,fun B o h=>Cr (hl B o h) hs,hg,fun j h=>hsame j fun e=>?_,h1,h2,h3,hs,fun N hN _=>hb N hN,fun _ _ h=> .inl h,fun _ _ h=> .inl h,fun j d h=>?_,fun j d N h hbn=>?_,fun j j' d d' N h h' hne=>?_,fun j d h=>by cases h⟩
 ·subst e;rw[zY]at h;simp at h
 ·obtain⟨rfl,rfl⟩:=jS h;exact hok hx
 ·obtain⟨rfl,rfl⟩:=jS h;exact .inl (hnb N hbn)
 ·obtain⟨rfl,rfl⟩:=jS h;obtain⟨rfl,rfl⟩:=jS h';exact absurd rfl hne
theorem Stp.reown{w w':World}{s:Sb}{g g':Gh}{k:Nat}{c c':Own}(hg:Good w s g [(k,c)] [(k,c')])(hns:∀N o,blk g k c=some N->¬s N o)(hs:w.heap.size<=w'.heap.size)(hb:∀N,N<w.heap.size->blk g k c≠some N->w'.heap[N]?=w.heap[N]?)
  (h1:w'.os=w.os) (h2:w'.tape=w.tape) (h3:w'.output=w.output) (hgl:GLe g g') (hsame:∀j,j≠k->g'.bx j=g.bx j/\∀m,g'.gn j m=g.gn j m) (hok:Ex w s w' s->Ok1 w' s g' k c') (hnb:∀N,blk g' k c'=some N->w.heap.size<=N\/blk g k c=some N):
  Stp w s g [(k,c)] w' s g' [(k,c')]:=by
 have hx:Ex w s w' s:=⟨fun _ _ h=>h,fun b o h=>uO (hb b (hg.lt b o h) fun e=>hns b o e h),fun _ _ h=>h⟩;refine⟨hx,fun B o h=>Cr (hg.lt B o h) hs,hgl,fun j h=>hsame j fun e=>?_,h1,h2,h3,hs,fun N hN hne=>hb N hN (hne k c (by rw[zY];simp)),fun _ _ h=> .inl h,fun _ _ h=> .inl h,fun j d h=>?_,fun j d N h hbn=>?_,fun j j' d d' N h h' hne=>?_,fun j d h=>?_⟩
 ·subst e;rw[zY]at h;simp at h
 ·obtain⟨rfl,rfl⟩:=jS h;exact hok hx
 ·obtain⟨rfl,rfl⟩:=jS h;exact(hnb N hbn).imp id fun e=>⟨j,c,by rw[zY];simp,e⟩
 ·obtain⟨rfl,rfl⟩:=jS h;obtain⟨rfl,rfl⟩:=jS h';exact absurd rfl hne
 ·obtain⟨rfl,rfl⟩:=jS h;exact⟨c',by rw[zY];simp⟩
theorem uB{g:Gh}{k n:Nat}{v:Value}(h:∀u,g.gn k n=some u->u=v):GLe g (g.setRow k n v):=⟨fun _ _ h=>h,fun j m u hu=>by
 by_cases e:j=k/\m=n
 ·obtain⟨rfl,rfl⟩:=e;rw[Gh.setRow_eq,h u hu]
 ·rw[Gh.setRow_ne _ _ e];exact hu⟩
theorem jN{g:Gh}{k n:Nat}{v:Value}(j:Nat)(hj:j≠k):(g.setRow k n v).bx j=g.bx j/\∀m,(g.setRow k n v).gn j m=g.gn j m:=⟨rfl,fun _=>Gh.setRow_ne _ _ fun e=>hj e.1⟩
structure ZerT(P:Program)(e:TypeId)(zs:List Value):Prop where
 h:∃ie z,P.info? e=some ie/\ie.zero=some z/\z.cells.toList=zs/\∀v∈zs,v.oneCell'=true
theorem cG(zs:List Value)(w:World)(s:Sb):∀n:Nat,AllV w s (List.replicate n (zs.map PV.lit)).flatten (List.replicate n zs).flatten
 |0=>trivial
 |n+1=>by rw[List.replicate_succ,List.replicate_succ,Cn,Cn];exact AllV.append (AllV.lits w s zs) (cG zs w s n)
theorem made_cells(zs:List Value)(h0:0<zs.length):∀n:Nat,(madeCells zs.toArray (n*zs.length)).toList=(List.replicate n zs).flatten:=by
 intro n;apply List.ext_getElem?;intro i;have hfl:(List.replicate n zs).flatten.length=n*zs.length:=by simp
 have hget:∀n i,i<n*zs.length->(List.replicate n zs).flatten[i]?=zs[i%zs.length]?:=by
  intro n;induction n with
  |zero=>intro i hi;omega
  |succ n ih=>
   intro i hi;rw[List.replicate_succ,Cn];rcases Bm i zs.length with h|h
   ·rw[Bb h,Nat.mod_eq_of_lt h]
   ·rw[Bk h,ih _ (by rw[Bh]at hi;omega),<-Nat.mod_eq_sub_mod h]
 rcases Bm i (n*zs.length)with h|h
 ·rw[hget n i h];have hm:i%zs.length<zs.length:=Nat.mod_lt _ h0;simp[madeCells,h,hm]
 ·rw[Dc (by simp[madeCells];exact h),Dc (by rw[hfl];exact h)]
section
variable{P:Program}{tm:List (Nat×TV)}{dst:Option Tmp}{ty:TypeId}{pos:String}{aft:Array Edge}{gd:Option (Nat×Bool)}
theorem u_makeSlice{x y:Operand}{t e:TypeId}{sz:Nat}{zs:List Value}{kl kc:IntKind}{l c:Int}(k:Nat)(hA:AppT P t e sz)(hZ:ZerT P e zs)(hx:Opd tm x (.pv (PV.lit (.int kl l))))(hy:Opd tm y (.pv (PV.lit (.int kc c))))(h0:0<=l)(hlc:l<=c)(hc:c<=1073741824):
  UOp P ⟨dst,.makeSlice t x y,ty,pos,aft,gd⟩ tm [] (.mo k l.toNat) [(k,.mrow e sz (List.replicate l.toNat (zs.map PV.lit)))]:=by
 intro w s g a K Q ht hg hK;obtain⟨ie,z,h1,h2,h3,h4,h5,h6,h7,h8⟩:=hA.h;obtain⟨ie',z',g2,g3,g4,g5⟩:=hZ.h;rw[h2]at g2;cases g2;rw[h3]at g3;cases g3;subst h4;have hzl:zs.length=ie.size:=by rw[<-g4,<-h5];simp
 have hzz:z.cells=zs.toArray:=by rw[<-g4]
 have hr:=run_make (P:=P) w t e ie z h1 h2 h3 kl kc l c h0 hlc (by
  have:(ie.bytes:Int)*c<=4096*1073741824:=Int.mul_le_mul om hc om om;omega) om
 have hv:=Opd.lit ht hx;have hu:=Opd.lit ht hy
 have he:(execOp a.eval ⟨dst,.makeSlice t x y,ty,pos,aft,gd⟩).run P w= .ok (.value (.slice (some ⟨w.heap.size,0,none⟩) l.toNat c.toNat)) (w.alloc (.cells (madeCells z.cells (c.toNat*ie.size)) e)):=
  yG (s:=Instr.makeSlice t (a.eval x) (a.eval y)) (by rw[hv,hu];exact hr)
 unfold Oper.wp;rw[he];have hfr:=hg.fr k (.mrow e ie.size (List.replicate l.toNat (zs.map PV.lit))) (by rw[zY];simp) rfl;have hlen:(List.replicate l.toNat (zs.map PV.lit)).length=l.toNat:=by simp
 refine hK _ s (g.setRow k l.toNat (.slice (some ⟨w.heap.size,0,none⟩) l.toNat c.toNat)) _ ?_ (Stp.newO hg.lt (by simp) (fun N hN=>Below.heap_alloc w _ N hN) rfl rfl rfl (uB fun u hu=>by rw[hfr.2]at hu;cases hu) jN (fun hex=>?_) fun N hN=>?_)
 ·rw[TV.P];exact⟨Gh.setRow_eq _ _ _ _,.inr ⟨_,c.toNat,rfl,by omega,by simp[maxLen];omega⟩⟩
 ·refine⟨fun m hm=>?_,_,by rw[hlen];exact Gh.setRow_eq _ _ _ _,.inr ⟨w.heap.size,c.toNat,(List.replicate l.toNat zs).flatten,(List.replicate (c.toNat-l.toNat) zs).flatten,by rw[hlen],?_,by rw[hlen];omega,by simp[maxLen];omega,?_,cG zs _ _ _,⟨fun row hrow=>?_,fun v hv=>?_⟩,fun o ho=>Nat.lt_irrefl _ (hg.lt _ _ ho)⟩⟩
  ·rw[hlen]at hm;rw[Gh.setRow_ne _ _ om];exact hfr.2 m
  ·refine .of ?_;rw[heap_alloc_new,hzz,<-hzl];have:madeCells zs.toArray (c.toNat*zs.length)=((List.replicate l.toNat zs).flatten++(List.replicate (c.toNat-l.toNat) zs).flatten).toArray:=by
    apply Bx.1;rw[made_cells zs om,<-List.flatten_append,List.replicate_append_replicate,show l.toNat+(c.toNat-l.toNat)=c.toNat by omega]
   rw[this]
  ·rw[<-hzl];simp only[Ae,List.length_flatten,List.map_replicate,List.sum_replicate_nat];rw[<-Bh];congr 1;omega
  ·obtain⟨_,rfl⟩:=List.mem_replicate.1 hrow;simpa using hzl
  ·obtain⟨l',hl,hv⟩:=List.mem_flatten.1 hv;have hl:=(List.mem_replicate.1 hl).2;rw[hl]at hv;exact g5 v hv
 ·rw[qN (by rw[hlen];exact Gh.setRow_eq _ _ _ _)]at hN;have:w.heap.size=N:=by simpa[Value.ownBlock]using hN
  omega
theorem u_appendMo{x y:Operand}{t e:TypeId}{mo:Bool}{sz k n m:Nat}{rows rows2:List (List PV)}{d:TV}(hA:AppT P t e sz)(hx:Opd tm x (.mo k n))(hn:rows.length=n)(hy:Opd tm y d)(hd:∀w s g v,d.P w s g v->(PV.sl mo sz rows2).p w s v)(hm:rows2.length=m)(hb:n+m<=1073741824):
  UOp P ⟨dst,.call {callee:= .builtin .append,args:= #[x,y],argTypes:= #[t,t]},ty,pos,aft,gd⟩ tm [(k,.mrow e sz rows)] (.mo k (n+m)) [(k,.mrow e sz (rows++rows2))]:=by
 intro w s g a K Q ht hg hK;subst hn;subst hm;obtain⟨ie,z,hty,hi,hz,hsz,hzs,hpos,hby,hby2⟩:=hA.h;subst hsz;have h1:=Opd.eval ht hx;rw[TV.P]at h1;obtain⟨hgn,hform⟩:=h1;obtain⟨hno,v0,hv0,hcase⟩:=hg.one;rw[hgn]at hv0;have hv0:=Option.some.inj hv0;obtain⟨a1,c1,xs,ex,hxl,hx1,hxr,hxp⟩:=PV.sl_src (hd _ _ _ _ (Opd.eval ht hy));obtain⟨_,_,_,_,_,hrz2,_⟩:=hd _ _ _ _ (Opd.eval ht hy);have hxs:AllV w s.good rows2.flatten xs:=by
  refine AllV.mk (by rw[hxl,jW hrz2]) fun j d v hdj hvj=>?_;have hjl:j<rows2.length*ie.size:=by rw[<-hxl];exact(Ac.1 hvj).1
  have hi1:j/ie.size<rows2.length:=(Nat.div_lt_iff_lt_mul hpos).2 hjl;have hmod:j%ie.size<ie.size:=Nat.mod_lt _ hpos;have hrow:=Af hi1;have hf:=vW hrz2 hrow;have hj:j/ie.size*ie.size+j%ie.size=j:=by rw[Cf];exact Nat.div_add_mod j ie.size
  have hdd:rows2[j/ie.size][j%ie.size]?=some d:=by
   rw[<-hf,Ch,Ag hmod,Cb,hj];exact hdj
  obtain⟨u,e1,e2⟩:=hxp _ _ _ _ hrow hdd;rw[hj,hvj]at e1
  cases e1;exact e2
 have hbytes:(rows.length+rows2.length)*ie.bytes<=140737488355328:=Bg (Nat.mul_le_mul hb hby2) de;have hlen:(rows++rows2).length=rows.length+rows2.length:=by simp
 --the end:a new slice over a block that holds what was and what came
 have fin:∀(w':World)(G cap:Nat)(olds rest:List Value),(Builtin.append_ #[t,t] ty #[a.eval x,a.eval y]).run P w= .ok (.slice (some ⟨G,0,none⟩) (rows.length+rows2.length) cap) w'->CellB w' G (List.toArray ((olds++xs)++rest)) e->AllV w s.good rows.flatten olds->(∀row∈rows,row.length=ie.size)->(∀v∈olds,v.oneCell'=true)->
   rows.length+rows2.length<=cap->cap<=maxLen->((olds++xs)++rest).length=cap*ie.size->(blk g k (.mrow e ie.size rows)=some G\/w.heap.size<=G)->w.heap.size<=w'.heap.size->(∀N,N<w.heap.size->N≠G->w'.heap[N]?=w.heap[N]?)->w'.os=w.os->w'.tape=w.tape->w'.output=w.output->
   (∀N o,blk g k (.mrow e ie.size rows)=some N->¬s N o)->(∀u,g.gn k (rows.length+rows2.length)=some u->u= .slice (some ⟨G,0,none⟩) (rows.length+rows2.length) cap)->(∀o,¬s G o)->
   Oper.wp P ⟨dst,.call {callee:= .builtin .append,args:= #[x,y],argTypes:= #[t,t]},ty,pos,aft,gd⟩ a w K Q:=by
  intro w' G cap olds rest hr hG holds hrows holdo hcap hcm hcl hGb hsz hblk e1 e2 e3 hns hgo hsG;unfold Oper.wp;rw[jH hr];refine hK w' s (g.setRow k (rows.length+rows2.length) (.slice (some ⟨G,0,none⟩) (rows.length+rows2.length) cap)) _ ?_ (Stp.reown hg hns hsz (fun N hN hne=>?_) e1 e2 e3 (uB hgo) jN (fun hex=>?_) fun N hN=>?_)
  ·rw[TV.P];exact⟨Gh.setRow_eq _ _ _ _,.inr ⟨G,cap,rfl,hcap,hcm⟩⟩
  ·refine hblk N hN fun e=>?_;subst e;rcases hGb with h|h
   ·exact hne h
   ·omega
  ·refine⟨fun i hi=>?_,_,by rw[hlen];exact Gh.setRow_eq _ _ _ _,.inr ⟨G,cap,olds++xs,rest,by rw[hlen],hG,by rw[hlen];exact hcap,hcm,hcl,?_,⟨fun row hrow=>?_,fun v hv=>(Az.1 hv).elim (holdo v) (hx1 v)⟩,hsG⟩⟩
   ·rw[hlen]at hi;rw[Gh.setRow_ne _ _ om];exact hno i om
   ·rw[List.flatten_append];exact(AllV.append holds hxs).mono hex.good
   ·rcases Az.1 hrow with h|h
    ·exact hrows row h
    ·exact hrz2 row h
  ·rw[qN (by rw[hlen];exact Gh.setRow_eq _ _ _ _)]at hN;have:G=N:=by simpa[Value.ownBlock]using hN
   subst this;exact hGb.elim .inr .inl
 rcases Bp rows2.length with hm0|hm0
 ·--nothing to append
  have hr2:rows2=[]:=Ax hm0;subst hr2;have hr:(Builtin.append_ #[t,t] ty #[a.eval x,a.eval y]).run P w= .ok (a.eval x) w:=by
   rw[ex];rcases hform with⟨e1,h0⟩|⟨G,c,e1,hnc,hcm⟩
   ·rw[e1];cases a1<;>simp[Builtin.append_,run_underlying hty,sizeOf,typeInfo,hi,Builtin.lenOf,Builtin.firstCells,loadCells,loadCellsFrom]
   ·rw[e1];cases a1<;>simp[Builtin.append_,run_underlying hty,sizeOf,typeInfo,hi,Builtin.lenOf,Builtin.firstCells,loadCells,loadCellsFrom,hnc,storeCells]
  unfold Oper.wp;rw[jH hr];refine hK w s g _ ?_ ?_
  ·rw[TV.P];exact⟨by simpa using hgn,by simpa using hform⟩
  ·rw[Ca]at hg⊢;exact Stp.read hg
 ·obtain⟨b2,off2,ea⟩:=hxr hm0;obtain⟨ea,hra⟩:=ea;subst ea;have hnews:∀j u,xs[j]?=some u->w.cell? ((⟨b2,off2,none⟩:Addr).add j)=some u:=fun j u hj=>by rw[Addr.add_mid];exact hra j u hj
  have hgo:∀u v,g.gn k (rows.length+rows2.length)=some u->u=v:=fun u v h=>by rw[hno _ om]at h;cases h
  rcases hcase with⟨rfl,h0⟩|⟨G,cap,vs,rest,rfl,hG,hnc,hcm,hcs,hav,hrow,hsG⟩
  ·subst h0;have hr:=run_append_nil (P:=P) w t ty e ie z hty hi hz ⟨b2,off2,none⟩ rows2.length c1 xs hxl hnews hm0 om (by have:=hbytes;simp only[Au,Bv]at this;omega);have hge:=grownCap_ge w rows2.length 0 e;have hcm:grownCap w rows2.length 0 e<=maxLen:=grownCap_le_maxLen w _ 0 e (by simp only[maxLen];omega);refine fin (w.drew.alloc (.cells (xs.toArray++Builtin.zeroCells z.cells (grownCap w rows2.length 0 e-rows2.length)) e)) w.heap.size (grownCap w rows2.length 0 e) [] (Builtin.zeroCells z.cells (grownCap w rows2.length 0 e-rows2.length)).toList ?_ ?_ trivial (fun _ h=>by cases h) (fun _ h=>by cases h) (by simpa using hge) hcm ?_ (.inr (Ap _)) ?_ ?_ ?_ ?_ ?_ (fun N o hN=>?_) (fun u h=>hgo u _ h) (fun o ho=>Nat.lt_irrefl _ (hg.lt _ _ ho))
   ·rw[ex,hv0];simpa using hr
   ·rw[show(([]++xs++(Builtin.zeroCells z.cells (grownCap w rows2.length 0 e-rows2.length)).toList:List Value)).toArray=xs.toArray++Builtin.zeroCells z.cells (grownCap w rows2.length 0 e-rows2.length)from by apply Bx.1;simp];exact .of (heap_alloc_new w.drew _)
   ·simp only[Dh,Ae,Cz,size_zeroCells,hzs,hxl,<-Bh];congr 1;omega
   ·simp
   ·exact fun N hN _=>heap_alloc_old w.drew _ hN
   ·rfl
   ·rfl
   ·rfl
   ·rw[qN (by exact hgn),hv0]at hN
    cases hN
  ·have hbl:blk g k (.mrow e ie.size rows)=some G:=by rw[qN hgn,hv0];rfl
   have hvl:vs.length=rows.length*ie.size:=by rw[hav.length,jW hrow.1]
   have holds:∀j u,vs[j]?=some u->w.cell? ((⟨G,0,none⟩:Addr).add j)=some u:=fun j u hj=>by
    rw[Addr.add_mid,Bv,hG.cell];have:=(Ac.1 hj).1;simp only[Db];rw[Bb this];exact hj
   by_cases hroom:rows.length+rows2.length<=cap
   ·have hfit:rows.length*ie.size+xs.length<=(vs++rest).toArray.size:=by rw[Br,hcs,hxl,<-Bh];exact Bs _ hroom
    have hr:=uK (P:=P) w t ty e ie hty hi G rows.length cap _ hG ⟨b2,off2,none⟩ rows2.length c1 xs hxl hnews hx1 hroom hfit;have hcut:((vs++rest).toArray.toList.take (rows.length*ie.size)++xs++(vs++rest).toArray.toList.drop (rows.length*ie.size+xs.length))=(vs++xs)++rest.drop xs.length:=by
     simp only[];rw[<-hvl,List.take_left,List.drop_append,Bq om,Dh,Nat.add_sub_cancel_left]
    rw[hcut]at hr;refine fin _ G cap vs (rest.drop xs.length) ?_ (hG.setRow (by simp only[Br,Ae,Ay]at hfit⊢;omega)) hav hrow.1 hrow.2 hroom hcm ?_ (.inl hbl) ?_ (fun N _ hN=>setRow_other w G N _ hN) ?_ ?_ ?_ (fun N o hN=>by rw[hbl]at hN;cases hN;exact hsG o) (fun u h=>hgo u _ h) hsG
    ·rw[ex,hv0];exact hr
    ·have h2:(vs++rest).length=cap*ie.size:=hcs;simp only[Ae,Ay,Br]at h2 hfit⊢;omega
    ·simp
    ·rfl
    ·rfl
    ·rfl
   ·have hr:=run_append_grow (P:=P) w t ty e ie z hty hi hz ⟨G,0,none⟩ rows.length cap vs hvl holds ⟨b2,off2,none⟩ rows2.length c1 xs hxl hnews om om (growslice_fits om hbytes);have hge:=grownCap_ge w (rows.length+rows2.length) cap e;have hcm2:grownCap w (rows.length+rows2.length) cap e<=maxLen:=grownCap_le_maxLen w _ cap e (by simp only[maxLen];omega);refine fin (w.drew.alloc (.cells (vs.toArray++xs.toArray++Builtin.zeroCells z.cells (grownCap w (rows.length+rows2.length) cap e-(rows.length+rows2.length))) e)) w.heap.size (grownCap w (rows.length+rows2.length) cap e) vs (Builtin.zeroCells z.cells (grownCap w (rows.length+rows2.length) cap e-(rows.length+rows2.length))).toList ?_ ?_ hav hrow.1 hrow.2 hge hcm2 ?_ (.inr (Ap _)) ?_ ?_ ?_ ?_ ?_ (fun N o hN=>by rw[hbl]at hN;cases hN;exact hsG o) (fun u h=>hgo u _ h) (fun o ho=>Nat.lt_irrefl _ (hg.lt _ _ ho))
    ·rw[ex,hv0];exact hr
    ·rw[show((vs++xs++(Builtin.zeroCells z.cells (grownCap w (rows.length+rows2.length) cap e-(rows.length+rows2.length))).toList:List Value)).toArray=vs.toArray++xs.toArray++Builtin.zeroCells z.cells (grownCap w (rows.length+rows2.length) cap e-(rows.length+rows2.length))from by apply Bx.1;simp];exact .of (heap_alloc_new w.drew _)
    ·simp only[Ae,Cz,size_zeroCells,hzs,hxl,hvl,<-Bh];congr 1;omega
    ·simp
    ·exact fun N hN _=>heap_alloc_old w.drew _ hN
    ·rfl
    ·rfl
    ·rfl
theorem u_copyMo{x y:Operand}{t t2 e:TypeId}{mo:Bool}{k n:Nat}{rows rows2:List (List PV)}{d:TV}(hu:P.underlying t=some (.slice e))(hs:(P.info? e).map (·.size)=some 1)(hx:Opd tm x (.mo k n))(hn:rows.length=n)(hy:Opd tm y d)(hd:∀w s g v,d.P w s g v->(PV.sl mo 1 rows2).p w s v)(hl:rows2.length<=n):
  UOp P ⟨dst,.call {callee:= .builtin .copy,args:= #[x,y],argTypes:= #[t,t2]},ty,pos,aft,gd⟩ tm [(k,.mrow e 1 rows)] (.pv (PV.lit (.int .i64 rows2.length))) [(k,.mrow e 1 (rows2++rows.drop rows2.length))]:=by
 intro w s g a K Q ht hg hK;subst hn;have h1:=Opd.eval ht hx;rw[TV.P]at h1;obtain⟨hgn,hform⟩:=h1;obtain⟨hno,v0,hv0,hcase⟩:=hg.one;rw[hgn]at hv0;have hv0:=Option.some.inj hv0;obtain⟨a1,c1,xs,ex,hxl,hx1,hxr,hxp⟩:=PV.sl_src (hd _ _ _ _ (Opd.eval ht hy));obtain⟨_,_,_,_,_,hrz2,_⟩:=hd _ _ _ _ (Opd.eval ht hy);have hxs:AllV w s.good rows2.flatten xs:=by
  refine AllV.mk (by rw[hxl,jW hrz2]) fun j d v hdj hvj=>?_;have hjl:j<rows2.length:=by have:=(Ac.1 hvj).1;omega
  have hrow:=Af hjl;have hf:=vW hrz2 hrow;have hdd:rows2[j][0]?=some d:=by
   rw[<-hf,Ch,Ag om,Cb,Nat.mul_one,Ce];exact hdj
  obtain⟨u,e1,e2⟩:=hxp _ _ _ _ hrow hdd;rw[Nat.mul_one,Ce,hvj]at e1
  cases e1;exact e2
 have hlen:(rows2++rows.drop rows2.length).length=rows.length:=by simp;omega
 have he:∀{v':Value}{w':World},(Builtin.copy_ #[t,t2] ty #[a.eval x,a.eval y]).run P w= .ok v' w'->(execOp a.eval ⟨dst,.call {callee:= .builtin .copy,args:= #[x,y],argTypes:= #[t,t2]},ty,pos,aft,gd⟩).run P w= .ok (.value v') w':=by
  intro v' w' h;simp[execOp,resolve,invoke,builtin,h,Result.andThen]
 unfold Oper.wp;rcases Bp rows2.length with hm0|hm0
 ·have hr2:rows2=[]:=Ax hm0;subst hr2;have hr:(Builtin.copy_ #[t,t2] ty #[a.eval x,a.eval y]).run P w= .ok (goInt 0) w:=by
   cases hq:P.info? e with
   |none=>simp[hq]at hs
   |some i=>
    rw[ex];rcases hform with⟨e1,h0⟩|⟨G,c,e1,hnc,hcm⟩
    ·rw[e1];cases a1<;>simp[Builtin.copy_,run_underlying hu,Builtin.lenOf,Builtin.firstCells,sizeOf,typeInfo,hq,loadCells,loadCellsFrom]
    ·rw[e1];cases a1<;>simp[Builtin.copy_,run_underlying hu,Builtin.lenOf,Builtin.firstCells,sizeOf,typeInfo,hq,loadCells,loadCellsFrom,storeCells]
  rw[he hr];refine hK w s g _ rfl ?_;simp only[Au,List.drop_zero,Dh]at hg⊢;exact Stp.read hg
 ·obtain⟨b2,off2,ea⟩:=hxr hm0;obtain⟨ea,hra⟩:=ea;subst ea;have hnews:∀j u,xs[j]?=some u->w.cell? ((⟨b2,off2,none⟩:Addr).add j)=some u:=fun j u hj=>by rw[Addr.add_mid];exact hra j u hj
  rcases hcase with⟨rfl,h0⟩|⟨G,cap,vs,rest,rfl,hG,hnc,hcm,hcs,hav,hrow,hsG⟩
  ·subst h0;have h9:rows2.length<=0:=hl;omega
  ·have hbl:∀r:List (List PV),r.length=rows.length->blk g k (.mrow e 1 r)=some G:=fun r hr=>by rw[qN (by rw[hr];exact hgn),hv0];rfl
   have hvl:vs.length=rows.length*1:=by rw[hav.length,jW hrow.1]
   have hr:=run_copy_rowK (P:=P) w t t2 ty e G 0 rows.length cap ⟨b2,off2,none⟩ rows2.length c1 _ e xs hu hs hG (by rw[hxl,Nat.mul_one];exact(Nat.min_eq_left hl).symm) hnews (by rw[Br,Ae];omega) hx1;have hcut:((vs++rest).toArray.toList.take 0++xs++(vs++rest).toArray.toList.drop (0+xs.length))=(xs++vs.drop xs.length)++rest:=by
    simp only[];rw[List.take_zero,Dh,Bv,List.drop_append_of_le_length om,Co]
   rw[hcut]at hr;rw[he (by rw[ex,hv0];exact hr)];refine hK _ s g _ (by rw[hxl,Nat.mul_one];rfl) (Stp.turn hg (hbl rows rfl) hsG (fun M hM=>setRow_other w G M _ hM) (by simp) rfl rfl rfl (fun hex=>?_) (hbl _ hlen));refine⟨fun m hm=>hno m (by rw[hlen]at hm;exact hm),_,by rw[hlen];exact hgn,.inr ⟨G,cap,xs++vs.drop xs.length,rest,by rw[hlen];exact hv0,hG.setRow (by simp only[Br,Ae,Ay];omega),by rw[hlen];exact hnc,hcm,?_,?_,⟨fun r hr=>?_,fun v hv=>(Az.1 hv).elim (hx1 v) fun h=>hrow.2 v (List.mem_of_mem_drop h)⟩,hsG⟩⟩
   ·rw[<-hcs];simp only[Ae,Ay];omega
   ·rw[List.flatten_append];refine(AllV.append hxs ?_).mono hex.good;have:(rows.drop rows2.length).flatten=rows.flatten.drop xs.length:=by
     have h1:rows.flatten=(rows.take rows2.length).flatten++(rows.drop rows2.length).flatten:=by rw[<-List.flatten_append,Da]
     have h2:(rows.take rows2.length).flatten.length=xs.length:=by
      rw[jW (sz:=1) fun r hr=>hrow.1 r (List.mem_of_mem_take hr),At,Nat.min_eq_left hl,hxl]
     rw[h1,<-h2,List.drop_left]
    rw[this];exact hav.drop _
   ·rcases Az.1 hr with h|h
    ·exact hrz2 r h
    ·exact hrow.1 r (List.mem_of_mem_drop h)
end
def mG0(w:World)(g:Gh)(acc:List (Nat×Own))(B o:Nat):Prop:=(∃k c,fnd k acc=some c/\blk g k c=some B)/\∃v,w.cell? ⟨B,o,none⟩=some v
theorem Ex.lend(w:World)(s:Sb)(p:Nat->Nat->Prop):Ex w s w (s.lend p):=⟨fun _ _ h=> .inl h,fun _ _ _=>rfl,fun _ _ h=>h⟩
inductive Lent(acc:List (Nat×Own)):TV->PV->Prop
 |pv (d:PV):Lent acc (.pv d) d
 |own (k sz:Nat) (rows:List (List PV)):Lent acc (.own k sz rows) (PV.sl false sz rows)
 |agg (l:List TV) (ds:List PV) (hl:l.length=ds.length) (h:∀(j:Nat)(d:TV)(e:PV),l[j]?=some d->ds[j]?=some e->Lent acc d e):Lent acc (.agg l) (PV.agg ds)
 |clo (f:FuncId) (l:List TV) (ds:List PV) (hl:l.length=ds.length) (h:∀(j:Nat)(d:TV)(e:PV),l[j]?=some d->ds[j]?=some e->Lent acc d e):Lent acc (.clo f l) (PV.clo f ds)
 |mo (k n:Nat) (e:TypeId) (sz:Nat) (rows:List (List PV)) (hk:fnd k acc=some (.mrow e sz rows)) (hn:n=rows.length):Lent acc (.mo k n) (PV.sl true sz rows)
 |bp (k off:Nat) (t:TypeId) (cs:List TV) (ds:List PV) (hk:fnd k acc=some (.box t cs)) (hl:cs.length=ds.length) (h:∀(j:Nat)(d:TV)(e:PV),cs[j]?=some d->ds[j]?=some e->Lent acc d e):Lent acc (.bp k off) (PV.pt true (ds.drop off))
theorem tM{w:World}{s s1:Sb}{g:Gh}{l:List TV}{ds:List PV}{vs:List Value}(hl:l.length=ds.length)(hv:AllT w s g l vs)(h:∀(j:Nat)(d:TV)(e:PV)(v:Value),l[j]?=some d->ds[j]?=some e->d.P w s g v->e.p w s1 v):AllV w s1 ds vs:=by
 refine AllV.mk (by rw[hv.length,hl]) fun j e v he hve=>?_;obtain⟨d,hd,hp⟩:=hv.get' hve;exact h j d e v hd he hp
theorem Lent.ok{w:World}{s:Sb}{g:Gh}{acc:List (Nat×Own)}(hok:∀k c,fnd k acc=some c->Ok1 w s g k c){d:TV}{e:PV}(h:Lent acc d e):∀v,d.P w s g v->e.p w (s.lend (mG0 w g acc)) v:=by
 induction h with
 |pv d=>intro v hv;rw[TV.P]at hv;exact d.mono _ _ _ _ v (Ex.lend w s _) hv
 |own k sz rows=>intro v hv;rw[TV.P]at hv;exact(PV.sl false sz rows).mono _ _ _ _ v (Ex.lend w s _) hv.1
 |agg l ds hl _ ih=>
  intro v hv;rw[TV.P]at hv;obtain⟨vs,h1,h2⟩:=hv;exact⟨vs,h1,tM hl h2 fun j d e v hd he hp=>ih j d e hd he v hp⟩
 |clo f l ds hl _ ih=>
  intro v hv;rw[TV.P]at hv;obtain⟨vs,h1,h2⟩:=hv;exact⟨vs,h1,tM hl h2 fun j d e v hd he hp=>ih j d e hd he v hp⟩
 |mo k n e sz rows hk hn=>
  intro v hv;rw[TV.P]at hv;obtain⟨h1,h2⟩:=hv;subst hn;have hk':=hok k _ hk;rcases h2 with⟨h2,h3⟩|⟨G,c,h2,h3,h4⟩
  ·have:rows=[]:=Ax h3;subst this;exact⟨none,0,h2,Ap _,by omega,(fun _ h=>by cases h),fun i row h=>by simp at h⟩
  ·obtain⟨vs,rest,g1,g2,g3,g4,g5,g6,g7⟩:=pE hk' rfl (h1.trans (by rw[h2]));refine⟨_,c,h2,h3,by simpa[maxLen]using h4,g6.1,fun i row hi=>⟨G,0,rfl,fun j d hd=>?_⟩⟩;have hrz:=g6.1;have hrow:=g6.1 row (Aw hi);have hj:j<sz:=by rw[<-hrow];exact(Ac.1 hd).1
   have hfd:rows.flatten[i*sz+j]?=some d:=by
    have:((rows.flatten.drop (i*sz)).take sz)[j]?=some d:=by rw[vW hrz hi];exact hd
    rw[Ch,Ag hj,Cb]at this;exact this
   obtain⟨u,h5,h6⟩:=g5.get hfd;have hl:=(Ac.1 h5).1;have hc:w.cell? ⟨G,0+i*sz+j,none⟩=some u:=by
    rw[Bv,g1.cell];simp only[Db];rw[Bb hl];exact h5
   exact⟨u,hc,.inr ⟨⟨k,_,hk,by rw[qN h1,h2];rfl⟩,u,hc⟩,h6,g6.2 u (Aw h5)⟩
 |bp k off t cs ds hk hl _ ih=>
  intro v hv;rw[TV.P]at hv;obtain⟨N,h1,h2⟩:=hv;obtain⟨M,vs,h3,h4,h5,h6,h7⟩:=hok k _ hk;rw[h1]at h3;cases h3;have hav:=tM hl h5 fun j d e v hd he hp=>ih j d e hd he v hp;refine⟨N,off,h2,fun j d hd=>?_⟩;rw[Cb]at hd;obtain⟨u,h8,h9⟩:=hav.get hd;have hc:w.cell? ⟨N,off+j,none⟩=some u:=by rw[cell_of_row w N _ _ t (0,0) h4];simpa using h8
  obtain⟨d',h10,h11⟩:=h5.get' h8;exact⟨u,hc,.inr ⟨⟨k,_,hk,h1⟩,u,hc⟩,h9,TV.cell (h6 d' (Aw h10)) h11⟩
def CalOk(tm:List (Nat×TV))(x:Operand)(f:FuncId)(caps:List TV):Prop:=∀w s g a,qW w s g tm a->∃vs:List Value,a.eval x= .func (.func f) #[] vs.toArray/\AllT w s g caps vs
theorem CalOk.func(tm:List (Nat×TV))(f:FuncId):CalOk tm (.func f) f []:=fun _ _ _ _ _=>⟨[],rfl,trivial⟩
theorem CalOk.clo{tm:List (Nat×TV)}{x:Operand}{f:FuncId}{caps:List TV}(hf:f<1000000)(h:Opd tm x (.clo f caps)):CalOk tm x f caps:=fun w s g a ht=>by
 have:=Opd.eval ht h;rw[TV.P]at this;obtain⟨vs,h1,h2⟩:=this;exact⟨vs,h1.trans (xH0 hf vs),h2⟩
theorem gM{P:Program}{f:FuncId}{c:Operand}{xs:List Operand}{ts:Array TypeId}{a:Act}{w:World}{vs:List Value}{dst:Option Tmp}{ty:TypeId}{pos:String}{aft:Array Edge}{gd:Option (Nat×Bool)}(hb:Bod P f)(h:a.eval c= .func (.func f) #[] vs.toArray):
  (execOp a.eval ⟨dst,.call {callee:= .value c,args:=xs.toArray,argTypes:=ts},ty,pos,aft,gd⟩).run P w= .ok (.enter f (xs.map a.eval++vs).toArray) w:=by
 simp only[execOp,resolve,h,Deferred.ofValue,Sem.run_bind,Sem.run_pure,Result.andThen_ok,invoke];have:=mD hb ((xs.map a.eval).toArray++vs.toArray) w;simpa using this
def CalB(tm:List (Nat×TV))(x:Operand)(f:FuncId)(first:List TV):Prop:=∀w s g a,qW w s g tm a->∃us:List Value,a.eval x= .func (.func f) us.toArray #[]/\AllT w s g first us
theorem CalB.clo{tm:List (Nat×TV)}{x:Operand}{f:FuncId}{first:List TV}(hf:¬f<1000000)(h:Opd tm x (.clo f first)):CalB tm x (f-1000000) first:=fun w s g a ht=>by
 have:=Opd.eval ht h;rw[TV.P]at this;obtain⟨vs,h1,h2⟩:=this;exact⟨vs,h1.trans (xI0 hf vs),h2⟩
theorem call_execB{P:Program}{f:FuncId}{c:Operand}{xs:List Operand}{ts:Array TypeId}{a:Act}{w:World}{us:List Value}{dst:Option Tmp}{ty:TypeId}{pos:String}{aft:Array Edge}{gd:Option (Nat×Bool)}(hb:Bod P f)(h:a.eval c= .func (.func f) us.toArray #[]):
  (execOp a.eval ⟨dst,.call {callee:= .value c,args:=xs.toArray,argTypes:=ts},ty,pos,aft,gd⟩).run P w= .ok (.enter f (us++xs.map a.eval).toArray) w:=by
 simp only[execOp,resolve,h,Deferred.ofValue,Sem.run_bind,Sem.run_pure,Result.andThen_ok,invoke];have:=mD hb (us.toArray++(xs.map a.eval).toArray) w;simpa using this
def lendable:Own->Bool
 | .box _ _=>true
 | .mrow _ _ _=>true
 |_=>false
theorem lendable.out{w:World}{s:Sb}{g:Gh}{k:Nat}{c:Own}(hl:lendable c=true)(h:Ok1 w s g k c):∀N o,blk g k c=some N->¬s N o:=by
 match c,hl,h with
 | .box t cs,_,⟨N,vs,h1,h2,h3,h4,h5⟩=>
  intro M o hM;have:some N=some M:=h1.symm.trans hM
  cases this;exact h5 o
 | .mrow e sz rows,_,⟨_,v,h1,h2⟩=>
  intro M o hM;rw[qN h1]at hM;rcases h2 with⟨rfl,_⟩|⟨G,cap,vs,rest,rfl,_,_,_,_,_,_,h3⟩
  ·cases hM
  ·have:G=M:=by simpa[Value.ownBlock]using hM
   subst this;exact h3 o
section
variable{P:Program}{tm:List (Nat×TV)}{dst:Option Tmp}{ty:TypeId}{pos:String}{aft:Array Edge}{gd:Option (Nat×Bool)}
theorem u_makeFunc{f:FuncId}{xs:List Operand}{l:List TV}(hf:f<1000000)(h:∀w s g a,qW w s g tm a->AllT w s g l (xs.map a.eval)):UOp P ⟨dst,.makeFunc (.func f) #[] xs.toArray,ty,pos,aft,gd⟩ tm [] (.clo f l) []:=
 UOp.pure fun w s g a ht=>by
  refine⟨.func (.func f) #[] (xs.map a.eval).toArray,?_,?_⟩
  ·simp[execOp,Instr.makeFunc]
  ·rw[TV.P];exact⟨_,(xH0 hf _).symm,h w s g a ht⟩
theorem u_makeFuncB{f:FuncId}{xs:List Operand}{l:List TV}(h:∀w s g a,qW w s g tm a->AllT w s g l (xs.map a.eval)):UOp P ⟨dst,.makeFunc (.func f) xs.toArray #[],ty,pos,aft,gd⟩ tm [] (.clo (1000000+f) l) []:=
 UOp.pure fun w s g a ht=>by
  refine⟨.func (.func f) (xs.map a.eval).toArray #[],?_,?_⟩
  ·simp[execOp,Instr.makeFunc]
  ·rw[TV.P];exact⟨_,by rw[xI0 (Nat.not_lt.2 (Nat.le_add_right _ _)),show 1000000+f-1000000=f from Nat.add_sub_cancel_left ..],h w s g a ht⟩
def CArgs(tm:List (Nat×TV))(acc:List (Nat×Own))(xs:List Operand)(caps:List TV)(args:List PV):Prop:=
 ∃ts:List TV,ts.length=xs.length/\(∀(j:Nat)(x:Operand)(t:TV),xs[j]?=some x->ts[j]?=some t->Opd tm x t)/\(ts++caps).length=args.length/\∀(j:Nat)(d:TV)(e:PV),(ts++caps)[j]?=some d->args[j]?=some e->Lent acc d e
theorem CArgs.all{w:World}{s:Sb}{g:Gh}{a:Act}{acc:List (Nat×Own)}{xs:List Operand}{caps:List TV}{args:List PV}{vs:List Value}(h:CArgs tm acc xs caps args)(ht:qW w s g tm a)(hok:∀k c,fnd k acc=some c->Ok1 w s g k c)(hv:AllT w s g caps vs):
  AllV w (s.lend (mG0 w g acc)) args (xs.map a.eval++vs):=by
 obtain⟨ts,h1,h2,h3,h4⟩:=h;have h5:AllT w s g ts (xs.map a.eval):=by
  have:∀{xs:List Operand}{ts:List TV},ts.length=xs.length->(∀(j:Nat)(x:Operand)(t:TV),xs[j]?=some x->ts[j]?=some t->Opd tm x t)->AllT w s g ts (xs.map a.eval):=by
   intro xs;induction xs with
   |nil=>intro ts hl _;have:ts=[]:=Ax hl;subst this;trivial
   |cons x xs ih=>
    intro ts hl h
    cases ts with
    |nil=>simp at hl
    |cons t ts=>exact⟨Opd.eval ht (h 0 x t rfl rfl),ih (by simpa using hl) fun j y u hy hu=>h (j+1) y u (by simpa using hy) (by simpa using hu)⟩
  exact this h1 h2
 exact tM h3 (AllT.append h5 hv) fun j d e v hd he hp=>(h4 j d e hd he).ok hok v hp
theorem u_callL{f:FuncId}{c:Operand}{xs:List Operand}{ts:Array TypeId}{acc:List (Nat×Own)}{caps:List TV}{args:List PV}{out:PV}(hF:PFun P f args out)(hstr:out.str=true)(hc:CalOk tm c f caps)(ha:CArgs tm acc xs caps args)(hl:∀k c,fnd k acc=some c->lendable c=true):
  UOp P ⟨dst,.call {callee:= .value c,args:=xs.toArray,argTypes:=ts},ty,pos,aft,gd⟩ tm acc (.pv out) acc:=by
 intro w s g a K Q ht hg hK;obtain⟨vs,h1,h2⟩:=hc w s g a ht;have hall:=ha.all ht hg.ok h2;unfold Oper.wp;rw[gM hF.bod h1];have hns:∀B o,(∃k c,fnd k acc=some c/\blk g k c=some B)->¬s B o:=fun B o ⟨k,c,hk,hb⟩=>lendable.out (hl k c hk) (hg.ok k c hk) B o hb;have hbl:∀B,(∃k c,fnd k acc=some c/\blk g k c=some B)->B<w.heap.size:=fun B ⟨k,c,hk,hb⟩=>(hg.ok k c hk).lt hb;refine(hF.run w (s.lend (mG0 w g acc)) _ (fun B o h=>h.elim (hg.lt B o) fun h=>hbl B h.1) (hg.gl.mono (Ex.lend w s _)) hall).mono ?_;rintro e w' ⟨s1,v,rfl,hv,hp⟩;have hle:∀b o,s1.st b o->s1 b o/\¬∃k c,fnd k acc=some c/\blk g k c=some b:=fun b o h=>⟨s1.le b o h,fun hb=>by
  rcases hp.sst b o h with h1|h1
  ·exact hns b o hb (s.le b o h1)
  ·have:=hbl b hb;omega⟩
 refine hK w' ⟨fun b o=>s1 b o/\¬∃k c,fnd k acc=some c/\blk g k c=some b,s1.st,hle⟩ g v (out.strong hstr w' s1 _ v (fun _ _ h=>h) hv) ?_;have hx:Ex w s w' ⟨fun b o=>s1 b o/\¬∃k c,fnd k acc=some c/\blk g k c=some b,s1.st,hle⟩:=⟨fun b o h=>⟨hp.ex.st b o (.inl h),fun hb=>hns b o hb h⟩,fun b o h=>hp.ex.cell b o (.inl h),hp.ex.sst⟩;refine⟨hx,fun B o h=>hp.lt B o h.1,GLe.refl g,fun _ _=>⟨rfl,fun _=>rfl⟩,hp.os,hp.tape,hp.output,hp.size,fun N hN _=>hp.block N hN,fun B o h=>?_,fun B o h=>(hp.sst B o h).imp id .inl,fun k c hk=>?_,fun k c N hk hb=> .inr ⟨k,c,hk,hb⟩,hg.sep,fun k c hk=>⟨c,hk⟩⟩
 ·rcases hp.st B o h.1 with h1|h1
  ·rcases h1 with h1|h1
   ·exact .inl h1
   ·exact absurd h1.1 h.2
  ·exact .inr (.inl h1)
 ·exact(hg.ok k c hk).keep hx (GLe.refl g) (fun _=>rfl) (fun N hb=>hp.block N (hbl N ⟨k,c,hk,hb⟩)) fun N o hb h=>absurd ⟨k,c,hk,hb⟩ h.2
theorem u_callOC{f:FuncId}{c:Operand}{xs:List Operand}{ts:Array TypeId}{args:List PV}{e:TypeId}{sz:Nat}{rows:List (List PV)}(k:Nat)(hF:OFun P f args e sz rows)(ha:∀w s g a,qW w s g tm a->∃vs:List Value,a.eval c= .func (.func f) #[] vs.toArray/\AllV w s args (xs.map a.eval++vs)):
  UOp P ⟨dst,.call {callee:= .value c,args:=xs.toArray,argTypes:=ts},ty,pos,aft,gd⟩ tm [] (.own k sz rows) [(k,.row e sz rows.length)]:=by
 intro w s g a K Q ht hg hK;obtain⟨vs,h0,h1⟩:=ha w s g a ht;unfold Oper.wp;rw[gM hF.bod h0];have hfr:=hg.fr k (.row e sz rows.length) (by rw[zY];simp) rfl;refine(hF.run w s _ hg.lt hg.gl h1).mono ?_;rintro r w' ⟨s',g',k',v,rfl,hv,ho,hN,hp⟩;rw[TV.P]at hv;obtain⟨h2,v0,h3,h4⟩:=ho;have hv0:v0=v:=by have:=h3.symm.trans hv.2;cases this;rfl
 subst hv0;have hbl:blk (g.setRow k rows.length v0) k (.row e sz rows.length)=blk g' k' (.row e sz rows.length):=by
  rw[uF (Gh.setRow_eq _ _ _ _),uF h3]
 refine hK w' s' (g.setRow k rows.length v0) v0 ?_ ⟨hp.ex,hp.lt,(uB fun u hu=>by rw[hfr.2]at hu;cases hu),(fun j h=>jN j fun e=>?_),hp.os,hp.tape,hp.output,hp.size,fun N hN _=>hp.block N hN,fun B o hs=>(hp.st B o hs).elim .inl fun x=> .inr (.inl x),fun B o hs=>(hp.sst B o hs).elim .inl fun x=> .inr (.inl x),fun j c h=>?_,fun j c N h hb=>?_,fun j j' c c' N h h' hne=>?_,fun _ _ h=>by cases h⟩
 ·rw[TV.P];exact⟨hv.1,Gh.setRow_eq _ _ _ _⟩
 ·subst e;rw[zY]at h;simp at h
 ·obtain⟨rfl,rfl⟩:=Own.row_one h;refine⟨fun m hm=>?_,v0,Gh.setRow_eq _ _ _ _,h4⟩;rw[Gh.setRow_ne _ _ om];exact hfr.2 m
 ·obtain⟨rfl,rfl⟩:=Own.row_one h;rw[hbl]at hb;exact .inl (hN N hb)
 ·obtain⟨rfl,rfl⟩:=Own.row_one h;obtain⟨rfl,rfl⟩:=Own.row_one h';exact absurd rfl hne
end
theorem Ok1.freeze{w:World}{s:Sb}{g:Gh}{k sz:Nat}{e:TypeId}{rows:List (List PV)}(h:Ok1 w s g k (.mrow e sz rows)):
  ∃p:Nat->Nat->Prop,(∀B o,p B o->blk g k (.mrow e sz rows)=some B/\∃v,w.cell? ⟨B,o,none⟩=some v)/\Ok1 w (s.add p) g k (.row e sz rows.length)/\∀v,(TV.mo k rows.length).P w s g v->(TV.own k sz rows).P w (s.add p) g v:=by
 obtain⟨hno,v0,h1,h2⟩:=h;rcases h2 with⟨rfl,hr⟩|⟨G,cap,vs,rest,rfl,hG,hnc,hcm,hcs,hav,hrow,hsG⟩
 ·subst hr;refine⟨fun _ _=>False,fun B o h=>h.elim,⟨hno,_,h1,.inl ⟨rfl,rfl⟩⟩,fun v hv=>?_⟩;rw[TV.P]at hv;rw[TV.P];refine⟨?_,hv.1⟩;have:=hv.1.symm.trans h1
  cases this;exact⟨none,0,rfl,Ap _,by omega,(fun _ h=>by cases h),fun i row h=>by simp at h⟩
 ·have hrz:=hrow.1;have hvl:vs.length=rows.length*sz:=by rw[hav.length,jW hrz]
  have hcell:∀o u,vs[o]?=some u->w.cell? ⟨G,o,none⟩=some u:=fun o u hu=>by
   rw[hG.cell];have:=(Ac.1 hu).1;simp only[Db];rw[Bb this];exact hu
  refine⟨fun B o=>B=G/\o<rows.length*sz,fun B o ⟨e1,ho⟩=>?_,⟨hno,_,h1,.inr ⟨G,cap,_,rfl,hG,hnc,hcm,by rw[Br];exact hcs,fun o ho hso=>?_⟩⟩,fun v hv=>?_⟩
  ·subst e1;refine⟨by rw[qN h1];rfl,vs[o],hcell o _ (Af om)⟩
  ·rcases hso with hso|⟨_,hso⟩
   ·exact hsG o hso
   ·omega
  ·rw[TV.P]at hv;rw[TV.P];refine⟨?_,hv.1⟩;have hv1:=hv.1.symm.trans h1;have hv1:=Option.some.inj hv1;subst hv1;refine⟨_,cap,rfl,hnc,by simpa[maxLen]using hcm,hrz,fun i row hi=>⟨G,0,rfl,fun j d hd=>?_⟩⟩;have hr:=hrow.1 row (Aw hi);have hj:j<sz:=by rw[<-hr];exact(Ac.1 hd).1
   have hfd:rows.flatten[i*sz+j]?=some d:=by
    have:((rows.flatten.drop (i*sz)).take sz)[j]?=some d:=by rw[vW hrz hi];exact hd
    rw[Ch,Ag hj,Cb]at this;exact this
   obtain⟨u,h5,h6⟩:=hav.get hfd;have hl:=(Ac.1 h5).1;refine⟨u,by rw[Bv];exact hcell _ _ h5,.inr ⟨rfl,by omega⟩,d.mono w s.good _ _ u ⟨fun _ _ h=> .inl h,fun _ _ _=>rfl,fun _ _ h=> .inl h⟩ h6,hrow.2 u (Aw h5)⟩
structure GFun(P:Program)(f:FuncId)(args:List TV)(acc:List (Nat×Own))(out:TV)(acc':List (Nat×Own)):Prop where
 bod:Bod P f
 run:∀(w:World)(s:Sb)(g:Gh)(vs:List Value),Good w s g acc acc'->AllT w s g args vs->Calls P f vs.toArray w fun r w'=>∃s' g' v,r= .returned v/\out.P w' s' g' v/\Stp w s g acc w' s' g' acc'
structure GFunE(P:Program)(E:Pn)(f:FuncId)(args:List TV)(acc:List (Nat×Own))(out:TV)(acc':List (Nat×Own)):Prop where
 bod:Bod P f
 run:∀(w:World)(s:Sb)(g:Gh)(vs:List Value),Good w s g acc acc'->AllT w s g args vs->Calls P f vs.toArray w fun r w'=>(∃s' g' v,r= .returned v/\out.P w' s' g' v/\Stp w s g acc w' s' g' acc')\/∃ch s',r= .panicked ch/\E ch/\Pst w s g acc w' s'
theorem GFun.toE{P:Program}{E:Pn}{f:FuncId}{args:List TV}{acc acc':List (Nat×Own)}{out:TV}(h:GFun P f args acc out acc'):GFunE P E f args acc out acc':=
 ⟨h.bod,fun w s g vs h1 h2=>(h.run w s g vs h1 h2).mono fun _ _ h=> .inl h⟩
theorem GFunE.toG{P:Program}{f:FuncId}{args:List TV}{acc acc':List (Nat×Own)}{out:TV}(h:GFunE P (fun _=>False) f args acc out acc'):GFun P f args acc out acc':=
 ⟨h.bod,fun w s g vs h1 h2=>(h.run w s g vs h1 h2).mono fun _ _ h=>h.resolve_right fun⟨_,_,_,h,_⟩=>h⟩
structure GEq(n:Nat)(ρ:Nat->Nat)(g g':Gh):Prop where
 bx:∀k,k<n->g'.bx (ρ k)=g.bx k
 gn:∀k m,k<n->g'.gn (ρ k) m=g.gn k m
mutual
def TV.ren(ρ:Nat->Nat):TV->TV
 | .pv d=> .pv d
 | .bp k off=> .bp (ρ k) off
 | .own k sz rows=> .own (ρ k) sz rows
 | .g c d=> .g c (d.ren ρ)
 | .agg l=> .agg (TV.rens ρ l)
 | .tup l=> .tup (TV.rens ρ l)
 | .mo k n=> .mo (ρ k) n
 | .mp k n off=> .mp (ρ k) n off
 | .clo f l=> .clo f (TV.rens ρ l)
 | .mk k=> .mk (ρ k)
 | .mw k q i sz n=> .mw (ρ k) q i sz n
def TV.rens(ρ:Nat->Nat):List TV->List TV
 |[]=>[]
 |d::l=>d.ren ρ::TV.rens ρ l
end
def Own.ren(ρ:Nat->Nat):Own->Own
 | .box t cs=> .box t (TV.rens ρ cs)
 | .row t sz n=> .row t sz n
 | .mrow t sz rows=> .mrow t sz rows
 | .map es=> .map es
 | .itr l=> .itr l
theorem qJ0(ρ:Nat->Nat):∀l:List TV,TV.rens ρ l=l.map (TV.ren ρ)
 |[]=>rfl
 |d::l=>by rw[TV.rens,qJ0 ρ l];rfl
mutual
theorem TV.ren_iff{w:World}{s:Sb}{n:Nat}{ρ:Nat->Nat}{g g':Gh}(hg:GEq n ρ g g'){d:TV}{v:Value}(hi:idB n d=true):(d.ren ρ).P w s g' v↔d.P w s g v:=by
 match d,hi with
 | .pv d,_=>rw[TV.ren,TV.P,TV.P]
 | .bp k off,hi=>rw[TV.ren,TV.P,TV.P,hg.bx k (An hi)]
 | .own k sz rows,hi=>rw[TV.ren,TV.P,TV.P,hg.gn k _ (An hi)]
 | .g c d,hi=>
  rw[idB]at hi;rw[TV.ren,TV.P,TV.P];exact⟨fun h=>⟨fun e=>(TV.ren_iff hg hi).1 (h.1 e),h.2⟩,fun h=>⟨fun e=>(TV.ren_iff hg hi).2 (h.1 e),h.2⟩⟩
 | .agg l,hi=>
  rw[idB]at hi;rw[TV.ren,TV.P,TV.P];exact⟨fun⟨vs,h1,h2⟩=>⟨vs,h1,(AllT.ren_iff hg hi).1 h2⟩,fun⟨vs,h1,h2⟩=>⟨vs,h1,(AllT.ren_iff hg hi).2 h2⟩⟩
 | .tup l,hi=>
  rw[idB]at hi;rw[TV.ren,TV.P,TV.P];exact⟨fun⟨vs,h1,h2⟩=>⟨vs,h1,(AllT.ren_iff hg hi).1 h2⟩,fun⟨vs,h1,h2⟩=>⟨vs,h1,(AllT.ren_iff hg hi).2 h2⟩⟩
 | .mo k m,hi=>rw[TV.ren,TV.P,TV.P,hg.gn k _ (An hi)]
 | .mp k m off,hi=>rw[TV.ren,TV.P,TV.P,hg.gn k _ (An hi)]
 | .clo f l,hi=>
  rw[idB]at hi;rw[TV.ren,TV.P,TV.P];exact⟨fun⟨vs,h1,h2⟩=>⟨vs,h1,(AllT.ren_iff hg hi).1 h2⟩,fun⟨vs,h1,h2⟩=>⟨vs,h1,(AllT.ren_iff hg hi).2 h2⟩⟩
 | .mk k,hi=>rw[TV.ren,TV.P,TV.P,hg.bx k (An hi)]
 | .mw k q i sz m,hi=>rw[TV.ren,TV.P,TV.P,hg.gn k _ (An hi)]
theorem AllT.ren_iff{w:World}{s:Sb}{n:Nat}{ρ:Nat->Nat}{g g':Gh}(hg:GEq n ρ g g'){l:List TV}{vs:List Value}(hi:idBs n l=true):AllT w s g' (TV.rens ρ l) vs↔AllT w s g l vs:=by
 match l,vs,hi with
 |[],[],_=>rw[TV.rens,AllT,AllT]
 |d::l,v::vs,hi=>
  rw[idBs,Ah]at hi;rw[TV.rens,AllT,AllT];exact⟨fun h=>⟨(TV.ren_iff hg hi.1).1 h.1,(AllT.ren_iff hg hi.2).1 h.2⟩,fun h=>⟨(TV.ren_iff hg hi.1).2 h.1,(AllT.ren_iff hg hi.2).2 h.2⟩⟩
 |[],_::_,_=>rw[TV.rens];simp[AllT]
 |_::_,[],_=>rw[TV.rens];simp[AllT]
end
theorem TV.ren_one(ρ:Nat->Nat)(d:TV):(d.ren ρ).one=d.one:=by cases d<;>rfl
theorem pY{n:Nat}{ρ:Nat->Nat}{g g':Gh}(hg:GEq n ρ g g'){k:Nat}(hk:k<n)(c:Own):blk g' (ρ k) (c.ren ρ)=blk g k c:=by
 cases c with
 |box t cs=>exact hg.bx k hk
 |row t sz m=>show(g'.gn (ρ k) m).bind _=(g.gn k m).bind _;rw[hg.gn k m hk]
 |mrow t sz rows=>show(g'.gn (ρ k) _).bind _=(g.gn k _).bind _;rw[hg.gn k _ hk]
 |map es=>exact hg.bx k hk
 |itr l=>exact hg.bx k hk
theorem Ok1.ren_iff{w:World}{s:Sb}{n:Nat}{ρ:Nat->Nat}{g g':Gh}(hg:GEq n ρ g g'){k:Nat}(hk:k<n){c:Own}(hi:idO n c=true):Ok1 w s g' (ρ k) (c.ren ρ)↔Ok1 w s g k c:=by
 cases c with
 |box t cs=>
  have hone:(∀d∈TV.rens ρ cs,d.one=true)↔∀d∈cs,d.one=true:=by
   rw[qJ0];exact⟨fun h d hd=>by rw[<-TV.ren_one ρ d];exact h _ (Bu.2 ⟨d,hd,rfl⟩),fun h d hd=>by obtain⟨e,he,rfl⟩:=Bu.1 hd;rw[TV.ren_one];exact h e he⟩
  exact⟨fun⟨N,vs,h1,h2,h3,h4,h5⟩=>⟨N,vs,by rw[<-hg.bx k hk];exact h1,h2,(AllT.ren_iff hg hi).1 h3,hone.1 h4,h5⟩,fun⟨N,vs,h1,h2,h3,h4,h5⟩=>⟨N,vs,by rw[hg.bx k hk];exact h1,h2,(AllT.ren_iff hg hi).2 h3,hone.2 h4,h5⟩⟩
 |row t sz m=>
  show((∀i,m<i->g'.gn (ρ k) i=none)/\∃v,g'.gn (ρ k) m=some v/\_)↔((∀i,m<i->g.gn k i=none)/\∃v,g.gn k m=some v/\_);simp only[hg.gn k _ hk]
 |mrow t sz rows=>
  show((∀i,rows.length<i->g'.gn (ρ k) i=none)/\∃v,g'.gn (ρ k) rows.length=some v/\_)↔((∀i,rows.length<i->g.gn k i=none)/\∃v,g.gn k rows.length=some v/\_);simp only[hg.gn k _ hk]
 |map es=>
  show(∃N arr clock,g'.bx (ρ k)=some N/\_)↔(∃N arr clock,g.bx k=some N/\_);simp only[hg.bx k hk]
 |itr l=>
  show(∃N b p n,g'.bx (ρ k)=some N/\_)↔(∃N b p n,g.bx k=some N/\_);simp only[hg.bx k hk]
def renL(ρ:Nat->Nat)(acc:List (Nat×Own)):List (Nat×Own):=acc.map fun x=>(ρ x.1,x.2.ren ρ)
section
variable{n:Nat}{ρ:Nat->Nat}(hinj:∀i j,i<n->j<n->ρ i=ρ j->i=j)
include hinj
theorem mK:∀{acc:List (Nat×Own)},(∀x∈acc,x.1<n)->∀{k:Nat},k<n->fnd (ρ k) (renL ρ acc)=(fnd k acc).map (Own.ren ρ)
 |[],_,_,_=>rfl
 |(j,c)::acc,h,k,hk=>by
  show fnd (ρ k) ((ρ j,c.ren ρ)::renL ρ acc)=_;rw[zY,zY];by_cases e:j=k
  ·subst e;simp
  ·rw[Aa fun e'=>e (hinj j k (h (j,c) (by simp)) hk e'),Aa e];exact mK (fun x hx=>h x (by simp[hx])) hk
end
theorem wQ{ρ:Nat->Nat}:∀{acc:List (Nat×Own)}{j:Nat}{c:Own},fnd j (renL ρ acc)=some c->∃k c0,(k,c0)∈acc/\j=ρ k/\c=c0.ren ρ
 |[],j,c,h=>by cases h
 |(i,d)::acc,j,c,h=>by
  have h:fnd j ((ρ i,d.ren ρ)::renL ρ acc)=some c:=h;rw[zY]at h;by_cases e:ρ i=j
  ·simp only[e,if_true]at h;cases h;exact⟨i,d,by simp,e.symm,rfl⟩
  ·simp only[e,if_false]at h;obtain⟨k,c0,h1,h2,h3⟩:=wQ h;exact⟨k,c0,by simp[h1],h2,h3⟩
structure KeyOk(n:Nat)(acc:List (Nat×Own)):Prop where
 lt:∀x∈acc,x.1<n
 id:∀x∈acc,idO n x.2=true
 one:∀k c,(k,c)∈acc->fnd k acc=some c
theorem GFunE.ren{P:Program}{E:Pn}{f:FuncId}{args:List TV}{acc acc':List (Nat×Own)}{out:TV}(h:GFunE P E f args acc out acc'){n:Nat}{ρ:Nat->Nat}{σ:Nat->Option Nat}(hσ:∀i,i<n->σ (ρ i)=some i)(hσ':∀j i,σ j=some i->i<n/\ρ i=j)
  (ha:idBs n args=true) (ho:idB n out=true) (hk:KeyOk n acc) (hk':KeyOk n acc') (hsub:∀k c,fnd k acc=some c->∃c',fnd k acc'=some c') (hall:∀k,k<n->∃c,fnd k acc'=some c):GFunE P E f (TV.rens ρ args) (renL ρ acc) (out.ren ρ) (renL ρ acc'):=by
 have hinj:∀i j,i<n->j<n->ρ i=ρ j->i=j:=fun i j hi hj e=>by
  have h1:=hσ i hi;rw[e,hσ j hj]at h1;exact(Option.some.inj h1).symm
 refine⟨h.bod,fun w s g vs hg hv=>?_⟩;have hgl:GEq n ρ (⟨fun k=>if k<n then g.bx (ρ k)else none,fun k m=>if k<n then g.gn (ρ k) m else none⟩:Gh) g:=⟨fun k hk=>by simp[hk],fun k m hk=>by simp[hk]⟩;generalize hG:(⟨fun k=>if k<n then g.bx (ρ k)else none,fun k m=>if k<n then g.gn (ρ k) m else none⟩:Gh)=gl at hgl;have hback:∀{k:Nat}{c:Own},fnd k acc=some c->fnd (ρ k) (renL ρ acc)=some (c.ren ρ):=fun hkc=>by
  rw[mK hinj hk.lt (hk.lt _ (jG hkc)),hkc];rfl
 have hback':∀{k:Nat}{c:Own},fnd k acc'=some c->fnd (ρ k) (renL ρ acc')=some (c.ren ρ):=fun hkc=>by
  rw[mK hinj hk'.lt (hk'.lt _ (jG hkc)),hkc];rfl
 have hgood:Good w s gl acc acc':=by
  refine⟨hg.lt,fun k c hkc=>?_,fun k j c d N hkc hjd hne hb=>?_,fun k c hkc hno=>?_,hg.gl⟩
  ·exact(Ok1.ren_iff hgl (hk.lt _ (jG hkc)) (hk.id _ (jG hkc))).1 (hg.ok _ _ (hback hkc))
  ·have h1:=hk.lt _ (jG hkc);have h2:=hk.lt _ (jG hjd);rw[<-pY hgl h2];rw[<-pY hgl h1]at hb;exact hg.sep _ _ _ _ N (hback hkc) (hback hjd) (fun e=>hne (hinj _ _ h1 h2 e)) hb
  ·have h1:=hk'.lt _ (jG hkc);have:=hg.fr (ρ k) (c.ren ρ) (hback' hkc) (by rw[mK hinj hk.lt h1,hno];rfl);exact⟨by rw[<-hgl.bx k h1];exact this.1,fun m=>by rw[<-hgl.gn k m h1];exact this.2 m⟩
 refine(h.run w s gl vs hgood ((AllT.ren_iff hgl ha).1 hv)).mono ?_;have hblk:∀{k:Nat}{c:Own},fnd k acc=some c->blk g (ρ k) (c.ren ρ)=blk gl k c:=fun hkc=>pY hgl (hk.lt _ (jG hkc)) _;rintro r w' (⟨s',g1,v,rfl,hout,hst⟩|⟨ch,s',rfl,hch,hst⟩)
 rotate_left
 ·refine .inr ⟨ch,s',rfl,hch,⟨hst.ex,hst.lt,hst.os,hst.tape,hst.output,hst.size,fun N hN hne=>hst.block N hN fun k c hkc hb=>hne (ρ k) (c.ren ρ) (hback hkc) (by rw[hblk hkc];exact hb),fun B o hB=>?_,fun B o hB=>?_⟩⟩
  ·rcases hst.st B o hB with h|h|⟨k,c,hkc,hb⟩
   ·exact .inl h
   ·exact .inr (.inl h)
   ·exact .inr (.inr ⟨ρ k,c.ren ρ,hback hkc,by rw[hblk hkc];exact hb⟩)
  ·rcases hst.sst B o hB with h|h|⟨k,c,hkc,hb⟩
   ·exact .inl h
   ·exact .inr (.inl h)
   ·exact .inr (.inr ⟨ρ k,c.ren ρ,hback hkc,by rw[hblk hkc];exact hb⟩)
 have hgl':GEq n ρ g1 (⟨fun j=>match σ j with|some i=>g1.bx i|none=>g.bx j,fun j m=>match σ j with|some i=>g1.gn i m|none=>g.gn j m⟩:Gh):=⟨fun k hk=>by simp only[hσ k hk],fun k m hk=>by simp only[hσ k hk]⟩;have hgo:∀j,σ j=none->(⟨fun j=>match σ j with|some i=>g1.bx i|none=>g.bx j,fun j m=>match σ j with|some i=>g1.gn i m|none=>g.gn j m⟩:Gh).bx j=g.bx j/\∀m,(⟨fun j=>match σ j with|some i=>g1.bx i|none=>g.bx j,fun j m=>match σ j with|some i=>g1.gn i m|none=>g.gn j m⟩:Gh).gn j m=g.gn j m:=fun j hj=>by simp only[hj];exact⟨trivial,fun _=>trivial⟩
 generalize (⟨fun j=>match σ j with|some i=>g1.bx i|none=>g.bx j,fun j m=>match σ j with|some i=>g1.gn i m|none=>g.gn j m⟩:Gh)=g' at hgl' hgo;have hblk':∀{k:Nat}{c:Own},fnd k acc'=some c->blk g' (ρ k) (c.ren ρ)=blk g1 k c:=fun hkc=>pY hgl' (hk'.lt _ (jG hkc)) _;refine .inl ⟨s',g',v,rfl,(TV.ren_iff hgl' ho).2 hout,⟨hst.ex,hst.lt,⟨fun j N h=>?_,fun j m u h=>?_⟩,fun j h=>?_,hst.os,hst.tape,hst.output,hst.size,fun N hN hne=>hst.block N hN fun k c hkc hb=>hne (ρ k) (c.ren ρ) (hback hkc) (by rw[hblk hkc];exact hb),fun B o hB=>?_,fun B o hB=>?_,fun j c h=>?_,fun j c N h hb=>?_,fun j i c d N h1 h2 hne hb=>?_,fun j c h=>?_⟩⟩
 ·cases hj:σ j with
  |none=>rw[(hgo j hj).1];exact h
  |some i=>
   obtain⟨h1,rfl⟩:=hσ' j i hj;rw[hgl'.bx i h1];exact hst.gle.bx i N (by rw[<-hgl.bx i h1];exact h)
 ·cases hj:σ j with
  |none=>rw[(hgo j hj).2];exact h
  |some i=>
   obtain⟨h1,rfl⟩:=hσ' j i hj;rw[hgl'.gn i m h1];exact hst.gle.gn i m u (by rw[<-hgl.gn i m h1];exact h)
 ·cases hj:σ j with
  |none=>exact hgo j hj
  |some i=>
   obtain⟨h1,rfl⟩:=hσ' j i hj;obtain⟨c,hc⟩:=hall i h1;rw[hback' hc]at h
   cases h
 ·rcases hst.st B o hB with h|h|⟨k,c,hkc,hb⟩
  ·exact .inl h
  ·exact .inr (.inl h)
  ·exact .inr (.inr ⟨ρ k,c.ren ρ,hback hkc,by rw[hblk hkc];exact hb⟩)
 ·rcases hst.sst B o hB with h|h|⟨k,c,hkc,hb⟩
  ·exact .inl h
  ·exact .inr (.inl h)
  ·exact .inr (.inr ⟨ρ k,c.ren ρ,hback hkc,by rw[hblk hkc];exact hb⟩)
 ·obtain⟨k,c0,hm,rfl,rfl⟩:=wQ h;exact(Ok1.ren_iff hgl' (hk'.lt _ hm) (hk'.id _ hm)).2 (hst.ok k c0 (hk'.one k c0 hm))
 ·obtain⟨k,c0,hm,rfl,rfl⟩:=wQ h;rw[hblk' (hk'.one k c0 hm)]at hb;rcases hst.nb k c0 N (hk'.one k c0 hm) hb with h1|⟨k1,c1,h1,h2⟩
  ·exact .inl h1
  ·exact .inr ⟨ρ k1,c1.ren ρ,hback h1,by rw[hblk h1];exact h2⟩
 ·obtain⟨k,c0,hm,rfl,rfl⟩:=wQ h1;obtain⟨k2,c2,hm2,rfl,rfl⟩:=wQ h2;rw[hblk' (hk'.one _ _ hm2)];rw[hblk' (hk'.one _ _ hm)]at hb;exact hst.sep _ _ _ _ N (hk'.one _ _ hm) (hk'.one _ _ hm2) (fun e=>hne (by rw[e])) hb
 ·obtain⟨k,c0,hm,rfl,rfl⟩:=wQ h;obtain⟨c',hc'⟩:=hsub k c0 (hk.one _ _ hm);exact⟨_,hback' hc'⟩
section
variable{P:Program}{tm:List (Nat×TV)}{dst:Option Tmp}{ty:TypeId}{pos:String}{aft:Array Edge}{gd:Option (Nat×Bool)}
end
section
variable{P:Program}
def Res1T(P:Program)(S:Ste):ResultVar->TV->Prop
 | .tmp t,d=>fnd t S.tm=some d
 | .cell t ty,d=>∃k off bt cs,fnd t S.tm=some (.bp k off)/\fnd k S.ow=some (.box bt cs)/\((OneT P ty/\cs[off]?=some d)\/∃n,RowT P ty n/\off+n<=cs.length/\TV.agg ((cs.drop off).take n)=d)
theorem Res1T.run{b:Ba}{w:World}{s:Sb}{g:Gh}{S:Ste}{a:Act}(hr:Rel b w s g S a){r:ResultVar}{d:TV}(h:Res1T P S r d):∃v,(jC a.tmps r).run P w= .ok v w/\d.P w s g v:=by
 cases r with
 |tmp t=>
  obtain⟨v,h3,h4⟩:=hr.tm t d h;exact⟨v,by simp[jC,h3],h4⟩
 |cell t ty=>
  obtain⟨k,off,bt,cs,h1,h2,h3⟩:=h;obtain⟨v,h4,h5⟩:=hr.tm t _ h1;rw[TV.P]at h5;obtain⟨N,h5,rfl⟩:=h5;obtain⟨M,vs,h6,h7,h8,_⟩:=(hr.ow k _ h2).1;rw[h5]at h6;cases h6;have e:∀u,(Instr.loadAt ty (.pointer (some ⟨N,off,none⟩))).run P w= .ok u w->(jC a.tmps (.cell t ty)).run P w= .ok u w:=by
   intro u hu;rw[<-hu];simp[jC,h4,Instr.loadAt,Instr.sureAddr,asAddr]
  rcases h3 with⟨hT,h9⟩|⟨n,hT,hl,rfl⟩
  ·obtain⟨u,h11,h12⟩:=h8.get h9;exact⟨u,e u (hT.load (by rw[cell_of_row w N off _ bt (0,0) h7];simpa using h11)),h12⟩
  ·have h11:=(h8.drop off).take n;refine⟨_,e _ (hT.load (by rw[h11.length,At,Ay];omega) (pX h7 off n)),?_⟩;rw[TV.P];exact⟨_,rfl,h11⟩
theorem results_zero{fn:Func}(h:fn.results= #[]){tmps:Array Value}{w:World}:(results fn tmps).run P w= .ok (.tuple #[]) w:=by
 rw[uN,h];simp
def FinT(P:Program)(rs:Array ResultVar)(out:TV)(ex:Exit)(S:Ste):Prop:=
 (ex= .ret\/ex= .normal)/\match rs.toList with
  |[]=>TV.pv (PV.lit (.tuple #[]))=out
  |[r]=>Res1T P S r out
  |[r,q]=>∃d e,Res1T P S r d/\Res1T P S q e/\TV.tup [d,e]=out
  |[r,q,x]=>∃d e f,Res1T P S r d/\Res1T P S q e/\Res1T P S x f/\TV.tup [d,e,f]=out
  |_=>False
theorem FinT.post{b:Ba}{fn:Func}{out:TV}{R:Ending->World->Prop}{ex:Exit}{w:World}{s:Sb}{g:Gh}{S:Ste}{a:Act}(hr:Rel b w s g S a)(h:FinT P fn.results out ex S)(hR:∀v,out.P w s g v->R (.returned v) w)(hdf:b.df=[]:=by rfl):bodyPost P fn R ex a w:=by
 obtain⟨he,h⟩:=h;have key:a.defers=[]/\∃v,(results fn a.tmps).run P w= .ok v w/\R (.returned v) w:=by
  refine⟨hr.df.trans hdf,?_⟩;have hrs:∃l,fn.results=List.toArray l:=⟨fn.results.toList,by simp⟩;obtain⟨l,hl⟩:=hrs;rw[hl]at h
  match l,h with
  |[],h=>
   have h:TV.pv (PV.lit (.tuple #[]))=out:=h;exact⟨_,results_zero hl,hR _ (by rw[<-h,TV.P];rfl)⟩
  |[r],h=>
   obtain⟨v,h1,h2⟩:=Res1T.run hr h;exact⟨v,mZ hl h1,hR v h2⟩
  |[r,q],h=>
   obtain⟨d,e,h1,h2,rfl⟩:=h;obtain⟨v,h3,h4⟩:=Res1T.run hr h1;obtain⟨u,h5,h6⟩:=Res1T.run hr h2;exact⟨_,mY hl h3 h5,hR _ (by rw[TV.P];exact⟨[v,u],rfl,h4,h6,trivial⟩)⟩
  |[r,q,x],h=>
   obtain⟨d,e,f,h1,h2,h3,rfl⟩:=h;obtain⟨v,h4,h5⟩:=Res1T.run hr h1;obtain⟨u,h6,h7⟩:=Res1T.run hr h2;obtain⟨y,h8,h9⟩:=Res1T.run hr h3;exact⟨_,gA hl h4 h6 h8,hR _ (by rw[TV.P];exact⟨[v,u,y],rfl,h5,h7,h9,trivial⟩)⟩
  |_::_::_::_::_,h=>exact h.elim
 rcases he with rfl|rfl<;>exact key
def argG:Nat->List TV->List (Nat×TV)
 |_,[]=>[]
 |i,d::l=>(i,d)::argG (i+1) l
theorem uA0:∀{l:List TV}{i t:Nat}{d:TV},fnd t (argG i l)=some d->∃j,t=i+j/\l[j]?=some d
 |[],i,t,d,h=>by cases h
 |e::l,i,t,d,h=>by
  unfold argG at h;rw[zY]at h;by_cases hi:i=t
  ·simp only[hi,if_true]at h;cases h;exact⟨0,by omega,rfl⟩
  ·simp only[hi,if_false]at h;obtain⟨j,h1,h2⟩:=uA0 h;exact⟨j+1,by omega,by simpa using h2⟩
theorem qZ0{n:Nat}:∀{l:List TV}{j:Nat}{d:TV},idBs n l=true->l[j]?=some d->idB n d=true
 |[],j,d,_,h=>by simp at h
 |e::l,0,d,hi,h=>by
  rw[idBs,Ah]at hi;simp at h;subst h;exact hi.1
 |e::l,j+1,d,hi,h=>by
  rw[idBs,Ah]at hi;exact qZ0 hi.2 (by simpa using h)
structure FinG(P:Program)(rs:Array ResultVar)(n0 n1:Nat)(out:TV)(acc':List (Nat×Own))(σ:Nat->Nat)(ex:Exit)(S:Ste):Prop where
 fin:∃d,FinT P rs d ex S/\∀w s g v,d.P w s g v->(out.ren σ).P w s g v
 ow:∀k c,fnd k acc'=some c->∃c0,fnd (σ k) S.ow=some c0/\∀w s g,Ok1 w s g (σ k) c0->Ok1 w s g (σ k) (c.ren σ)/\blk g (σ k) (c.ren σ)=blk g (σ k) c0
theorem GFunE.of{E:Pn}{f:FuncId}{fn:Func}{c:Code}{n n0 n1:Nat}{args:List TV}{acc acc':List (Nat×Own)}{out:TV}(hf:P.funcs[f]?=some fn)(hb:fn.body=some c)(hn:fn.ntmps=n)(hm:(fn.name== "runtime.NumGoroutine")=false)(hl:args.length<=n)
  (hk:KeyOk n0 acc) (ha:idBs n0 args=true) (h01:n0<=n1) (h1:n0<=40) (hk':KeyOk n1 acc') (ho:idB n1 out=true) (hcov:∀k,k<n0->∃c,fnd k acc=some c) (hcov':∀k,k<n1->∃c,fnd k acc'=some c)
  (h:∀b:Ba,b.sz=n->Cod P b c ⟨argG 0 args,acc,n0⟩ fun ex S=>(∃ch,ex= .panic ch/\E ch)\/∃σ:Nat->Nat,(∀k,k<n0->σ k=k)/\(∀k,n0<=k->n0<=σ k)/\(∀i j,i<n1->j<n1->σ i=σ j->i=j)/\FinG P fn.results n0 n1 out acc' σ ex S):GFunE P E f args acc out acc':=by
 refine⟨⟨fn,hf,hm,by rw[hb];rfl⟩,fun w s g vs hg hv=>calls_of_wp hf hb ?_⟩;have hlen:=hv.length;have hkl:∀{k:Nat}{c:Own},fnd k acc=some c->k<n0:=fun h=>hk.lt _ (jG h);have hr:Rel ⟨w,s,fun B=>∃k c,fnd k acc=some c/\blk g k c=some B,n,cutG g n0,[]⟩ w s (cutG g n0) ⟨argG 0 args,acc,n0⟩ {tmps:=vs.toArray++Array.replicate (fn.ntmps-vs.toArray.size) undef,defers:=[]}:=by
  refine⟨⟨Ex.refl w s,(fun B o h=> .inl h),(fun B o h=> .inl h),rfl,rfl,rfl,Ap _,fun _ _ _=>rfl,hg.gl⟩,hg.lt,?_,fun t d ht=>?_,fun k c hkc=>⟨?_,fun N hb=> .inr ⟨k,c,hkc,by rw[<-kS (hkl hkc)];exact hb⟩⟩,fun k k' c c' N e1 e2 hne hb=>?_,fun k hk=>?_,rfl,fun _ _=>⟨fun _ h=>h,fun _ _ h=>h⟩⟩
  ·simp;omega
  ·obtain⟨j,h1,h2⟩:=uA0 ht;obtain⟨v,h3,h4⟩:=hv.get h2;have hj:=(Ac.1 h3).1;refine⟨v,?_,TV.cut (qZ0 ha h2) h4⟩;have ht':t=j:=by omega
   rw[ht',Cu (by simpa using hj)];simpa using h3
  ·have hkn:=hkl hkc;have h3:=hg.ok k c hkc;have h2:=hk.id _ (jG hkc)
   match c,h2,h3 with
   | .box t cs,h2,⟨N,vs,e1,e2,e3,e4,e5⟩=>exact⟨N,vs,by simp[cutG,hkn,e1],e2,AllT.cut h2 e3,e4,e5⟩
   | .row t sz len,_,⟨e0,v,e1,e2⟩=>exact⟨fun m hm=>by simp[cutG,hkn,e0 m hm],v,by simp[cutG,hkn,e1],e2⟩
   | .mrow t sz rows,_,⟨e0,v,e1,e2⟩=>exact⟨fun m hm=>by simp[cutG,hkn,e0 m hm],v,by simp[cutG,hkn,e1],e2⟩
   | .map es,_,⟨N,arr,clock,e1,e2⟩=>exact⟨N,arr,clock,by simp[cutG,hkn,e1],e2⟩
   | .itr l,_,⟨N,b,p,n,e1,e2⟩=>exact⟨N,b,p,n,by simp[cutG,hkn,e1],e2⟩
  ·rw[kS (hkl e2)];rw[kS (hkl e1)]at hb;exact hg.sep k k' c c' N e1 e2 hne hb
  ·have:¬k<n0:=Nat.not_lt.2 hk;simp[cutG,this]
 refine h _ rfl w s _ _ _ hr fun ex w' s' g1 a' S' hR hF=>?_;rcases hF with⟨ch,rfl,hch⟩|hF
 ·exact⟨hR.df,.inr ⟨ch,s',rfl,hch,⟨hR.kp.ex,hR.lt,hR.kp.os,hR.kp.tape,hR.kp.output,hR.kp.size,fun N hN hne=>hR.kp.block N hN fun⟨k,c,h1,h2⟩=>hne k c h1 h2,fun B o hB=>hR.kp.st B o hB,fun B o hB=>hR.kp.sst B o hB⟩⟩⟩
 obtain⟨σ,hs0,hs1,hinj,⟨dd,hfin,hdd⟩,how'⟩:=hF;have hgb:=hR.gb;have hge:GEq n1 σ (⟨fun k=>if k<n1 then g1.bx (σ k)else g.bx k,fun k m=>if k<n1 then g1.gn (σ k) m else g.gn k m⟩:Gh) g1:=⟨fun k hk=>by simp[hk],fun k m hk=>by simp[hk]⟩;have hgo:∀k,¬k<n1->(⟨fun k=>if k<n1 then g1.bx (σ k)else g.bx k,fun k m=>if k<n1 then g1.gn (σ k) m else g.gn k m⟩:Gh).bx k=g.bx k/\∀m,(⟨fun k=>if k<n1 then g1.bx (σ k)else g.bx k,fun k m=>if k<n1 then g1.gn (σ k) m else g.gn k m⟩:Gh).gn k m=g.gn k m:=fun k hk=>by simp[hk]
 generalize (⟨fun k=>if k<n1 then g1.bx (σ k)else g.bx k,fun k m=>if k<n1 then g1.gn (σ k) m else g.gn k m⟩:Gh)=g' at hge hgo;have hkl':∀{k:Nat}{c:Own},fnd k acc'=some c->k<n1:=fun h=>hk'.lt _ (jG h);have hbl:∀{k:Nat}{c:Own},fnd k acc'=some c->blk g1 (σ k) (c.ren σ)=blk g' k c:=fun hkc=>pY hge (hkl' hkc) _;have hnew:∀k,k<n1->n0<=k->g.bx k=none/\∀m,g.gn k m=none:=fun k hk hk0=>by
  obtain⟨c,hc⟩:=hcov' k hk;refine hg.fr k c hc ?_
  cases hx:fnd k acc with
  |none=>rfl
  |some d=>have:=hkl hx;omega
 refine FinT.post hR hfin fun v hv=> .inl ⟨s',g',v,rfl,(TV.ren_iff hge ho).1 (hdd _ _ _ _ hv),⟨hR.kp.ex,hR.lt,⟨fun k N e=>?_,fun k m u e=>?_⟩,fun k hk=>hgo k fun hk1=>?_,hR.kp.os,hR.kp.tape,hR.kp.output,hR.kp.size,fun N hN hne=>hR.kp.block N hN fun⟨k,c,h1,h2⟩=>hne k c h1 h2,fun B o hB=>?_,fun B o hB=>?_,fun k c hkc=>?_,fun k c N hkc hb=>?_,fun k j c d N hkc hjd hne hb=>?_,fun k c hkc=>?_⟩⟩
 ·by_cases hk1:k<n1
  ·rw[<-hge.bx k hk1];by_cases hk0:k<n0
   ·rw[hs0 k hk0];exact(hgb k om).1 N (by simp[cutG,hk0,e])
   ·rw[(hnew k hk1 om).1]at e;cases e
  ·rw[(hgo k hk1).1];exact e
 ·by_cases hk1:k<n1
  ·rw[<-hge.gn k m hk1];by_cases hk0:k<n0
   ·rw[hs0 k hk0];exact(hgb k om).2 m u (by simp[cutG,hk0,e])
   ·rw[(hnew k hk1 om).2]at e;cases e
  ·rw[(hgo k hk1).2];exact e
 ·obtain⟨c,hc⟩:=hcov' k hk1;rw[hc]at hk;cases hk
 ·rcases hR.kp.st B o hB with h|h|h
  ·exact .inl h
  ·exact .inr (.inl h)
  ·exact .inr (.inr h)
 ·rcases hR.kp.sst B o hB with h|h|h
  ·exact .inl h
  ·exact .inr (.inl h)
  ·exact .inr (.inr h)
 ·obtain⟨c0,e1,e2⟩:=how' k c hkc;exact(Ok1.ren_iff hge (hkl' hkc) (hk'.id _ (jG hkc))).1 (e2 _ _ _ (hR.ow _ _ e1).1).1
 ·obtain⟨c0,e1,e2⟩:=how' k c hkc;rw[<-hbl hkc,(e2 _ _ _ (hR.ow _ _ e1).1).2]at hb;exact(hR.ow _ _ e1).2 N hb
 ·obtain⟨c0,e1,e2⟩:=how' k c hkc;obtain⟨d0,f1,f2⟩:=how' j d hjd;rw[<-hbl hjd,(f2 _ _ _ (hR.ow _ _ f1).1).2];rw[<-hbl hkc,(e2 _ _ _ (hR.ow _ _ e1).1).2]at hb;exact hR.sep _ _ _ _ N e1 f1 (fun e=>hne (hinj _ _ (hkl' hkc) (hkl' hjd) e)) hb
 ·exact hcov' k (Cr (hkl hkc) h01)
end
inductive D:Type 1
 |v (x:Value)
 |agg (l:List D)
 |tup (l:List D)
 |sl {α:Type} (m:Bool) (sz:Nat) (l:List α) (f:α->List D) (e:α)
 |slr (m:Bool) (sz:Nat) (rows:List (List D))
 |slf (sz:Nat) (rows:List (List D))
 |pt (m:Bool) (row:List D)
 |bp (k off:Nat)
 |own (k sz:Nat) (rows:List (List D))
 |gd (c:Bool) (d:D)
 |op (p:PV)
 |mo (k n:Nat)
 |mp (k n i sz o:Nat)
 |clo (f:FuncId) (l:List D)
 |mk (k:Nat)
 |mw (k q i sz n:Nat)
 |tpo (l:List D)
def PV.no:PV:=⟨false,false,fun _ _ _=>False,fun _ _ _ _ _ _ h=>h,(fun h=>by cases h),fun h=>by cases h⟩
def PV.any:PV:=⟨false,false,fun _ _ _=>True,fun _ _ _ _ _ _ h=>h,(fun h=>by cases h),fun h=>by cases h⟩
mutual
def D.pv:D->PV
 | .v x=>PV.lit x
 | .agg l=>PV.agg (D.pvs l)
 | .tup l=>PV.tup (D.pvs l)
 | .sl m sz l f _=>PV.sl m sz (l.map fun a=>D.pvs (f a))
 | .slr m sz rows=>PV.sl m sz (D.pvss rows)
 | .slf sz rows=>PV.slf sz (D.pvss rows)
 | .pt m row=>PV.pt m (D.pvs row)
 | .bp _ _=>PV.no
 | .own _ sz rows=>PV.sl false sz (D.pvss rows)
 | .gd c d=>PV.gd c d.pv
 | .op p=>p
 | .mo _ _=>PV.no
 | .mp _ _ _ _ _=>PV.no
 | .clo f l=>PV.clo f (D.pvs l)
 | .mk _=>PV.no
 | .mw _ _ _ _ _=>PV.no
 | .tpo _=>PV.no
def D.pvs:List D->List PV
 |[]=>[]
 |d::l=>d.pv::D.pvs l
def D.pvss:List (List D)->List (List PV)
 |[]=>[]
 |r::l=>D.pvs r::D.pvss l
end
theorem uL:∀l:List D,D.pvs l=l.map D.pv
 |[]=>rfl
 |d::l=>by rw[D.pvs,uL l];rfl
theorem yJ:∀l:List (List D),D.pvss l=l.map D.pvs
 |[]=>rfl
 |d::l=>by rw[D.pvss,yJ l];rfl
theorem jF(l:List D):(D.pvs l).length=l.length:=by rw[uL];simp
theorem yI(l:List (List D)):(D.pvss l).length=l.length:=by rw[yJ];simp
theorem bK{l:List D}{i:Nat}{d:D}(h:l[i]?=some d):(D.pvs l)[i]?=some d.pv:=by rw[uL];simp[h]
theorem dO(l r:List D):D.pvs (l++r)=D.pvs l++D.pvs r:=by simp[uL]
theorem gB(l:List D)(n:Nat):D.pvs (l.drop n)=(D.pvs l).drop n:=by simp[uL]
theorem bJ(l:List D)(n:Nat):D.pvs (l.take n)=(D.pvs l).take n:=by simp[uL]
mutual
def D.tv:D->TV
 | .bp k off=> .bp k off
 | .own k sz rows=> .own k sz (D.pvss rows)
 | .gd c (.bp k off)=> .g c (.bp k off)
 | .gd c (.mo k n)=> .g c (.mo k n)
 | .gd c (.mp k n i sz o)=> .g c (.mp k n (i*sz+o))
 | .gd c (.mk k)=> .g c (.mk k)
 | .gd c (.mw k q i sz n)=> .g c (.mw k q i sz n)
 | .agg l=> .agg (D.tvl l)
 | .tup l=> .pv (PV.tup (D.pvs l))
 | .tpo l=> .tup (D.tvl l)
 | .clo f l=> .clo f (D.tvl l)
 | .mo k n=> .mo k n
 | .mp k n i sz o=> .mp k n (i*sz+o)
 | .mk k=> .mk k
 | .mw k q i sz n=> .mw k q i sz n
 | .v x=> .pv (PV.lit x)
 | .sl m sz l f _=> .pv (PV.sl m sz (l.map fun a=>D.pvs (f a)))
 | .slr m sz rows=> .pv (PV.sl m sz (D.pvss rows))
 | .slf sz rows=> .pv (PV.slf sz (D.pvss rows))
 | .pt m row=> .pv (PV.pt m (D.pvs row))
 | .op p=> .pv p
 | .gd c d=> .pv (PV.gd c d.pv)
def D.tvl:List D->List TV
 |[]=>[]
 |d::l=>d.tv::D.tvl l
end
theorem qH:∀l:List D,D.tvl l=l.map D.tv
 |[]=>rfl
 |d::l=>by rw[D.tvl,qH l];rfl
theorem qU(l:List D):(D.tvl l).length=l.length:=by rw[qH];simp
mutual
def D.pure:D->Bool
 | .bp _ _=>false
 | .mo _ _=>false
 | .mp _ _ _ _ _=>false
 | .mk _=>false
 | .mw _ _ _ _ _=>false
 | .tpo _=>false
 | .gd _ (.bp _ _)=>false
 | .gd _ (.mo _ _)=>false
 | .gd _ (.mp _ _ _ _ _)=>false
 | .gd _ (.mk _)=>false
 | .gd _ (.mw _ _ _ _ _)=>false
 | .agg l=>D.pures l
 | .clo _ l=>D.pures l
 |_=>true
def D.pures:List D->Bool
 |[]=>true
 |d::l=>match d.pure with|true=>D.pures l|false=>false
end
mutual
def D.flat:D->Bool
 | .bp _ _=>false
 | .own _ _ _=>false
 | .mo _ _=>false
 | .mp _ _ _ _ _=>false
 | .mk _=>false
 | .mw _ _ _ _ _=>false
 | .tpo _=>false
 | .gd _ (.bp _ _)=>false
 | .gd _ (.mo _ _)=>false
 | .gd _ (.mp _ _ _ _ _)=>false
 | .gd _ (.mk _)=>false
 | .gd _ (.mw _ _ _ _ _)=>false
 | .agg l=>D.flats l
 | .clo _ l=>D.flats l
 |_=>true
def D.flats:List D->Bool
 |[]=>true
 |d::l=>match d.flat with|true=>D.flats l|false=>false
end
theorem dP{d:D}{l:List D}(h:D.pures (d::l)=true):d.pure=true/\D.pures l=true:=by
 rw[D.pures]at h
 cases hd:d.pure with
 |true=>rw[hd]at h;exact⟨rfl,h⟩
 |false=>rw[hd]at h;simp at h
theorem kQ{d:D}{l:List D}(h:D.flats (d::l)=true):d.flat=true/\D.flats l=true:=by
 rw[D.flats]at h
 cases hd:d.flat with
 |true=>rw[hd]at h;exact⟨rfl,h⟩
 |false=>rw[hd]at h;simp at h
theorem pL:∀{l:List D},(∀d∈l,d.flat=true)->D.flats l=true
 |[],_=>by rw[D.flats]
 |d::l,h=>by rw[D.flats,h d (by simp),pL fun e he=>h e (by simp[he])]
def D.one:D->Bool
 | .v x=>x.oneCell'
 | .sl _ _ _ _ _=>true
 | .slr _ _ _=>true
 | .slf _ _=>true
 | .pt _ _=>true
 | .bp _ _=>true
 | .own _ _ _=>true
 | .mo _ _=>true
 | .mp _ _ _ _ _=>true
 | .clo _ _=>true
 | .mk _=>true
 | .mw _ _ _ _ _=>true
 |_=>false
mutual
theorem D.toPV{d:D}(h:d.pure=true):d.tv.toPV=some d.pv:=by
 match d,h with
 | .v _,_=>rfl
 | .agg l,h=>
  rw[D.pure]at h;rw[D.tv,TV.toPV,D.toPVs h,D.pv]
 | .clo f l,h=>
  rw[D.pure]at h;rw[D.tv,TV.toPV,D.toPVs h,D.pv]
 | .tup _,_=>rfl
 | .sl _ _ _ _ _,_=>rfl
 | .slr _ _ _,_=>rfl
 | .slf _ _,_=>rfl
 | .pt _ _,_=>rfl
 | .own _ _ _,_=>rw[D.tv,TV.toPV,D.pv]
 | .op _,_=>rfl
 | .gd c (.bp _ _),h=>simp[D.pure]at h
 | .gd c (.mo _ _),h=>simp[D.pure]at h
 | .gd c (.mp _ _ _ _ _),h=>simp[D.pure]at h
 | .gd c (.mk _),h=>simp[D.pure]at h
 | .gd c (.mw _ _ _ _ _),h=>simp[D.pure]at h
 | .gd c (.v _),_=>rfl
 | .gd c (.agg _),_=>rfl
 | .gd c (.tup _),_=>rfl
 | .gd c (.sl _ _ _ _ _),_=>rfl
 | .gd c (.slr _ _ _),_=>rfl
 | .gd c (.slf _ _),_=>rfl
 | .gd c (.pt _ _),_=>rfl
 | .gd c (.own _ _ _),_=>rfl
 | .gd c (.op _),_=>rfl
 | .gd c (.gd _ _),_=>rfl
 | .gd c (.clo _ _),_=>rfl
 | .gd c (.tpo _),_=>rfl
 | .bp _ _,h=>simp[D.pure]at h
 | .mo _ _,h=>simp[D.pure]at h
 | .mp _ _ _ _ _,h=>simp[D.pure]at h
 | .mk _,h=>simp[D.pure]at h
 | .mw _ _ _ _ _,h=>simp[D.pure]at h
 | .tpo _,h=>simp[D.pure]at h
theorem D.toPVs{l:List D}(h:D.pures l=true):TV.toPVs (D.tvl l)=some (D.pvs l):=by
 match l,h with
 |[],_=>rw[D.tvl,TV.toPVs,D.pvs]
 |d::l,h=>
  obtain⟨h1,h2⟩:=dP h;rw[D.tvl,TV.toPVs,D.toPV h1,D.toPVs h2,D.pvs]
end
theorem D.tv_one{d:D}(h:d.one=true):d.tv.one=true:=by
 match d,h with
 | .v _,h=>exact h
 | .sl _ _ _ _ _,_=>rfl
 | .slr _ _ _,_=>rfl
 | .slf _ _,_=>rfl
 | .pt _ _,_=>rfl
 | .bp _ _,_=>rfl
 | .own _ _ _,_=>rfl
 | .mo _ _,_=>rfl
 | .mp _ _ _ _ _,_=>rfl
 | .clo _ _,_=>rfl
 | .mk _,_=>rfl
 | .mw _ _ _ _ _,_=>rfl
theorem D.pv_one{d:D}(h:d.one=true)(hp:d.pure=true):d.pv.one=true:=by
 match d,h,hp with
 | .v _,h,_=>exact h
 | .sl _ _ _ _ _,_,_=>rfl
 | .slr _ _ _,_,_=>rfl
 | .slf _ _,_,_=>rfl
 | .pt _ _,_,_=>rfl
 | .own _ _ _,_,_=>rfl
 | .clo _ _,_,_=>rfl
theorem D.reads{w:World}{s:Sb}{g:Gh}{d:D}{v:Value}(h:d.pure=true)(hv:d.tv.P w s g v):d.pv.p w s v:=TV.weak (D.toPV h) hv
mutual
theorem D.ofPV{w:World}{s:Sb}{g:Gh}{d:D}{v:Value}(h:d.flat=true)(hv:d.pv.p w s v):d.tv.P w s g v:=by
 match d,h,hv with
 | .v _,_,hv=>exact hv
 | .agg l,h,hv=>
  rw[D.flat]at h;rw[D.pv]at hv;obtain⟨vs,h1,h2⟩:=hv;rw[D.tv,TV.P];exact⟨vs,h1,D.ofPVs h h2⟩
 | .clo f l,h,hv=>
  rw[D.flat]at h;rw[D.pv]at hv;obtain⟨vs,h1,h2⟩:=hv;rw[D.tv,TV.P];exact⟨vs,h1,D.ofPVs h h2⟩
 | .tup _,_,hv=>exact hv
 | .sl _ _ _ _ _,_,hv=>exact hv
 | .slr _ _ _,_,hv=>exact hv
 | .slf _ _,_,hv=>exact hv
 | .pt _ _,_,hv=>exact hv
 | .op _,_,hv=>exact hv
 | .gd c (.v _),_,hv=>exact hv
 | .gd c (.agg _),_,hv=>exact hv
 | .gd c (.tup _),_,hv=>exact hv
 | .gd c (.sl _ _ _ _ _),_,hv=>exact hv
 | .gd c (.slr _ _ _),_,hv=>exact hv
 | .gd c (.slf _ _),_,hv=>exact hv
 | .gd c (.pt _ _),_,hv=>exact hv
 | .gd c (.own _ _ _),_,hv=>exact hv
 | .gd c (.op _),_,hv=>exact hv
 | .gd c (.gd _ _),_,hv=>exact hv
 | .gd c (.clo _ _),_,hv=>exact hv
 | .gd c (.tpo _),_,hv=>exact hv
 | .gd c (.bp _ _),h,_=>simp[D.flat]at h
 | .gd c (.mo _ _),h,_=>simp[D.flat]at h
 | .gd c (.mp _ _ _ _ _),h,_=>simp[D.flat]at h
 | .gd c (.mk _),h,_=>simp[D.flat]at h
 | .gd c (.mw _ _ _ _ _),h,_=>simp[D.flat]at h
 | .bp _ _,h,_=>simp[D.flat]at h
 | .own _ _ _,h,_=>simp[D.flat]at h
 | .mo _ _,h,_=>simp[D.flat]at h
 | .mp _ _ _ _ _,h,_=>simp[D.flat]at h
 | .mk _,h,_=>simp[D.flat]at h
 | .mw _ _ _ _ _,h,_=>simp[D.flat]at h
 | .tpo _,h,_=>simp[D.flat]at h
theorem D.ofPVs{w:World}{s:Sb}{g:Gh}{l:List D}{vs:List Value}(h:D.flats l=true)(hv:AllV w s (D.pvs l) vs):AllT w s g (D.tvl l) vs:=by
 match l,vs,h,hv with
 |[],[],_,_=>rw[D.tvl,AllT];trivial
 |d::l,u::vs,h,hv=>
  obtain⟨h1,h2⟩:=kQ h;rw[D.pvs]at hv;rw[D.tvl,AllT];exact⟨D.ofPV h1 hv.1,D.ofPVs h2 hv.2⟩
 |[],_::_,_,hv=>rw[D.pvs]at hv;exact hv.elim
 |_::_,[],_,hv=>rw[D.pvs]at hv;exact hv.elim
end
mutual
def D.str:D->Bool
 | .v _=>true
 | .agg l=>D.strL l
 | .tup l=>D.strL l
 | .sl m _ _ _ _=> !m
 | .slr m _ _=> !m
 | .slf _ _=>true
 | .pt m row=>match m with|true=>false|false=>D.strL row
 | .bp _ _=>false
 | .own _ _ _=>true
 | .gd _ d=>d.str
 | .op p=>p.str
 | .mo _ _=>false
 | .mp _ _ _ _ _=>false
 | .clo _ l=>D.strL l
 | .mk _=>false
 | .mw _ _ _ _ _=>false
 | .tpo _=>false
def D.strL:List D->Bool
 |[]=>true
 |d::l=>match d.str with|true=>D.strL l|false=>false
end
mutual
theorem D.str_pv(d:D)(h:d.str=true):d.pv.str=true:=by
 match d,h with
 | .v _,_=>rfl
 | .agg l,h=>rw[D.str]at h;rw[D.pv];exact D.strL_pv l h
 | .tup l,h=>rw[D.str]at h;rw[D.pv];exact D.strL_pv l h
 | .sl m _ _ _ _,h=>rw[D.str]at h;rw[D.pv];exact h
 | .slr m _ _,h=>rw[D.str]at h;rw[D.pv];exact h
 | .slf _ _,_=>rfl
 | .pt false row,h=>rw[D.str]at h;rw[D.pv];exact D.strL_pv row h
 | .pt true row,h=>rw[D.str]at h;cases h
 | .own _ _ _,_=>rw[D.pv];rfl
 | .gd _ d,h=>rw[D.str]at h;rw[D.pv];exact D.str_pv d h
 | .op p,h=>rw[D.str]at h;rw[D.pv];exact h
 | .clo _ l,h=>rw[D.str]at h;rw[D.pv];exact D.strL_pv l h
 | .bp _ _,h=>rw[D.str]at h;cases h
 | .mo _ _,h=>rw[D.str]at h;cases h
 | .mp _ _ _ _ _,h=>rw[D.str]at h;cases h
 | .mk _,h=>rw[D.str]at h;cases h
 | .mw _ _ _ _ _,h=>rw[D.str]at h;cases h
 | .tpo _,h=>rw[D.str]at h;cases h
theorem D.strL_pv(l:List D)(h:D.strL l=true):strs (D.pvs l)=true:=by
 match l,h with
 |[],_=>rw[D.pvs];rfl
 |d::l,h=>
  rw[D.strL]at h;rw[D.pvs,strs]
  cases hd:d.str with
  |false=>rw[hd]at h;cases h
  |true=>rw[hd]at h;rw[D.str_pv d hd];exact D.strL_pv l h
end
inductive MR:Type 1
 |lst (rows:List (List D))
 |map {α:Type} (l:List α) (f:α->List D) (e:α)
 |upd (m:MR) (i:Nat) (row:List D)
 |app (m:MR) (r:List (List D))
 |cpy (m:MR) (r:List (List D))
def MR.rows:MR->List (List D)
 | .lst r=>r
 | .map l f _=>l.map f
 | .upd m i row=>m.rows.set i row
 | .app m r=>m.rows++r
 | .cpy m r=>r++m.rows.drop r.length
def MR.len:MR->Nat
 | .lst r=>r.length
 | .map l _ _=>l.length
 | .upd m _ _=>m.len
 | .app m r=>m.len+r.length
 | .cpy m r=>r.length+(m.len-r.length)
theorem MR.len_rows:∀m:MR,m.rows.length=m.len
 | .lst r=>rfl
 | .map l f _=>by rw[MR.rows,MR.len,Ao]
 | .upd m i row=>by rw[MR.rows,MR.len,Ck];exact MR.len_rows m
 | .app m r=>by rw[MR.rows,MR.len,Ae,MR.len_rows m]
 | .cpy m r=>by rw[MR.rows,MR.len,Ae,Ay,MR.len_rows m]
def MR.at(i:Nat):MR->Option (List D)
 | .map l f e=>some (f (l.getD i e))
 | .upd _ _ row=>some row
 |_=>none
def MR.okL(i:Nat):MR->List Prop
 | .upd _ j _=>[i=j]
 |_=>[]
theorem MR.at_rows{m:MR}{i:Nat}{row:List D}(h:m.at i=some row)(hi:i<m.len)(hok:∀p∈m.okL i,p):m.rows[i]?=some row:=by
 match m,h,hi,hok with
 | .map l f e,h,hi,_=>
  rw[MR.at]at h;rw[MR.len]at hi
  cases h;rw[MR.rows,Bf,Af hi,Aj,Af hi];rfl
 | .upd m j r,h,hi,hok=>
  rw[MR.at]at h;rw[MR.len]at hi
  cases h;have hj:i=j:=hok _ (by simp[MR.okL]);subst hj;rw[MR.rows,List.getElem?_set_self (by rw[MR.len_rows];exact hi)]
inductive DOwn:Type 1
 |box (ty:TypeId) (cs:List D)
 |row (ty:TypeId) (sz len:Nat)
 |mrow (ty:TypeId) (sz:Nat) (m:MR)
 |map (l:List (Int×D))
 |itr (l:List (Int×Int))
def DOwn.o:DOwn->Own
 | .box ty cs=> .box ty (D.tvl cs)
 | .row ty sz len=> .row ty sz len
 | .mrow ty sz m=> .mrow ty sz (D.pvss m.rows)
 | .map l=> .map (l.map fun x=>(Value.int .i64 x.1,x.2.pv))
 | .itr l=> .itr l
structure DS:Type 1 where
 tm:List (Nat×D)
 ow:List (Nat×DOwn)
 nx:Nat
def tvs(l:List (Nat×D)):List (Nat×TV):=l.map fun x=>(x.1,x.2.tv)
def ows(l:List (Nat×DOwn)):List (Nat×Own):=l.map fun x=>(x.1,x.2.o)
def DS.ste(S:DS):Ste:=⟨tvs S.tm,ows S.ow,S.nx⟩
def yQ{α:Type 1}(k:Nat):List (Nat×α)->Option α
 |[]=>none
 |(j,x)::l=>match Nat.beq j k with|true=>some x|false=>yQ k l
theorem qE(k:Nat):∀l:List (Nat×D),fnd k (tvs l)=(yQ k l).map D.tv
 |[]=>rfl
 |(j,x)::l=>by
  show(match Nat.beq j k with|true=>some x.tv|false=>fnd k (tvs l))=(match Nat.beq j k with|true=>some x|false=>yQ k l).map D.tv
  cases Nat.beq j k with
  |true=>rfl
  |false=>exact qE k l
theorem qD(k:Nat):∀l:List (Nat×DOwn),fnd k (ows l)=(yQ k l).map DOwn.o
 |[]=>rfl
 |(j,x)::l=>by
  show(match Nat.beq j k with|true=>some x.o|false=>fnd k (ows l))=(match Nat.beq j k with|true=>some x|false=>yQ k l).map DOwn.o
  cases Nat.beq j k with
  |true=>rfl
  |false=>exact qD k l
theorem yN{α:Type 1}(k j:Nat)(x:α)(l:List (Nat×α)):yQ k ((j,x)::l)=if j=k then some x else yQ k l:=by
 show(match Nat.beq j k with|true=>some x|false=>yQ k l)=_;by_cases h:j=k
 ·subst h;rw[Ag rfl,show Nat.beq j j=true from Nat.beq_refl j]
 ·have hb:Nat.beq j k=false:=by
   cases hb:Nat.beq j k with
   |false=>rfl
   |true=>exact absurd (Ab hb) h
  rw[hb,Aa h]
def wD:Nat->List D->List D
 |0,l=>l
 |_+1,[]=>[]
 |n+1,_::l=>wD n l
theorem jX:∀(n:Nat)(l:List D),wD n l=l.drop n
 |0,l=>rfl
 |_+1,[]=>by simp[wD]
 |n+1,_::l=>by simpa[wD]using jX n l
def getS:Nat->List D->Option D
 |_,[]=>none
 |0,d::_=>some d
 |n+1,_::l=>getS n l
theorem vT:∀(n:Nat)(l:List D),getS n l=l[n]?
 |_,[]=>by simp[getS]
 |0,d::_=>by simp[getS]
 |n+1,_::l=>by simpa[getS]using vT n l
def kE(p:D->Bool):Nat->List D->Option (List D)
 |0,_=>some []
 |_+1,[]=>none
 |n+1,d::l=>match p d with
  |true=>match kE p n l with
   |some r=>some (d::r)
   |none=>none
  |false=>none
theorem jQ{p:D->Bool}:∀{n:Nat}{l r:List D},kE p n l=some r->n<=l.length/\(∀d∈r,p d=true)/\r=l.take n
 |0,l,r,h=>by simp[kE]at h;subst h;simp
 |_+1,[],r,h=>by simp[kE]at h
 |n+1,d::l,r,h=>by
  unfold kE at h
  cases hp:p d with
  |false=>rw[hp]at h;simp at h
  |true=>
   rw[hp]at h;simp only at h
   cases ht:kE p n l with
   |none=>rw[ht]at h;simp at h
   |some r'=>
    rw[ht]at h;simp at h;subst h;obtain⟨h1,h2,h3⟩:=jQ ht;refine⟨by simpa using h1,fun x hx=>?_,by simp[h3]⟩;rcases Bc.1 hx with rfl|hx
    ·exact hp
    ·exact h2 x hx
def layS:Nat->List D->List D->Option (List D)
 |0,[],l=>some l
 |0,d::ds,_::l=>match layS 0 ds l with
  |some r=>some (d::r)
  |none=>none
 |0,_::_,[]=>none
 |n+1,ds,x::l=>match layS n ds l with
  |some r=>some (x::r)
  |none=>none
 |_+1,_,[]=>none
theorem vH:∀{n:Nat}{ds l r:List D},layS n ds l=some r->n+ds.length<=l.length/\r=l.take n++ds++l.drop (n+ds.length)
 |0,[],l,r,h=>by simp[layS]at h;subst h;simp
 |0,d::ds,x::l,r,h=>by
  unfold layS at h
  cases ht:layS 0 ds l with
  |none=>rw[ht]at h;simp at h
  |some r'=>
   rw[ht]at h;simp at h;subst h;obtain⟨h1,h2⟩:=vH ht;refine⟨by simp at h1⊢;omega,?_⟩;simp at h2;simp[h2]
 |0,_::_,[],r,h=>by simp[layS]at h
 |n+1,ds,x::l,r,h=>by
  unfold layS at h
  cases ht:layS n ds l with
  |none=>rw[ht]at h;simp at h
  |some r'=>
   rw[ht]at h;simp at h;subst h;obtain⟨h1,h2⟩:=vH ht;refine⟨by simp;omega,?_⟩;rw[show n+1+ds.length=(n+ds.length)+1 by omega];simp[h2]
 |_+1,_,[],r,h=>by simp[layS]at h
inductive TI where
 |int (k:IntKind)
 |bool
 |str
 |sl (e:TypeId) (sz:Nat)
 |st (n:Nat) (zs:List Value) (places:List (Nat×Nat))
 |one (z:Value)
 |fl (ts:List (TypeId×Nat))
 |ar (n c q:Nat) (e:TypeId) (zs:List Value)
 |mp (ag:Bool) (zs:List Value)
def kN:IntKind->Nat
 | .i8=>0| .i16=>1| .i32=>2| .i64=>3| .u8=>4| .u16=>5| .u32=>6| .u64=>7
def kEq(a b:IntKind):Bool:=Nat.beq (kN a) (kN b)
theorem uR{a b:IntKind}(h:kEq a b=true):a=b:=by cases a<;>cases b<;>first|rfl|(exact absurd h (by decide))
def zEq:Value->Value->Bool
 | .bool a,.bool b=>(a&&b)||(!a&& !b)
 | .int k n,.int k' m=>kEq k k'&&decide (n=m)
 | .string s,.string t=>Nat.beq s.size 0&&Nat.beq t.size 0
 | .slice none 0 0,.slice none 0 0=>true
 | .pointer none,.pointer none=>true
 | .map none,.map none=>true
 | .nilFunc,.nilFunc=>true
 | .nilIface,.nilIface=>true
 |_,_=>false
theorem mX{s:ByteArray}(h:s.size=0):s=ByteArray.empty:=by
 apply ByteArray.ext;exact Array.eq_empty_of_size_eq_zero h
theorem uU0{a b:Value}(h:zEq a b=true):a=b:=by
 unfold zEq at h;split at h
 ·rename_i a b;cases a<;>cases b<;>first|rfl|simp at h
 ·simp only[Ah,Ai]at h;rw[uR h.1,h.2]
 ·simp only[Ah]at h;rw[mX (Ab h.1),mX (Ab h.2)]
 all_goals first|rfl|simp at h
theorem uT0{a b:Value}(h:zEq a b=true):b.oneCell'=true:=by
 unfold zEq at h;split at h<;>first|rfl|simp at h
def zEqs:List Value->List Value->Bool
 |[],[]=>true
 |a::l,b::r=>zEq a b&&zEqs l r
 |_,_=>false
theorem bB:∀{l r:List Value},zEqs l r=true->l=r/\∀v∈r,v.oneCell'=true
 |[],[],_=>⟨rfl,fun _ h=>by cases h⟩
 |a::l,b::r,h=>by
  unfold zEqs at h;simp only[Ah]at h;obtain⟨h1,h2⟩:=bB h.2;refine⟨by rw[uU0 h.1,h1],fun v hv=>?_⟩;rcases Bc.1 hv with rfl|hv
  ·exact uT0 h.1
  ·exact h2 v hv
 |[],_::_,h=>by simp[zEqs]at h
 |_::_,[],h=>by simp[zEqs]at h
def plEq:List (Nat×Nat)->List (Nat×Nat)->Bool
 |[],[]=>true
 |a::l,b::r=>Nat.beq a.1 b.1&&Nat.beq a.2 b.2&&Nat.blt 0 b.2&&plEq l r
 |_,_=>false
theorem vV0:∀{l r:List (Nat×Nat)},plEq l r=true->l=r/\∀x∈r,0<x.2
 |[],[],_=>⟨rfl,fun _ h=>by cases h⟩
 |a::l,b::r,h=>by
  unfold plEq at h;simp only[Ah]at h;obtain⟨⟨⟨h1,h2⟩,h3⟩,h4⟩:=h;obtain⟨e1,e2⟩:=vV0 h4;have e:a=b:=Prod.ext (Ab h1) (Ab h2);refine⟨by rw[e,e1],fun x hx=>?_⟩;rcases Bc.1 hx with rfl|hx
  ·exact An h3
  ·exact e2 x hx
 |[],_::_,h=>by simp[plEq]at h
 |_::_,[],h=>by simp[plEq]at h
def oneZ(i:TypeInfo)(z:Value):Bool:=Nat.beq i.size 1&&match i.zero with|some y=>zEq y z|none=>false
def pls(P:Program):List Field->Option (List (Nat×Nat))
 |[]=>some []
 |f::l=>match P.info? f.type,pls P l with
  |some i,some r=>some ((f.offset,i.size)::r)
  |_,_=>none
theorem qM0{P:Program}:∀{l:List Field}{r:List (Nat×Nat)},pls P l=some r->l.mapM (fun f=>(P.info? f.type).map fun i=>(f.offset,i.size))=some r
 |[],r,h=>by cases h;rfl
 |f::l,r,h=>by
  unfold pls at h
  cases hi:P.info? f.type with
  |none=>rw[hi]at h;simp at h
  |some i=>
   rw[hi]at h
   cases hp:pls P l with
   |none=>rw[hp]at h;simp at h
   |some q=>
    rw[hp]at h;simp at h;subst h;have:=qM0 hp;simp[List.mapM_cons,hi,this]
theorem vU0{P:Program}:∀{l:List Field}{r:List (Nat×Nat)},pls P l=some r->∀{i:Nat}{x:Nat×Nat},r[i]?=some x->∃f,l[i]?=some f/\f.offset=x.1/\(P.info? f.type).map (·.size)=some x.2
 |[],r,h,i,x,hx=>by cases h;simp at hx
 |f::l,r,h,i,x,hx=>by
  unfold pls at h
  cases hi:P.info? f.type with
  |none=>rw[hi]at h;simp at h
  |some ti=>
   rw[hi]at h
   cases hp:pls P l with
   |none=>rw[hp]at h;simp at h
   |some q=>
    rw[hp]at h;simp at h;subst h
    cases i with
    |zero=>simp at hx;subst hx;exact⟨f,rfl,rfl,by simp[hi]⟩
    |succ i=>simpa using vU0 hp (by simpa using hx)
def mzV(ag:Bool)(zs:List Value):Value:=match ag,zs with
 |true,zs=> .agg zs.toArray
 |false,z::_=>z
 |false,[]=>undef
def mzEq(ag:Bool)(zs:List Value)(z:Value):Bool:=match ag,zs,z with
 |true,zs,.agg cs=>zEqs cs.toList zs
 |false,[y],z=>zEq z y
 |_,_,_=>false
theorem mzEq_eq{ag:Bool}{zs:List Value}{z:Value}(h:mzEq ag zs z=true):z=mzV ag zs:=by
 unfold mzEq at h;split at h
 ·rename_i cs;have h1:=(bB h).1;show Value.agg cs= .agg _;rw[<-h1]
 ·exact uU0 h
 ·cases h
def tiB(P:Program)(t:TypeId)(ti:TI):Bool:=
 match P.info? t,P.underlying t with
 |some i,some u=>
  match ti,u with
  | .int k,.int k'=>kEq k k'&&oneZ i (.int k 0)
  | .bool,.bool=>oneZ i (.bool false)
  | .str,.string=>oneZ i (.string ByteArray.empty)
  | .sl e0 sz,.slice e=>oneZ i (.slice none 0 0)&&Nat.beq e0 e&&(match P.info? e with|some ie=>Nat.beq ie.size sz&&Nat.blt 0 sz&&Nat.blt 0 ie.bytes&&Nat.ble ie.bytes 4096&&(match ie.zero with|some z=>Nat.beq z.cells.size sz|none=>false)|none=>false)
  | .st n zs places,.struct fs=>Nat.beq i.size n&&true&&(match i.zero with|some z=>zEqs z.cells.toList zs|none=>false)&&(match pls P fs.toList with|some r=>plEq r places|none=>false)
  | .ar n c q e0 zs,.array c' e=>Nat.beq i.size n&&Nat.blt 0 n&&Nat.beq n (c*q)&&Nat.beq c c'&&Nat.beq e0 e&&(match i.zero with|some z=>zEqs z.cells.toList zs|none=>false)&&(match P.info? e with|some ie=>Nat.beq ie.size q|none=>false)
  | .mp ag zs,.map k e=>oneZ i (.map none)&&(match P.underlying k with|some (.int kk)=>kEq kk .i64|_=>false)&&(match P.info? e with|some ie=>(match ie.zero with|some z=>mzEq ag zs z|none=>false)|none=>false)
  | .one z,u=> !u.isRow&&oneZ i z
  | .fl _,_=>false
  |_,_=>false
 |_,_=>false
def flB':List Field->List (TypeId×Nat)->Bool
 |[],[]=>true
 |f::l,x::r=>Nat.beq f.type x.1&&Nat.beq f.offset x.2&&flB' l r
 |_,_=>false
theorem jH0:∀{l:List Field}{r:List (TypeId×Nat)},flB' l r=true->∀{i:Nat}{x:TypeId×Nat},r[i]?=some x->∃f,l[i]?=some f/\f.type=x.1/\f.offset=x.2
 |[],[],_,i,x,hx=>by simp at hx
 |f::l,y::r,h,i,x,hx=>by
  unfold flB' at h;simp only[Ah]at h;obtain⟨⟨h1,h2⟩,h3⟩:=h
  cases i with
  |zero=>simp at hx;subst hx;exact⟨f,rfl,Ab h1,Ab h2⟩
  |succ i=>simpa using jH0 h3 (by simpa using hx)
 |[],_::_,h,_,_,_=>by simp[flB']at h
 |_::_,[],h,_,_,_=>by simp[flB']at h
def flOk(P:Program)(t:Nat)(ts:List (TypeId×Nat)):Bool:=match P.underlying t with
 |some (.struct fs)=>flB' fs.toList ts
 |_=>false
def entB(P:Program)(t:Nat)(ti:TI):Bool:=match ti with
 | .fl ts=>Nat.blt 2000000 t&&flOk P (t-2000000) ts
 |ti=>tiB P t ti
def wC(P:Program):List (Nat×TI)->Bool
 |[]=>true
 |x::l=>entB P x.1 x.2&&wC P l
theorem kF{P:Program}{t:TypeId}{ti:TI}:∀{T:List (Nat×TI)},wC P T=true->fnd t T=some ti->entB P t ti=true
 |[],_,h=>by cases h
 |x::l,h,hf=>by
  unfold wC at h;simp only[Ah]at h;rw[show x=(x.1,x.2)from rfl,zY]at hf;by_cases e:x.1=t
  ·subst e;simp at hf;subst hf;exact h.1
  ·simp only[e,if_false]at hf;exact kF h.2 hf
theorem yC{P:Program}{t:TypeId}{ti:TI}{T:List (Nat×TI)}(hT:wC P T=true)(h:fnd t T=some ti)(hn:∀ts,ti≠ .fl ts:=by intro _ h;cases h):tiB P t ti=true:=by
 have:=kF hT h
 cases ti<;>first|exact this|exact absurd rfl (hn _)
theorem tabFl{P:Program}{t:TypeId}{ts:List (TypeId×Nat)}{T:List (Nat×TI)}(hT:wC P T=true)(h:fnd (2000000+t) T=some (.fl ts)){i:Nat}{x:TypeId×Nat}(hx:ts[i]?=some x):PartT P t i x.1 x.2:=by
 have:=kF hT h;simp only[entB,Ah]at this;have h2:=this.2;rw[Nat.add_sub_cancel_left]at h2;unfold flOk at h2;split at h2
 ·rename_i fs hu;obtain⟨f,g1,g2,g3⟩:=jH0 h2 hx;exact⟨fs,f,hu,by simpa using g1,g2,g3⟩
 ·cases h2
theorem mH{P:Program}{t:TypeId}{i:TypeInfo}{z:Value}(hi:P.info? t=some i)(hz:i.zero=some z)(w:World):(zeroValue t).run P w= .ok z w:=by
 simp[zeroValue,typeInfo,hi,hz]
section
variable{P:Program}{t:TypeId}
theorem wU{i:TypeInfo}{u:TypeDesc}{z:Value}(hi:P.info? t=some i)(hu:P.underlying t=some u)(hr:u.isRow=false)(h:oneZ i z=true):OneT P t/\(∀w,(zeroValue t).run P w= .ok z w)/\z.oneCell'=true:=by
 unfold oneZ at h;simp only[Ah]at h;obtain⟨h1,h2⟩:=h
 cases hz:i.zero with
 |none=>rw[hz]at h2;simp at h2
 |some y=>
  rw[hz]at h2;have e:=uU0 h2;subst e;exact⟨⟨⟨u,hu,hr⟩,by rw[hi];simp[Ab h1]⟩,mH hi hz,uT0 h2⟩
theorem vP{ti:TI}(h:tiB P t ti=true):∃i u,P.info? t=some i/\P.underlying t=some u:=by
 unfold tiB at h
 cases hi:P.info? t with
 |none=>rw[hi]at h;simp at h
 |some i=>
  cases hu:P.underlying t with
  |none=>rw[hi,hu]at h;simp at h
  |some u=>exact⟨i,u,rfl,rfl⟩
theorem xV{k:IntKind}(h:tiB P t (.int k)=true):OneT P t/\P.underlying t=some (.int k)/\(∀w,(zeroValue t).run P w= .ok (.int k 0) w):=by
 obtain⟨i,u,hi,hu⟩:=vP h;unfold tiB at h;rw[hi,hu]at h
 cases u<;>simp only[Ah,Bw]at h
 rename_i k';have e:=uR h.1;subst e;obtain⟨h1,h2,_⟩:=wU hi hu rfl h.2;exact⟨h1,hu,h2⟩
theorem bG(h:tiB P t .bool=true):OneT P t/\P.underlying t=some .bool/\(∀w,(zeroValue t).run P w= .ok (.bool false) w):=by
 obtain⟨i,u,hi,hu⟩:=vP h;unfold tiB at h;rw[hi,hu]at h
 cases u<;>simp only[Bw]at h
 obtain⟨h1,h2,_⟩:=wU hi hu rfl h;exact⟨h1,hu,h2⟩
theorem vG(h:tiB P t .str=true):OneT P t/\P.underlying t=some .string/\(∀w,(zeroValue t).run P w= .ok (.string ByteArray.empty) w):=by
 obtain⟨i,u,hi,hu⟩:=vP h;unfold tiB at h;rw[hi,hu]at h
 cases u<;>simp only[Bw]at h
 obtain⟨h1,h2,_⟩:=wU hi hu rfl h;exact⟨h1,hu,h2⟩
theorem tY{z:Value}(h:tiB P t (.one z)=true):OneT P t/\(∀w,(zeroValue t).run P w= .ok z w)/\z.oneCell'=true:=by
 obtain⟨i,u,hi,hu⟩:=vP h;unfold tiB at h;rw[hi,hu]at h;have h':(!u.isRow&&oneZ i z)=true:=by cases u<;>exact h
 simp only[Ah,Bd]at h';obtain⟨h1,h2,h3⟩:=wU hi hu h'.1 h'.2;exact⟨h1,h2,h3⟩
theorem wF{e0:TypeId}{sz:Nat}(h:tiB P t (.sl e0 sz)=true):OneT P t/\(∀w,(zeroValue t).run P w= .ok (.slice none 0 0) w)/\AppT P t e0 sz:=by
 obtain⟨i,u,hi,hu⟩:=vP h;unfold tiB at h;rw[hi,hu]at h
 cases u<;>simp only[Ah,Bw]at h
 rename_i e;obtain⟨h1,h2,_⟩:=wU hi hu rfl h.1.1;have he:=Ab h.1.2;subst he;refine⟨h1,h2,?_⟩
 cases hie:P.info? e0 with
 |none=>rw[hie]at h;simp at h
 |some ie=>
  rw[hie]at h;have h:=h.2;simp only[Ah]at h;obtain⟨⟨⟨⟨h3,h4⟩,h5⟩,h6⟩,h7⟩:=h
  cases hz:ie.zero with
  |none=>rw[hz]at h7;simp at h7
  |some z=>
   rw[hz]at h7;exact⟨ie,z,hu,hie,hz,Ab h3,Ab h7,An h4,An h5,An h6⟩
theorem AppT.slT{e:TypeId}{sz:Nat}(h:AppT P t e sz):SlT P t sz:=by
 obtain⟨ie,z,h1,h2,h3,h4,_⟩:=h.h;exact⟨e,h1,by rw[h2];simp[h4]⟩
theorem AppT.bslT{e:TypeId}{sz:Nat}(h:AppT P t e sz):BslT P t sz:=by
 obtain⟨ie,z,h1,h2,h3,h4,h5,h6,_⟩:=h.h;exact⟨e,ie,z,h1,h2,h3,h4,h5,h6⟩
theorem bF{n:Nat}{zs:List Value}{places:List (Nat×Nat)}(h:tiB P t (.st n zs places)=true):(0<n\/n=0)/\RowT P t n/\BldT P t zs places/\(∀(i:Nat)(x:Nat×Nat),places[i]?=some x->FldT P t i x.1)/\(∀v∈zs,v.oneCell'=true)/\
  ∃z,(∀w,(zeroValue t).run P w= .ok z w)/\z.cells.toList=zs:=by
 obtain⟨i,u,hi,hu⟩:=vP h;unfold tiB at h;rw[hi,hu]at h
 cases u<;>simp only[Ah,Bw]at h
 rename_i fs;obtain⟨⟨⟨h1,h0⟩,h2⟩,h3⟩:=h
 cases hz:i.zero with
 |none=>rw[hz]at h2;simp at h2
 |some z=>
  rw[hz]at h2;obtain⟨e1,e2⟩:=bB h2
  cases hp:pls P fs.toList with
  |none=>rw[hp]at h3;simp at h3
  |some r=>
   rw[hp]at h3;obtain⟨e3,e4⟩:=vV0 h3;subst e3;refine⟨by omega,⟨⟨_,hu,rfl⟩,by rw[hi];simp[Ab h1]⟩,BldT.st hi hu hz e1 (qM0 hp),fun j x hx=>?_,e2,z,mH hi hz,e1⟩;obtain⟨f,g1,g2,g3⟩:=vU0 hp hx;exact⟨fs,f,hu,by simpa using g1,g2,x.2,e4 x (Aw hx),g3⟩
def arPl(c q:Nat):List (Nat×Nat):=(List.range c).map fun i=>(i*q,q)
structure ArT(P:Program)(t:TypeId)(c q:Nat)(e:TypeId):Prop where
 h:P.underlying t=some (.array c e)/\(P.info? e).map (·.size)=some q
theorem tZ{n c q:Nat}{e:TypeId}{zs:List Value}(h:tiB P t (.ar n c q e zs)=true):0<n/\RowT P t n/\BldT P t zs (arPl c q)/\ArT P t c q e/\(∀v∈zs,v.oneCell'=true)/\∃z,(∀w,(zeroValue t).run P w= .ok z w)/\z.cells.toList=zs:=by
 obtain⟨i,u,hi,hu⟩:=vP h;unfold tiB at h;rw[hi,hu]at h
 cases u<;>simp only[Ah,Bw]at h
 rename_i c' e';obtain⟨⟨⟨⟨⟨⟨h1,h0⟩,_⟩,h3⟩,h4⟩,h5⟩,h6⟩:=h;have h3:=Ab h3;have h4:=Ab h4;subst h3 h4
 cases hz:i.zero with
 |none=>rw[hz]at h5;simp at h5
 |some z=>
  rw[hz]at h5;obtain⟨e1,e2⟩:=bB h5
  cases he:P.info? e with
  |none=>rw[he]at h6;simp at h6
  |some ie=>
   rw[he]at h6;have h6:=Ab h6;subst h6;refine⟨An h0,⟨⟨_,hu,rfl⟩,by rw[hi];simp[Ab h1]⟩,BldT.ar hi hu hz e1 he fun j p hp=>?_,⟨hu,by rw[he];rfl⟩,e2,z,mH hi hz,e1⟩;unfold arPl at hp;rw[Bf]at hp;rcases Bm j c with hj|hj
   ·rw[List.getElem?_range hj]at hp;exact(Option.some.inj hp).symm
   ·rw[Dc (by simpa using hj)]at hp;cases hp
structure MapT(P:Program)(t:TypeId)(z:Value):Prop where
 h:∃k e,P.underlying t=some (.map k e)/\P.underlying k=some (.int .i64)/\∀w,(zeroValue e).run P w= .ok z w
theorem kW0{ag:Bool}{zs:List Value}(h:tiB P t (.mp ag zs)=true):OneT P t/\MapT P t (mzV ag zs):=by
 obtain⟨i,u,hi,hu⟩:=vP h;unfold tiB at h;rw[hi,hu]at h
 cases u<;>simp only[Ah,Bw]at h
 rename_i k e;obtain⟨⟨h1,h2⟩,h3⟩:=h;refine⟨(wU hi hu rfl h1).1,k,e,hu,?_,?_⟩
 ·cases hk:P.underlying k with
  |none=>rw[hk]at h2;simp at h2
  |some d=>
   rw[hk]at h2
   cases d<;>simp only[Bw]at h2
   rw[uR h2]
 ·cases he:P.info? e with
  |none=>rw[he]at h3;simp at h3
  |some ie=>
   rw[he]at h3
   cases hz:ie.zero with
   |none=>simp[hz]at h3
   |some z=>
    simp only[hz]at h3;rw[<-mzEq_eq h3];exact mH he hz
end
end Go.Proofs.YtmakjjodkiedmaaGreatDoor
