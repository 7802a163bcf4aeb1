/-Part 4 of the proof. -/
import Derived.Test.YtammfbdgjnkolaaGreatDoorM3
namespace Go.Proofs.YtammfbdgjnkolaaGreatDoor
open Go.RowKit
structure AppT(P:Program)(t e:TypeId)(sz:Nat):Prop where
 h:∃ie z,P.underlying t=some (.slice e)/\P.info? e=some ie/\ie.zero=some z/\ie.size=sz/\z.cells.size=sz/\0<sz/\0<ie.bytes/\ie.bytes<=4096
def Bnd(tm:List (Nat×TV))(x:Option Operand)(dflt n:Int):Prop:=match x with
 |none=>n=dflt
 |some o=>∃k,Opd tm o (.pv (PV.lit (.int k n)))
theorem PV.sl_cut{w:World}{s:Sb}{sz:Nat}{mo:Bool}{rows:List (List PV)}{a:Option Addr}{cap l h:Nat}(hl:l<=h)(hh:h<=rows.length)(hc:rows.length<=cap)(hm:cap<=9223372036854775807)(hz:∀row∈rows,row.length=sz)
  (hr:∀i row,rows[i]?=some row->∃b off,a=some ⟨b,off,none⟩/\CellsG mo w s b (off+i*sz) row):
  (PV.sl mo sz ((rows.drop l).take (h-l))).p w s (.slice (if cap=l then a else a.map (·.add (l*sz))) (h-l) (cap-l)):=by
 have hlen:((rows.drop l).take (h-l)).length=h-l:=by simp;omega
 refine⟨_,cap-l,by rw[hlen],by rw[hlen];omega,by omega,fun row hrow=>hz row (Dj (Cu hrow)),fun i row hi=>?_⟩;rw[Df]at hi;split at hi
 ·rename_i hlt;rw[Ds]at hi;obtain⟨b,off,rfl,h1⟩:=hr _ _ hi;have:cap≠l:=by omega
  refine⟨b,off+l*sz,?_,?_⟩
  ·rw[Aa this];simp[Addr.add_mid]
  ·have e:off+(l+i)*sz=off+l*sz+i*sz:=by rw[Bo];omega
   rw[<-e];exact h1
 ·cases hi
section
variable{P:Program}{tm:List (Nat×TV)}{dst:Option Tmp}{ty:TypeId}{pos:String}{aft:Array Edge}{gd:Option (Nat×Bool)}
theorem gA0{x:Operand}{t:TypeId}{sz:Nat}{mo:Bool}{rows:List (List PV)}{d:TV}{lo hi:Option Operand}{l h:Int}(hT:SlT P t sz)(hx:Opd tm x d)(hd:d.toPV=some (PV.sl mo sz rows))(h1:Bnd tm lo 0 l)(h2:Bnd tm hi rows.length h)(h0:0<=l)(hlh:l<=h)(hhn:h<=rows.length):
  UOp P ⟨dst,.slice t x lo hi none,ty,pos,aft,gd⟩ tm [] (.pv (PV.sl mo sz ((rows.drop l.toNat).take (h.toNat-l.toNat)))) []:=
 UOp.pure fun w s g a ht=>by
  obtain⟨e,hu,he⟩:=hT.h;obtain⟨ad,cap,h3,h4,h5,h6,h7⟩:=TV.weak hd (Opd.eval ht hx);have h3':a.eval x= .slice ad rows.length cap:=h3;obtain⟨m,rfl⟩:=Cy h0;obtain⟨n,rfl⟩:=Cy (by omega:0<=h);have hmn:m<=n:=by omega
  have hn:n<=rows.length:=by omega
  have hb:(Instr.sliceBounds true rows.length cap (lo.map a.eval) (hi.map a.eval) none).run P w= .ok (m,n,cap) w:=by
   have hlo:∀h':Nat,m<=h'->(match lo.map a.eval with|some v=>Instr.sliceBound v h' .sliceB|none=>(pure 0:Sem Nat)).run P w= .ok m w:=by
    intro h' hm
    cases lo with
    |none=>
     have:(m:Int)=0:=h1;have:m=0:=by omega
     subst this;rfl
    |some o=>
     obtain⟨k,hk⟩:=h1;have hv:=Opd.lit ht hk;simp only[Option.map_some,hv];rw[run_sliceBound w k _ h' _ om om];rfl
   have hhi:(match hi.map a.eval with|some v=>Instr.sliceBound v cap .sliceAcap|none=>(pure rows.length:Sem Nat)).run P w= .ok n w:=by
    cases hi with
    |none=>
     have:(n:Int)=rows.length:=h2;have:n=rows.length:=by omega
     subst this;rfl
    |some o=>
     obtain⟨k,hk⟩:=h2;have hv:=Opd.lit ht hk;simp only[Option.map_some,hv];rw[run_sliceBound w k _ cap _ om om];rfl
   have hlo':=hlo n hmn;unfold Instr.sliceBounds
   cases lo<;>cases hi<;>simp_all
  refine⟨.slice (if cap=m then ad else ad.map (·.add (m*sz))) (n-m) (cap-m),yK (s:=Instr.sliceAt t (a.eval x) (lo.map a.eval) (hi.map a.eval) none) ?_,?_⟩
  ·rw[h3'];simp[Instr.sliceAt,run_underlying hu,Instr.slice,hb,qZ he]
  ·exact PV.sl_cut hmn hn h4 h5 h6 h7
theorem u_sliceStr{x:Operand}{t:TypeId}{p:ByteArray}{lo hi:Option Operand}{l h:Int}(hT:P.underlying t=some .string)(hx:Opd tm x (.pv (PV.lit (.string p))))(h1:Bnd tm lo 0 l)(h2:Bnd tm hi p.size h)(h0:0<=l)(hlh:l<=h)(hhn:h<=p.size):
  UOp P ⟨dst,.slice t x lo hi none,ty,pos,aft,gd⟩ tm [] (.pv (PV.lit (.string (p.extract l.toNat h.toNat)))) []:=
 UOp.pure fun w s g a ht=>by
  have h3':=Opd.lit ht hx;obtain⟨m,rfl⟩:=Cy h0;obtain⟨n,rfl⟩:=Cy (by omega:0<=h);have hmn:m<=n:=by omega
  have hn:n<=p.size:=by omega
  have hb:(Instr.sliceBounds false p.size p.size (lo.map a.eval) (hi.map a.eval) none).run P w= .ok (m,n,p.size) w:=by
   have hlo:∀h':Nat,m<=h'->(match lo.map a.eval with|some v=>Instr.sliceBound v h' .sliceB|none=>(pure 0:Sem Nat)).run P w= .ok m w:=by
    intro h' hm
    cases lo with
    |none=>
     have:(m:Int)=0:=h1;have:m=0:=by omega
     subst this;rfl
    |some o=>
     obtain⟨k,hk⟩:=h1;have hv:=Opd.lit ht hk;simp only[Option.map_some,hv];rw[run_sliceBound w k _ h' _ om om];rfl
   have hhi:(match hi.map a.eval with|some v=>Instr.sliceBound v p.size .sliceAlen|none=>(pure p.size:Sem Nat)).run P w= .ok n w:=by
    cases hi with
    |none=>
     have:(n:Int)=p.size:=h2;have:n=p.size:=by omega
     subst this;rfl
    |some o=>
     obtain⟨k,hk⟩:=h2;have hv:=Opd.lit ht hk;simp only[Option.map_some,hv];rw[run_sliceBound w k _ p.size _ om om];rfl
   have hlo':=hlo n hmn;unfold Instr.sliceBounds
   cases lo<;>cases hi<;>simp_all
  refine⟨.string (p.extract m n),yK (s:=Instr.sliceAt t (a.eval x) (lo.map a.eval) (hi.map a.eval) none) ?_,rfl⟩;rw[h3'];simp[Instr.sliceAt,run_underlying hT,Instr.slice,hb]
theorem u_conv{x:Operand}{src dt:TypeId}{k k':IntKind}{n:Int}{u:TypeDesc}(hs:P.underlying src=some u)(hd:P.underlying dt=some (.int k'))(hx:Opd tm x (.pv (PV.lit (.int k n)))):
  UOp P ⟨dst,.convert src dt x,ty,pos,aft,gd⟩ tm [] (.pv (PV.lit (.int k' (k'.wrap n)))) []:=
 UOp.pure fun w s g a ht=>by
  have h1:=Opd.lit ht hx;refine⟨.int k' (k'.wrap n),yK (s:=convert src dt (a.eval x)) ?_,rfl⟩;rw[h1];simp[convert,run_underlying hs,run_underlying hd,Conv.intToInt]
end
def Gh.setRow(g:Gh)(k len:Nat)(v:Value):Gh:={g with gn:=fun j m=>if j=k/\m=len then some v else g.gn j m}
theorem Gh.setRow_eq(g:Gh)(k len:Nat)(v:Value):(g.setRow k len v).gn k len=some v:=by simp[Gh.setRow]
theorem Gh.setRow_ne(g:Gh){k len j m:Nat}(v:Value)(h:¬(j=k/\m=len)):(g.setRow k len v).gn j m=g.gn j m:=by simp[Gh.setRow,h]
theorem wH{w w':World}{b o:Nat}(h:w'.heap[b]?=w.heap[b]?):w'.cell? ⟨b,o,none⟩=w.cell? ⟨b,o,none⟩:=World.cell?_of_block h
theorem Stp.newRow{w w':World}{s:Sb}{g:Gh}{k sz len cap:Nat}{e:TypeId}{cur:Array Value}(hl:∀B o,s B o->B<w.heap.size)(hf:g.bx k=none/\∀m,g.gn k m=none)
  (hs:w'.heap.size=w.heap.size+1) (hb:∀N,N<w.heap.size->w'.heap[N]?=w.heap[N]?) (hn:CellB w' w.heap.size cur e) (h1:w'.os=w.os) (h2:w'.tape=w.tape) (h3:w'.output=w.output)
  (hc:len<=cap) (hm:cap<=maxLen) (hz:cur.size=cap*sz):
  Stp w s g [] w' (s.add fun B o=>B=w.heap.size/\o<len*sz) (g.setRow k len (.slice (some ⟨w.heap.size,0,none⟩) len cap)) [(k,.row e sz len)]:=by
 have hone:∀{j:Nat}{c:Own},fnd j [(k,Own.row e sz len)]=some c->j=k/\c= .row e sz len:=by
  intro j c h;rw[yH]at h;by_cases e':k=j
  ·simp only[e',if_true]at h;cases h;exact⟨e'.symm,rfl⟩
  ·simp only[e',if_false]at h;cases h
 refine⟨⟨fun _ _ h=> .inl h,(fun b o h=>wH (hb b (hl b o h))),fun _ _ h=> .inl h⟩,fun B o h=>?_,⟨fun _ _ h=>h,fun j m v h=>?_⟩,fun j h=>⟨rfl,fun m=>?_⟩,h1,h2,h3,by omega,fun N hN _=>hb N hN,fun B o h=>?_,fun B o h=>?_,fun j c h=>?_,fun j c N h hN=>?_,fun j j' c c' N h h' hne=>?_,fun j c h=>by cases h⟩
 ·rcases h with h|⟨rfl,_⟩
  ·have:=hl B o h;omega
  ·omega
 ·by_cases hjm:j=k/\m=len
  ·obtain⟨rfl,rfl⟩:=hjm;rw[hf.2]at h;cases h
  ·rw[Gh.setRow_ne _ _ hjm];exact h
 ·have hjk:j≠k:=by
   rintro rfl;rw[yH]at h;simp at h
  exact Gh.setRow_ne _ _ (fun e=>hjk e.1)
 ·rcases h with h|⟨rfl,_⟩
  ·exact .inl h
  ·exact .inr (.inl (Ar _))
 ·rcases h with h|⟨rfl,_⟩
  ·exact .inl h
  ·exact .inr (.inl (Ar _))
 ·obtain⟨rfl,rfl⟩:=hone h;refine⟨fun m hm=>by rw[Gh.setRow_ne _ _ om];exact hf.2 m,_,Gh.setRow_eq _ _ _ _,.inr ⟨_,cap,cur,rfl,hn,hc,hm,hz,fun o ho hso=>?_⟩⟩;rcases hso with hso|⟨_,hso⟩
  ·have:=hl _ _ hso;omega
  ·omega
 ·obtain⟨rfl,rfl⟩:=hone h;have:blk (g.setRow j len (.slice (some ⟨w.heap.size,0,none⟩) len cap)) j (.row e sz len)=some w.heap.size:=by
   show((g.setRow j len _).gn j len).bind Value.ownBlock=_;rw[Gh.setRow_eq];rfl
  rw[this]at hN;cases hN;exact .inl (Ar _)
 ·obtain⟨rfl,rfl⟩:=hone h;obtain⟨rfl,rfl⟩:=hone h';exact absurd rfl hne
theorem Stp.ghostRow{w:World}{s:Sb}{g:Gh}{k sz:Nat}{e:TypeId}(hl:∀B o,s B o->B<w.heap.size)(hf:g.bx k=none/\∀m,g.gn k m=none):
  Stp w s g [] w s (g.setRow k 0 (.slice none 0 0)) [(k,.row e sz 0)]:=by
 have hone:∀{j:Nat}{c:Own},fnd j [(k,Own.row e sz 0)]=some c->j=k/\c= .row e sz 0:=by
  intro j c h;rw[yH]at h;by_cases e':k=j
  ·simp only[e',if_true]at h;cases h;exact⟨e'.symm,rfl⟩
  ·simp only[e',if_false]at h;cases h
 refine⟨Ex.refl w s,hl,⟨fun _ _ h=>h,fun j m v h=>?_⟩,fun j h=>⟨rfl,fun m=>?_⟩,rfl,rfl,rfl,Ar _,fun N hN _=>rfl,fun B o h=> .inl h,fun B o h=> .inl h,fun j c h=>?_,fun j c N h hN=>?_,fun j j' c c' N h h' hne=>?_,fun j c h=>by cases h⟩
 ·by_cases hjm:j=k/\m=0
  ·obtain⟨rfl,rfl⟩:=hjm;rw[hf.2]at h;cases h
  ·rw[Gh.setRow_ne _ _ hjm];exact h
 ·have hjk:j≠k:=by
   rintro rfl;rw[yH]at h;simp at h
  exact Gh.setRow_ne _ _ (fun e=>hjk e.1)
 ·obtain⟨rfl,rfl⟩:=hone h;exact⟨fun m hm=>by rw[Gh.setRow_ne _ _ om];exact hf.2 m,_,Gh.setRow_eq _ _ _ _,.inl ⟨rfl,rfl⟩⟩
 ·obtain⟨rfl,rfl⟩:=hone h;have:blk (g.setRow j 0 (.slice none 0 0)) j (.row e sz 0)=none:=by
   show((g.setRow j 0 _).gn j 0).bind Value.ownBlock=_;rw[Gh.setRow_eq];rfl
  rw[this]at hN;cases hN
 ·obtain⟨rfl,rfl⟩:=hone h;obtain⟨rfl,rfl⟩:=hone h';exact absurd rfl hne
theorem mS0{pr:Nat->Nat->Prop}{w:World}{s:Sb}{sz:Nat}:∀{rows:List (List PV)}{b off:Nat},(∀row∈rows,row.length=sz)->(∀i row,rows[i]?=some row->CellsX pr w s b (off+i*sz) row)->
  ∃vs:List Value,vs.length=rows.length*sz/\w.rangeAt b off vs/\(∀v∈vs,v.oneCell'=true)/\∀i row j d,rows[i]?=some row->row[j]?=some d->∃u,vs[i*sz+j]?=some u/\d.p w s u
 |[],b,off,_,_=>⟨[],by simp,fun j v hv=>by simp at hv,(fun v hv=>by cases hv),fun i row j d hi=>by simp at hi⟩
 |r::rows,b,off,hz,h=>by
  have h0:=h 0 r rfl;simp only[Nat.zero_mul,Ck]at h0;obtain⟨vs,h1,h2,h3,h4⟩:=qR0 h0;obtain⟨us,g1,g2,g3,g4⟩:=mS0 (w:=w) (s:=s) (rows:=rows) (b:=b) (off:=off+sz) (fun row hr=>hz row (by simp[hr])) (fun i row hi=>by
   have:=h (i+1) row (by simpa using hi);rw[show off+(i+1)*sz=off+sz+i*sz by rw[Bo];omega]at this;exact this)
  have hr:=hz r (by simp);refine⟨vs++us,by simp[h1,g1,hr,Bo];omega,fun j v hv=>?_,fun v hv=>?_,fun i row j d hi hj=>?_⟩
  ·rcases Br j vs.length with hlt|hge
   ·rw[Ca hlt]at hv;exact h2 j v hv
   ·rw[Cs hge]at hv;have:=g2 _ v hv;rw[h1,hr,show off+sz+(j-sz)=off+j by rw[h1,hr]at hge;omega]at this;exact this
  ·rcases Av.1 hv with hv|hv
   ·exact h4 v hv
   ·exact g3 v hv
  ·cases i with
   |zero=>
    simp at hi;subst hi;obtain⟨u,h5,h6⟩:=h3.get hj;have hjl:j<vs.length:=(Ao.1 h5).1;exact⟨u,by rw[Nat.zero_mul,Cp,Ca hjl];exact h5,h6⟩
   |succ i=>
    obtain⟨u,h5,h6⟩:=g4 i row j d (by simpa using hi) hj;refine⟨u,?_,h6⟩;rw[Cs (by rw[h1,hr,Bo];omega),h1,hr,show(i+1)*sz+j-sz=i*sz+j by rw[Bo];omega];exact h5
theorem PV.sl_src{w:World}{s:Sb}{sz:Nat}{mo:Bool}{rows:List (List PV)}{x:Value}(h:(PV.sl mo sz rows).p w s x):∃a c vs,x= .slice a rows.length c/\vs.length=rows.length*sz/\(∀v∈vs,v.oneCell'=true)/\
  (0<rows.length->∃b off,a=some ⟨b,off,none⟩/\w.rangeAt b off vs)/\∀i row j d,rows[i]?=some row->row[j]?=some d->∃u,vs[i*sz+j]?=some u/\d.p w s.good u:=by
 obtain⟨a,c,h1,h2,h3,h4,h5⟩:=h;by_cases h0:0<rows.length
 ·obtain⟨b,off,rfl,_⟩:=h5 0 _ (Ac h0);obtain⟨vs,g1,g2,g3,g4⟩:=mS0 (w:=w) (s:=s.good) (b:=b) (off:=off) h4 (fun i row hi=>by
   obtain⟨b',off',e,hc⟩:=h5 i row hi
   cases e;exact hc)
  exact⟨_,c,vs,h1,g1,g3,fun _=>⟨b,off,rfl,g2⟩,g4⟩
 ·have hr:rows=[]:=Bm om;subst hr;exact⟨a,c,[],h1,by simp,(fun v hv=>by cases hv),fun h=>absurd h (by simp),fun i row j d hi=>by simp at hi⟩
theorem PV.sl_block{w:World}{s:Sb}{sz cap G:Nat}{rows:List (List PV)}{vs:List Value}(hz:∀row∈rows,row.length=sz)(hlen:vs.length=rows.length*sz)(hc:rows.length<=cap)(hm:cap<=maxLen)
  (hcell:∀j u,vs[j]?=some u->w.cell? ⟨G,j,none⟩=some u) (hs:∀o,o<rows.length*sz->s.st G o) (h1:∀v∈vs,v.oneCell'=true) (hp:∀i row j d,rows[i]?=some row->row[j]?=some d->∃u,vs[i*sz+j]?=some u/\d.p w s.good u):
  (PV.sl false sz rows).p w s (.slice (some ⟨G,0,none⟩) rows.length cap):=by
 refine⟨_,cap,rfl,hc,by simpa[maxLen]using hm,hz,fun i row hi=>⟨G,0,rfl,fun j d hj=>?_⟩⟩;obtain⟨u,h2,h3⟩:=hp i row j d hi hj;have hlt:=(Ao.1 h2).1;refine⟨u,by rw[Cp];exact hcell _ u h2,hs _ om,h3,h1 u (Bg h2)⟩
theorem Own.row_one{k j sz len:Nat}{e:TypeId}{c:Own}(h:fnd j [(k,Own.row e sz len)]=some c):j=k/\c= .row e sz len:=by
 rw[yH]at h;by_cases e':k=j
 ·simp only[e',if_true]at h;cases h;exact⟨e'.symm,rfl⟩
 ·simp only[e',if_false]at h;cases h
theorem vO{g:Gh}{k sz len:Nat}{e:TypeId}{v:Value}(h:g.gn k len=some v):blk g k (.row e sz len)=v.ownBlock:=by
 show(g.gn k len).bind Value.ownBlock=_;rw[h];rfl
theorem Stp.moreRow{w w':World}{s:Sb}{g:Gh}{k sz n m:Nat}{e:TypeId}{v v':Value}(hg:Good w s g [(k,.row e sz n)] [(k,.row e sz (n+m))])(hv:g.gn k n=some v)(h0:m=0->v'=v){G cap:Nat}{cur:Array Value}(hv':v'= .slice (some ⟨G,0,none⟩) (n+m) cap)
  (hG:v.ownBlock=some G\/G=w.heap.size) (hlt:G<w'.heap.size) (hs:w.heap.size<=w'.heap.size) (hb:∀N,N<w.heap.size->N≠G->w'.heap[N]?=w.heap[N]?) (hold:∀o,o<n*sz->G<w.heap.size->w'.cell? ⟨G,o,none⟩=w.cell? ⟨G,o,none⟩)
  (hn:CellB w' G cur e) (h1:w'.os=w.os) (h2:w'.tape=w.tape) (h3:w'.output=w.output) (hc:n+m<=cap) (hm:cap<=maxLen) (hz:cur.size=cap*sz):
  Stp w s g [(k,.row e sz n)] w' (s.add fun B o=>B=G/\o<(n+m)*sz) (g.setRow k (n+m) v') [(k,.row e sz (n+m))]:=by
 have hok:=hg.one;obtain⟨hno,u,hu,hcase⟩:=hok;rw[hv]at hu;cases hu;have hblk:v.ownBlock=some G->∀o,n*sz<=o->¬s G o:=by
  intro hvb;rcases hcase with⟨rfl,_⟩|⟨G',cap',cur',rfl,_,_,_,_,hst⟩
  ·cases hvb
  ·have:G'=G:=by simpa[Value.ownBlock]using hvb
   subst this;exact hst
 have hGs:∀o,s G o->o<n*sz/\G<w.heap.size:=by
  intro o hso;have hl:=hg.lt _ _ hso;refine⟨?_,hl⟩;rcases hG with hG|hG
  ·rcases Br o (n*sz)with h|h
   ·exact h
   ·exact absurd hso (hblk hG o h)
  ·omega
 refine⟨⟨fun _ _ h=> .inl h,fun b o h=>?_,fun _ _ h=> .inl h⟩,fun B o h=>?_,⟨fun _ _ h=>h,fun j i x h=>?_⟩,fun j h=>⟨rfl,fun i=>?_⟩,h1,h2,h3,hs,fun N hN hne=>?_,fun B o h=>?_,fun B o h=>?_,fun j c h=>?_,fun j c N h hN=>?_,fun j j' c c' N h h' hne=>?_,fun j c h=>?_⟩
 ·by_cases hbG:b=G
  ·subst hbG;obtain⟨h4,h5⟩:=hGs o h;exact hold o h4 h5
  ·exact wH (hb b (hg.lt b o h) hbG)
 ·rcases h with h|⟨rfl,_⟩
  ·have:=hg.lt B o h;omega
  ·exact hlt
 ·by_cases hji:j=k/\i=n+m
  ·obtain⟨rfl,rfl⟩:=hji;rw[Gh.setRow_eq];rcases Bz m with hm0|hm0
   ·rw[h0 hm0];subst hm0;rw[Ck,hv]at h;exact h
   ·rw[hno _ om]at h;cases h
  ·rw[Gh.setRow_ne _ _ hji];exact h
 ·have hjk:j≠k:=by
   rintro rfl;rw[yH]at h;simp at h
  exact Gh.setRow_ne _ _ (fun e=>hjk e.1)
 ·have hNG:N≠G:=by
   rintro rfl;rcases hG with hG|hG
   ·exact hne k (.row e sz n) (by rw[yH];simp) (by rw[vO hv];exact hG)
   ·omega
  exact hb N hN hNG
 ·rcases h with h|⟨rfl,_⟩
  ·exact .inl h
  ·rcases hG with hG|hG
   ·exact .inr (.inr ⟨k,.row e sz n,by rw[yH];simp,by rw[vO hv];exact hG⟩)
   ·exact .inr (.inl om)
 ·rcases h with h|⟨rfl,_⟩
  ·exact .inl h
  ·rcases hG with hG|hG
   ·exact .inr (.inr ⟨k,.row e sz n,by rw[yH];simp,by rw[vO hv];exact hG⟩)
   ·exact .inr (.inl om)
 ·obtain⟨rfl,rfl⟩:=Own.row_one h;refine⟨fun i hi=>by rw[Gh.setRow_ne _ _ om];exact hno i om,v',Gh.setRow_eq _ _ _ _,.inr ⟨G,cap,cur,hv',hn,hc,hm,hz,fun o ho hso=>?_⟩⟩;rcases hso with hso|⟨_,hso⟩
  ·have:=(hGs o hso).1;have:n*sz<=(n+m)*sz:=Bh _ om;omega
  ·omega
 ·obtain⟨rfl,rfl⟩:=Own.row_one h;rw[vO (Gh.setRow_eq _ _ _ _),hv']at hN;have hN':G=N:=by simpa[Value.ownBlock]using hN
  subst hN';rcases hG with hG|hG
  ·exact .inr ⟨j,.row e sz n,by rw[yH];simp,by rw[vO hv];exact hG⟩
  ·exact .inl om
 ·obtain⟨rfl,rfl⟩:=Own.row_one h;obtain⟨rfl,rfl⟩:=Own.row_one h';exact absurd rfl hne
 ·obtain⟨rfl,rfl⟩:=Own.row_one h;exact⟨.row e sz (n+m),by rw[yH];simp⟩
section
variable{P:Program}
theorem yE0{t e ty:TypeId}{sz:Nat}(hA:AppT P t e sz){w:World}{s:Sb}{g:Gh}{mo:Bool}{k n m:Nat}{rows rows2:List (List PV)}{v x:Value}(hg:Good w s g [(k,.row e sz n)] [(k,.row e sz (n+m))])(hv:g.gn k n=some v)
  (hP:(PV.sl false sz rows).p w s v) (hn:rows.length=n) (hx:(PV.sl mo sz rows2).p w s x) (hm:rows2.length=m) (hb:n+m<=1073741824):
  ∃v' w' s' g',(Builtin.append_ #[t,t] ty #[v,x]).run P w= .ok v' w'/\Stp w s g [(k,.row e sz n)] w' s' g' [(k,.row e sz (n+m))]/\(PV.sl false sz (rows++rows2)).p w' s' v'/\g'.gn k (n+m)=some v':=by
 subst hn;subst hm;obtain⟨ie,z,ht,hi,hz,hsz,hzs,hpos,hby,hby2⟩:=hA.h;subst hsz;have hg':=hg;obtain⟨hno,u,hu,hcase⟩:=hg.one;rw[hv]at hu;cases hu;obtain⟨a1,c1,xs,ex,hxl,hx1,hxr,hxp⟩:=PV.sl_src hx;obtain⟨_,c0,olds,ev,hol,ho1,hor,hop⟩:=PV.sl_src hP;subst ex;have hbytes:(rows.length+rows2.length)*ie.bytes<=140737488355328:=At (Nat.mul_le_mul hb hby2) de;have hlen:(rows++rows2).length=rows.length+rows2.length:=by simp
 have hrz:∀row∈rows++rows2,row.length=ie.size:=by
  obtain⟨_,_,_,_,_,h4,_⟩:=hP;obtain⟨_,_,_,_,_,h4',_⟩:=hx;intro row hr;rcases Av.1 hr with h|h
  ·exact h4 row h
  ·exact h4' row h
 rcases Bz rows2.length with hm0|hm0
 ·--nothing to append
  have hr2:rows2=[]:=Bm hm0;subst hr2;have hst:Stp w s g [(k,.row e ie.size rows.length)] w s g [(k,.row e ie.size (rows.length+([]:List (List PV)).length))]:=by
   simp only[Au,Ck];exact Stp.read ⟨hg.lt,hg.ok,hg.sep,(fun k c h1 h2=>by rw[h1]at h2;cases h2),hg.gl⟩
  refine⟨v,w,s,g,?_,hst,by simpa using hP,by simpa using hv⟩;rcases hcase with⟨rfl,h0⟩|⟨G,cap,cur,rfl,hG,hnc,hcm,hcs,hstb⟩
  ·have h0':rows.length=0:=h0
   cases a1<;>simp[Builtin.append_,run_underlying ht,sizeOf,typeInfo,hi,Builtin.lenOf,Builtin.firstCells,loadCells,loadCellsFrom]
  ·cases a1<;>simp[Builtin.append_,run_underlying ht,sizeOf,typeInfo,hi,Builtin.lenOf,Builtin.firstCells,loadCells,loadCellsFrom,hnc,storeCells]
 ·obtain⟨b2,off2,ea,hra⟩:=hxr hm0;subst ea;have hnews:∀j u,xs[j]?=some u->w.cell? ((⟨b2,off2,none⟩:Addr).add j)=some u:=fun j u hj=>by rw[Addr.add_mid];exact hra j u hj
  have grown:∀(old:Nat),rows.length<=old\/v= .slice none 0 0->old<rows.length+rows2.length->(Builtin.append_ #[t,t] ty #[v,.slice (some ⟨b2,off2,none⟩) rows2.length c1]).run P w=
    .ok (.slice (some ⟨w.heap.size,0,none⟩) (rows.length+rows2.length) (grownCap w (rows.length+rows2.length) old e)) (w.drew.alloc (.cells (olds.toArray++xs.toArray++Builtin.zeroCells z.cells (grownCap w (rows.length+rows2.length) old e-(rows.length+rows2.length))) e))->
    ∃v' w' s' g',(Builtin.append_ #[t,t] ty #[v,.slice (some ⟨b2,off2,none⟩) rows2.length c1]).run P w= .ok v' w'/\Stp w s g [(k,.row e ie.size rows.length)] w' s' g' [(k,.row e ie.size (rows.length+rows2.length))]/\(PV.sl false ie.size (rows++rows2)).p w' s' v'/\g'.gn k (rows.length+rows2.length)=some v':=by
   intro old _ hold hr;have hge:=grownCap_ge w (rows.length+rows2.length) old e;have hcm:grownCap w (rows.length+rows2.length) old e<=maxLen:=grownCap_le_maxLen w _ old e (by simp only[maxLen];omega);generalize grownCap w (rows.length+rows2.length) old e=gc at*;have hcur:(olds.toArray++xs.toArray++Builtin.zeroCells z.cells (gc-(rows.length+rows2.length))).size=gc*ie.size:=by
    simp only[Array.size_append,Cl,size_zeroCells,hzs,hol,hxl,<-Bo];congr 1;omega
   have hst:=Stp.moreRow (w:=w) (w':=w.drew.alloc (.cells (olds.toArray++xs.toArray++Builtin.zeroCells z.cells (gc-(rows.length+rows2.length))) e)) hg hv (fun h=>by omega) (v':= .slice (some ⟨w.heap.size,0,none⟩) (rows.length+rows2.length) gc) rfl (.inr rfl) (by simp) (by simp)
    (fun N hN _=>heap_alloc_old w.drew _ hN) (fun o _ h=>absurd h om) (.of (heap_alloc_new w.drew _)) rfl rfl rfl hge hcm hcur
   refine⟨_,_,_,_,hr,hst,?_,Gh.setRow_eq _ _ _ _⟩
   have hfin:=PV.sl_block (w:=w.drew.alloc (.cells (olds.toArray++xs.toArray++Builtin.zeroCells z.cells (gc-(rows.length+rows2.length))) e)) (s:=s.add fun B o=>B=w.heap.size/\o<(rows.length+rows2.length)*ie.size) (G:=w.heap.size) (cap:=gc) (rows:=rows++rows2) (vs:=olds++xs) hrz (by simp[hol,hxl,Bo]) (by rw[hlen];exact hge) hcm
    (fun j u hj=>by
     rw[cell_of_row _ w.heap.size j _ e (0,0) (heap_alloc_new w.drew _)];have hj':j<(olds++xs).length:=(Ao.1 hj).1;rw[En (by simpa using hj')];simpa using hj)
    (fun o ho=>by rw[hlen]at ho;exact .inr ⟨rfl,ho⟩)
    (fun v hv=>by
     rcases Av.1 hv with h|h
     ·exact ho1 v h
     ·exact hx1 v h)
    (fun i row j d hi' hj=>by
     have hjz:j<ie.size:=by
      have h1:=(Ao.1 hj).1;rw[hrz row (Bg hi')]at h1;exact h1
     rcases Br i rows.length with hlt|hge2
     ·rw[Ca hlt]at hi';obtain⟨u,h1,h2⟩:=hop i row j d hi' hj;have h3:=(Ao.1 h1).1;exact⟨u,by rw[Ca h3];exact h1,d.mono _ _ _ _ u hst.ex.good h2⟩
     ·rw[Cs hge2]at hi';obtain⟨u,h1,h2⟩:=hxp _ row j d hi' hj;refine⟨u,?_,d.mono _ _ _ _ u hst.ex.good h2⟩;have e1:i*ie.size+j-olds.length=(i-rows.length)*ie.size+j:=by
       rw[hol,Nat.sub_mul];have:=Bh ie.size hge2;omega
      rw[Cs (by rw[hol];have:=Bh ie.size hge2;omega),e1];exact h1)
   rw[hlen]at hfin;exact hfin
  rcases hcase with⟨rfl,h0⟩|⟨G,cap,cur,rfl,hG,hnc,hcm,hcs,hstb⟩
  ·have hr0:rows=[]:=Bm h0;subst hr0;have ho0:olds=[]:=Bm (by simpa using hol);subst ho0;have hr:=run_append_nil (P:=P) w t ty e ie z ht hi hz ⟨b2,off2,none⟩ rows2.length c1 xs hxl hnews hm0 om (by have:=hbytes;simp only[Au,Cp]at this;omega);refine grown 0 (.inr rfl) (by simpa using hm0) ?_;simpa using hr
  ·obtain⟨hb0,off0,e0,hro⟩:∃b off,(some (⟨G,0,none⟩:Addr))=some ⟨b,off,none⟩/\(0<rows.length->w.rangeAt b off olds):=by
    refine⟨G,0,rfl,fun h=>?_⟩;obtain⟨b,off,e1,h2⟩:=hor h
    cases ev
    cases e1;exact h2
   cases e0;have holds:∀j u,olds[j]?=some u->w.cell? ((⟨G,0,none⟩:Addr).add j)=some u:=fun j u hj=>by
    have h0:0<rows.length:=by
     rcases Bz rows.length with h|h
     ·have:=(Ao.1 hj).1;rw[hol,h]at this;simp at this
     ·exact h
    rw[Addr.add_mid];exact hro h0 j u hj
   by_cases hroom:rows.length+rows2.length<=cap
   ·have hfit:rows.length*ie.size+xs.length<=cur.size:=by rw[hxl,hcs,<-Bo];exact Bh _ hroom
    have hr:=vZ (P:=P) w t ty e ie ht hi G rows.length cap cur hG ⟨b2,off2,none⟩ rows2.length c1 xs hxl hnews hx1 hroom hfit;have hGl:G<w.heap.size:=hG.lt;have hrow:=hG.setRow (cs:=(cur.toList.take (rows.length*ie.size)++xs++cur.toList.drop (rows.length*ie.size+xs.length)).toArray) (by simp only[Cl,Ae,As,Bk,Ej];omega);have hcl:rows.length*ie.size<=cur.toList.length:=by simp;omega
    have hcelln:∀j,(w.setRow G (cur.toList.take (rows.length*ie.size)++xs++cur.toList.drop (rows.length*ie.size+xs.length)).toArray).cell? ⟨G,j,none⟩=(cur.toList.take (rows.length*ie.size)++xs++cur.toList.drop (rows.length*ie.size+xs.length))[j]?:=fun j=>by
     rw[hrow.cell];simp
    have hcello:∀j,j<rows.length*ie.size->(w.setRow G (cur.toList.take (rows.length*ie.size)++xs++cur.toList.drop (rows.length*ie.size+xs.length)).toArray).cell? ⟨G,j,none⟩=w.cell? ⟨G,j,none⟩:=fun j hj=>by
     rw[hcelln,hG.cell,Cg,Ca (by rw[As];omega),Df,Ab hj];simp
    have hst:=Stp.moreRow (w:=w) hg hv (fun h=>by omega) (v':= .slice (some ⟨G,0,none⟩) (rows.length+rows2.length) cap) rfl (.inl rfl) (by simpa using hGl) (by simp)
     (fun N _ hN=>setRow_other w G N _ hN) (fun o ho _=>hcello o ho) hrow rfl rfl rfl hroom hcm (by
      simp only[Cl,Ae,As,Bk,Ej];omega)
    refine⟨_,_,_,_,hr,hst,?_,Gh.setRow_eq _ _ _ _⟩
    have hfin:=PV.sl_block (w:=w.setRow G (cur.toList.take (rows.length*ie.size)++xs++cur.toList.drop (rows.length*ie.size+xs.length)).toArray) (s:=s.add fun B o=>B=G/\o<(rows.length+rows2.length)*ie.size) (G:=G) (cap:=cap) (rows:=rows++rows2) (vs:=olds++xs) hrz (by simp[hol,hxl,Bo]) (by rw[hlen];exact hroom) hcm
     (fun j u hj=>by
      rcases Br j olds.length with hlt|hge2
      ·rw[Ca hlt]at hj;rw[hcello j om];have:=holds j u hj;rw[Addr.add_mid]at this;simpa using this
      ·rw[Cs hge2]at hj;rw[hcelln,Cg,Cs (by rw[As];omega)];have e1:j-(cur.toList.take (rows.length*ie.size)).length=j-olds.length:=by rw[As,hol];congr 1;omega
       rw[e1,Ca (Ao.1 hj).1];exact hj)
     (fun o ho=>by rw[hlen]at ho;exact .inr ⟨rfl,ho⟩)
     (fun v hv=>by
      rcases Av.1 hv with h|h
      ·exact ho1 v h
      ·exact hx1 v h)
     (fun i row j d hi' hj=>by
      have hjz:j<ie.size:=by
       have h1:=(Ao.1 hj).1;rw[hrz row (Bg hi')]at h1;exact h1
      rcases Br i rows.length with hlt|hge2
      ·rw[Ca hlt]at hi';obtain⟨u,h1,h2⟩:=hop i row j d hi' hj;have h3:=(Ao.1 h1).1;exact⟨u,by rw[Ca h3];exact h1,d.mono _ _ _ _ u hst.ex.good h2⟩
      ·rw[Cs hge2]at hi';obtain⟨u,h1,h2⟩:=hxp _ row j d hi' hj;refine⟨u,?_,d.mono _ _ _ _ u hst.ex.good h2⟩;have e1:i*ie.size+j-olds.length=(i-rows.length)*ie.size+j:=by
        rw[hol,Nat.sub_mul];have:=Bh ie.size hge2;omega
       rw[Cs (by rw[hol];have:=Bh ie.size hge2;omega),e1];exact h1)
    rw[hlen]at hfin;exact hfin
   ·have hr:=run_append_grow (P:=P) w t ty e ie z ht hi hz ⟨G,0,none⟩ rows.length cap olds hol holds ⟨b2,off2,none⟩ rows2.length c1 xs hxl hnews om om (growslice_fits om hbytes);exact grown cap (.inl hnc) om hr
end
theorem Stp.thenNew{w w':World}{s s':Sb}{g g1 g':Gh}{k:Nat}{c0 c:Own}(h1:Stp w s g [] w s g1 [(k,c0)])(h2:Stp w s g1 [(k,c0)] w' s' g' [(k,c)]):Stp w s g [] w' s' g' [(k,c)]:=by
 have hone:∀{j:Nat}{d e:Own},fnd j [(k,d)]=some e->j=k/\e=d:=fun h=>gJ h;have hnb:∀j d N,fnd j [(k,c0)]=some d->blk g1 j d=some N->w.heap.size<=N:=fun j d N hd hN=>(h1.nb j d N hd hN).elim id fun⟨_,_,h,_⟩=>by cases h
 refine⟨h1.ex.trans h2.ex,h2.lt,⟨fun k N h=>h2.gle.bx _ _ (h1.gle.bx _ _ h),fun k m v h=>h2.gle.gn _ _ _ (h1.gle.gn _ _ _ h)⟩,fun j h=>?_,h2.os,h2.tape,h2.output,h2.size,fun N hN _=>h2.block N hN fun j d hd hb=>?_,fun B o h=>?_,fun B o h=>?_,h2.ok,fun j d N hd hN=>?_,h2.sep,fun _ _ h=>by cases h⟩
 ·have hjk:fnd j [(k,c0)]=none:=by
   rw[yH]at h⊢;by_cases e:k=j
   ·simp[e]at h
   ·simp[e,fnd]
  obtain⟨a1,a2⟩:=h1.same j hjk;obtain⟨b1,b2⟩:=h2.same j h;exact⟨b1.trans a1,fun m=>(b2 m).trans (a2 m)⟩
 ·have:=hnb j d N hd hb;omega
 ·rcases h2.st B o h with h|h|⟨j,d,hd,hb⟩
  ·exact .inl h
  ·exact .inr (.inl h)
  ·exact .inr (.inl (hnb j d B hd hb))
 ·rcases h2.sst B o h with h|h|⟨j,d,hd,hb⟩
  ·exact .inl h
  ·exact .inr (.inl h)
  ·exact .inr (.inl (hnb j d B hd hb))
 ·rcases h2.nb j d N hd hN with h|⟨j',d',hd',hb⟩
  ·exact .inl h
  ·exact .inl (hnb j' d' N hd' hb)
section
variable{P:Program}{tm:List (Nat×TV)}{dst:Option Tmp}{ty:TypeId}{pos:String}{aft:Array Edge}{gd:Option (Nat×Bool)}
theorem uP{x y:Operand}{t:TypeId}{a:Act}{w w':World}{v':Value}(h:(Builtin.append_ #[t,t] ty #[a.eval x,a.eval y]).run P w= .ok v' w'):
  (execOp a.eval ⟨dst,.call {callee:= .builtin .append,args:= #[x,y],argTypes:= #[t,t]},ty,pos,aft,gd⟩).run P w= .ok (.value v') w':=by
 simp[execOp,resolve,invoke,builtin,h,Result.andThen]
theorem u_appendOwn{x y:Operand}{t e:TypeId}{mo:Bool}{sz k n m:Nat}{rows rows2:List (List PV)}{d:TV}(hA:AppT P t e sz)(hx:Opd tm x (.own k sz rows))(hn:rows.length=n)(hy:Opd tm y d)(hd:∀w s g v,d.P w s g v->(PV.sl mo sz rows2).p w s v)(hm:rows2.length=m)(hb:n+m<=1073741824):
  UOp P ⟨dst,.call {callee:= .builtin .append,args:= #[x,y],argTypes:= #[t,t]},ty,pos,aft,gd⟩ tm [(k,.row e sz n)] (.own k sz (rows++rows2)) [(k,.row e sz (n+m))]:=by
 intro w s g a K Q ht hg hK;have h1:=Opd.eval ht hx;rw[TV.P]at h1;obtain⟨v',w',s',g',hr,hst,hp,hgn⟩:=yE0 (ty:=ty) hA hg (by rw[<-hn];exact h1.2) h1.1 hn (hd _ _ _ _ (Opd.eval ht hy)) hm hb;unfold Oper.wp;rw[uP hr];refine hK w' s' g' v' ?_ hst;rw[TV.P];exact⟨hp,by rw[Ae,hn,hm];exact hgn⟩
theorem PV.sl_nil{w:World}{s:Sb}{sz:Nat}:(PV.sl false sz []).p w s (.slice none 0 0):=⟨none,0,rfl,Ar _,by omega,(fun _ h=>by cases h),(fun i row h=>by simp at h)⟩
theorem u_appendNil{x y:Operand}{t e:TypeId}{sz m:Nat}{mo:Bool}(k:Nat){rows2:List (List PV)}{d:TV}(hA:AppT P t e sz)(hx:Opd tm x (.pv (PV.lit (.slice none 0 0))))(hy:Opd tm y d)(hd:∀w s g v,d.P w s g v->(PV.sl mo sz rows2).p w s v)(hm:rows2.length=m)(hb:m<=1073741824):
  UOp P ⟨dst,.call {callee:= .builtin .append,args:= #[x,y],argTypes:= #[t,t]},ty,pos,aft,gd⟩ tm [] (.own k sz rows2) [(k,.row e sz m)]:=by
 intro w s g a K Q ht hg hK;have h1:=Opd.lit ht hx;have hfr:=hg.fr k (.row e sz m) (by rw[yH];simp) rfl;have hst0:=Stp.ghostRow (w:=w) (s:=s) (sz:=sz) (e:=e) hg.lt hfr;have hg1:Good w s (g.setRow k 0 (.slice none 0 0)) [(k,.row e sz 0)] [(k,.row e sz (0+m))]:=⟨hg.lt,hst0.ok,fun j j' c c' N h1 h2 hne=>by
  obtain⟨rfl,rfl⟩:=gJ h1;obtain⟨rfl,rfl⟩:=gJ h2;exact absurd rfl hne,(fun j c h1 h2=>by
  obtain⟨rfl,rfl⟩:=gJ h1;rw[yH]at h2;simp at h2),hg.gl⟩
 obtain⟨v',w',s',g',hr,hst,hp,hgn⟩:=yE0 (ty:=ty) (rows:=[]) hA hg1 (Gh.setRow_eq _ _ _ _) PV.sl_nil rfl (hd _ _ _ _ (TV.mono (Ex.refl w s) hst0.gle (Opd.eval ht hy))) hm om;rw[Cp]at hst hgn;unfold Oper.wp;rw[uP (by rw[h1];exact hr)];refine hK w' s' g' v' ?_ (Stp.thenNew hst0 hst);rw[TV.P];exact⟨by simpa using hp,by rw[hm];exact hgn⟩
theorem u_buildSliceOwn{t e:TypeId}{sz len:Nat}(k:Nat){parts:List (Nat×Operand)}{rows:List (List PV)}(hA:AppT P t e sz)(hp:tF tm sz 0 parts rows)(hl:len=rows.length)(hs:len*sz<=2^24)(h0:0<len):
  UOp P ⟨dst,.buildSlice t len parts.toArray,ty,pos,aft,gd⟩ tm [] (.own k sz rows) [(k,.row e sz len)]:=by
 intro w s g a K Q ht hg hK;obtain⟨ie,z,h1,h2,h3,h4,h5,h6,h7,h8⟩:=hA.h;subst h4;subst hl;have hlp:0<rows.length*ie.size:=Nat.mul_pos h0 h6;obtain⟨vss,g1,g2,g3⟩:=zP0 (sz:=ie.size) ht 0 [] ((Array.range (rows.length*ie.size)).map (z.cells[·%z.cells.size]!)).toList hp (by simp) (by simp);have hrl:∀(i:Nat)(row:List PV),rows[i]?=some row->row.length=ie.size/\∀d∈row,d.one=true:=by
  have aux:∀(parts:List (Nat×Operand))(rows:List (List PV))(n:Nat),tF tm ie.size n parts rows->∀(i:Nat)(row:List PV),rows[i]?=some row->row.length=ie.size/\∀d∈row,d.one=true:=by
   intro parts;induction parts with
   |nil=>intro rows n h i row hr;cases rows with|nil=>simp at hr|cons _ _=>exact h.elim
   |cons q parts ih=>
    intro rows n h i row hr
    cases rows with
    |nil=>simp at hr
    |cons r rows=>
     obtain⟨_,_,e3,e5,_,e4⟩:=h
     match i,hr with
     |0,hr=>simp at hr;subst hr;exact⟨e3,e5⟩
     |i+1,hr=>exact ih rows (n+1) e4 i row (by simpa using hr)
  exact aux parts rows 0 hp
 have hr:=run_buildSlice (P:=P) w t e rows.length (parts.toArray.map fun(i,x)=>(i,a.eval x)) (vss.flatten).toArray ie z h1 h2 h3 om om (by
  simp only[Dq,Array.toArray_toList]at g3;rw[<-g3];simp)
 have hall:∀x∈vss,x.length=ie.size:=by
  intro x hx;obtain⟨m,hm⟩:=Ee hx;have hm':m<rows.length:=by rw[<-g1];exact(Ao.1 hm).1
  rw[(g2 m _ x (Ac hm') hm).length];exact(hrl m _ (Ac hm')).1
 have hfl:∀(l:List (List Value)),(∀x∈l,x.length=ie.size)->l.flatten.length=l.length*ie.size:=by
  intro l;induction l with
  |nil=>intro _;simp
  |cons x l ih=>intro h;rw[Ea,Ae,ih fun y hy=>h y (by simp[hy]),h x (by simp),Am,Bo];omega
 have hfl':vss.flatten.length=rows.length*ie.size:=by rw[hfl vss hall,g1]
 have hlm:rows.length<=maxLen:=by
  have:rows.length*1<=rows.length*ie.size:=Cv _ h6;simp only[maxLen];omega
 unfold Oper.wp;have he:(execOp a.eval ⟨dst,.buildSlice t rows.length parts.toArray,ty,pos,aft,gd⟩).run P w= .ok (.value (.slice (some ⟨w.heap.size,0,none⟩) rows.length rows.length)) (w.alloc (.cells vss.flatten.toArray e)):=yK hr;rw[he];have hfr:=hg.fr k (.row e ie.size rows.length) (by rw[yH];simp) rfl;have hst:=Stp.newRow (w:=w) (w':=w.alloc (.cells vss.flatten.toArray e)) (sz:=ie.size) (len:=rows.length) (cap:=rows.length) (e:=e) (cur:=vss.flatten.toArray) hg.lt hfr (by simp) (fun N hN=>Below.heap_alloc w _ N hN) (.of (heap_alloc_new w _)) rfl rfl rfl (Ar _) hlm (by simp only[Cl];exact hfl');refine hK _ _ _ _ ?_ hst;rw[TV.P];refine⟨PV.sl_block (vs:=vss.flatten) (fun row hrow=>?_) hfl' (Ar _) hlm (fun j u hj=>?_) (fun o ho=> .inr ⟨rfl,ho⟩) (fun v hv=>?_) (fun i row j d hi hj=>?_),Gh.setRow_eq _ _ _ _⟩
 ·obtain⟨i,hi⟩:=Ee hrow;exact(hrl i row hi).1
 ·rw[cell_of_row _ w.heap.size _ _ e (0,0) (heap_alloc_new w _)];simpa using hj
 ·obtain⟨vs,h9,h10⟩:=List.mem_flatten.1 hv;obtain⟨i,hi⟩:=Ee h9;have hi':i<rows.length:=by rw[<-g1];exact(Ao.1 hi).1
  have hav:=g2 i _ vs (Ac hi') hi;exact hav.toArr (hrl i _ (Ac hi')).2 v h10
 ·have hi':i<vss.length:=by rw[g1];exact(Ao.1 hi).1
  obtain⟨v,h9,h10⟩:=(g2 i row _ hi (Ac hi')).get hj;exact⟨v,uJ0 hall (Ac hi') h9,d.mono _ _ _ _ v hst.ex.good h10⟩
theorem u_min{x y:Operand}{k:IntKind}{n m:Int}{ts:Array TypeId}(hx:Opd tm x (.pv (PV.lit (.int k n))))(hy:Opd tm y (.pv (PV.lit (.int k m)))):
  UOp P ⟨dst,.call {callee:= .builtin .min,args:= #[x,y],argTypes:=ts},ty,pos,aft,gd⟩ tm [] (.pv (PV.lit (.int k (if m<n then m else n)))) []:=
 UOp.pure fun w s g a ht=>⟨_,by simp[execOp,resolve,invoke,builtin,Opd.lit ht hx,Opd.lit ht hy,Builtin.min_,Builtin.min2],rfl⟩
theorem u_max{x y:Operand}{k:IntKind}{n m:Int}{ts:Array TypeId}(hx:Opd tm x (.pv (PV.lit (.int k n))))(hy:Opd tm y (.pv (PV.lit (.int k m)))):
  UOp P ⟨dst,.call {callee:= .builtin .max,args:= #[x,y],argTypes:=ts},ty,pos,aft,gd⟩ tm [] (.pv (PV.lit (.int k (if n<m then m else n)))) []:=
 UOp.pure fun w s g a ht=>⟨_,by simp[execOp,resolve,invoke,builtin,Opd.lit ht hx,Opd.lit ht hy,Builtin.max_,Builtin.max2],rfl⟩
theorem u_max3{x y q:Operand}{k:IntKind}{n m r:Int}{ts:Array TypeId}(hx:Opd tm x (.pv (PV.lit (.int k n))))(hy:Opd tm y (.pv (PV.lit (.int k m))))(hq:Opd tm q (.pv (PV.lit (.int k r)))):
  UOp P ⟨dst,.call {callee:= .builtin .max,args:= #[x,y,q],argTypes:=ts},ty,pos,aft,gd⟩ tm [] (.pv (PV.lit (.int k (if(if n<m then m else n)<r then r else(if n<m then m else n))))) []:=
 UOp.pure fun w s g a ht=>⟨_,by simp[execOp,resolve,invoke,builtin,Opd.lit ht hx,Opd.lit ht hy,Opd.lit ht hq,Builtin.max_,Builtin.max2],rfl⟩
end
structure PartT(P:Program)(t:TypeId)(i:Nat)(ft:TypeId)(off:Nat):Prop where
 h:∃fs f,P.underlying t=some (.struct fs)/\fs[i]?=some f/\f.type=ft/\f.offset=off
theorem wR0{P:Program}{t:TypeId}(h:OneT P t)(w:World):(isAgg t).run P w= .ok false w:=by
 obtain⟨d,hu,hd⟩:=h.und;unfold isAgg;rw[Sem.run_bind,run_underlying hu w]
 cases d<;>simp_all
theorem wQ0{P:Program}{t:TypeId}{n:Nat}(h:RowT P t n)(w:World):(isAgg t).run P w= .ok true w:=by
 obtain⟨d,hu,hd⟩:=h.und;unfold isAgg;rw[Sem.run_bind,run_underlying hu w]
 cases d<;>simp_all
section
variable{P:Program}{tm:List (Nat×TV)}{dst:Option Tmp}{ty:TypeId}{pos:String}{aft:Array Edge}{gd:Option (Nat×Bool)}
theorem u_field1{x:Operand}{t ft:TypeId}{i off:Nat}{l:List TV}{d:TV}(hF:PartT P t i ft off)(h1:OneT P ft)(hx:Opd tm x (.agg l))(hd:l[off]?=some d):UOp P ⟨dst,.field t x i,ty,pos,aft,gd⟩ tm [] d []:=
 UOp.pure fun w s g a ht=>by
  obtain⟨vs,h2,h3⟩:=Opd.eval ht hx;obtain⟨fs,f,h4,h5,h6,h7⟩:=hF.h;obtain⟨v,h8,h9⟩:=h3.get hd;refine⟨v,yK (s:=Instr.field t (a.eval x) i) ?_,h9⟩;simp[Instr.field,run_underlying h4,h2,h5,asAgg,part,h6,h7,wR0 h1,h8]
theorem u_fieldR{x:Operand}{t ft:TypeId}{i off n:Nat}{l:List TV}(hF:PartT P t i ft off)(h1:RowT P ft n)(hx:Opd tm x (.agg l))(hl:off+n<=l.length):UOp P ⟨dst,.field t x i,ty,pos,aft,gd⟩ tm [] (.agg ((l.drop off).take n)) []:=
 UOp.pure fun w s g a ht=>by
  obtain⟨vs,h2,h3⟩:=Opd.eval ht hx;obtain⟨fs,f,h4,h5,h6,h7⟩:=hF.h;refine⟨.agg ((vs.drop off).take n).toArray,yK (s:=Instr.field t (a.eval x) i) ?_,_,rfl,(h3.drop off).take n⟩;simp[Instr.field,run_underlying h4,h2,h5,asAgg,part,h6,h7,wQ0 h1,qZ h1.size]
theorem u_quo{x y:Operand}{t u:TypeId}{k:IntKind}{n m:Int}(hx:Opd tm x (.pv (PV.lit (.int k n))))(hy:Opd tm y (.pv (PV.lit (.int k m))))(hm:m≠0):UOp P ⟨dst,.binOp .quo t x y u,ty,pos,aft,gd⟩ tm [] (.pv (PV.lit (.int k (k.wrap (n.tdiv m))))) []:=
 UOp.two hx hy fun ρ w h1 h2=>by simp[execOp,h1,h2,go_sem,hm]
theorem u_rem{x y:Operand}{t u:TypeId}{k:IntKind}{n m:Int}(hx:Opd tm x (.pv (PV.lit (.int k n))))(hy:Opd tm y (.pv (PV.lit (.int k m))))(hm:m≠0):UOp P ⟨dst,.binOp .rem t x y u,ty,pos,aft,gd⟩ tm [] (.pv (PV.lit (.int k (n.tmod m)))) []:=
 UOp.two hx hy fun ρ w h1 h2=>by simp[execOp,h1,h2,go_sem,hm]
theorem xN1{x y:Operand}{t u:TypeId}{k k':IntKind}{n m:Int}(hx:Opd tm x (.pv (PV.lit (.int k n))))(hy:Opd tm y (.pv (PV.lit (.int k' m))))(hm:0<=m):UOp P ⟨dst,.binOp .shr t x y u,ty,pos,aft,gd⟩ tm [] (.pv (PV.lit (.int k (n.fdiv (2^(min m.toNat k.bits)))))) []:=
 UOp.two hx hy fun ρ w h1 h2=>by
  have:¬m<0:=by omega
  simp[execOp,h1,h2,go_sem,this,Op.shift]
theorem gR{t e:TypeId}{sz:Nat}(k:Nat)(hA:AppT P t e sz):UOp P ⟨dst,.buildSlice t 0 #[],ty,pos,aft,gd⟩ tm [] (.own k sz []) [(k,.row e sz 0)]:=by
 intro w s g a K Q ht hg hK;obtain⟨ie,z,h1,h2,h3,h4,h5,h6,h7,h8⟩:=hA.h;have er:∀f:Nat->Value,Array.map f (Array.range 0)= #[]:=fun f=>Array.eq_empty_of_size_eq_zero (by simp)
 have he:(execOp a.eval ⟨dst,.buildSlice t 0 #[],ty,pos,aft,gd⟩).run P w= .ok (.value (.slice (some ⟨w.heap.size,0,none⟩) 0 0)) (w.alloc (.cells #[] e)):=
  yK (s:=Instr.buildSlice t 0 _) (by simp[Instr.buildSlice,run_underlying h1,sizeOf,typeInfo,h2,Instr.fill,newRow,er])
 unfold Oper.wp;rw[he];have hfr:=hg.fr k (.row e sz 0) (by rw[yH];simp) rfl;have hst:=Stp.newRow (w:=w) (w':=w.alloc (.cells #[] e)) (sz:=sz) (len:=0) (cap:=0) (e:=e) (cur:= #[]) hg.lt hfr (by simp) (fun N hN=>Below.heap_alloc w _ N hN) (.of (heap_alloc_new w _)) rfl rfl rfl (Ar _) (Aq _) (by simp);refine hK _ _ _ _ ?_ hst;rw[TV.P];exact⟨⟨_,0,rfl,Ar _,by omega,(fun _ h=>by cases h),(fun i row h=>by simp at h)⟩,Gh.setRow_eq _ _ _ _⟩
structure OFun(P:Program)(f:FuncId)(args:List PV)(e:TypeId)(sz:Nat)(rows:List (List PV)):Prop where
 bod:Bod P f
 run:∀(w:World)(s:Sb)(vs:List Value),(∀B o,s B o->B<w.heap.size)->Glb w s->AllV w s args vs->Calls P f vs.toArray w fun r w'=>∃s' g' k v,r= .returned v/\(TV.own k sz rows).P w' s' g' v/\Ok1 w' s' g' k (.row e sz rows.length)/\(∀N,blk g' k (.row e sz rows.length)=some N->w.heap.size<=N)/\PStp w s w' s'
end
section
variable{P:Program}{tm:List (Nat×TV)}{dst:Option Tmp}{ty:TypeId}{pos:String}{aft:Array Edge}{gd:Option (Nat×Bool)}
theorem u_neg{x:Operand}{t:TypeId}{k:IntKind}{n:Int}(hx:Opd tm x (.pv (PV.lit (.int k n)))):UOp P ⟨dst,.unOp .neg t x,ty,pos,aft,gd⟩ tm [] (.pv (PV.lit (.int k (k.wrap (0-n))))) []:=
 UOp.pure fun w s g a ht=>by
  have hb:=Opd.lit ht hx;refine⟨.int k (k.wrap (0-n)),yK (s:=Op.unary .neg (a.eval x)) ?_,rfl⟩;rw[hb];rfl
theorem u_bytes{x:Operand}{src dt e:TypeId}{p:ByteArray}(hs:P.underlying src=some .string)(hd:P.underlying dt=some (.slice e))(he:P.underlying e=some (.int .u8))(hp:p.size<=1073741824)(hx:Opd tm x (.pv (PV.lit (.string p)))):
  UOp P ⟨dst,.convert src dt x,ty,pos,aft,gd⟩ tm [] (.pv (PV.sl false 1 (p.data.toList.map fun b=>[PV.lit (.int .u8 b.toNat)]))) []:=by
 intro w s g a K Q ht hg hK;have h1:=Opd.lit ht hx;have hge:=grownCap_ge w p.size 0 e;have hcm:grownCap w p.size 0 e<=maxLen:=grownCap_le_maxLen w _ 0 e (by simp only[maxLen];omega);have hr:=run_bytes_of_string w src dt e p hs hd he;generalize grownCap w p.size 0 e=gc at*
 have he':(execOp a.eval ⟨dst,.convert src dt x,ty,pos,aft,gd⟩).run P w= .ok (.value (.slice (some ⟨w.heap.size,0,none⟩) p.size gc)) (w.drew.alloc (.cells (bytesRow p gc) e ((bytesRow p gc).size,(bytesRow p gc).size+1))):=
  yK (s:=convert src dt (a.eval x)) (by rw[h1];exact hr)
 unfold Oper.wp;rw[he'];have hl:(p.data.toList.map fun b=>[PV.lit (.int .u8 b.toNat)]).length=p.size:=by first|(simp;done)|(simp;rfl)
 have hfin:=PV.sl_block (w:=w.drew.alloc (.cells (bytesRow p gc) e ((bytesRow p gc).size,(bytesRow p gc).size+1))) (s:=s.add fun B _=>B=w.heap.size) (G:=w.heap.size) (cap:=gc) (sz:=1)
  (rows:=p.data.toList.map fun b=>[PV.lit (.int .u8 b.toNat)]) (vs:=p.data.toList.map fun b=>Value.int .u8 b.toNat)
  (fun row hrow=>by obtain⟨b,_,rfl⟩:=Dc.1 hrow;rfl) (by simp) (by rw[hl];exact hge) hcm
  (fun j u hj=>by
   rw[cell_of_row _ w.heap.size j _ e _ (heap_alloc_new w.drew _)];have hj':j<p.data.size:=by have:=(Ao.1 hj).1;simpa using this
   rw[bytesRow,En (by simpa using hj')];simpa using hj)
  (fun o _=> .inr rfl)
  (fun v hv=>by obtain⟨b,_,rfl⟩:=Dc.1 hv;rfl)
  (fun i row j d hi hj=>by
   rw[Bx]at hi;obtain⟨b,hb,rfl⟩:=Option.map_eq_some_iff.1 hi;have hj0:j=0/\d=PV.lit (.int .u8 b.toNat):=by
    match j,hj with
    |0,hj=>simp at hj;exact⟨rfl,hj.symm⟩
    |j+1,hj=>simp at hj
   obtain⟨rfl,rfl⟩:=hj0;exact⟨_,by rw[Nat.mul_one,Ck,Bx,hb];rfl,rfl⟩)
 rw[hl]at hfin;have h:=Stp.newStable (w:=w.drew) (s:=s) (g:=g) hg.lt (.cells (bytesRow p gc) e ((bytesRow p gc).size,(bytesRow p gc).size+1));obtain⟨⟨a1,a2,a3⟩,b1,b2,b3,b4,b5,b6,b7,b8,b8',b9,b10,b11,b12,b13⟩:=h;exact hK _ _ g _ hfin ⟨⟨a1,a2,a3⟩,b1,b2,b3,b4,b5,b6,b7,b8,b8',b9,b10,b11,b12,b13⟩
end
theorem uX{k j:Nat}{c c0:Own}(h:fnd j [(k,c0)]=some c):j=k/\c=c0:=by
 rw[yH]at h;by_cases e:k=j
 ·simp only[e,if_true]at h;cases h;exact⟨e.symm,rfl⟩
 ·simp only[e,if_false]at h;cases h
theorem Stp.turn{w w':World}{s:Sb}{g:Gh}{k G:Nat}{c c':Own}(hg:Good w s g [(k,c)] [(k,c')])(hb:blk g k c=some G)(hns:∀o,¬s G o)(ho:∀M,M≠G->w'.heap[M]?=w.heap[M]?)(hs:w'.heap.size=w.heap.size)
  (h1:w'.os=w.os) (h2:w'.tape=w.tape) (h3:w'.output=w.output) (hok:Ex w s w' s->Ok1 w' s g k c') (hb':blk g k c'=some G):Stp w s g [(k,c)] w' s g [(k,c')]:=by
 have hx:Ex w s w' s:=⟨fun _ _ h=>h,fun b o hbo=>by
  have hne:b≠G:=fun e=>hns o (e▸hbo);exact wH (ho b hne),fun _ _ h=>h⟩
 refine⟨hx,fun B o h=>by rw[hs];exact hg.lt B o h,GLe.refl g,fun _ _=>⟨rfl,fun _=>rfl⟩,h1,h2,h3,by omega,fun M hM hne=>ho M ?_,fun _ _ h=> .inl h,fun _ _ h=> .inl h,fun j d h=>?_,fun j d M h hbm=>?_,fun j j' d d' M h h' hne=>?_,fun j d h=>?_⟩
 ·rintro rfl;exact hne k c (by rw[yH];simp) hb
 ·obtain⟨rfl,rfl⟩:=uX h;exact hok hx
 ·obtain⟨rfl,rfl⟩:=uX h;rw[hb']at hbm;cases hbm;exact .inr ⟨j,c,by rw[yH];simp,hb⟩
 ·obtain⟨rfl,rfl⟩:=uX h;obtain⟨rfl,rfl⟩:=uX h';exact absurd rfl hne
 ·obtain⟨rfl,rfl⟩:=uX h;exact⟨c',by rw[yH];simp⟩
theorem jF{g:Gh}{k sz:Nat}{e:TypeId}{rows:List (List PV)}{v:Value}(h:g.gn k rows.length=some v):blk g k (.mrow e sz rows)=v.ownBlock:=by
 show(g.gn k rows.length).bind Value.ownBlock=_;rw[h];rfl
theorem AllV.drop{w:World}{s:Sb}:∀{l:List PV}{vs:List Value}(n:Nat),AllV w s l vs->AllV w s (l.drop n) (vs.drop n)
 |l,vs,0,h=>by simpa using h
 |[],[],n+1,_=>by simp[AllV]
 |_::_,_::_,n+1,h=>by simpa using AllV.drop n h.2
 |[],_::_,_+1,h=>h.elim
 |_::_,[],_+1,h=>h.elim
theorem AllV.take{w:World}{s:Sb}:∀{l:List PV}{vs:List Value}(n:Nat),AllV w s l vs->AllV w s (l.take n) (vs.take n)
 |l,vs,0,h=>by simp[AllV]
 |[],[],n+1,_=>by simp[AllV]
 |_::_,_::_,n+1,h=>⟨h.1,AllV.take n h.2⟩
 |[],_::_,_+1,h=>h.elim
 |_::_,[],_+1,h=>h.elim
theorem AllV.append{w:World}{s:Sb}:∀{l r:List PV}{vs us:List Value},AllV w s l vs->AllV w s r us->AllV w s (l++r) (vs++us)
 |[],r,[],us,_,h=>h
 |_::_,r,_::_,us,h,h'=>⟨h.1,AllV.append h.2 h'⟩
 |[],_,_::_,_,h,_=>h.elim
 |_::_,_,[],_,h,_=>h.elim
theorem vB{sz:Nat}:∀{rows:List (List PV)},(∀row∈rows,row.length=sz)->rows.flatten.length=rows.length*sz
 |[],_=>by simp
 |r::rows,h=>by rw[Ea,Ae,h r (by simp),vB fun x hx=>h x (by simp[hx]),Am,Bo];omega
theorem gK{sz:Nat}:∀{rows:List (List PV)}{i:Nat}{row:List PV},(∀row∈rows,row.length=sz)->rows[i]?=some row->(rows.flatten.drop (i*sz)).take sz=row
 |[],i,row,_,h=>by simp at h
 |r::rows,0,row,hz,h=>by
  simp at h;subst h;rw[Nat.zero_mul,Do,Ea,<-hz r (by simp)];exact List.take_left
 |r::rows,i+1,row,hz,h=>by
  have hr:=hz r (by simp);rw[Ea,List.drop_append,Bd (by rw[hr,Bo];omega),Dq,hr,show(i+1)*sz-sz=i*sz by rw[Bo];omega];exact gK (fun x hx=>hz x (by simp[hx])) (by simpa using h)
theorem uI0{sz:Nat}:∀{rows:List (List PV)}{i:Nat}{row:List PV},(∀row∈rows,row.length=sz)->i<rows.length->row.length=sz->(rows.set i row).flatten=rows.flatten.take (i*sz)++row++rows.flatten.drop (i*sz+sz)
 |[],i,row,_,h,_=>by simp at h
 |r::rows,0,row,hz,_,hr=>by
  have:=hz r (by simp);simp[Ea,List.drop_append,this]
 |r::rows,i+1,row,hz,h,hr=>by
  have h1:=hz r (by simp);have e1:r.take ((i+1)*sz)=r:=Ai (by rw[h1,Bo];omega);have e2:r.drop ((i+1)*sz+sz)=[]:=Bd (by rw[h1,Bo];omega)
  rw[List.set_cons_succ,Ea,uI0 (fun x hx=>hz x (by simp[hx])) (by simpa using h) hr,Ea,List.take_append,List.drop_append,e1,e2,h1,
   show(i+1)*sz-sz=i*sz by rw[Bo];omega,show(i+1)*sz+sz-sz=i*sz+sz by rw[Bo];omega]
  simp
section
variable{P:Program}{tm:List (Nat×TV)}{dst:Option Tmp}{ty:TypeId}{pos:String}{aft:Array Edge}{gd:Option (Nat×Bool)}
theorem u_lenMo{x:Operand}{t:TypeId}{sz k n:Nat}(hT:SlT P t sz)(hx:Opd tm x (.mo k n)):
  UOp P ⟨dst,.call {callee:= .builtin .len,args:= #[x],argTypes:= #[t]},ty,pos,aft,gd⟩ tm [] (.pv (PV.lit (.int .i64 n))) []:=
 UOp.pure fun w s g a ht=>by
  obtain⟨e,hu,he⟩:=hT.h;have h:=Opd.eval ht hx;rw[TV.P]at h;obtain⟨_,h⟩:=h;have:∃ad c,a.eval x= .slice ad n c:=by
   rcases h with⟨h1,rfl⟩|⟨G,c,h1,_⟩
   ·exact⟨_,_,h1⟩
   ·exact⟨_,_,h1⟩
  obtain⟨ad,c,h1⟩:=this;exact⟨.int .i64 n,by simp[execOp,resolve,invoke,builtin,h1,Builtin.len_,run_underlying hu,goInt],rfl⟩
theorem u_indexMo{x y:Operand}{t:TypeId}{sz k n:Nat}{ik:IntKind}{i:Int}(hT:SlT P t sz)(hx:Opd tm x (.mo k n))(hy:Opd tm y (.pv (PV.lit (.int ik i))))(h0:0<=i)(hr:i.toNat<n):
  UOp P ⟨dst,.indexAddr t x y,ty,pos,aft,gd⟩ tm [] (.mp k n (i.toNat*sz)) []:=
 UOp.pure fun w s g a ht=>by
  obtain⟨e,hu,he⟩:=hT.h;have h:=Opd.eval ht hx;rw[TV.P]at h;obtain⟨h1,h⟩:=h;rcases h with⟨_,rfl⟩|⟨G,c,h2,h3,h4⟩
  ·omega
  have h7:=Opd.lit ht hy;refine⟨.pointer (some ⟨G,0+i.toNat*sz,none⟩),yK (s:=Instr.indexAt t (a.eval x) (a.eval y)) ?_,?_⟩
  ·have hb:(0<=i/\i<(n:Int)):=⟨h0,by omega⟩;rw[h2,h7];simp only[Instr.indexAt,asIntOf,Sem.run_bind,Sem.run_pure,Result.andThen_ok,run_underlying hu,hb,and_self,if_true,qZ he,Addr.add_mid]
  ·rw[TV.P];exact⟨G,c,by rw[h1,h2],by rw[Cp]⟩
theorem u_fieldMp{x:Operand}{t:TypeId}{i fo k n off:Nat}(hF:FldT P t i fo)(hx:Opd tm x (.mp k n off)):UOp P ⟨dst,.fieldAddr t x i,ty,pos,aft,gd⟩ tm [] (.mp k n (off+fo)) []:=
 UOp.pure fun w s g a ht=>by
  have h:=Opd.eval ht hx;rw[TV.P]at h;obtain⟨G,c,h1,h2⟩:=h;refine⟨_,yK (s:=Instr.fieldAt t (a.eval x) i) (by rw[h2];exact hF.run w G off),?_⟩;rw[TV.P];exact⟨G,c,h1,rfl⟩
theorem zI0{w:World}{s:Sb}{g:Gh}{k sz n G c:Nat}{e:TypeId}{rows:List (List PV)}(h:Ok1 w s g k (.mrow e sz rows))(hn:n=rows.length)(hG:g.gn k n=some (.slice (some ⟨G,0,none⟩) n c)):
  ∃vs rest,CellB w G (List.toArray (vs++rest)) e/\rows.length<=c/\c<=maxLen/\(vs++rest).length=c*sz/\AllV w s.good rows.flatten vs/\((∀row∈rows,row.length=sz)/\∀v∈vs,v.oneCell'=true)/\∀o,¬s G o:=by
 obtain⟨_,v,h1,h2⟩:=h;rw[<-hn,hG]at h1
 cases h1;rcases h2 with⟨h2,_⟩|⟨G',cap,vs,rest,h2,h3⟩
 ·cases h2
 ·cases h2;exact⟨vs,rest,h3⟩
theorem u_loadMp1{x:Operand}{t e:TypeId}{k sz n i o:Nat}{rows:List (List PV)}{row:List PV}{d:PV}(hT:OneT P t)(hx:Opd tm x (.mp k n (i*sz+o)))(hn:n=rows.length)(hi:rows[i]?=some row)(hd:row[o]?=some d):
  UOp P ⟨dst,.load t x,ty,pos,aft,gd⟩ tm [(k,.mrow e sz rows)] (.pv d) [(k,.mrow e sz rows)]:=
 UOp.read fun w s g a ht hg=>by
  have h:=Opd.eval ht hx;rw[TV.P]at h;obtain⟨G,c,h1,h2⟩:=h;obtain⟨vs,rest,g1,g2,g3,g4,g5,g6,g7⟩:=zI0 hg.one hn h1;have hf:=gK g6.1 hi;have hrl:=g6.1 row (Bg hi);have ho:o<sz:=by rw[<-hrl];exact(Ao.1 hd).1
  have hfd:rows.flatten[i*sz+o]?=some d:=by
   have:((rows.flatten.drop (i*sz)).take sz)[o]?=some d:=by rw[hf];exact hd
   rw[Df,Ab ho,Ds]at this;exact this
  obtain⟨u,h3,h4'⟩:=g5.get hfd;have h4:=d.mono _ _ _ _ u (Ex.ofGood w s) h4';refine⟨u,yK (s:=Instr.loadAt t (a.eval x)) ?_,h4⟩;rw[h2];refine hT.load ?_;rw[g1.cell];have hl:=(Ao.1 h3).1;simp only[Dv];rw[Ca hl];exact h3
theorem u_loadMpR{x:Operand}{t e:TypeId}{k sz n i o m:Nat}{rows:List (List PV)}{row:List PV}(hT:RowT P t m)(hx:Opd tm x (.mp k n (i*sz+o)))(hn:n=rows.length)(hi:rows[i]?=some row)(hm:o+m<=row.length):
  UOp P ⟨dst,.load t x,ty,pos,aft,gd⟩ tm [(k,.mrow e sz rows)] (.pv (PV.agg ((row.drop o).take m))) [(k,.mrow e sz rows)]:=
 UOp.read fun w s g a ht hg=>by
  have h:=Opd.eval ht hx;rw[TV.P]at h;obtain⟨G,c,h1,h2⟩:=h;obtain⟨vs,rest,g1,g2,g3,g4,g5,g6,g7⟩:=zI0 hg.one hn h1;have hf:=gK g6.1 hi;have hrl:=g6.1 row (Bg hi);have hseg0:AllV w s.good ((row.drop o).take m) ((vs.drop (i*sz+o)).take m):=by
   have h3:=(g5.drop (i*sz)).take sz;rw[hf]at h3;have h4:=(h3.drop o).take m
   rwa[List.drop_take,List.take_take,De om,List.drop_drop]at h4
  have hseg:=hseg0.mono (Ex.ofGood w s);refine⟨.agg ((vs.drop (i*sz+o)).take m).toArray,yK (s:=Instr.loadAt t (a.eval x)) ?_,_,rfl,hseg⟩;rw[h2];refine hT.load (by rw[hseg.length,As,Bk];omega) ?_;intro j v hv;rw[g1.cell];rw[Df]at hv;split at hv
  ·rw[Ds]at hv;have hl:=(Ao.1 hv).1;simp only[Dv];rw[Ca om];simpa[Ed]using hv
  ·cases hv
theorem storeM_core{x y:Operand}{t e:TypeId}{k sz n i o:Nat}{rows:List (List PV)}{row ds:List PV}(hsz:(P.info? t).map (·.size)=some ds.length)(hx:Opd tm x (.mp k n (i*sz+o)))(hn:n=rows.length)(hi:rows[i]?=some row)(hl:o+ds.length<=row.length)(hone:∀d∈ds,d.one=true)(hstr:strs ds=true)
  (hy:∀w s g a,jM w s g tm a->AllV w s ds (a.eval y).cells.toList):
  UOp P ⟨dst,.store t x y,ty,pos,aft,gd⟩ tm [(k,.mrow e sz rows)] (.pv (PV.lit undef)) [(k,.mrow e sz (rows.set i (row.take o++ds++row.drop (o+ds.length))))]:=by
 intro w s g a K Q ht hg hK;have h:=Opd.eval ht hx;rw[TV.P]at h;obtain⟨G,c,h1,h2⟩:=h;have hg1:=hg.one;obtain⟨vs,rest,g1,g2,g3,g4,g5,g6,g7⟩:=zI0 hg1 hn h1;have hy':=hy w s g a ht;have hlen:=hy'.length;have hall:∀v∈(a.eval y).cells.toList,v.oneCell'=true:=hy'.toArr hone;have hrl:=g6.1 row (Bg hi);have hil:=(Ao.1 hi).1;have hfl:=vB (sz:=sz) (rows:=rows) g6.1;have hvl:vs.length=rows.length*sz:=by rw[g5.length,hfl]
 have hilm:i*sz+sz<=rows.length*sz:=by
  have:=Bh sz (show i+1<=rows.length by omega);rw[Bo]at this;omega
 have hr:=store_runK (P:=P) (t:=t) (bt:=e) (off:=i*sz+o) (v:=a.eval y) (by rw[hsz,hlen]) rfl g1 (by rw[Ae,hlen];omega) hall;have he:(execOp a.eval ⟨dst,.store t x y,ty,pos,aft,gd⟩).run P w= .ok .skip _:=pV (s:=Instr.storeAt t (a.eval x) (a.eval y)) (by rw[h2];exact hr);unfold Oper.wp;rw[he];have hnew:(vs++rest).take (i*sz+o)++(a.eval y).cells.toList++(vs++rest).drop (i*sz+o+(a.eval y).cells.toList.length)=(vs.take (i*sz+o)++(a.eval y).cells.toList++vs.drop (i*sz+o+(a.eval y).cells.toList.length))++rest:=by
  rw[Dx om,List.drop_append_of_le_length om];simp
 have hfn:(rows.set i (row.take o++ds++row.drop (o+ds.length))).flatten=rows.flatten.take (i*sz+o)++ds++rows.flatten.drop (i*sz+o+ds.length):=by
  rw[uI0 g6.1 hil (by simp;omega)];have hf:=gK g6.1 hi;have hsplit:rows.flatten=rows.flatten.take (i*sz)++row++rows.flatten.drop (i*sz+sz):=by
   rw[<-hf,<-List.drop_drop,Cg,Eb,Eb]
  have htl:(rows.flatten.take (i*sz)).length=i*sz:=by rw[As,hfl];omega
  have e1:rows.flatten.take (i*sz+o)=rows.flatten.take (i*sz)++row.take o:=by
   have:=List.take_append (l₁:=rows.flatten.take (i*sz)) (l₂:=row++rows.flatten.drop (i*sz+sz)) (i:=i*sz+o);rw[<-Cg,<-hsplit]at this;rw[this,htl,Ai (by rw[htl];omega),show i*sz+o-i*sz=o by omega,Dx om]
  have e2:rows.flatten.drop (i*sz+o+ds.length)=row.drop (o+ds.length)++rows.flatten.drop (i*sz+sz):=by
   have:=List.drop_append (l₁:=rows.flatten.take (i*sz)) (l₂:=row++rows.flatten.drop (i*sz+sz)) (i:=i*sz+o+ds.length);rw[<-Cg,<-hsplit]at this;rw[this,htl,Bd (by rw[htl];omega),show i*sz+o+ds.length-i*sz=o+ds.length by omega,List.drop_append_of_le_length om,Dq]
  rw[e1,e2];simp
 have hbl:blk g k (.mrow e sz rows)=some G:=by rw[jF (by rw[<-hn];exact h1)];rfl
 have hbl':blk g k (.mrow e sz (rows.set i (row.take o++ds++row.drop (o+ds.length))))=some G:=by rw[jF (by rw[Bu,<-hn];exact h1)];rfl
 refine hK _ s g undef rfl (Stp.turn hg hbl g7 (fun M hM=>setRow_other w G M _ hM) (by simp) rfl rfl rfl (fun hex=>?_) hbl');refine⟨fun m hm=>hg1.1 m (by rw[Bu]at hm;exact hm),.slice (some ⟨G,0,none⟩) n c,by rw[Bu,<-hn];exact h1,.inr ⟨G,c,vs.take (i*sz+o)++(a.eval y).cells.toList++vs.drop (i*sz+o+(a.eval y).cells.toList.length),rest,by rw[Bu,hn],?_,by rw[Bu];exact g2,g3,?_,?_,?_,g7⟩⟩
 ·rw[<-hnew];exact g1.setRow (by simp only[Cl,Ae,As,Bk];simp only[Ae]at*;omega)
 ·rw[<-g4];simp only[Ae,As,Bk,hlen];omega
 ·rw[hfn,<-hlen];exact(AllV.append (AllV.append (g5.take _) (hy'.good hstr)) (g5.drop _)).mono hex.good
 ·refine⟨fun r hr=>?_,fun v hv=>?_⟩
  ·rcases Dy hr with hr|rfl
   ·exact g6.1 r hr
   ·simp;omega
  ·rcases Av.1 hv with hv|hv
   ·rcases Av.1 hv with hv|hv
    ·exact g6.2 v (Cu hv)
    ·exact hall v hv
   ·exact g6.2 v (Dj hv)
end
theorem Stp.newO{w w':World}{s:Sb}{g g':Gh}{k:Nat}{c:Own}(hl:∀B o,s B o->B<w.heap.size)(hs:w.heap.size<=w'.heap.size)(hb:∀N,N<w.heap.size->w'.heap[N]?=w.heap[N]?)(h1:w'.os=w.os)(h2:w'.tape=w.tape)(h3:w'.output=w.output)
  (hg:GLe g g') (hsame:∀j,j≠k->g'.bx j=g.bx j/\∀m,g'.gn j m=g.gn j m) (hok:Ex w s w' s->Ok1 w' s g' k c) (hnb:∀N,blk g' k c=some N->w.heap.size<=N):Stp w s g [] w' s g' [(k,c)]:=by
 have hx:Ex w s w' s:=⟨fun _ _ h=>h,fun b o h=>wH (hb b (hl b o h)),fun _ _ h=>h⟩;refine⟨hx,fun B o h=>Bt (hl B o h) hs,hg,fun j h=>hsame j fun e=>?_,h1,h2,h3,hs,fun N hN _=>hb N hN,fun _ _ h=> .inl h,fun _ _ h=> .inl h,fun j d h=>?_,fun j d N h hbn=>?_,fun j j' d d' N h h' hne=>?_,fun j d h=>by cases h⟩
 ·subst e;rw[yH]at h;simp at h
 ·obtain⟨rfl,rfl⟩:=uX h;exact hok hx
 ·obtain⟨rfl,rfl⟩:=uX h;exact .inl (hnb N hbn)
 ·obtain⟨rfl,rfl⟩:=uX h;obtain⟨rfl,rfl⟩:=uX h';exact absurd rfl hne
theorem Stp.reown{w w':World}{s:Sb}{g g':Gh}{k:Nat}{c c':Own}(hg:Good w s g [(k,c)] [(k,c')])(hns:∀N o,blk g k c=some N->¬s N o)(hs:w.heap.size<=w'.heap.size)(hb:∀N,N<w.heap.size->blk g k c≠some N->w'.heap[N]?=w.heap[N]?)
  (h1:w'.os=w.os) (h2:w'.tape=w.tape) (h3:w'.output=w.output) (hgl:GLe g g') (hsame:∀j,j≠k->g'.bx j=g.bx j/\∀m,g'.gn j m=g.gn j m) (hok:Ex w s w' s->Ok1 w' s g' k c') (hnb:∀N,blk g' k c'=some N->w.heap.size<=N\/blk g k c=some N):
  Stp w s g [(k,c)] w' s g' [(k,c')]:=by
 have hx:Ex w s w' s:=⟨fun _ _ h=>h,fun b o h=>wH (hb b (hg.lt b o h) fun e=>hns b o e h),fun _ _ h=>h⟩;refine⟨hx,fun B o h=>Bt (hg.lt B o h) hs,hgl,fun j h=>hsame j fun e=>?_,h1,h2,h3,hs,fun N hN hne=>hb N hN (hne k c (by rw[yH];simp)),fun _ _ h=> .inl h,fun _ _ h=> .inl h,fun j d h=>?_,fun j d N h hbn=>?_,fun j j' d d' N h h' hne=>?_,fun j d h=>?_⟩
 ·subst e;rw[yH]at h;simp at h
 ·obtain⟨rfl,rfl⟩:=uX h;exact hok hx
 ·obtain⟨rfl,rfl⟩:=uX h;exact(hnb N hbn).imp id fun e=>⟨j,c,by rw[yH];simp,e⟩
 ·obtain⟨rfl,rfl⟩:=uX h;obtain⟨rfl,rfl⟩:=uX h';exact absurd rfl hne
 ·obtain⟨rfl,rfl⟩:=uX h;exact⟨c',by rw[yH];simp⟩
theorem vI{g:Gh}{k n:Nat}{v:Value}(h:∀u,g.gn k n=some u->u=v):GLe g (g.setRow k n v):=⟨fun _ _ h=>h,fun j m u hu=>by
 by_cases e:j=k/\m=n
 ·obtain⟨rfl,rfl⟩:=e;rw[Gh.setRow_eq,h u hu]
 ·rw[Gh.setRow_ne _ _ e];exact hu⟩
theorem uN{g:Gh}{k n:Nat}{v:Value}(j:Nat)(hj:j≠k):(g.setRow k n v).bx j=g.bx j/\∀m,(g.setRow k n v).gn j m=g.gn j m:=⟨rfl,fun _=>Gh.setRow_ne _ _ fun e=>hj e.1⟩
structure ZerT(P:Program)(e:TypeId)(zs:List Value):Prop where
 h:∃ie z,P.info? e=some ie/\ie.zero=some z/\z.cells.toList=zs/\∀v∈zs,v.oneCell'=true
theorem wM0(zs:List Value)(w:World)(s:Sb):∀n:Nat,AllV w s (List.replicate n (zs.map PV.lit)).flatten (List.replicate n zs).flatten
 |0=>trivial
 |n+1=>by rw[List.replicate_succ,List.replicate_succ,Ea,Ea];exact AllV.append (AllV.lits w s zs) (wM0 zs w s n)
theorem made_cells(zs:List Value)(h0:0<zs.length):∀n:Nat,(madeCells zs.toArray (n*zs.length)).toList=(List.replicate n zs).flatten:=by
 intro n;apply List.ext_getElem?;intro i;have hfl:(List.replicate n zs).flatten.length=n*zs.length:=by simp
 have hget:∀n i,i<n*zs.length->(List.replicate n zs).flatten[i]?=zs[i%zs.length]?:=by
  intro n;induction n with
  |zero=>intro i hi;omega
  |succ n ih=>
   intro i hi;rw[List.replicate_succ,Ea];rcases Br i zs.length with h|h
   ·rw[Ca h,Dr h]
   ·rw[Cs h,ih _ (by rw[Bo]at hi;omega),<-Nat.mod_eq_sub_mod h]
 rcases Br i (n*zs.length)with h|h
 ·rw[hget n i h];have hm:i%zs.length<zs.length:=Cx _ h0;simp[madeCells,h,hm]
 ·rw[Cz (by simp[madeCells];exact h),Cz (by rw[hfl];exact h)]
section
variable{P:Program}{tm:List (Nat×TV)}{dst:Option Tmp}{ty:TypeId}{pos:String}{aft:Array Edge}{gd:Option (Nat×Bool)}
theorem u_makeSlice{x y:Operand}{t e:TypeId}{sz:Nat}{zs:List Value}{kl kc:IntKind}{l c:Int}(k:Nat)(hA:AppT P t e sz)(hZ:ZerT P e zs)(hx:Opd tm x (.pv (PV.lit (.int kl l))))(hy:Opd tm y (.pv (PV.lit (.int kc c))))(h0:0<=l)(hlc:l<=c)(hc:c<=1073741824):
  UOp P ⟨dst,.makeSlice t x y,ty,pos,aft,gd⟩ tm [] (.mo k l.toNat) [(k,.mrow e sz (List.replicate l.toNat (zs.map PV.lit)))]:=by
 intro w s g a K Q ht hg hK;obtain⟨ie,z,h1,h2,h3,h4,h5,h6,h7,h8⟩:=hA.h;obtain⟨ie',z',g2,g3,g4,g5⟩:=hZ.h;rw[h2]at g2;cases g2;rw[h3]at g3;cases g3;subst h4;have hzl:zs.length=ie.size:=by rw[<-g4,<-h5];simp
 have hzz:z.cells=zs.toArray:=by rw[<-g4]
 have hr:=run_make (P:=P) w t e ie z h1 h2 h3 kl kc l c h0 hlc (by
  have:(ie.bytes:Int)*c<=4096*1073741824:=Int.mul_le_mul om hc om om;omega) om
 have hv:=Opd.lit ht hx;have hu:=Opd.lit ht hy
 have he:(execOp a.eval ⟨dst,.makeSlice t x y,ty,pos,aft,gd⟩).run P w= .ok (.value (.slice (some ⟨w.heap.size,0,none⟩) l.toNat c.toNat)) (w.alloc (.cells (madeCells z.cells (c.toNat*ie.size)) e)):=
  yK (s:=Instr.makeSlice t (a.eval x) (a.eval y)) (by rw[hv,hu];exact hr)
 unfold Oper.wp;rw[he];have hfr:=hg.fr k (.mrow e ie.size (List.replicate l.toNat (zs.map PV.lit))) (by rw[yH];simp) rfl;have hlen:(List.replicate l.toNat (zs.map PV.lit)).length=l.toNat:=by simp
 refine hK _ s (g.setRow k l.toNat (.slice (some ⟨w.heap.size,0,none⟩) l.toNat c.toNat)) _ ?_ (Stp.newO hg.lt (by simp) (fun N hN=>Below.heap_alloc w _ N hN) rfl rfl rfl (vI fun u hu=>by rw[hfr.2]at hu;cases hu) uN (fun hex=>?_) fun N hN=>?_)
 ·rw[TV.P];exact⟨Gh.setRow_eq _ _ _ _,.inr ⟨_,c.toNat,rfl,by omega,by simp[maxLen];omega⟩⟩
 ·refine⟨fun m hm=>?_,_,by rw[hlen];exact Gh.setRow_eq _ _ _ _,.inr ⟨w.heap.size,c.toNat,(List.replicate l.toNat zs).flatten,(List.replicate (c.toNat-l.toNat) zs).flatten,by rw[hlen],?_,by rw[hlen];omega,by simp[maxLen];omega,?_,wM0 zs _ _ _,⟨fun row hrow=>?_,fun v hv=>?_⟩,fun o ho=>Nat.lt_irrefl _ (hg.lt _ _ ho)⟩⟩
  ·rw[hlen]at hm;rw[Gh.setRow_ne _ _ om];exact hfr.2 m
  ·refine .of ?_;rw[heap_alloc_new,hzz,<-hzl];have:madeCells zs.toArray (c.toNat*zs.length)=((List.replicate l.toNat zs).flatten++(List.replicate (c.toNat-l.toNat) zs).flatten).toArray:=by
    apply Di.1;rw[made_cells zs om,<-List.flatten_append,List.replicate_append_replicate,show l.toNat+(c.toNat-l.toNat)=c.toNat by omega]
   rw[this]
  ·rw[<-hzl];simp only[Ae,List.length_flatten,List.map_replicate,List.sum_replicate_nat];rw[<-Bo];congr 1;omega
  ·obtain⟨_,rfl⟩:=List.mem_replicate.1 hrow;simpa using hzl
  ·obtain⟨l',hl,hv⟩:=List.mem_flatten.1 hv;have hl:=(List.mem_replicate.1 hl).2;rw[hl]at hv;exact g5 v hv
 ·rw[jF (by rw[hlen];exact Gh.setRow_eq _ _ _ _)]at hN;have:w.heap.size=N:=by simpa[Value.ownBlock]using hN
  omega
theorem u_appendMo{x y:Operand}{t e:TypeId}{mo:Bool}{sz k n m:Nat}{rows rows2:List (List PV)}{d:TV}(hA:AppT P t e sz)(hx:Opd tm x (.mo k n))(hn:rows.length=n)(hy:Opd tm y d)(hd:∀w s g v,d.P w s g v->(PV.sl mo sz rows2).p w s v)(hm:rows2.length=m)(hb:n+m<=1073741824):
  UOp P ⟨dst,.call {callee:= .builtin .append,args:= #[x,y],argTypes:= #[t,t]},ty,pos,aft,gd⟩ tm [(k,.mrow e sz rows)] (.mo k (n+m)) [(k,.mrow e sz (rows++rows2))]:=by
 intro w s g a K Q ht hg hK;subst hn;subst hm;obtain⟨ie,z,hty,hi,hz,hsz,hzs,hpos,hby,hby2⟩:=hA.h;subst hsz;have h1:=Opd.eval ht hx;rw[TV.P]at h1;obtain⟨hgn,hform⟩:=h1;obtain⟨hno,v0,hv0,hcase⟩:=hg.one;rw[hgn]at hv0;have hv0:=Option.some.inj hv0;obtain⟨a1,c1,xs,ex,hxl,hx1,hxr,hxp⟩:=PV.sl_src (hd _ _ _ _ (Opd.eval ht hy));obtain⟨_,_,_,_,_,hrz2,_⟩:=hd _ _ _ _ (Opd.eval ht hy);have hxs:AllV w s.good rows2.flatten xs:=by
  refine AllV.mk (by rw[hxl,vB hrz2]) fun j d v hdj hvj=>?_;have hjl:j<rows2.length*ie.size:=by rw[<-hxl];exact(Ao.1 hvj).1
  have hi1:j/ie.size<rows2.length:=(Dw hpos).2 hjl;have hmod:j%ie.size<ie.size:=Cx _ hpos;have hrow:=Ac hi1;have hf:=gK hrz2 hrow;have hj:j/ie.size*ie.size+j%ie.size=j:=by rw[Aw];exact Dd j ie.size
  have hdd:rows2[j/ie.size][j%ie.size]?=some d:=by
   rw[<-hf,Df,Ab hmod,Ds,hj];exact hdj
  obtain⟨u,e1,e2⟩:=hxp _ _ _ _ hrow hdd;rw[hj,hvj]at e1
  cases e1;exact e2
 have hbytes:(rows.length+rows2.length)*ie.bytes<=140737488355328:=At (Nat.mul_le_mul hb hby2) de;have hlen:(rows++rows2).length=rows.length+rows2.length:=by simp
 --the end:a new slice over a block that holds what was and what came
 have fin:∀(w':World)(G cap:Nat)(olds rest:List Value),(Builtin.append_ #[t,t] ty #[a.eval x,a.eval y]).run P w= .ok (.slice (some ⟨G,0,none⟩) (rows.length+rows2.length) cap) w'->CellB w' G (List.toArray ((olds++xs)++rest)) e->AllV w s.good rows.flatten olds->(∀row∈rows,row.length=ie.size)->(∀v∈olds,v.oneCell'=true)->
   rows.length+rows2.length<=cap->cap<=maxLen->((olds++xs)++rest).length=cap*ie.size->(blk g k (.mrow e ie.size rows)=some G\/w.heap.size<=G)->w.heap.size<=w'.heap.size->(∀N,N<w.heap.size->N≠G->w'.heap[N]?=w.heap[N]?)->w'.os=w.os->w'.tape=w.tape->w'.output=w.output->
   (∀N o,blk g k (.mrow e ie.size rows)=some N->¬s N o)->(∀u,g.gn k (rows.length+rows2.length)=some u->u= .slice (some ⟨G,0,none⟩) (rows.length+rows2.length) cap)->(∀o,¬s G o)->
   Oper.wp P ⟨dst,.call {callee:= .builtin .append,args:= #[x,y],argTypes:= #[t,t]},ty,pos,aft,gd⟩ a w K Q:=by
  intro w' G cap olds rest hr hG holds hrows holdo hcap hcm hcl hGb hsz hblk e1 e2 e3 hns hgo hsG;unfold Oper.wp;rw[uP hr];refine hK w' s (g.setRow k (rows.length+rows2.length) (.slice (some ⟨G,0,none⟩) (rows.length+rows2.length) cap)) _ ?_ (Stp.reown hg hns hsz (fun N hN hne=>?_) e1 e2 e3 (vI hgo) uN (fun hex=>?_) fun N hN=>?_)
  ·rw[TV.P];exact⟨Gh.setRow_eq _ _ _ _,.inr ⟨G,cap,rfl,hcap,hcm⟩⟩
  ·refine hblk N hN fun e=>?_;subst e;rcases hGb with h|h
   ·exact hne h
   ·omega
  ·refine⟨fun i hi=>?_,_,by rw[hlen];exact Gh.setRow_eq _ _ _ _,.inr ⟨G,cap,olds++xs,rest,by rw[hlen],hG,by rw[hlen];exact hcap,hcm,hcl,?_,⟨fun row hrow=>?_,fun v hv=>(Av.1 hv).elim (holdo v) (hx1 v)⟩,hsG⟩⟩
   ·rw[hlen]at hi;rw[Gh.setRow_ne _ _ om];exact hno i om
   ·rw[List.flatten_append];exact(AllV.append holds hxs).mono hex.good
   ·rcases Av.1 hrow with h|h
    ·exact hrows row h
    ·exact hrz2 row h
  ·rw[jF (by rw[hlen];exact Gh.setRow_eq _ _ _ _)]at hN;have:G=N:=by simpa[Value.ownBlock]using hN
   subst this;exact hGb.elim .inr .inl
 rcases Bz rows2.length with hm0|hm0
 ·--nothing to append
  have hr2:rows2=[]:=Bm hm0;subst hr2;have hr:(Builtin.append_ #[t,t] ty #[a.eval x,a.eval y]).run P w= .ok (a.eval x) w:=by
   rw[ex];rcases hform with⟨e1,h0⟩|⟨G,c,e1,hnc,hcm⟩
   ·rw[e1];cases a1<;>simp[Builtin.append_,run_underlying hty,sizeOf,typeInfo,hi,Builtin.lenOf,Builtin.firstCells,loadCells,loadCellsFrom]
   ·rw[e1];cases a1<;>simp[Builtin.append_,run_underlying hty,sizeOf,typeInfo,hi,Builtin.lenOf,Builtin.firstCells,loadCells,loadCellsFrom,hnc,storeCells]
  unfold Oper.wp;rw[uP hr];refine hK w s g _ ?_ ?_
  ·rw[TV.P];exact⟨by simpa using hgn,by simpa using hform⟩
  ·rw[Cr]at hg⊢;exact Stp.read hg
 ·obtain⟨b2,off2,ea⟩:=hxr hm0;obtain⟨ea,hra⟩:=ea;subst ea;have hnews:∀j u,xs[j]?=some u->w.cell? ((⟨b2,off2,none⟩:Addr).add j)=some u:=fun j u hj=>by rw[Addr.add_mid];exact hra j u hj
  have hgo:∀u v,g.gn k (rows.length+rows2.length)=some u->u=v:=fun u v h=>by rw[hno _ om]at h;cases h
  rcases hcase with⟨rfl,h0⟩|⟨G,cap,vs,rest,rfl,hG,hnc,hcm,hcs,hav,hrow,hsG⟩
  ·subst h0;have hr:=run_append_nil (P:=P) w t ty e ie z hty hi hz ⟨b2,off2,none⟩ rows2.length c1 xs hxl hnews hm0 om (by have:=hbytes;simp only[Au,Cp]at this;omega);have hge:=grownCap_ge w rows2.length 0 e;have hcm:grownCap w rows2.length 0 e<=maxLen:=grownCap_le_maxLen w _ 0 e (by simp only[maxLen];omega);refine fin (w.drew.alloc (.cells (xs.toArray++Builtin.zeroCells z.cells (grownCap w rows2.length 0 e-rows2.length)) e)) w.heap.size (grownCap w rows2.length 0 e) [] (Builtin.zeroCells z.cells (grownCap w rows2.length 0 e-rows2.length)).toList ?_ ?_ trivial (fun _ h=>by cases h) (fun _ h=>by cases h) (by simpa using hge) hcm ?_ (.inr (Ar _)) ?_ ?_ ?_ ?_ ?_ (fun N o hN=>?_) (fun u h=>hgo u _ h) (fun o ho=>Nat.lt_irrefl _ (hg.lt _ _ ho))
   ·rw[ex,hv0];simpa using hr
   ·rw[show(([]++xs++(Builtin.zeroCells z.cells (grownCap w rows2.length 0 e-rows2.length)).toList:List Value)).toArray=xs.toArray++Builtin.zeroCells z.cells (grownCap w rows2.length 0 e-rows2.length)from by apply Di.1;simp];exact .of (heap_alloc_new w.drew _)
   ·simp only[Dq,Ae,Ej,size_zeroCells,hzs,hxl,<-Bo];congr 1;omega
   ·simp
   ·exact fun N hN _=>heap_alloc_old w.drew _ hN
   ·rfl
   ·rfl
   ·rfl
   ·rw[jF (by exact hgn),hv0]at hN
    cases hN
  ·have hbl:blk g k (.mrow e ie.size rows)=some G:=by rw[jF hgn,hv0];rfl
   have hvl:vs.length=rows.length*ie.size:=by rw[hav.length,vB hrow.1]
   have holds:∀j u,vs[j]?=some u->w.cell? ((⟨G,0,none⟩:Addr).add j)=some u:=fun j u hj=>by
    rw[Addr.add_mid,Cp,hG.cell];have:=(Ao.1 hj).1;simp only[Dv];rw[Ca this];exact hj
   by_cases hroom:rows.length+rows2.length<=cap
   ·have hfit:rows.length*ie.size+xs.length<=(vs++rest).toArray.size:=by rw[Cl,hcs,hxl,<-Bo];exact Bh _ hroom
    have hr:=vZ (P:=P) w t ty e ie hty hi G rows.length cap _ hG ⟨b2,off2,none⟩ rows2.length c1 xs hxl hnews hx1 hroom hfit;have hcut:((vs++rest).toArray.toList.take (rows.length*ie.size)++xs++(vs++rest).toArray.toList.drop (rows.length*ie.size+xs.length))=(vs++xs)++rest.drop xs.length:=by
     simp only[];rw[<-hvl,List.take_left,List.drop_append,Bd om,Dq,Nat.add_sub_cancel_left]
    rw[hcut]at hr;refine fin _ G cap vs (rest.drop xs.length) ?_ (hG.setRow (by simp only[Cl,Ae,Bk]at hfit⊢;omega)) hav hrow.1 hrow.2 hroom hcm ?_ (.inl hbl) ?_ (fun N _ hN=>setRow_other w G N _ hN) ?_ ?_ ?_ (fun N o hN=>by rw[hbl]at hN;cases hN;exact hsG o) (fun u h=>hgo u _ h) hsG
    ·rw[ex,hv0];exact hr
    ·have h2:(vs++rest).length=cap*ie.size:=hcs;simp only[Ae,Bk,Cl]at h2 hfit⊢;omega
    ·simp
    ·rfl
    ·rfl
    ·rfl
   ·have hr:=run_append_grow (P:=P) w t ty e ie z hty hi hz ⟨G,0,none⟩ rows.length cap vs hvl holds ⟨b2,off2,none⟩ rows2.length c1 xs hxl hnews om om (growslice_fits om hbytes);have hge:=grownCap_ge w (rows.length+rows2.length) cap e;have hcm2:grownCap w (rows.length+rows2.length) cap e<=maxLen:=grownCap_le_maxLen w _ cap e (by simp only[maxLen];omega);refine fin (w.drew.alloc (.cells (vs.toArray++xs.toArray++Builtin.zeroCells z.cells (grownCap w (rows.length+rows2.length) cap e-(rows.length+rows2.length))) e)) w.heap.size (grownCap w (rows.length+rows2.length) cap e) vs (Builtin.zeroCells z.cells (grownCap w (rows.length+rows2.length) cap e-(rows.length+rows2.length))).toList ?_ ?_ hav hrow.1 hrow.2 hge hcm2 ?_ (.inr (Ar _)) ?_ ?_ ?_ ?_ ?_ (fun N o hN=>by rw[hbl]at hN;cases hN;exact hsG o) (fun u h=>hgo u _ h) (fun o ho=>Nat.lt_irrefl _ (hg.lt _ _ ho))
    ·rw[ex,hv0];exact hr
    ·rw[show((vs++xs++(Builtin.zeroCells z.cells (grownCap w (rows.length+rows2.length) cap e-(rows.length+rows2.length))).toList:List Value)).toArray=vs.toArray++xs.toArray++Builtin.zeroCells z.cells (grownCap w (rows.length+rows2.length) cap e-(rows.length+rows2.length))from by apply Di.1;simp];exact .of (heap_alloc_new w.drew _)
    ·simp only[Ae,Ej,size_zeroCells,hzs,hxl,hvl,<-Bo];congr 1;omega
    ·simp
    ·exact fun N hN _=>heap_alloc_old w.drew _ hN
    ·rfl
    ·rfl
    ·rfl
theorem u_copyMo{x y:Operand}{t t2 e:TypeId}{mo:Bool}{k n:Nat}{rows rows2:List (List PV)}{d:TV}(hu:P.underlying t=some (.slice e))(hs:(P.info? e).map (·.size)=some 1)(hx:Opd tm x (.mo k n))(hn:rows.length=n)(hy:Opd tm y d)(hd:∀w s g v,d.P w s g v->(PV.sl mo 1 rows2).p w s v)(hl:rows2.length<=n):
  UOp P ⟨dst,.call {callee:= .builtin .copy,args:= #[x,y],argTypes:= #[t,t2]},ty,pos,aft,gd⟩ tm [(k,.mrow e 1 rows)] (.pv (PV.lit (.int .i64 rows2.length))) [(k,.mrow e 1 (rows2++rows.drop rows2.length))]:=by
 intro w s g a K Q ht hg hK;subst hn;have h1:=Opd.eval ht hx;rw[TV.P]at h1;obtain⟨hgn,hform⟩:=h1;obtain⟨hno,v0,hv0,hcase⟩:=hg.one;rw[hgn]at hv0;have hv0:=Option.some.inj hv0;obtain⟨a1,c1,xs,ex,hxl,hx1,hxr,hxp⟩:=PV.sl_src (hd _ _ _ _ (Opd.eval ht hy));obtain⟨_,_,_,_,_,hrz2,_⟩:=hd _ _ _ _ (Opd.eval ht hy);have hxs:AllV w s.good rows2.flatten xs:=by
  refine AllV.mk (by rw[hxl,vB hrz2]) fun j d v hdj hvj=>?_;have hjl:j<rows2.length:=by have:=(Ao.1 hvj).1;omega
  have hrow:=Ac hjl;have hf:=gK hrz2 hrow;have hdd:rows2[j][0]?=some d:=by
   rw[<-hf,Df,Ab om,Ds,Nat.mul_one,Ck];exact hdj
  obtain⟨u,e1,e2⟩:=hxp _ _ _ _ hrow hdd;rw[Nat.mul_one,Ck,hvj]at e1
  cases e1;exact e2
 have hlen:(rows2++rows.drop rows2.length).length=rows.length:=by simp;omega
 have he:∀{v':Value}{w':World},(Builtin.copy_ #[t,t2] ty #[a.eval x,a.eval y]).run P w= .ok v' w'->(execOp a.eval ⟨dst,.call {callee:= .builtin .copy,args:= #[x,y],argTypes:= #[t,t2]},ty,pos,aft,gd⟩).run P w= .ok (.value v') w':=by
  intro v' w' h;simp[execOp,resolve,invoke,builtin,h,Result.andThen]
 unfold Oper.wp;rcases Bz rows2.length with hm0|hm0
 ·have hr2:rows2=[]:=Bm hm0;subst hr2;have hr:(Builtin.copy_ #[t,t2] ty #[a.eval x,a.eval y]).run P w= .ok (goInt 0) w:=by
   cases hq:P.info? e with
   |none=>simp[hq]at hs
   |some i=>
    rw[ex];rcases hform with⟨e1,h0⟩|⟨G,c,e1,hnc,hcm⟩
    ·rw[e1];cases a1<;>simp[Builtin.copy_,run_underlying hu,Builtin.lenOf,Builtin.firstCells,sizeOf,typeInfo,hq,loadCells,loadCellsFrom]
    ·rw[e1];cases a1<;>simp[Builtin.copy_,run_underlying hu,Builtin.lenOf,Builtin.firstCells,sizeOf,typeInfo,hq,loadCells,loadCellsFrom,storeCells]
  rw[he hr];refine hK w s g _ rfl ?_;simp only[Au,Do,Dq]at hg⊢;exact Stp.read hg
 ·obtain⟨b2,off2,ea⟩:=hxr hm0;obtain⟨ea,hra⟩:=ea;subst ea;have hnews:∀j u,xs[j]?=some u->w.cell? ((⟨b2,off2,none⟩:Addr).add j)=some u:=fun j u hj=>by rw[Addr.add_mid];exact hra j u hj
  rcases hcase with⟨rfl,h0⟩|⟨G,cap,vs,rest,rfl,hG,hnc,hcm,hcs,hav,hrow,hsG⟩
  ·subst h0;have h9:rows2.length<=0:=hl;omega
  ·have hbl:∀r:List (List PV),r.length=rows.length->blk g k (.mrow e 1 r)=some G:=fun r hr=>by rw[jF (by rw[hr];exact hgn),hv0];rfl
   have hvl:vs.length=rows.length*1:=by rw[hav.length,vB hrow.1]
   have hr:=run_copy_rowK (P:=P) w t t2 ty e G 0 rows.length cap ⟨b2,off2,none⟩ rows2.length c1 _ e xs hu hs hG (by rw[hxl,Nat.mul_one];exact(De hl).symm) hnews (by rw[Cl,Ae];omega) hx1;have hcut:((vs++rest).toArray.toList.take 0++xs++(vs++rest).toArray.toList.drop (0+xs.length))=(xs++vs.drop xs.length)++rest:=by
    simp only[];rw[List.take_zero,Dq,Cp,List.drop_append_of_le_length om,Cg]
   rw[hcut]at hr;rw[he (by rw[ex,hv0];exact hr)];refine hK _ s g _ (by rw[hxl,Nat.mul_one];rfl) (Stp.turn hg (hbl rows rfl) hsG (fun M hM=>setRow_other w G M _ hM) (by simp) rfl rfl rfl (fun hex=>?_) (hbl _ hlen));refine⟨fun m hm=>hno m (by rw[hlen]at hm;exact hm),_,by rw[hlen];exact hgn,.inr ⟨G,cap,xs++vs.drop xs.length,rest,by rw[hlen];exact hv0,hG.setRow (by simp only[Cl,Ae,Bk];omega),by rw[hlen];exact hnc,hcm,?_,?_,⟨fun r hr=>?_,fun v hv=>(Av.1 hv).elim (hx1 v) fun h=>hrow.2 v (Dj h)⟩,hsG⟩⟩
   ·rw[<-hcs];simp only[Ae,Bk];omega
   ·rw[List.flatten_append];refine(AllV.append hxs ?_).mono hex.good;have:(rows.drop rows2.length).flatten=rows.flatten.drop xs.length:=by
     have h1:rows.flatten=(rows.take rows2.length).flatten++(rows.drop rows2.length).flatten:=by rw[<-List.flatten_append,Eb]
     have h2:(rows.take rows2.length).flatten.length=xs.length:=by
      rw[vB (sz:=1) fun r hr=>hrow.1 r (Cu hr),As,De hl,hxl]
     rw[h1,<-h2,List.drop_left]
    rw[this];exact hav.drop _
   ·rcases Av.1 hr with h|h
    ·exact hrz2 r h
    ·exact hrow.1 r (Dj h)
end
end Go.Proofs.YtammfbdgjnkolaaGreatDoor
