/-Part 12 of the proof. -/
import Derived.Test.YtmakjjodkiedmaaGreatDoorM11
import Derived.Test.YtmakjjodkiedmaaGreatDoorChecked
namespace Go.Proofs.YtmakjjodkiedmaaGreatDoor
open Go.RowKit
theorem lx{p:Prop}(h:p:=by first|exact trivial|exact u0 _|exact u19 (by first|rfl|omega|(push_cast;omega))|exact u14|exact Sub.own rfl|exact u11 rfl|exact u3 (Ad).symm|exact u3 rfl):p:=h
theorem kr{p:Prop}(h:p:=by kernel_rfl):p:=h
section
variable{P:Program}{E:Pn}{K:DS->Prop}
theorem zC{S:DS}(h:K S):(Out.done S).sat P E K:=h
theorem zG{a:Bool}{r:Out}(h:r.sat P E K):(Out.imp a a r).sat P E K:=⟨id,h⟩
theorem sat_imp{a b:Bool}{r:Out}(h1:a=true->b=true)(h:r.sat P E K):(Out.imp a b r).sat P E K:=⟨h1,h⟩
theorem zU{p:Prop}{r:Out}(h1:p)(h:r.sat P E K):(Out.need p r).sat P E K:=⟨h1,h⟩
theorem sat_call(out:D){f:FuncId}{args:List D}{r:D->Out}(hF:PFun P f (D.pvs args) out.pv)(hfl:out.flat=true)(h:(r out).sat P E K):(Out.call none f args r).sat P E K:=⟨out,fun _=>hF,hfl,h⟩
theorem sat_callG(out:D){e:Bool}{f:FuncId}{args:List D}{r:D->Out}(hF:e=true->PFun P f (D.pvs args) out.pv)(hfl:out.flat=true)(h:(r out).sat P E K):(Out.call (some e) f args r).sat P E K:=
 ⟨out,fun h=>hF (by cases e with|true=>rfl|false=>exact absurd rfl h),hfl,h⟩
theorem sat_callO(e sz:Nat)(rows:List (List D)){f:FuncId}{args:List D}{r:TypeId->Nat->List (List D)->Out}(hF:OFun P f (D.pvs args) e sz (D.pvss rows))(h:(r e sz rows).sat P E K):(Out.callO f args r).sat P E K:=⟨e,sz,rows,hF,h⟩
theorem qH0(row:List D){p:List D->Prop}{r:List D->Out}(hp:p row)(h:(r row).sat P E K):(Out.pick p r).sat P E K:=⟨row,hp,h⟩
theorem gX0{a b:Out}(h:a.sat P E K):(Out.split true a b).sat P E K:=⟨fun _=>h,fun e=>by cases e⟩
theorem gY0{a b:Out}(h:b.sat P E K):(Out.split false a b).sat P E K:=⟨fun e=>(by cases e),fun _=>h⟩
theorem xY{c:Bool}{a b:Out}(h1:c=true->a.sat P E K)(h2:c=false->b.sat P E K):(Out.split c a b).sat P E K:=⟨h1,h2⟩
end
def qV(T:List (Nat×TI))(S:DS):ResultVar->Option D
 | .tmp t=>match yQ t S.tm with
  |some d=>match d.pure with
   |true=>some d
   |false=>none
  |none=>none
 | .cell t ty=>match yQ t S.tm with
  |some (.bp k off)=>match yQ k S.ow with
   |some (.box _ cs)=>match cls T ty with
    |some (some n)=>match kE D.pure n (wD off cs)with
     |some r=>some (.agg r)
     |none=>none
    |some none=>match getS off cs with
     |some d=>match d.pure with
      |true=>some d
      |false=>none
     |none=>none
    |none=>none
   |_=>none
  |_=>none
def finD(T:List (Nat×TI))(S:DS):List ResultVar->Option D
 |[r]=>qV T S r
 |[r,q]=>match qV T S r,qV T S q with
  |some a,some b=>some (.tup [a,b])
  |_,_=>none
 |[r,q,x]=>match qV T S r,qV T S q,qV T S x with
  |some a,some b,some c=>some (.tup [a,b,c])
  |_,_,_=>none
 |[r,q,x,y]=>match qV T S r,qV T S q,qV T S x,qV T S y with
  |some a,some b,some c,some d=>some (.tup [a,b,c,d])
  |_,_,_,_=>none
 |[r,q,x,y,z]=>match qV T S r,qV T S q,qV T S x,qV T S y,qV T S z with
  |some a,some b,some c,some d,some e=>some (.tup [a,b,c,d,e])
  |_,_,_,_,_=>none
 |_=>none
def FinV(T:List (Nat×TI))(rs:List ResultVar)(out:D)(ex:Exit)(S:DS):Prop:=
 (ex= .ret\/ex= .normal)/\∃d,finD T S rs=some d/\∀w s v,d.pv.p w s v->out.pv.p w s v
theorem FinV.ret{T:List (Nat×TI)}{rs:List ResultVar}{out d:D}{S:DS}(h:finD T S rs=some d)(hs:∀w s v,d.pv.p w s v->out.pv.p w s v):FinV T rs out .ret S:=⟨.inl rfl,d,h,hs⟩
abbrev u1:= @FinV.ret
def argD:Nat->List D->List (Nat×D)
 |_,[]=>[]
 |i,d::l=>(i,d)::argD (i+1) l
theorem tJ:∀{l:List D}{i t:Nat}{d:D},yQ t (argD i l)=some d->∃j,t=i+j/\l[j]?=some d
 |[],i,t,d,h=>by cases h
 |e::l,i,t,d,h=>by
  unfold argD at h;rw[yN]at h;by_cases hi:i=t
  ·simp only[hi,if_true]at h;cases h;exact⟨0,by omega,rfl⟩
  ·simp only[hi,if_false]at h;obtain⟨j,h1,h2⟩:=tJ h;exact⟨j+1,by omega,by simpa using h2⟩
theorem pK:∀{l:List D}{d:D},D.flats l=true->d∈l->d.flat=true
 |[],_,_,h=>by cases h
 |e::l,d,h,hd=>by
  obtain⟨h1,h2⟩:=kQ h;rcases Bc.1 hd with rfl|hd
  ·exact h1
  ·exact pK h2 hd
section
variable{P:Program}{T:List (Nat×TI)}(hT:wC P T=true)
include hT
theorem jO{S:DS}{r:ResultVar}{d:D}(h:qV T S r=some d):Res1 P S.ste r d.pv:=by
 unfold qV at h;split at h
 ·rename_i t;split at h
  ·rename_i e he;split at h
   ·rename_i hp
    cases h;exact⟨d.tv,by show fnd t (tvs S.tm)=_;rw[qE,he];rfl,D.toPV hp⟩
   ·cases h
  ·cases h
 ·rename_i t ty;split at h
  ·rename_i k off ht;split at h
   ·rename_i bt cs hk;have h1:fnd t S.ste.tm=some (.bp k off):=by show fnd t (tvs S.tm)=_;rw[qE,ht];rfl
    have h2:fnd k S.ste.ow=some (.box bt (D.tvl cs)):=by show fnd k (ows S.ow)=_;rw[qD,hk];rfl
    split at h
    ·rename_i n hc;split at h
     ·rename_i r hr
      cases h;obtain⟨g1,g2,g3⟩:=jQ hr;rw[jX]at g1 g3;refine⟨k,off,bt,_,h1,h2,.inr ⟨n,D.pvs r,(jY hT hc).2,?_,?_,rfl⟩⟩
      ·rw[jF,g3];simp at g1⊢;omega
      ·rw[qH,<-Cv,<-Cy,<-g3,uL,Bz,Bz];exact List.map_congr_left fun d hd=>D.toPV (g2 d hd)
     ·cases h
    ·rename_i hc;split at h
     ·rename_i e he;split at h
      ·rename_i hp
       cases h;rw[vT]at he;exact⟨k,off,bt,_,h1,h2,.inl ⟨vZ hT hc,d.tv,by rw[qH];simp[he],D.toPV hp⟩⟩
      ·cases h
     ·cases h
    ·cases h
   ·cases h
  ·cases h
theorem FinV.fin{rs:List ResultVar}{out:D}{ex:Exit}{S:DS}(h:FinV T rs out ex S):∃d,Fin P rs.toArray d ex S.ste/\∀w s v,d.p w s v->out.pv.p w s v:=by
 obtain⟨he,d,hd,hs⟩:=h;refine⟨d.pv,⟨he,?_⟩,hs⟩
 match rs,hd with
 |[r],hd=>exact jO hT hd
 |[r,q],hd=>
  have hd:(match qV T S r,qV T S q with|some a,some b=>some (D.tup [a,b])|_,_=>none)=some d:=hd
  cases ha:qV T S r with
  |none=>rw[ha]at hd;cases hd
  |some a=>
   cases hb:qV T S q with
   |none=>rw[ha,hb]at hd;cases hd
   |some b=>
    rw[ha,hb]at hd
    cases hd;exact⟨a.pv,b.pv,jO hT ha,jO hT hb,rfl⟩
 |[r,q,x],hd=>
  have hd:(match qV T S r,qV T S q,qV T S x with|some a,some b,some c=>some (D.tup [a,b,c])|_,_,_=>none)=some d:=hd
  cases ha:qV T S r with
  |none=>rw[ha]at hd;cases hd
  |some a=>
   cases hb:qV T S q with
   |none=>rw[ha,hb]at hd;cases hd
   |some b=>
    cases hc:qV T S x with
    |none=>rw[ha,hb,hc]at hd;cases hd
    |some c=>
     rw[ha,hb,hc]at hd
     cases hd;exact⟨a.pv,b.pv,c.pv,jO hT ha,jO hT hb,jO hT hc,rfl⟩
 |[r,q,x,y],hd=>
  have hd:(match qV T S r,qV T S q,qV T S x,qV T S y with|some a,some b,some c,some d=>some (D.tup [a,b,c,d])|_,_,_,_=>none)=some d:=hd
  cases ha:qV T S r with
  |none=>rw[ha]at hd;cases hd
  |some a=>
   cases hb:qV T S q with
   |none=>rw[ha,hb]at hd;cases hd
   |some b=>
    cases hc:qV T S x with
    |none=>rw[ha,hb,hc]at hd;cases hd
    |some c=>
     cases hg:qV T S y with
     |none=>rw[ha,hb,hc,hg]at hd;cases hd
     |some g=>
      rw[ha,hb,hc,hg]at hd
      cases hd;exact⟨a.pv,b.pv,c.pv,g.pv,jO hT ha,jO hT hb,jO hT hc,jO hT hg,rfl⟩
 |[r,q,x,y,z],hd=>
  have hd:(match qV T S r,qV T S q,qV T S x,qV T S y,qV T S z with|some a,some b,some c,some d,some e=>some (D.tup [a,b,c,d,e])|_,_,_,_,_=>none)=some d:=hd
  cases ha:qV T S r with
  |none=>rw[ha]at hd;cases hd
  |some a=>
   cases hb:qV T S q with
   |none=>rw[ha,hb]at hd;cases hd
   |some b=>
    cases hc:qV T S x with
    |none=>rw[ha,hb,hc]at hd;cases hd
    |some c=>
     cases hg:qV T S y with
     |none=>rw[ha,hb,hc,hg]at hd;cases hd
     |some g=>
      cases hi:qV T S z with
      |none=>rw[ha,hb,hc,hg,hi]at hd;cases hd
      |some i=>
       rw[ha,hb,hc,hg,hi]at hd
       cases hd;exact⟨a.pv,b.pv,c.pv,g.pv,i.pv,jO hT ha,jO hT hb,jO hT hc,jO hT hg,jO hT hi,rfl⟩
 |[],hd=>cases hd
 |_::_::_::_::_::_::_,hd=>cases hd
theorem pfun_ev{f:FuncId}{fn:Func}{c:Code}{n:Nat}{args:List D}{rs:List ResultVar}{out:D}(hf:P.funcs[f]?=some fn)(hb:fn.body=some c)(hn:fn.ntmps=n)(hr:fn.results=rs.toArray)(hm:(fn.name== "runtime.NumGoroutine")=false)(hl:Nat.ble args.length n=true)(hfl:D.flats args=true)
  (h:∀b:Ba,b.sz=n->Ev P b c ⟨argD 0 args,[],0⟩ (FinV T rs out)):PFun P f (D.pvs args) out.pv:=by
 have hl:=An hl;refine⟨⟨fn,hf,hm,by rw[hb];rfl⟩,fun w s vs hlt hgl hv=>calls_of_wp hf hb ?_⟩;have hlen:=hv.length;rw[jF]at hlen;have hr0:Rel ⟨w,s,fun _=>False,n,⟨fun _=>none,fun _ _=>none⟩,[]⟩ w s ⟨fun _=>none,fun _ _=>none⟩ (DS.ste ⟨argD 0 args,[],0⟩) {tmps:=vs.toArray++Array.replicate (fn.ntmps-vs.toArray.size) undef,defers:=[]}:=by
  refine⟨⟨Ex.refl w s,(fun B o h=> .inl h),(fun B o h=> .inl h),rfl,rfl,rfl,Ap _,fun _ _ _=>rfl,hgl⟩,hlt,?_,fun t d ht=>?_,(fun _ _ h=>by cases h),(fun _ _ _ _ _ h=>by cases h),fun _ _=>⟨rfl,fun _=>rfl⟩,rfl,fun _ _=>⟨(fun _ h=>by cases h),fun _ _ h=>by cases h⟩⟩
  ·simp;omega
  ·have ht':fnd t (tvs (argD 0 args))=some d:=ht;rw[qE]at ht'
   cases hx:yQ t (argD 0 args)with
   |none=>rw[hx]at ht';cases ht'
   |some e=>
    rw[hx]at ht';cases ht';obtain⟨j,h1,h2⟩:=tJ hx;obtain⟨v,h3,h4⟩:=hv.get (bK h2);have hj:=(Ac.1 h3).1;refine⟨v,?_,D.ofPV (pK hfl (Aw h2)) h4⟩;have ht':t=j:=by omega
    rw[ht',Cu (by simpa using hj)];simpa using h3
 refine h _ rfl w s _ _ _ hr0 fun ex w' s' g' a' S' h1 h2=>?_;obtain⟨d,h3,h4⟩:=h2.fin hT;rw[<-hr]at h3;exact Fin.post h1 h3 fun v hv=>⟨s',v,rfl,h4 _ _ _ hv,⟨h1.kp.ex,h1.lt,h1.kp.os,h1.kp.tape,h1.kp.output,h1.kp.size,fun N hN=>h1.kp.block N hN id,fun B o hs=>(h1.kp.st B o hs).elim .inl fun x=>x.elim .inr fun x=>x.elim,fun B o hs=>(h1.kp.sst B o hs).elim .inl fun x=>x.elim .inr fun x=>x.elim⟩⟩
end
def TT:List (Nat×TI):=[(2,.int .i64),
 (3,.int .i64),
 (4,.bool),
 (5,.int .u8),
 (6,.int .u8),
 (7,.st 4 [.int .i64 0,.int .i64 0,.bool false,.int .u8 0] [(0,1),(1,1),(2,1),(3,1)]),
 (9,.str),
 (12,.int .u64),
 (13,.st 2 [.string ByteArray.empty,.int .u64 0] [(0,1),(1,1)]),
 (21,.int .i32),
 (22,.sl 36 10),
 (23,.st 1 [.slice none 0 0] [(0,1)]),
 (24,.st 1 [.slice none 0 0] [(0,1)]),
 (25,.sl 101 1),
 (26,.st 2 [.bool false,.slice none 0 0] [(0,1),(1,1)]),
 (27,.st 2 [.bool false,.slice none 0 0] [(0,1),(1,1)]),
 (28,.st 7 [.int .i64 0,.bool false,.slice none 0 0,.bool false,.slice none 0 0,.string ByteArray.empty,.int .i64 0] [(0,1),(1,2),(3,2),(5,1),(6,1)]),
 (29,.st 7 [.int .i64 0,.bool false,.slice none 0 0,.bool false,.slice none 0 0,.string ByteArray.empty,.int .i64 0] [(0,1),(1,2),(3,2),(5,1),(6,1)]),
 (30,.ar 21 3 7 29 [.int .i64 0,.bool false,.slice none 0 0,.bool false,.slice none 0 0,.string ByteArray.empty,.int .i64 0,.int .i64 0,.bool false,.slice none 0 0,.bool false,.slice none 0 0,.string ByteArray.empty,.int .i64 0,.int .i64 0,.bool false,.slice none 0 0,.bool false,.slice none 0 0,.string ByteArray.empty,.int .i64 0]),
 (32,.sl 29 7),
 (33,.sl 3 1),
 (34,.sl 9 1),
 (35,.st 10 [.int .i64 0,.string ByteArray.empty,.int .i64 0,.slice none 0 0,.slice none 0 0,.slice none 0 0,.slice none 0 0,.slice none 0 0,.int .i64 0,.int .i64 0] [(0,1),(1,1),(2,1),(3,1),(4,1),(5,1),(6,1),(7,1),(8,1),(9,1)]),
 (36,.st 10 [.int .i64 0,.string ByteArray.empty,.int .i64 0,.slice none 0 0,.slice none 0 0,.slice none 0 0,.slice none 0 0,.slice none 0 0,.int .i64 0,.int .i64 0] [(0,1),(1,1),(2,1),(3,1),(4,1),(5,1),(6,1),(7,1),(8,1),(9,1)]),
 (38,.st 18 [.int .i64 0,.int .i64 0,.bool false,.slice none 0 0,.bool false,.slice none 0 0,.string ByteArray.empty,.int .i64 0,.int .i64 0,.string ByteArray.empty,.int .i64 0,.bool false,.slice none 0 0,.bool false,.slice none 0 0,.string ByteArray.empty,.int .i64 0,.slice none 0 0] [(0,1),(1,7),(8,1),(9,1),(10,7),(17,1)]),
 (39,.st 18 [.int .i64 0,.int .i64 0,.bool false,.slice none 0 0,.bool false,.slice none 0 0,.string ByteArray.empty,.int .i64 0,.int .i64 0,.string ByteArray.empty,.int .i64 0,.bool false,.slice none 0 0,.bool false,.slice none 0 0,.string ByteArray.empty,.int .i64 0,.slice none 0 0] [(0,1),(1,7),(8,1),(9,1),(10,7),(17,1)]),
 (42,.sl 39 18),
 (43,.st 19 [.slice none 0 0,.int .i64 0,.int .i64 0,.bool false,.slice none 0 0,.bool false,.slice none 0 0,.string ByteArray.empty,.int .i64 0,.int .i64 0,.string ByteArray.empty,.int .i64 0,.bool false,.slice none 0 0,.bool false,.slice none 0 0,.string ByteArray.empty,.int .i64 0,.slice none 0 0] [(0,1),(1,18)]),
 (44,.st 19 [.slice none 0 0,.int .i64 0,.int .i64 0,.bool false,.slice none 0 0,.bool false,.slice none 0 0,.string ByteArray.empty,.int .i64 0,.int .i64 0,.string ByteArray.empty,.int .i64 0,.bool false,.slice none 0 0,.bool false,.slice none 0 0,.string ByteArray.empty,.int .i64 0,.slice none 0 0] [(0,1),(1,18)]),
 (46,.one (.pointer none)),
 (54,.st 2 [.int .i64 0,.int .i64 0] [(0,1),(1,1)]),
 (55,.st 2 [.int .i64 0,.int .i64 0] [(0,1),(1,1)]),
 (68,.st 9 [.bool false,.slice none 0 0,.bool false,.slice none 0 0,.bool false,.slice none 0 0,.bool false,.bool false,.bool false] [(0,2),(2,2),(4,2),(6,1),(7,1),(8,1)]),
 (69,.st 9 [.bool false,.slice none 0 0,.bool false,.slice none 0 0,.bool false,.slice none 0 0,.bool false,.bool false,.bool false] [(0,2),(2,2),(4,2),(6,1),(7,1),(8,1)]),
 (76,.sl 5 1),
 (84,.sl 3 1),
 (85,.st 2 [.bool false,.slice none 0 0] [(0,1),(1,1)]),
 (86,.st 2 [.bool false,.slice none 0 0] [(0,1),(1,1)]),
 (101,.int .u32),
 (109,.sl 21 1),
 (112,.st 6 [.bool false,.slice none 0 0,.bool false,.slice none 0 0,.bool false,.slice none 0 0] [(0,2),(2,2),(4,2)]),
 (113,.st 6 [.bool false,.slice none 0 0,.bool false,.slice none 0 0,.bool false,.slice none 0 0] [(0,2),(2,2),(4,2)]),
 (124,.mp false [.bool false]),
 (141,.sl 4 1),
 (150,.sl 33 1),
 (153,.int .u64),
 (156,.st 4 [.bool false,.slice none 0 0,.bool false,.slice none 0 0] [(0,2),(2,2)]),
 (157,.st 4 [.bool false,.slice none 0 0,.bool false,.slice none 0 0] [(0,2),(2,2)]),
 (160,.sl 32 1),
 (167,.int .u64),
 (173,.sl 27 2),
 (193,.st 2 [.int .u8 0,.int .u8 0] [(0,1),(1,1)]),
 (194,.st 2 [.int .u8 0,.int .u8 0] [(0,1),(1,1)]),
 (195,.ar 32 16 2 194 [.int .u8 0,.int .u8 0,.int .u8 0,.int .u8 0,.int .u8 0,.int .u8 0,.int .u8 0,.int .u8 0,.int .u8 0,.int .u8 0,.int .u8 0,.int .u8 0,.int .u8 0,.int .u8 0,.int .u8 0,.int .u8 0,.int .u8 0,.int .u8 0,.int .u8 0,.int .u8 0,.int .u8 0,.int .u8 0,.int .u8 0,.int .u8 0,.int .u8 0,.int .u8 0,.int .u8 0,.int .u8 0,.int .u8 0,.int .u8 0,.int .u8 0,.int .u8 0]),
 (198,.sl 113 6),
 (213,.st 2 [.int .i64 0,.int .i64 0] [(0,1),(1,1)]),
 (234,.st 3 [.slice none 0 0,.slice none 0 0,.int .i64 0] [(0,1),(1,1),(2,1)]),
 (236,.int .u16),
 (237,.st 3 [.int .u16 0,.int .u16 0,.int .u16 0] [(0,1),(1,1),(2,1)]),
 (240,.st 3 [.int .u32 0,.int .u32 0,.int .u32 0] [(0,1),(1,1),(2,1)]),
 (282,.st 1 [.string ByteArray.empty] [(0,1)]),
 (2000007,.fl [(2,0),(3,1),(4,2),(6,3)]),
 (2000013,.fl [(9,0),(12,1)]),
 (2000018,.fl [(17,0)]),
 (2000019,.fl [(17,0)]),
 (2000023,.fl [(22,0)]),
 (2000024,.fl [(22,0)]),
 (2000026,.fl [(4,0),(25,1)]),
 (2000027,.fl [(4,0),(25,1)]),
 (2000028,.fl [(3,0),(27,1),(27,3),(9,5),(3,6)]),
 (2000029,.fl [(3,0),(27,1),(27,3),(9,5),(3,6)]),
 (2000035,.fl [(3,0),(9,1),(3,2),(33,3),(33,4),(34,5),(32,6),(32,7),(3,8),(3,9)]),
 (2000036,.fl [(3,0),(9,1),(3,2),(33,3),(33,4),(34,5),(32,6),(32,7),(3,8),(3,9)]),
 (2000038,.fl [(3,0),(29,1),(3,8),(9,9),(29,10),(32,17)]),
 (2000039,.fl [(3,0),(29,1),(3,8),(9,9),(29,10),(32,17)]),
 (2000043,.fl [(42,0),(39,1)]),
 (2000044,.fl [(42,0),(39,1)]),
 (2000054,.fl [(3,0),(3,1)]),
 (2000055,.fl [(3,0),(3,1)]),
 (2000068,.fl [(27,0),(27,2),(27,4),(4,6),(4,7),(4,8)]),
 (2000069,.fl [(27,0),(27,2),(27,4),(4,6),(4,7),(4,8)]),
 (2000085,.fl [(4,0),(84,1)]),
 (2000086,.fl [(4,0),(84,1)]),
 (2000112,.fl [(27,0),(27,2),(27,4)]),
 (2000113,.fl [(27,0),(27,2),(27,4)]),
 (2000156,.fl [(27,0),(27,2)]),
 (2000157,.fl [(27,0),(27,2)]),
 (2000193,.fl [(5,0),(5,1)]),
 (2000194,.fl [(5,0),(5,1)]),
 (2000213,.fl [(3,0),(3,1)]),
 (2000234,.fl [(232,0),(233,1),(3,2)]),
 (2000237,.fl [(236,0),(236,1),(236,2)]),
 (2000240,.fl [(101,0),(101,1),(101,2)]),
 (2000268,.fl [(17,0),(17,1),(17,2),(9,3)]),
 (2000280,.fl [(12,0),(12,1),(101,2),(274,3),(5,4),(5,5),(275,6),(276,7),(277,8),(278,9),(279,10)]),
 (2000281,.fl [(12,0),(12,1),(101,2),(274,3),(5,4),(5,5),(275,6),(276,7),(277,8),(278,9),(279,10)]),
 (2000282,.fl [(9,0)])]
theorem zO:wC Tryz.prog TT=true:=by kernel_rfl
theorem yX:Tryz.prog.follows .mixedOrders=true:=by kernel_rfl
structure Vl where
 k:Int
 nn:Bool
 nl:List Nat
 dn:Bool
 dl:List Nat
 s:ByteArray
 r:Int
def iD(n:Int):List D:=[.v (.int .i64 n)]
def sD(s:ByteArray):List D:=[.v (.string s)]
def uD(n:Nat):List D:=[.v (.int .u32 n)]
def vlD(x:Vl):List D:=[.v (.int .i64 x.k),.v (.bool x.nn),.sl false 1 x.nl uD 0,.v (.bool x.dn),.sl false 1 x.dl uD 0,.v (.string x.s),.v (.int .i64 x.r)]
def vl0:Vl:=⟨0,false,[],false,[],ByteArray.empty,0⟩
structure Ob where
 kind:Int
 name:ByteArray
 cls:Int
 refs:List Int
 order:List Int
 names:List ByteArray
 items:List Vl
 keys:List Vl
 code:Int
 state:Int
def ob0:Ob:=⟨0,ByteArray.empty,0,[],[],[],[],[],0,0⟩
def isD(l:List Int):D:= .sl false 1 l iD 0
def ssD(l:List ByteArray):D:= .sl false 1 l sD ByteArray.empty
def usD(l:List Nat):D:= .sl false 1 l uD 0
def vsD(l:List Vl):D:= .sl false 7 l vlD vl0
def obD(o:Ob):List D:=[.v (.int .i64 o.kind),.v (.string o.name),.v (.int .i64 o.cls),.sl false 1 o.refs iD 0,.sl false 1 o.order iD 0,.sl false 1 o.names sD ByteArray.empty,.sl false 7 o.items vlD vl0,.sl false 7 o.keys vlD vl0,.v (.int .i64 o.code),.v (.int .i64 o.state)]
def hpD(md:Bool)(h:List Ob):D:= .agg [.sl md 10 h obD ob0]
def SubP(d d':D):Prop:=∀w s v,d.pv.p w s v->d'.pv.p w s v
theorem SubP.refl(d:D):SubP d d:=fun _ _ _ h=>h
abbrev u4:= @SubP.refl
theorem SubP.of_eq{d d':D}(h:d=d'):SubP d d':=by subst h;exact u4 d
abbrev u6:= @SubP.of_eq
theorem SubP.int{k:IntKind}{n m:Int}(h:n=m):SubP (.v (.int k n)) (.v (.int k m)):=by subst h;exact u4 _
abbrev u7:= @SubP.int
theorem SubP.bool{n m:Bool}(h:n=m):SubP (.v (.bool n)) (.v (.bool m)):=by subst h;exact u4 _
abbrev u5:= @SubP.bool
theorem SubP.nilSl{α:Type}{sz:Nat}{f:α->List D}{e:α}{l:List α}(h:l=[]):SubP (.v (.slice none 0 0)) (.sl false sz l f e):=by
 subst h;intro w s v hv;have hv':v= .slice none 0 0:=hv;subst hv';exact PV.sl_nil
abbrev u10:= @SubP.nilSl
theorem SubP.ownSl{α:Type}{k sz:Nat}{rows:List (List D)}{l:List α}{f:α->List D}{e:α}(h:rows=l.map f):SubP (.own k sz rows) (.sl false sz l f e):=by
 subst h;intro w s v hv;have hv':(PV.sl false sz (D.pvss (l.map f))).p w s v:=by rw[D.pv]at hv;exact hv
 rw[wW]at hv';exact hv'
theorem SubP.slrSl{α:Type}{m:Bool}{sz:Nat}{rows:List (List D)}{l:List α}{f:α->List D}{e:α}(h:rows=l.map f):SubP (.slr m sz rows) (.sl m sz l f e):=by
 subst h;intro w s v hv;have hv':(PV.sl m sz (D.pvss (l.map f))).p w s v:=hv;rw[wW]at hv';exact hv'
def SubPs:List D->List D->Prop
 |[],[]=>True
 |d::l,d'::l'=>SubP d d'/\SubPs l l'
 |_,_=>False
theorem SubPs.refl:∀l,SubPs l l
 |[]=>trivial
 |_::l=>⟨u4 _,SubPs.refl l⟩
theorem SubPs.all{w:World}{s:Sb}:∀{l l':List D}{vs:List Value},SubPs l l'->AllV w s (D.pvs l) vs->AllV w s (D.pvs l') vs
 |[],[],vs,_,h=>h
 |d::l,d'::l',[],_,hv=>by rw[D.pvs]at hv;exact hv.elim
 |d::l,d'::l',v::vs,h,hv=>by
  rw[D.pvs]at hv⊢;exact⟨h.1 _ _ _ hv.1,SubPs.all h.2 hv.2⟩
 |[],_::_,_,h,_=>h.elim
 |_::_,[],_,h,_=>h.elim
theorem SubP.agg{l l':List D}(h:SubPs l l'):SubP (.agg l) (.agg l'):=by
 intro w s v hv;rw[D.pv]at hv⊢;obtain⟨vs,h1,h2⟩:=hv;exact⟨vs,h1,h.all h2⟩
theorem SubP.tup{l l':List D}(h:SubPs l l'):SubP (.tup l) (.tup l'):=by
 intro w s v hv;rw[D.pv]at hv⊢;obtain⟨vs,h1,h2⟩:=hv;exact⟨vs,h1,h.all h2⟩
theorem Sub.ofP{d d':D}(h:SubP d d')(hd:d.pure=true)(hd':d'.flat=true):Sub d d':=fun _ _ _ _ hv=>D.ofPV hd' (h _ _ _ (D.reads hd hv))
theorem PFun.out{P:Program}{f:FuncId}{args:List PV}{d d':D}(h:PFun P f args d.pv)(hs:SubP d d'):PFun P f args d'.pv:=
 ⟨h.bod,fun w s vs hl hg hv=>(h.run w s vs hl hg hv).mono fun _ _ ⟨s',v,h1,h2,h3⟩=>⟨s',v,h1,hs _ _ _ h2,h3⟩⟩
theorem PFun.args{P:Program}{f:FuncId}{args args':List D}{out:PV}(h:PFun P f (D.pvs args) out)(hs:SubPs args' args):PFun P f (D.pvs args') out:=
 ⟨h.bod,fun w s vs hl hg hv=>h.run w s vs hl hg (hs.all hv)⟩
theorem OFun.args{P:Program}{f:FuncId}{args args':List D}{e:TypeId}{sz:Nat}{rows:List (List PV)}(h:OFun P f (D.pvs args) e sz rows)(hs:SubPs args' args):OFun P f (D.pvs args') e sz rows:=
 ⟨h.bod,fun w s vs hl hg hv=>h.run w s vs hl hg (hs.all hv)⟩
def FinO(rs:List ResultVar)(e:TypeId)(sz:Nat)(rows:List (List D))(ex:Exit)(S:DS):Prop:=
 (ex= .ret\/ex= .normal)/\∃t,rs=[.tmp t]/\((∃k rows',yQ t S.tm=some (.own k sz rows')/\yQ k S.ow=some (.row e sz rows'.length)/\rows'=rows)\/(yQ t S.tm=some (.v (.slice none 0 0))/\rows=[]))
theorem FinO.ret{t:Nat}{e:TypeId}{sz k n:Nat}{rows rows':List (List D)}{S:DS}(h1:yQ t S.tm=some (.own k sz rows'))(h2:yQ k S.ow=some (.row e sz n))(hn:n=rows'.length)(h3:rows'=rows):FinO [.tmp t] e sz rows .ret S:=
 ⟨.inl rfl,t,rfl,.inl ⟨k,rows',h1,by rw[h2,hn],h3⟩⟩
theorem FinO.nil{t:Nat}{e:TypeId}{sz:Nat}{rows:List (List D)}{S:DS}(h1:yQ t S.tm=some (.v (.slice none 0 0)))(h3:rows=[]):FinO [.tmp t] e sz rows .ret S:=
 ⟨.inl rfl,t,rfl,.inr ⟨h1,h3⟩⟩
section
variable{P:Program}
theorem ofun_ev{f:FuncId}{fn:Func}{c:Code}{n:Nat}{args:List D}{rs:List ResultVar}{e:TypeId}{sz:Nat}{rows:List (List D)}(hf:P.funcs[f]?=some fn)(hb:fn.body=some c)(hn:fn.ntmps=n)(hr:fn.results=rs.toArray)(hm:(fn.name== "runtime.NumGoroutine")=false)(hl:Nat.ble args.length n=true)(hfl:D.flats args=true)
  (h:∀b:Ba,b.sz=n->Ev P b c ⟨argD 0 args,[],0⟩ (FinO rs e sz rows)):OFun P f (D.pvs args) e sz (D.pvss rows):=by
 have hl:=An hl;refine⟨⟨fn,hf,hm,by rw[hb];rfl⟩,fun w s vs hlt hgl hv=>calls_of_wp hf hb ?_⟩;have hlen:=hv.length;rw[jF]at hlen;have hr0:Rel ⟨w,s,fun _=>False,n,⟨fun _=>none,fun _ _=>none⟩,[]⟩ w s ⟨fun _=>none,fun _ _=>none⟩ (DS.ste ⟨argD 0 args,[],0⟩) {tmps:=vs.toArray++Array.replicate (fn.ntmps-vs.toArray.size) undef,defers:=[]}:=by
  refine⟨⟨Ex.refl w s,(fun B o h=> .inl h),(fun B o h=> .inl h),rfl,rfl,rfl,Ap _,fun _ _ _=>rfl,hgl⟩,hlt,?_,fun t d ht=>?_,(fun _ _ h=>by cases h),(fun _ _ _ _ _ h=>by cases h),fun _ _=>⟨rfl,fun _=>rfl⟩,rfl,fun _ _=>⟨(fun _ h=>by cases h),fun _ _ h=>by cases h⟩⟩
  ·simp;omega
  ·have ht':fnd t (tvs (argD 0 args))=some d:=ht;rw[qE]at ht'
   cases hx:yQ t (argD 0 args)with
   |none=>rw[hx]at ht';cases ht'
   |some e=>
    rw[hx]at ht';cases ht';obtain⟨j,h1,h2⟩:=tJ hx;obtain⟨v,h3,h4⟩:=hv.get (bK h2);have hj:=(Ac.1 h3).1;refine⟨v,?_,D.ofPV (pK hfl (Aw h2)) h4⟩;have ht':t=j:=by omega
    rw[ht',Cu (by simpa using hj)];simpa using h3
 refine h _ rfl w s _ _ _ hr0 fun ex w' s' g' a' S' h1 h2=>?_;obtain⟨he,t,rfl,h3⟩:=h2;have hp:PStp w s w' s':=⟨h1.kp.ex,h1.lt,h1.kp.os,h1.kp.tape,h1.kp.output,h1.kp.size,fun N hN=>h1.kp.block N hN id,fun B o hs=>(h1.kp.st B o hs).elim .inl fun x=>x.elim .inr fun x=>x.elim,fun B o hs=>(h1.kp.sst B o hs).elim .inl fun x=>x.elim .inr fun x=>x.elim⟩;have fin:∀v,a'.tmps[t]?=some v->∀R:Ending->World->Prop,R (.returned v) w'->bodyPost P fn R ex a' w':=by
  intro v hv R hR;have h4:Rel ⟨w,s,fun _=>False,n,⟨fun _=>none,fun _ _=>none⟩,[]⟩ w' s' g' ⟨[(t,.pv (PV.lit v))],[],S'.nx⟩ a':=⟨h1.kp,h1.lt,h1.sz,fun t' d hd=>by
   rw[zY]at hd;by_cases e1:t=t'
   ·subst e1;simp at hd;subst hd;exact⟨v,hv,rfl⟩
   ·simp[e1,fnd]at hd,(fun _ _ h=>by cases h),(fun _ _ _ _ _ h=>by cases h),h1.fr,h1.df,h1.gb⟩
  refine Fin.post (out:=PV.lit v) h4 ⟨he,?_⟩ fun u hu=>by
   have:u=v:=hu;rw[this];exact hR
  rw[hr];exact⟨_,by rw[zY];simp;rfl,rfl⟩
 rcases h3 with⟨k,rows',h4,h5,rfl⟩|⟨h4,rfl⟩
 ·obtain⟨v,h6,h7⟩:=h1.tm t (.own k sz (D.pvss rows')) (by show fnd t (tvs S'.tm)=_;rw[qE,h4];simp only[Option.map,D.tv]);obtain⟨h8,h9⟩:=h1.ow k (.row e sz rows'.length) (by show fnd k (ows S'.ow)=_;rw[qD,h5];rfl);exact fin v h6 _ ⟨s',g',k,v,rfl,h7,by rw[yI];exact h8,fun N hN=>by rw[yI]at hN;exact(h9 N hN).elim id fun x=>x.elim,hp⟩
 ·obtain⟨v,h6,h7⟩:=h1.tm t (.pv (PV.lit (.slice none 0 0))) (by show fnd t (tvs S'.tm)=_;rw[qE,h4];rfl);have h7':v= .slice none 0 0:=h7;subst h7';have hst:=Stp.ghostRow (w:=w') (s:=s') (k:=S'.nx) (sz:=sz) (e:=e) h1.lt (h1.fr S'.nx (Ap _));refine fin _ h6 _ ⟨s',g'.setRow S'.nx 0 (.slice none 0 0),S'.nx,.slice none 0 0,rfl,?_,hst.ok _ _ (by rw[zY];simp;rfl),fun N hN=>?_,hp⟩
  ·rw[TV.P];exact⟨PV.sl_nil,Gh.setRow_eq _ _ _ _⟩
  ·have h0:([]:List (List D)).length=0:=rfl;rw[yI,h0,uF (Gh.setRow_eq _ _ _ _)]at hN
   cases hN
end
section
variable{P:Program}{b:Ba}{ops:Array Oper}
theorem eqIn_nil(d:Nat){t e:TypeId}(h:P.underlying t=some (.slice e))(w:World)(a:Option Addr)(n c:Nat):(Op.equalIn (d+1) t (.slice a n c) (.slice none 0 0)).run P w= .ok a.isNone w:=by
 cases a<;>simp[Op.equalIn,run_underlying h]
theorem run_nilEq{T T' e:TypeId}{t3 t4 n:Nat}{ty:TypeId}{pos:String}{aft:Array Edge}{rest:List Oper}{tm:List (Nat×TV)}{ow:List (Nat×Own)}{nx:Nat}{K:Ste->Prop}{d:TV}(hu:P.underlying T=some (.slice e))(ht:fnd t3 tm=some d)
  (hd:∀w s g v,d.P w s g v->∃a c,v= .slice a n c/\(a=none->n=0)) (h4:t4<b.sz) (h:∀c:Bool,(c=true->n=0)->Run P b ops rest ⟨(t4,.pv (PV.lit (.bool c)))::tm,ow,nx⟩ K):
  Run P b ops (⟨some t4,.binOp .eql T (.tmp t3) (.const (.slice none 0 0)) T',ty,pos,aft,none⟩::rest) ⟨tm,ow,nx⟩ K:=by
 intro w s g a Q hr hK;obtain⟨v,hv,hp⟩:=hr.tm t3 d ht;obtain⟨ad,c,rfl,hn⟩:=hd w s g v hp;refine wpList_step fun K' hK'=>?_;have hw:Region.wanted (⟨some t4,.binOp .eql T (.tmp t3) (.const (.slice none 0 0)) T',ty,pos,aft,none⟩:Oper) (yielded ops a.tmps)=true:=rfl;rw[hw];simp only[if_true];unfold Oper.wp;have hev:a.eval (.tmp t3)= .slice ad n c:=by simp[Act.eval,hv]
 have hev0:a.eval (.const (.slice none 0 0))= .slice none 0 0:=rfl;have he:(execOp a.eval ⟨some t4,.binOp .eql T (.tmp t3) (.const (.slice none 0 0)) T',ty,pos,aft,none⟩).run P w= .ok (.value (.bool ad.isNone)) w:=by
  have heq':(Op.equal T (.slice ad n c) (.slice none 0 0)).run P w= .ok ad.isNone w:=eqIn_nil 9999 hu w ad n c;simp[execOp,hev,hev0,eqGuard,binOp,heq']
 rw[he];refine hK' _ _ (h ad.isNone (fun e=>hn (by cases ad with|none=>rfl|some _=>cases e)) w s g _ Q ?_ hK);exact(hr.step (acc:=[]) (acc':=[]) (dst:=some t4) (out:= .pv (PV.lit (.bool ad.isNone))) (v:= .bool ad.isNone) (nx:=nx) (Stp.refl w s g hr.lt) (fun k c h=>by cases h) (fun k c h=>by cases h) (Ap _) (fun k c h=>by cases h) (fun d hd=>by cases hd;exact h4) rfl).congr (fun _ _ h=>h) (fun _ _ h=>h) (Ap _)
theorem uJ{α:Type}{id:Nat}{T T' e:TypeId}{t0 t3 t4 sz:Nat}{m:Bool}{ty1 ty2:TypeId}{pos1 pos2:String}{aft1 aft2:Array Edge}{l:List α}{f:α->List D}{e0:α}{tm:List (Nat×D)}{ow:List (Nat×DOwn)}{nx:Nat}{K:Exit->DS->Prop}(hu:P.underlying T=some (.slice e))(h0:yQ t0 tm=some (.sl m sz l f e0))
  (h3:Nat.blt t3 b.sz=true) (h4:Nat.blt t4 b.sz=true) (h:∀c:Bool,(c=true->l=[])->K .normal ⟨(t4,.v (.bool c))::(t3,.sl m sz l f e0)::tm,ow,nx⟩):
  Ev P b (.region id #[⟨some t3,.move (.tmp t0),ty1,pos1,aft1,none⟩,⟨some t4,.binOp .eql T (.tmp t3) (.const (.slice none 0 0)) T',ty2,pos2,aft2,none⟩] false) ⟨tm,ow,nx⟩ K:=by
 intro w s g a Q hr hK;have h0':fnd t0 (tvs tm)=some (D.sl m sz l f e0).tv:=by rw[qE,h0];rfl
 have hR:Run P b #[⟨some t3,.move (.tmp t0),ty1,pos1,aft1,none⟩,⟨some t4,.binOp .eql T (.tmp t3) (.const (.slice none 0 0)) T',ty2,pos2,aft2,none⟩] [⟨some t3,.move (.tmp t0),ty1,pos1,aft1,none⟩,⟨some t4,.binOp .eql T (.tmp t3) (.const (.slice none 0 0)) T',ty2,pos2,aft2,none⟩] ⟨tvs tm,ows ow,nx⟩ (fun S'=>∃S,S'=DS.ste S/\K .normal S):=by
  refine run_u (out:=(D.sl m sz l f e0).tv) (uZ0 h0') rfl h3 ?_;refine run_nilEq (d:=(D.sl m sz l f e0).tv) (n:=l.length) hu (by show fnd t3 ((t3,(D.sl m sz l f e0).tv)::tvs tm)=_;rw[zY];simp) (fun w s g v hv=>?_) (An h4) fun c hc=>run_nil ⟨⟨(t4,.v (.bool c))::(t3,.sl m sz l f e0)::tm,ow,nx⟩,rfl,h c fun e=>Ax (hc e)⟩;obtain⟨a,cap,g1,g2,g3,g4,g5⟩:=hv;refine⟨a,cap,by simpa using g1,fun ha=>?_⟩
  cases l with
  |nil=>rfl
  |cons x l=>
   obtain⟨b',off,e1,_⟩:=g5 0 (D.pvs (f x)) rfl;rw[ha]at e1;cases e1
 refine wp_region_lit (hR w s g a Q hr fun w' s' g' a' S' g1 g2=>?_);obtain⟨S,rfl,g3⟩:=g2;exact hK .normal w' s' g' a' S g1 g3
end
def Fn(P:Program)(f:FuncId)(args:List D)(out:D):Prop:=PFun P f (D.pvs args) out.pv
theorem Fn.args{P:Program}{f:FuncId}{args args':List D}{out:D}(h:Fn P f args out)(hs:SubPs args' args):Fn P f args' out:=PFun.args h hs
theorem Fn.out{P:Program}{f:FuncId}{args:List D}{d d':D}(h:Fn P f args d)(hs:SubP d d'):Fn P f args d':=PFun.out h hs
def FnO(P:Program)(f:FuncId)(args:List D)(e:TypeId)(sz:Nat)(rows:List (List D)):Prop:=OFun P f (D.pvs args) e sz (D.pvss rows)
theorem FnO.args{P:Program}{f:FuncId}{args args':List D}{e:TypeId}{sz:Nat}{rows:List (List D)}(h:FnO P f args e sz rows)(hs:SubPs args' args):FnO P f args' e sz rows:=OFun.args h hs
section
variable{P:Program}{E:Pn}{K:DS->Prop}
theorem zS(out:D){f:FuncId}{args:List D}{r:D->Out}(hF:Fn P f args out)(hfl:out.flat=true)(h:(r out).sat P E K):(Out.call none f args r).sat P E K:=sat_call out hF hfl h
theorem yP(out:D){e:Bool}{f:FuncId}{args:List D}{r:D->Out}(hF:e=true->Fn P f args out)(hfl:out.flat=true)(h:(r out).sat P E K):(Out.call (some e) f args r).sat P E K:=sat_callG out hF hfl h
theorem qZ(e sz:Nat)(rows:List (List D)){f:FuncId}{args:List D}{r:TypeId->Nat->List (List D)->Out}(hF:FnO P f args e sz rows)(h:(r e sz rows).sat P E K):(Out.callO f args r).sat P E K:=sat_callO e sz rows hF h
end
theorem yM{P:Program}{T:List (Nat×TI)}(hT:wC P T=true){f:FuncId}{fn:Func}{c:Code}{n:Nat}{args:List D}{rs:List ResultVar}{out:D}(hf:P.funcs[f]?=some fn)(hb:fn.body=some c)(hn:fn.ntmps=n)(hr:fn.results=rs.toArray)(hm:(fn.name== "runtime.NumGoroutine")=false)(hl:Nat.ble args.length n=true)(hfl:D.flats args=true)
  (h:∀(w0:World)(s0:Sb)(mx:(Nat->Prop)×Gh×List Deferred),Ev P ⟨w0,s0,mx.1,n,mx.2.1,mx.2.2⟩ c ⟨argD 0 args,[],0⟩ (FinV T rs out)):Fn P f args out:=
 pfun_ev hT hf hb hn hr hm hl hfl fun b hb'=>by obtain⟨w0,s0,mx,sz,g0,df⟩:=b;cases hb';exact h w0 s0 (mx,g0,df)
theorem pI{P:Program}{f:FuncId}{fn:Func}{c:Code}{n:Nat}{args:List D}{rs:List ResultVar}{e:TypeId}{sz:Nat}{rows:List (List D)}(hf:P.funcs[f]?=some fn)(hb:fn.body=some c)(hn:fn.ntmps=n)(hr:fn.results=rs.toArray)(hm:(fn.name== "runtime.NumGoroutine")=false)(hl:Nat.ble args.length n=true)(hfl:D.flats args=true)
  (h:∀(w0:World)(s0:Sb)(mx:(Nat->Prop)×Gh×List Deferred),Ev P ⟨w0,s0,mx.1,n,mx.2.1,mx.2.2⟩ c ⟨argD 0 args,[],0⟩ (FinO rs e sz rows)):FnO P f args e sz rows:=
 ofun_ev hf hb hn hr hm hl hfl fun b hb'=>by obtain⟨w0,s0,mx,sz,g0,df⟩:=b;cases hb';exact h w0 s0 (mx,g0,df)
def oneO:DOwn->Bool
 | .box _ cs=>uT cs
 |_=>true
theorem SubL.same:∀{l:List D},uT l=true->SubL l l
 |[],_=>trivial
 |d::l,h=>by
  unfold uT at h
  cases hd:d.one with
  |false=>rw[hd]at h;simp at h
  |true=>rw[hd]at h;exact⟨u0 d,hd,SubL.same h⟩
theorem SubO.same{c:DOwn}(h:oneO c=true):SubO c c:=by
 cases c with
 |box ty cs=>exact⟨rfl,SubL.same h⟩
 |row ty sz n=>exact⟨rfl,rfl,rfl⟩
 |mrow ty sz m=>exact⟨rfl,rfl,rfl⟩
 |map l=>exact rfl
 |itr l=>exact rfl
abbrev u13:= @SubO.same
def uQ0:List Nat->List (Nat×D)->(List (Nat×D)->Prop)->Prop
 |[],_,k=>k []
 |t::ks,tm,k=>match yQ t tm with
  |some d=>uQ0 ks tm fun r=>k ((t,d)::r)
  |none=>False
def uP0:List Nat->List (Nat×DOwn)->(List (Nat×DOwn)->Prop)->Prop
 |[],_,k=>k []
 |t::ks,ow,k=>match yQ t ow with
  |some c=>uP0 ks ow fun r=>k ((t,c)::r)
  |none=>False
theorem gH:∀{ks:List Nat}{tm:List (Nat×D)}{k:List (Nat×D)->Prop},uQ0 ks tm k->∃r,k r
 |[],_,_,h=>⟨[],h⟩
 |t::ks,tm,k,h=>by
  unfold uQ0 at h;split at h
  ·obtain⟨r,hr⟩:=gH h;exact⟨_,hr⟩
  ·exact h.elim
theorem gG:∀{ks:List Nat}{ow:List (Nat×DOwn)}{k:List (Nat×DOwn)->Prop},uP0 ks ow k->∃r,k r
 |[],_,_,h=>⟨[],h⟩
 |t::ks,tm,k,h=>by
  unfold uP0 at h;split at h
  ·obtain⟨r,hr⟩:=gG h;exact⟨_,hr⟩
  ·exact h.elim
section
variable{P:Program}{b:Ba}
theorem yB{ι:Type}(ks os:List Nat)(N:Nat)(chg:ι->List (Nat×D))(ochg:ι->List (Nat×DOwn))(μ:ι->Nat)(x0:ι){c:Code}{tm:List (Nat×D)}{ow:List (Nat×DOwn)}{nx:Nat}{K:Exit->DS->Prop}
  (h:uQ0 ks tm fun base=>uP0 os ow fun ob=>LeD ⟨tm,ow,nx⟩ ⟨chg x0++base,ochg x0++ob,N⟩/\∀x,Ev P b c ⟨chg x++base,ochg x++ob,N⟩ (exL (fun x=>⟨chg x++base,ochg x++ob,N⟩) μ x K)):Ev P b (.loop c) ⟨tm,ow,nx⟩ K:=by
 obtain⟨base,h1⟩:=gH h;obtain⟨ob,h2,h3⟩:=gG h1;exact ev_loop (fun x=>⟨chg x++base,ochg x++ob,N⟩) μ x0 h2 h3
theorem jJ(ks os:List Nat)(N:Nat)(chg:List (Nat×D))(ochg:List (Nat×DOwn)){c:Code}{tm:List (Nat×D)}{ow:List (Nat×DOwn)}{nx:Nat}{K:Exit->DS->Prop}
  (h:uQ0 ks tm fun base=>uP0 os ow fun ob=>LeD ⟨tm,ow,nx⟩ ⟨chg++base,ochg++ob,N⟩/\Ev P b c ⟨chg++base,ochg++ob,N⟩ K):Ev P b c ⟨tm,ow,nx⟩ K:=by
 obtain⟨base,h1⟩:=gH h;obtain⟨ob,h2,h3⟩:=gG h1;exact pM0 _ h2 h3
theorem xG{α:Type}(t:Nat){m:Bool}{sz:Nat}{l:List α}{f:α->List D}{e:α}{c:Code}{S:DS}{K:Exit->DS->Prop}(h0:yQ t S.tm=some (.sl m sz l f e))(h:l.length<=9223372036854775807->Ev P b c S K):Ev P b c S K:=by
 intro w s g a Q hr hK;obtain⟨v,h1,h2⟩:=hr.tm t (D.sl m sz l f e).tv (by show fnd t (tvs S.tm)=_;rw[qE,h0];rfl);obtain⟨a',cap,h3,h4,h5,_⟩:=h2;rw[Ao]at h4;exact h om w s g a Q hr hK
theorem ini{n:Int}(h1: -9223372036854775808<=n)(h2:n<=9223372036854775807):InI n:=⟨h1,h2⟩
theorem Dl{p:Prop}(h:p:=by first|exact trivial|omega|exact ini (by omega) (by omega)|(intro hh;simp at hh;exact ini om om)|(intro hh;simp at hh⊢;omega)|(simp at*;omega)|(simp_all;done)):p:=h
theorem xZ{P:Program}{E:Pn}{K:DS->Prop}{p:Prop}{r:Out}(h:r.sat P E K)(h1:p:=by exact Dl):(Out.need p r).sat P E K:=⟨h1,h⟩
theorem zH{P:Program}{E:Pn}{K:DS->Prop}{a b:Bool}{r:Out}(h:r.sat P E K)(h1:a=true->b=true:=by first|exact fun hh=>hh|(intro hh;simp at hh⊢;first|omega|exact hh|simp_all)|(simp_all;done)):(Out.imp a b r).sat P E K:=⟨h1,h⟩
theorem zF{P:Program}{E:Pn}{K:DS->Prop}{X Y:Out}(h:Y.sat P E K)(hs:Y.sat P E K->X.sat P E K:=by intro h;(repeat(first|refine zH ?_|refine xZ ?_));exact h):X.sat P E K:=hs h
theorem zf{P:Program}{E:Pn}{K:DS->Prop}{X:Out}{S:DS}(h:K S)(hs:K S->X.sat P E K:=by intro h;(repeat(first|refine zH ?_|refine xZ ?_));exact zC h):X.sat P E K:=hs h
end
def RowsP:List (List D)->List (List D)->Prop
 |[],[]=>True
 |r::l,r'::l'=>SubPs r r'/\RowsP l l'
 |_,_=>False
theorem RowsP.refl:∀l,RowsP l l
 |[]=>trivial
 |r::l=>⟨SubPs.refl r,RowsP.refl l⟩
theorem RowsP.append:∀{a b a' b':List (List D)},RowsP a a'->RowsP b b'->RowsP (a++b) (a'++b')
 |[],_,[],_,_,h=>h
 |_::_,_,_::_,_,h,h'=>⟨h.1,h.2.append h'⟩
 |[],_,_::_,_,h,_=>h.elim
 |_::_,_,[],_,h,_=>h.elim
theorem SubPs.len:∀{l l':List D},SubPs l l'->l.length=l'.length
 |[],[],_=>rfl
 |_::_,_::_,h=>by simp[h.2.len]
 |[],_::_,h=>h.elim
 |_::_,[],h=>h.elim
theorem SubPs.get:∀{l l':List D},SubPs l l'->∀{j:Nat}{d':D},l'[j]?=some d'->∃d,l[j]?=some d/\SubP d d'
 |[],[],_,j,d',hd=>by simp at hd
 |d::l,e::l',h,0,d',hd=>by simp at hd;subst hd;exact⟨d,rfl,h.1⟩
 |d::l,e::l',h,j+1,d',hd=>by simpa using h.2.get (by simpa using hd)
 |[],_::_,h,_,_,_=>h.elim
 |_::_,[],h,_,_,_=>h.elim
theorem RowsP.len:∀{l l':List (List D)},RowsP l l'->l.length=l'.length
 |[],[],_=>rfl
 |_::_,_::_,h=>by simp[h.2.len]
 |[],_::_,h=>h.elim
 |_::_,[],h=>h.elim
theorem RowsP.get:∀{l l':List (List D)},RowsP l l'->∀{j:Nat}{d':List D},l'[j]?=some d'->∃d,l[j]?=some d/\SubPs d d'
 |[],[],_,j,d',hd=>by simp at hd
 |d::l,e::l',h,0,d',hd=>by simp at hd;subst hd;exact⟨d,rfl,h.1⟩
 |d::l,e::l',h,j+1,d',hd=>by simpa using h.2.get (by simpa using hd)
 |[],_::_,h,_,_,_=>h.elim
 |_::_,[],h,_,_,_=>h.elim
theorem rowsP_sl{m:Bool}{sz:Nat}{rows rows':List (List D)}(h:RowsP rows rows'){w:World}{s:Sb}{v:Value}(hv:(PV.sl m sz (D.pvss rows)).p w s v):(PV.sl m sz (D.pvss rows')).p w s v:=by
 obtain⟨a,cap,rfl,h2,h3,h4,h5⟩:=hv;rw[yI]at h2;refine⟨a,cap,by rw[yI,yI,h.len],by rw[yI,<-h.len];exact h2,h3,fun row hrow=>?_,fun i row hr=>?_⟩
 ·rw[yJ]at hrow;obtain⟨r',hr',rfl⟩:=Bu.1 hrow;obtain⟨j,hj⟩:=Cw hr';obtain⟨r,hr,hs⟩:=h.get hj;rw[jF,<-hs.len,<-jF];exact h4 _ (by rw[yJ];exact Bu.2 ⟨r,Aw hr,rfl⟩)
 ·rw[yJ,Bf]at hr
  cases hq:rows'[i]? with
  |none=>rw[hq]at hr;cases hr
  |some r'=>
   rw[hq]at hr;cases hr;obtain⟨r,hr,hs⟩:=h.get hq;obtain⟨b,off,e1,hc⟩:=h5 i (D.pvs r) (by rw[yJ,Bf,hr];rfl);refine⟨b,off,e1,fun j d hd=>?_⟩;rw[uL,Bf]at hd
   cases hq2:r'[j]? with
   |none=>rw[hq2]at hd;cases hd
   |some d'=>
    rw[hq2]at hd;cases hd;obtain⟨d0,hd0,hsub⟩:=hs.get hq2;obtain⟨u,g1,g2,g3,g4⟩:=hc j d0.pv (by rw[uL,Bf,hd0];rfl);exact⟨u,g1,g2,hsub _ _ _ g3,g4⟩
theorem Sub.ownRows{k sz:Nat}{rows rows':List (List D)}(h:RowsP rows rows'):Sub (.own k sz rows) (.own k sz rows'):=by
 intro w s g v hv;rw[D.tv,TV.P]at hv⊢;refine⟨rowsP_sl h hv.1,?_⟩;have:=hv.2;rw[yI]at this⊢;rw[<-h.len];exact this
def setD:Nat->D->List D->List D
 |_,_,[]=>[]
 |0,d,_::l=>d::l
 |n+1,d,x::l=>x::setD n d l
theorem qG0{w:World}{s:Sb}{g g':Gh}{d:D}(hg:GLe g g')(hd:d.tv.P w s g' (.slice none 0 0)):∀{n:Nat}{l:List D}{vs:List Value},getS n l=some (.v (.slice none 0 0))->AllT w s g (D.tvl l) vs->AllT w s g' (D.tvl (setD n d l)) vs
 |_,[],_,h,_=>by simp[getS]at h
 |_,_::_,[],_,hv=>by rw[D.tvl]at hv;simp[AllT]at hv
 |0,x::l,v::vs,h,hv=>by
  simp only[getS,Option.some.injEq]at h;subst h;rw[D.tvl,AllT]at hv;have h1:v= .slice none 0 0:=hv.1;subst h1;rw[setD,D.tvl,AllT];exact⟨hd,AllT.mono (Ex.refl w s) hg hv.2⟩
 |n+1,x::l,v::vs,h,hv=>by
  rw[D.tvl,AllT]at hv;rw[setD,D.tvl,AllT];exact⟨TV.mono (Ex.refl w s) hg hv.1,qG0 hg hd (by simpa[getS]using h) hv.2⟩
theorem qF0{d:D}(hd:d.one=true):∀{n:Nat}{l:List D},(∀x∈D.tvl l,x.one=true)->∀x∈D.tvl (setD n d l),x.one=true
 |_,[],h=>by cases‹Nat›<;>exact h
 |0,y::l,h=>by
  rw[setD,D.tvl];rw[D.tvl]at h;intro x hx;rcases Bc.1 hx with rfl|hx
  ·exact D.tv_one hd
  ·exact h x (Bl _ hx)
 |n+1,y::l,h=>by
  rw[setD,D.tvl];rw[D.tvl]at h;intro x hx;rcases Bc.1 hx with rfl|hx
  ·exact h _ By
  ·exact qF0 hd (fun z hz=>h z (Bl _ hz)) x hx
section
variable{P:Program}{b:Ba}
theorem dZ(k off:Nat)(ty:TypeId)(sz:Nat){c:Code}{tm:List (Nat×D)}{ow:List (Nat×DOwn)}{nx:Nat}{K:Exit->DS->Prop}{bt:TypeId}{cs:List D}(hk:yQ k ow=some (.box bt cs))(ht:getS off cs=some (.v (.slice none 0 0)))
  (h:Ev P b c ⟨tm,(nx,.row ty sz 0)::(k,.box bt (setD off (.own nx sz []) cs))::ow,nx+1⟩ K):Ev P b c ⟨tm,ow,nx⟩ K:=by
 intro w s g a Q hr hK;have hfr:=hr.fr nx (Ap _);have hst:=Stp.ghostRow (w:=w) (s:=s) (k:=nx) (sz:=sz) (e:=ty) hr.lt hfr;have hk0:fnd k (ows ow)=some (.box bt (D.tvl cs)):=by rw[qD,hk];rfl
 have hkn:k≠nx:=by have:=hr.owLt hk0;rintro rfl;exact Nat.lt_irrefl _ this
 have hown:(D.own nx sz []).tv.P w s (g.setRow nx 0 (.slice none 0 0)) (.slice none 0 0):=by
  rw[D.tv,TV.P];exact⟨PV.sl_nil,Gh.setRow_eq _ _ _ _⟩
 have key:∀{j:Nat}{x:Own},fnd j ((nx,Own.row ty sz 0)::(k,Own.box bt (D.tvl (setD off (.own nx sz []) cs)))::ows ow)=some x->
   (j=nx/\x= .row ty sz 0)\/(j≠nx/\∃x0,fnd j (ows ow)=some x0/\blk (g.setRow nx 0 (.slice none 0 0)) j x=blk g j x0/\Ok1 w s (g.setRow nx 0 (.slice none 0 0)) j x):=by
  intro j x hj;rw[zY]at hj;by_cases hjn:nx=j
  ·simp only[hjn,if_true]at hj;cases hj;exact .inl ⟨hjn.symm,rfl⟩
  ·simp only[hjn,if_false]at hj;rw[zY]at hj;by_cases hjk:k=j
   ·simp only[hjk,if_true]at hj
    cases hj;subst hjk;obtain⟨N,vs,g1,g2,g3,g4,g5⟩:=(hr.ow k _ hk0).1;exact .inr ⟨Ne.symm hjn,_,hk0,rfl,N,vs,g1,g2,qG0 hst.gle hown ht g3,qF0 rfl g4,g5⟩
   ·simp only[hjk,if_false]at hj;have h1:=(hr.ow j x hj).1;have hsame:=hst.same j (by rw[zY];simp[hjn,fnd]);exact .inr ⟨Ne.symm hjn,x,hj,gN h1 hst.gle,h1.keep (Ex.refl w s) hst.gle hsame.2 (fun _ _=>rfl) (fun _ _ _ h=>h)⟩
 refine h w s (g.setRow nx 0 (.slice none 0 0)) a Q ⟨hr.kp,hr.lt,hr.sz,fun u d hd=>?_,fun j x hj=>?_,fun j j' x x' N hj hj' hne hb=>?_,fun j hj=>?_,hr.df,fun k hk=>⟨(hr.gb k hk).1,fun m v e=>hst.gle.gn k m v ((hr.gb k hk).2 m v e)⟩⟩ hK
 ·obtain⟨v,h1,h2⟩:=hr.tm u d hd;exact⟨v,h1,TV.mono (Ex.refl w s) hst.gle h2⟩
 ·rcases key hj with⟨rfl,rfl⟩|⟨_,x0,g1,g2,g3⟩
  ·refine⟨hst.ok _ _ (by rw[zY];simp),fun N hN=>?_⟩;rw[uF (Gh.setRow_eq _ _ _ _)]at hN
   cases hN
  ·exact⟨g3,fun N hN=>(hr.ow j x0 g1).2 N (by rw[<-g2];exact hN)⟩
 ·intro hb';rcases key hj with⟨rfl,rfl⟩|⟨_,x0,g1,g2,g3⟩
  ·rw[uF (Gh.setRow_eq _ _ _ _)]at hb;cases hb
  ·rcases key hj' with⟨rfl,rfl⟩|⟨_,x1,g4,g5,g6⟩
   ·rw[uF (Gh.setRow_eq _ _ _ _)]at hb';cases hb'
   ·rw[g2]at hb;rw[g5]at hb';exact hr.sep j j' x0 x1 N g1 g4 hne hb hb'
 ·have hj':nx+1<=j:=hj;obtain⟨f1,f2⟩:=hr.fr j (by show nx<=j;omega);exact⟨f1,fun m=>by rw[Gh.setRow_ne _ _ om];exact f2 m⟩
end
def FnG(P:Program)(f:FuncId)(args:List D)(own:List DOwn)(out:D)(own':List DOwn):Prop:=GFun P f (D.tvl args) (ows (uE 0 own)) out.tv (ows (uE 0 own'))
def FnP(P:Program)(E:Pn)(f:FuncId)(args:List D)(own:List DOwn)(out:D)(own':List DOwn):Prop:=GFunE P E f (D.tvl args) (ows (uE 0 own)) out.tv (ows (uE 0 own'))
section
variable{P:Program}{E:Pn}{K:DS->Prop}
theorem vR(out:D){f:FuncId}{args:List D}{r:D->Out}(hF:Fn P f args out)(hfl:out.flat=true)(hs:out.str=true)(h:(r out).sat P E K):(Out.callL none f args r).sat P E K:=⟨out,fun _=>hF,hfl,hs,h⟩
theorem qI0(out:D){e:Bool}{f:FuncId}{args:List D}{r:D->Out}(hF:e=true->Fn P f args out)(hfl:out.flat=true)(hs:out.str=true)(h:(r out).sat P E K):(Out.callL (some e) f args r).sat P E K:=
 ⟨out,fun h=>hF (by cases e with|true=>rfl|false=>exact absurd rfl h),hfl,hs,h⟩
theorem vS(out:D)(own':List DOwn){f:FuncId}{args:List D}{n:Nat}{own:List DOwn}{r:D->List DOwn->Out}(hF:FnG P f args own out own')(hc:chkG n out own'=true)(h:(r out own').sat P E K):(Out.callG f args n own r).sat P E K:=⟨out,own',hF.toE,hc,h⟩
end
def frzD(k sz:Nat)(m:MR):D->D
 | .mo k' n=>match Nat.beq k' k with
  |true=> .own k sz m.rows
  |false=> .mo k' n
 | .mw k' q i z n=>match Nat.beq k' k with
  |true=> .slr false sz ((m.rows.drop i).take n)
  |false=> .mw k' q i z n
 |d=>d
def frzL(k sz:Nat)(m:MR):List D->List D
 |[]=>[]
 |d::l=>frzD k sz m d::frzL k sz m l
def frzT(k sz:Nat)(m:MR):List (Nat×D)->List (Nat×D)
 |[]=>[]
 |(t,d)::l=>(t,frzD k sz m d)::frzT k sz m l
def frzO(k:Nat)(e:TypeId)(sz:Nat)(m:MR):List (Nat×DOwn)->List (Nat×DOwn)
 |[]=>[]
 |(j,c)::l=>(match Nat.beq j k with
  |true=>(j,.row e sz m.rows.length)
  |false=>match c with
   | .box t cs=>(j,.box t (frzL k sz m cs))
   |c=>(j,c))::frzO k e sz m l
def frzC(k sz:Nat)(m:MR):D->Prop
 | .mo k' n=>k'=k->n=m.len
 | .mw k' q _ z _=>k'=k->q=m.len/\z=sz
 |_=>True
def gF0(k sz:Nat)(m:MR):List D->Prop
 |[]=>True
 |d::l=>frzC k sz m d/\gF0 k sz m l
def mI0(k sz:Nat)(m:MR):List (Nat×D)->Prop
 |[]=>True
 |(_,d)::l=>(match d with| .mo k' n=>(match Nat.beq k' k with|true=>n=m.len|false=>True)| .mw k' q _ z _=>(match Nat.beq k' k with|true=>q=m.len/\z=sz|false=>True)|_=>True)/\mI0 k sz m l
def gE0(k sz:Nat)(m:MR):List (Nat×DOwn)->Prop
 |[]=>True
 |(_,.box _ cs)::l=>gF0 k sz m cs/\gE0 k sz m l
 |_::l=>gE0 k sz m l
theorem jC0{k sz:Nat}{m:MR}:∀{l:List (Nat×D)}{t:Nat},yQ t (frzT k sz m l)=(yQ t l).map (frzD k sz m)
 |[],_=>rfl
 |(u,d)::l,t=>by
  show yQ t ((u,frzD k sz m d)::frzT k sz m l)=_;rw[yN,yN];by_cases h:u=t
  ·simp[h]
  ·rw[Aa h,Aa h];exact jC0
theorem cU{k sz:Nat}{m:MR}:∀{l:List (Nat×D)}{t:Nat}{d:D},mI0 k sz m l->yQ t l=some d->frzC k sz m d
 |[],_,_,_,h=>by cases h
 |(u,e)::l,t,d,hc,h=>by
  rw[yN]at h;by_cases hu:u=t
  ·rw[Ag hu]at h;cases h;have h1:=hc.1
   cases e with
   |mo k' n=>
    intro e';subst e';have h1:(match Nat.beq k' k' with|true=>n=m.len|false=>True):=h1;rw[Nat.beq_refl]at h1;exact h1
   |mw k' q i z n=>
    intro e';subst e';have h1:(match Nat.beq k' k' with|true=>q=m.len/\z=sz|false=>True):=h1;rw[Nat.beq_refl]at h1;exact h1
   |_=>trivial
  ·rw[Aa hu]at h;exact cU hc.2 h
theorem wL0{w:World}{s s':Sb}{g:Gh}{k sz:Nat}{m:MR}(hx:Ex w s w s')(hmo:∀v,(TV.mo k (D.pvss m.rows).length).P w s g v->(TV.own k sz (D.pvss m.rows)).P w s' g v){d:D}(hc:frzC k sz m d){v:Value}(hv:d.tv.P w s g v):(frzD k sz m d).tv.P w s' g v:=by
 have plain:d.tv.P w s' g v:=TV.mono hx (GLe.refl g) hv
 cases d with
 |mo k' n=>
  show(match Nat.beq k' k with|true=>D.own k sz m.rows|false=>D.mo k' n).tv.P w s' g v
  cases hb:Nat.beq k' k with
  |false=>exact plain
  |true=>
   have e:=Ab hb;subst e;rw[D.tv]at hv;have hn:n=m.len:=hc rfl;rw[hn,<-MR.len_rows,<-yI]at hv;show(D.own k' sz m.rows).tv.P w s' g v;rw[D.tv];exact hmo v hv
 |mw k' q i z n=>
  show(match Nat.beq k' k with|true=>D.slr false sz ((m.rows.drop i).take n)|false=>D.mw k' q i z n).tv.P w s' g v
  cases hb:Nat.beq k' k with
  |false=>exact plain
  |true=>
   have e:=Ab hb;subst e;rw[D.tv]at hv;obtain⟨hq,hz⟩:=hc rfl;subst hz;rw[hq,<-MR.len_rows,<-yI]at hv;show(PV.sl false z (D.pvss ((m.rows.drop i).take n))).p w s' v;rw[yJ ((m.rows.drop i).take n),Cy,Cv,<-yJ];exact mw_frozen hmo hv
 |_=>exact plain
theorem wK0{w:World}{s s':Sb}{g:Gh}{k sz:Nat}{m:MR}(hx:Ex w s w s')(hmo:∀v,(TV.mo k (D.pvss m.rows).length).P w s g v->(TV.own k sz (D.pvss m.rows)).P w s' g v):∀{l:List D}{vs:List Value},gF0 k sz m l->AllT w s g (D.tvl l) vs->AllT w s' g (D.tvl (frzL k sz m l)) vs
 |[],vs,_,hv=>by cases vs with|nil=>rw[frzL,D.tvl];trivial|cons _ _=>exact hv.elim
 |d::l,[],_,hv=>by rw[D.tvl]at hv;exact hv.elim
 |d::l,v::vs,hc,hv=>by
  rw[D.tvl]at hv;rw[frzL,D.tvl];exact⟨wL0 hx hmo hc.1 hv.1,wK0 hx hmo hc.2 hv.2⟩
theorem jE0{k sz:Nat}{m:MR}:∀{l:List D},(∀d∈D.tvl l,d.one=true)->∀d∈D.tvl (frzL k sz m l),d.one=true
 |[],_,d,hd=>by rw[frzL,D.tvl]at hd;cases hd
 |x::l,h,d,hd=>by
  rw[frzL,D.tvl]at hd;rw[D.tvl]at h;rcases Bc.1 hd with rfl|hd
  ·have h1:=h x.tv (by simp)
   cases x with
   |mo k' n=>
    show(match Nat.beq k' k with|true=>D.own k sz m.rows|false=>D.mo k' n).tv.one=true
    cases Nat.beq k' k<;>rfl
   |mw k' q i z n=>
    show(match Nat.beq k' k with|true=>D.slr false sz ((m.rows.drop i).take n)|false=>D.mw k' q i z n).tv.one=true
    cases Nat.beq k' k<;>rfl
   |_=>exact h1
  ·exact jE0 (fun y hy=>h y (by simp[hy])) d hd
theorem jD0{k:Nat}{e:TypeId}{sz:Nat}{m:MR}:∀{l:List (Nat×DOwn)}{j:Nat}{c:DOwn},yQ j (frzO k e sz m l)=some c->∃c0,yQ j l=some c0/\((j=k/\c= .row e sz m.rows.length)\/(j≠k/\((∃t cs,c0= .box t cs/\c= .box t (frzL k sz m cs))\/(c=c0/\∀t cs,c0≠ .box t cs))))
 |[],_,_,h=>by cases h
 |(i,c0)::l,j,c,h=>by
  unfold frzO at h;have step:∀x:DOwn,yQ j ((i,x)::frzO k e sz m l)=some c->(i=j/\x=c)\/(i≠j/\yQ j (frzO k e sz m l)=some c):=fun x hx=>by
   rw[yN]at hx;by_cases hi:i=j
   ·rw[Ag hi]at hx;exact .inl ⟨hi,Option.some.inj hx⟩
   ·rw[Aa hi]at hx;exact .inr ⟨hi,hx⟩
  have rest:i≠j->yQ j (frzO k e sz m l)=some c->∃c0',yQ j ((i,c0)::l)=some c0'/\((j=k/\c= .row e sz m.rows.length)\/(j≠k/\((∃t cs,c0'= .box t cs/\c= .box t (frzL k sz m cs))\/(c=c0'/\∀t cs,c0'≠ .box t cs)))):=fun hi hx=>by
   obtain⟨c1,h1,h2⟩:=jD0 hx;exact⟨c1,by rw[yN,Aa hi];exact h1,h2⟩
  cases hb:Nat.beq i k with
  |true=>
   rw[hb]at h;have hik:=Ab hb;rcases step _ h with⟨rfl,rfl⟩|⟨hi,hx⟩
   ·exact⟨c0,by rw[yN];simp,.inl ⟨hik,rfl⟩⟩
   ·exact rest hi hx
  |false=>
   rw[hb]at h;have hik:i≠k:=by rintro rfl;rw[Nat.beq_refl]at hb;cases hb
   cases c0 with
   |box t cs=>
    rcases step _ h with⟨rfl,rfl⟩|⟨hi,hx⟩
    ·exact⟨_,by rw[yN];simp,.inr ⟨hik,.inl ⟨t,cs,rfl,rfl⟩⟩⟩
    ·exact rest hi hx
   |row _ _ _=>
    rcases step _ h with⟨rfl,rfl⟩|⟨hi,hx⟩
    ·exact⟨_,by rw[yN];simp,.inr ⟨hik,.inr ⟨rfl,fun _ _ h=>by cases h⟩⟩⟩
    ·exact rest hi hx
   |mrow _ _ _=>
    rcases step _ h with⟨rfl,rfl⟩|⟨hi,hx⟩
    ·exact⟨_,by rw[yN];simp,.inr ⟨hik,.inr ⟨rfl,fun _ _ h=>by cases h⟩⟩⟩
    ·exact rest hi hx
   |map _=>
    rcases step _ h with⟨rfl,rfl⟩|⟨hi,hx⟩
    ·exact⟨_,by rw[yN];simp,.inr ⟨hik,.inr ⟨rfl,fun _ _ h=>by cases h⟩⟩⟩
    ·exact rest hi hx
   |itr _=>
    rcases step _ h with⟨rfl,rfl⟩|⟨hi,hx⟩
    ·exact⟨_,by rw[yN];simp,.inr ⟨hik,.inr ⟨rfl,fun _ _ h=>by cases h⟩⟩⟩
    ·exact rest hi hx
theorem vI{k sz:Nat}{m:MR}:∀{l:List (Nat×DOwn)}{j:Nat}{t:TypeId}{cs:List D},gE0 k sz m l->yQ j l=some (.box t cs)->gF0 k sz m cs
 |[],_,_,_,_,h=>by cases h
 |(i,c)::l,j,t,cs,hc,h=>by
  rw[yN]at h;by_cases hi:i=j
  ·rw[Ag hi]at h
   cases h;exact hc.1
  ·rw[Aa hi]at h
   cases c with
   |box _ _=>exact vI (l:=l) hc.2 h
   |row _ _ _=>exact vI (l:=l) hc h
   |mrow _ _ _=>exact vI (l:=l) hc h
   |map _=>exact vI (l:=l) hc h
   |itr _=>exact vI (l:=l) hc h
section
variable{P:Program}{b:Ba}
theorem pN(k:Nat){e:TypeId}{sz:Nat}{m:MR}{c:Code}{tm:List (Nat×D)}{ow:List (Nat×DOwn)}{nx:Nat}{K:Exit->DS->Prop}(hk:yQ k ow=some (.mrow e sz m))(hc:mI0 k sz m tm)(hco:gE0 k sz m ow)
  (h:Ev P b c ⟨frzT k sz m tm,frzO k e sz m ow,nx⟩ K):Ev P b c ⟨tm,ow,nx⟩ K:=by
 intro w s g a Q hr hK;have hk0:fnd k (ows ow)=some (.mrow e sz (D.pvss m.rows)):=by rw[qD,hk];rfl
 obtain⟨hok,hblk⟩:=hr.ow k _ hk0;obtain⟨p,hp,hrow,hmo⟩:=hok.freeze;have hx:Ex w s w (s.add p):=⟨fun _ _ h=> .inl h,fun _ _ _=>rfl,fun _ _ h=> .inl h⟩;have hbk:blk g k (.row e sz (D.pvss m.rows).length)=blk g k (.mrow e sz (D.pvss m.rows)):=rfl;have hlt:∀B o,p B o->B<w.heap.size:=fun B o hpo=>hok.lt (hp B o hpo).1;have hkeep:∀{j:Nat}{c:Own},fnd j (ows ow)=some c->j≠k->∀N o,blk g j c=some N->(s.add p) N o->s N o:=fun{j c}hj hne N o hb hs=>by
  rcases hs with hs|hs
  ·exact hs
  ·exact absurd hb (hr.sep k j _ c N hk0 hj (Ne.symm hne) (hp N o hs).1)
 have howf:∀{j:Nat}{c:Own},fnd j (ows (frzO k e sz m ow))=some c->∃c0,fnd j (ows ow)=some c0/\Ok1 w (s.add p) g j c/\blk g j c=blk g j c0:=fun{j c}hj=>by
  rw[qD]at hj
  cases hq:yQ j (frzO k e sz m ow)with
  |none=>rw[hq]at hj;cases hj
  |some d=>
   rw[hq]at hj
   cases hj;obtain⟨c0,h1,h2⟩:=jD0 hq;have h1':fnd j (ows ow)=some c0.o:=by rw[qD,h1];rfl
   refine⟨c0.o,h1',?_⟩;rcases h2 with⟨rfl,rfl⟩|⟨hne,⟨t,cs,rfl,rfl⟩|⟨rfl,_⟩⟩
   ·rw[hk]at h1
    cases h1;show Ok1 w (s.add p) g j (.row e sz m.rows.length)/\blk g j (.row e sz m.rows.length)=blk g j (.mrow e sz (D.pvss m.rows));rw[<-yI];exact⟨hrow,rfl⟩
   ·obtain⟨N,vs,g1,g2,g3,g4,g5⟩:=(hr.ow j _ h1').1;have hns:∀o,¬(s.add p) N o:=fun o ho=>g5 o (hkeep h1' hne N o g1 ho);exact⟨⟨N,vs,g1,g2,wK0 hx hmo (vI hco h1) g3,jE0 g4,hns⟩,rfl⟩
   ·exact⟨(hr.ow j _ h1').1.keep hx (GLe.refl g) (fun _=>rfl) (fun _ _=>rfl) (fun N o hb hs=>hkeep h1' hne N o hb hs),rfl⟩
 refine h w (s.add p) g a Q ⟨⟨hr.kp.ex.trans hx,fun B o hs=>?_,fun B o hs=>?_,hr.kp.os,hr.kp.tape,hr.kp.output,hr.kp.size,hr.kp.block,hr.kp.gl⟩,fun B o hs=>hs.elim (hr.lt B o) (hlt B o),hr.sz,fun t d hd=>?_,fun j c hj=>?_,fun j j' c c' N h1 h2 hne hb=>?_,hr.fr,hr.df,hr.gb⟩ hK
 ·rcases hs with hs|hs
  ·exact hr.kp.st B o hs
  ·exact .inr (hblk B (hp B o hs).1)
 ·rcases hs with hs|hs
  ·exact hr.kp.sst B o hs
  ·exact .inr (hblk B (hp B o hs).1)
 ·have hd':fnd t (tvs (frzT k sz m tm))=some d:=hd;rw[qE,jC0]at hd'
  cases hq:yQ t tm with
  |none=>rw[hq]at hd';cases hd'
  |some x=>
   rw[hq]at hd'
   cases hd';obtain⟨v,h1,h2⟩:=hr.tm t x.tv (by show fnd t (tvs tm)=_;rw[qE,hq];rfl);exact⟨v,h1,wL0 hx hmo (cU hc hq) h2⟩
 ·obtain⟨c0,h1,h2,h3⟩:=howf hj;exact⟨h2,fun N hb=>(hr.ow j c0 h1).2 N (by rw[<-h3];exact hb)⟩
 ·obtain⟨c0,e1,_,e3⟩:=howf h1;obtain⟨d0,f1,_,f3⟩:=howf h2;rw[f3];exact hr.sep j j' c0 d0 N e1 f1 hne (by rw[<-e3];exact hb)
end
def resH(T:List (Nat×TI))(S:DS):ResultVar->Option D
 | .tmp t=>yQ t S.tm
 | .cell t ty=>match yQ t S.tm with
  |some (.bp k off)=>match yQ k S.ow with
   |some (.box _ cs)=>match cls T ty with
    |some (some n)=>match kE (fun _=>true) n (wD off cs)with
     |some r=>some (.agg r)
     |none=>none
    |some none=>getS off cs
    |none=>none
   |_=>none
  |_=>none
def finH(T:List (Nat×TI))(S:DS):List ResultVar->Option D
 |[]=>some (.v (.tuple #[]))
 |[r]=>resH T S r
 |[r,q]=>match resH T S r,resH T S q with
  |some a,some b=>some (.tpo [a,b])
  |_,_=>none
 |[r,q,x]=>match resH T S r,resH T S q,resH T S x with
  |some a,some b,some c=>some (.tpo [a,b,c])
  |_,_,_=>none
 |_=>none
def qQ0(ks:List Nat)(kk:Nat)(ow:List (Nat×DOwn)):Nat->List DOwn->Prop
 |_,[]=>True
 |i,c::l=>(match yQ (qF ks kk i) ow with
  |some c0=>SubO c0 (c.ren (qF ks kk))
  |none=>False)/\qQ0 ks kk ow (i+1) l
def iota:Nat->List Nat
 |0=>[]
 |n+1=>iota n++[n]
theorem dV:∀n,iota n=List.range n
 |0=>rfl
 |n+1=>by rw[iota,dV n,List.range_succ]
def FinH(T:List (Nat×TI))(rs:List ResultVar)(n0:Nat)(out:D)(own':List DOwn)(ex:Exit)(S:DS):Prop:=
 (ex= .ret\/ex= .normal)/\∃kk d,n0<=kk/\finH T S rs=some d/\Sub d (out.ren (qF (iota n0) kk))/\qQ0 (iota n0) kk S.ow 0 own'
theorem FinH.ret{T:List (Nat×TI)}{rs:List ResultVar}{n0:Nat}{out d:D}{own':List DOwn}{S:DS}(kk:Nat)(hk:Nat.ble n0 kk=true)(h:finH T S rs=some d)(hs:Sub d (out.ren (qF (iota n0) kk)))(ho:qQ0 (iota n0) kk S.ow 0 own'):FinH T rs n0 out own' .ret S:=⟨.inl rfl,kk,d,An hk,h,hs,ho⟩
theorem mJ(n kk i:Nat):qF (iota n) kk i=if i<n then i else kk:=by
 rw[dV];have:∀(l:List Nat)(i:Nat),qF l kk i=(l[i]?).getD kk:=by
  intro l;induction l with
  |nil=>intro i;rfl
  |cons j l ih=>intro i;cases i with|zero=>rfl|succ i=>simpa[qF]using ih i
 rw[this];by_cases h:i<n<;>simp[h]
theorem jL0{l:List DOwn}{n:Nat}(hl:l.length<=n)(hid:∀c∈l,idO n c.o=true):KeyOk n (ows (uE 0 l)):=by
 have hmem:∀{i:Nat}{l:List DOwn}{x:Nat×DOwn},x∈uE i l->i<=x.1/\l[x.1-i]?=some x.2:=by
  intro i l;induction l generalizing i with
  |nil=>intro x hx;cases hx
  |cons c l ih=>
   intro x hx;rcases Bc.1 hx with rfl|hx
   ·simp
   ·obtain⟨h1,h2⟩:=ih hx;refine⟨by omega,?_⟩;rw[show x.1-i=(x.1-(i+1))+1 by omega];simpa using h2
 have hget:∀k,fnd k (ows (uE 0 l))=(l[k]?).map DOwn.o:=fun k=>by rw[qD,vK];simp
 have hm2:∀x∈ows (uE 0 l),∃c,l[x.1]?=some c/\x.2=c.o:=by
  intro x hx;obtain⟨y,hy,rfl⟩:=Bu.1 hx;exact⟨y.2,by simpa using(hmem hy).2,rfl⟩
 refine⟨fun x hx=>?_,fun x hx=>?_,fun k c hk=>?_⟩
 ·obtain⟨c,h1,_⟩:=hm2 x hx;have:=(Ac.1 h1).1;omega
 ·obtain⟨c,h1,h2⟩:=hm2 x hx;rw[h2];exact hid c (Aw h1)
 ·obtain⟨c',h1,h2⟩:=hm2 _ hk;rw[hget,h1];exact congrArg some h2.symm
theorem tG(l:List DOwn)(k:Nat):fnd k (ows (uE 0 l))=(l[k]?).map DOwn.o:=by rw[qD,vK];simp
theorem jZ0:∀(i:Nat)(l:List D),argG i (D.tvl l)=tvs (argD i l)
 |_,[]=>rfl
 |i,d::l=>by
  show(i,d.tv)::argG (i+1) (D.tvl l)=(i,d.tv)::tvs (argD (i+1) l);rw[jZ0]
section
variable{P:Program}{T:List (Nat×TI)}(hT:wC P T=true)
include hT
theorem kH{S:DS}{r:ResultVar}{d:D}(h:resH T S r=some d):Res1T P S.ste r d.tv:=by
 unfold resH at h;split at h
 ·rename_i t;show fnd t (tvs S.tm)=some d.tv;rw[qE,h];rfl
 ·rename_i t ty;split at h
  ·rename_i k off ht;split at h
   ·rename_i bt cs hk;have h1:fnd t S.ste.tm=some (.bp k off):=by show fnd t (tvs S.tm)=_;rw[qE,ht];rfl
    have h2:fnd k S.ste.ow=some (.box bt (D.tvl cs)):=by show fnd k (ows S.ow)=_;rw[qD,hk];rfl
    split at h
    ·rename_i n hc;split at h
     ·rename_i r hr
      cases h;obtain⟨g1,_,g3⟩:=jQ hr;rw[jX]at g1 g3;simp only[Ay]at g1;refine⟨k,off,bt,_,h1,h2,.inr ⟨n,(jY hT hc).2,by have:=(jY hT hc).1;rw[qU];omega,?_⟩⟩;rw[D.tv,g3,qH,qH,Cy,Cv]
     ·cases h
    ·rename_i hc;rw[vT]at h;exact⟨k,off,bt,_,h1,h2,.inl ⟨vZ hT hc,by rw[qH];simp[h]⟩⟩
    ·cases h
   ·cases h
  ·cases h
theorem finH_ok{S:DS}{rs:List ResultVar}{d:D}{ex:Exit}(he:ex= .ret\/ex= .normal)(h:finH T S rs=some d):FinT P rs.toArray d.tv ex S.ste:=by
 refine⟨he,?_⟩
 match rs,h with
 |[],h=>cases h;rfl
 |[r],h=>exact kH hT h
 |[r,q],h=>
  have h:(match resH T S r,resH T S q with|some a,some b=>some (D.tpo [a,b])|_,_=>none)=some d:=h
  cases ha:resH T S r with
  |none=>rw[ha]at h;cases h
  |some a=>
   cases hb:resH T S q with
   |none=>rw[ha,hb]at h;cases h
   |some b=>rw[ha,hb]at h;cases h;exact⟨a.tv,b.tv,kH hT ha,kH hT hb,rfl⟩
 |[r,q,x],h=>
  have h:(match resH T S r,resH T S q,resH T S x with|some a,some b,some c=>some (D.tpo [a,b,c])|_,_,_=>none)=some d:=h
  cases ha:resH T S r with
  |none=>rw[ha]at h;cases h
  |some a=>
   cases hb:resH T S q with
   |none=>rw[ha,hb]at h;cases h
   |some b=>
    cases hc:resH T S x with
    |none=>rw[ha,hb,hc]at h;cases h
    |some c=>rw[ha,hb,hc]at h;cases h;exact⟨a.tv,b.tv,c.tv,kH hT ha,kH hT hb,kH hT hc,rfl⟩
 |_::_::_::_::_,h=>cases h
def chkA(args:List D)(own:List DOwn):Bool:=match Nat.ble own.length 40 with
 |true=>match idBs own.length (D.tvl args)with
  |true=>idOs own.length own
  |false=>false
 |false=>false
theorem fnE_ev{E:Pn}{f:FuncId}{fn:Func}{c:Code}{n:Nat}{args:List D}{own own':List DOwn}{rs:List ResultVar}{out:D}(hf:P.funcs[f]?=some fn)(hb:fn.body=some c)(hn:fn.ntmps=n)(hr:fn.results=rs.toArray)(hm:(fn.name== "runtime.NumGoroutine")=false)(hl:Nat.ble args.length n=true)(ha:chkA args own=true)(hg:chkG own.length out own'=true)
  (h:∀(w0:World)(s0:Sb)(mx:(Nat->Prop)×Gh×List Deferred),Ev P ⟨w0,s0,mx.1,n,mx.2.1,mx.2.2⟩ c ⟨argD 0 args,uE 0 own,own.length⟩ fun ex S=>(∃ch,ex= .panic ch/\E ch)\/FinH T rs own.length out own' ex S):FnP P E f args own out own':=by
 obtain⟨c1,c2,c3,c4⟩:=yS0 hg;have hA:own.length<=40/\idBs own.length (D.tvl args)=true/\∀c∈own,idO own.length c.o=true:=by
  unfold chkA at ha
  cases h1:Nat.ble own.length 40 with
  |false=>rw[h1]at ha;cases ha
  |true=>
   cases h2:idBs own.length (D.tvl args)with
   |false=>rw[h1,h2]at ha;cases ha
   |true=>rw[h1,h2]at ha;exact⟨An h1,rfl,bU ha⟩
 obtain⟨a1,a2,a3⟩:=hA;refine GFunE.of hf hb hn hm (by rw[qU];exact An hl) (jL0 (Ap _) a3) a2 c1 a1 (jL0 (Ap _) c4) c3 (fun k hk=>⟨_,by rw[tG,Af hk];rfl⟩) (fun k hk=>⟨_,by rw[tG,Af hk];rfl⟩) fun b hb'=>?_;obtain⟨w0,s0,mx,sz,g0,df⟩:=b;have hb':sz=n:=hb';subst hb';intro w s g a Q hrel hK;refine h w0 s0 (mx,g0,df) w s g a Q (by rw[jZ0]at hrel;exact hrel) fun ex w' s' g' a' S' h1 h2=>hK ex w' s' g' a' S'.ste h1 (h2.imp id fun h2=>?_);obtain⟨he,kk,d,hkk,hd,hs,ho⟩:=h2;refine⟨qF (iota own.length) kk,fun k hk=>by rw[mJ,Ag hk],fun k hk=>by rw[mJ,Aa om];exact hkk,fun i j hi hj e=>?_,⟨d.tv,?_,fun w s g v hv=>by rw[<-D.ren_tv];exact hs w s g v hv⟩,fun k c hc=>?_⟩
 ·rw[mJ,mJ]at e;by_cases h3:i<own.length<;>by_cases h4:j<own.length<;>simp only[h3,h4,if_true,if_false]at e<;>omega
 ·rw[hr];exact finH_ok hT he hd
 ·rw[tG]at hc;have key:∀{i:Nat}{l:List DOwn}{m:Nat}{c:DOwn},qQ0 (iota own.length) kk S'.ow i l->l[m]?=some c->∃c0,yQ (qF (iota own.length) kk (i+m)) S'.ow=some c0/\SubO c0 (c.ren (qF (iota own.length) kk)):=by
   intro i l;induction l generalizing i with
   |nil=>intro m c _ hm;simp at hm
   |cons x l ih=>
    intro m c hle hm;obtain⟨h3,h4⟩:=hle
    cases m with
    |zero=>
     simp at hm;subst hm
     cases hq:yQ (qF (iota own.length) kk i) S'.ow with
     |none=>rw[hq]at h3;exact h3.elim
     |some c0=>rw[hq]at h3;exact⟨c0,by first|rfl|(rw[Ce];exact hq),h3⟩
    |succ m=>
     have:=ih h4 (m:=m) (by simpa using hm);rw[show i+(m+1)=i+1+m by omega];exact this
  cases hq:own'[k]? with
  |none=>rw[hq]at hc;cases hc
  |some c'=>
   rw[hq]at hc
   cases hc;obtain⟨c0,h3,h4⟩:=key ho hq;rw[Bv]at h3;refine⟨c0.o,by show fnd _ (ows S'.ow)=_;rw[qD,h3];rfl,fun w s g hok=>?_⟩;rw[<-DOwn.ren_o];exact h4.ok hok
theorem pJ{f:FuncId}{fn:Func}{c:Code}{n:Nat}{args:List D}{own own':List DOwn}{rs:List ResultVar}{out:D}(hf:P.funcs[f]?=some fn)(hb:fn.body=some c)(hn:fn.ntmps=n)(hr:fn.results=rs.toArray)(hm:(fn.name== "runtime.NumGoroutine")=false)(hl:Nat.ble args.length n=true)(ha:chkA args own=true)(hg:chkG own.length out own'=true)
  (h:∀(w0:World)(s0:Sb)(mx:(Nat->Prop)×Gh×List Deferred),Ev P ⟨w0,s0,mx.1,n,mx.2.1,mx.2.2⟩ c ⟨argD 0 args,uE 0 own,own.length⟩ (FinH T rs own.length out own')):FnG P f args own out own':=
 GFunE.toG (fnE_ev (E:=fun _=>False) hT hf hb hn hr hm hl ha hg fun w0 s0 mx w s g a Q h1 h2=>h w0 s0 mx w s g a Q h1 fun ex w' s' g' a' S' h3 h4=>h2 ex w' s' g' a' S' h3 (.inr h4))
end
section
variable{P:Program}{b:Ba}{T:List (Nat×TI)}(hT:wC P T=true)
include hT
theorem ev_R(fls:List Nat){id:Nat}{l:List Oper}{tm:List (Nat×D)}{ow:List (Nat×DOwn)}{nx0:Nat}(nx1:Nat){y:Code}{S:DS}{K:Exit->DS->Prop}(h:Ev P b y S K)
  (hs:∀(E:Pn)(C:DS->Prop),C S->(cX T fls l none b.sz nx0 nx1 l nat0 tm ow []).sat P E C:=by intro E C hC;(refine zF ?_);refine zC ?_;exact hC)
  (hn:Nat.ble (nx0+l.length) nx1=true:=by rfl):Ev P b (.seq (.region id l.toArray false) y) ⟨tm,ow,nx0⟩ K:=
 zB (zE hT fls nx1 hn (hs _ _ (zA h)))
theorem yO(fls:List Nat){id:Nat}{l:List Oper}{tm:List (Nat×D)}{ow:List (Nat×DOwn)}{nx0:Nat}(nx1:Nat){S:DS}{K:Exit->DS->Prop}(h:K .normal S)
  (hs:∀(E:Pn)(C:DS->Prop),C S->(cX T fls l none b.sz nx0 nx1 l nat0 tm ow []).sat P E C:=by intro E C hC;(refine zF ?_);refine zC ?_;exact hC)
  (hn:Nat.ble (nx0+l.length) nx1=true:=by rfl):Ev P b (.region id l.toArray false) ⟨tm,ow,nx0⟩ K:=
 zE hT fls nx1 hn (hs _ _ h)
end
section
variable{P:Program}{b:Ba}
theorem zX{c:Operand}{x y:Code}{S:DS}{K:Exit->DS->Prop}{t:Bool}{p q:Prop}(h1:p->Ev P b x S K)(h2:q->Ev P b y S K)(hc:opd S.tm c=some (.v (.bool t)):=by rfl)
  (e1:(t=true)=p:=by conv=>{lhs;try simp only[Ai,Av,Bd,Be,Ah,Cc,Cg,gt_iff_lt,Int.not_lt,Bool.not_true,Bool.not_false,Int.ofNat_lt,Int.ofNat_le]})
  (e2:(t=false)=q:=by conv=>{lhs;try simp only[Ai,Av,Bd,Be,Ah,Cc,Cg,gt_iff_lt,Int.not_lt,Bool.not_true,Bool.not_false,Int.ofNat_lt,Int.ofNat_le]}):Ev P b (.cond c x y) S K:=
 zT hc (fun h=>h1 (e1▸h)) (fun h=>h2 (e2▸h))
end
theorem yK{A B:List (Nat×D)}(h:leT A B:=by first|exact trivial|(repeat(first|exact trivial|exact u0 _|refine⟨?_,?_⟩|exact u19 (by first|rfl|omega|(push_cast;omega))|exact u14|exact Sub.own rfl|exact u11 rfl|exact u3 (Ad).symm|exact u3 rfl))):leT A B:=h
theorem yH{A B:List (Nat×DOwn)}(h:leO A B:=by repeat(first|exact trivial|exact u13 rfl|refine⟨?_,?_⟩)):leO A B:=h
variable{md me:Bool}
theorem jA0{α:Type}{l:List α}{k:Nat}(h:k<l.length)(e:α):l[k]?=some (l.getD (k:Int).toNat e):=by simp[Aj,h]
theorem mB{α:Type}{l:List α}{k:Nat}(h:k<l.length)(e:α):l.getD (k:Int).toNat e=l[k]:=by simp[Aj,h]
def ixI{α:Type} [DecidableEq α]:List α->α->Int
 |[],_=> -1
 |x::l,n=>if n=x then 0 else if ixI l n<0 then-1 else ixI l n+1
theorem bQ{α:Type} [DecidableEq α]:∀{l:List α}{n:α},n∉l->ixI l n= -1
 |[],_,_=>rfl
 |x::l,n,h=>by
  rw[ixI,Aa (fun e=>h (by simp[e])),bQ (fun e=>h (by simp[e]))];rfl
theorem kI0{α:Type} [DecidableEq α]:∀{l:List α}{n:α}{k:Nat},(∀j,j<k->l[j]?≠some n)->l[k]?=some n->ixI l n=k
 |[],_,_,_,h=>by simp at h
 |x::l,n,0,_,h=>by simp at h;subst h;simp[ixI]
 |x::l,n,k+1,hn,h=>by
  have h0:n≠x:=fun e=>hn 0 om (by simp[e]);have:=kI0 (l:=l) (n:=n) (k:=k) (fun j hj=>by have:=hn (j+1) om;simpa using this) (by simpa using h);rw[ixI,Aa h0,this,Aa om];simp
def hasB{α:Type} [DecidableEq α](l:List α)(n:α):Bool:=l.any fun x=>decide (n=x)
theorem hasB_iff{α:Type} [DecidableEq α]{l:List α}{n:α}:hasB l n=true↔n∈l:=by simp[hasB]
theorem hasB_no{α:Type} [DecidableEq α]{l:List α}{n:α}:hasB l n=false↔n∉l:=by rw[<-Dj,hasB_iff]
theorem wG0{α:Type} [DecidableEq α](l:List α)(n:α):decide (0<=ixI l n)=hasB l n:=by
 by_cases h:n∈l
 ·obtain⟨k,hk,e⟩:=List.mem_iff_getElem.1 h;have hle:0<=ixI l n:=by
   clear hk e k;induction l with
   |nil=>cases h
   |cons x l ih=>
    rw[ixI];split
    ·omega
    ·rename_i hx;have h':n∈l:=by simpa[hx]using h
     have:=ih h';rw[Aa om];omega
  rw[hasB_iff.2 h];simpa using hle
 ·rw[bQ h,hasB_no.2 h];rfl
structure Nf{α:Type}(l:List α)(n:α)where
 k:Nat
 le:k<=l.length
 no:∀j,j<k->l[j]?≠some n
def Nf.next{α:Type}{l:List α}{n e:α}(x:Nf l n)(h1:x.k<l.length)(h2:¬n=l.getD (x.k:Int).toNat e):Nf l n:=⟨x.k+1,by omega,fun j hj=>by
 rcases Nat.lt_succ_iff_lt_or_eq.1 hj with h|rfl
 ·exact x.no j h
 ·intro e';rw[jA0 h1 e]at e';simp only[Option.some.injEq]at e';exact h2 e'.symm⟩
theorem Nf.found{α:Type} [DecidableEq α]{l:List α}{n e:α}(x:Nf l n)(h1:x.k<l.length)(h2:n=l.getD (x.k:Int).toNat e):ixI l n=(x.k:Int):=kI0 x.no (by rw[jA0 h1 e,<-h2])
theorem Nf.none{α:Type} [DecidableEq α]{l:List α}{n:α}(x:Nf l n)(h1:¬x.k<l.length):ixI l n= -1:=bQ fun h=>by
 obtain⟨j,hj,e⟩:=List.mem_iff_getElem.1 h;exact x.no j om (by rw[Af hj,e])
structure Eq2{α:Type}(l m:List α)where
 k:Nat
 le:k<=l.length
 eq:l.take k=m.take k
def Eq2.next{α:Type}{l m:List α}{e:α}(x:Eq2 l m)(hl:l.length=m.length)(h1:x.k<l.length)(h2:l.getD (x.k:Int).toNat e=m.getD (x.k:Int).toNat e):Eq2 l m:=⟨x.k+1,by omega,by
 have h1':x.k<m.length:=by omega
 rw[Df h1,Df h1',x.eq];rw[mB h1,mB h1']at h2;rw[h2]⟩
theorem Eq2.all{α:Type}{l m:List α}(x:Eq2 l m)(hl:l.length=m.length)(h1:¬x.k<l.length):l=m:=by
 have:=x.eq;rw[Am om,Am om]at this;exact this
theorem gC0{α:Type}{l m:List α}{e:α}{k:Nat}(h2:¬l.getD (k:Int).toNat e=m.getD (k:Int).toNat e):l≠m:=by rintro rfl;exact h2 rfl
theorem zK{id:Nat}{l:List Oper}{tm:List (Nat×D)}{ow:List (Nat×DOwn)}{nx0:Nat}(nx1:Nat){b:Ba}{y:Code}{S:DS}{K:Exit->DS->Prop}(h:Ev Tryz.prog b y S K)(hs:∀(E:Pn)(C:DS->Prop),C S->(cX TT [] l none b.sz nx0 nx1 l nat0 tm ow []).sat Tryz.prog E C:=by intro E C hC;(repeat(first|refine zH ?_|refine xZ ?_));refine zC ?_;exact hC)(hn:Nat.ble (nx0+l.length) nx1=true:=by rfl):Ev Tryz.prog b (.seq (.region id l.toArray false) y) ⟨tm,ow,nx0⟩ K:=ev_R zO [] nx1 h hs hn
theorem IndexI_ok(l:List Int)(n:Int):Fn Tryz.prog 11 [isD l,.v (.int .i64 n)] (.v (.int .i64 (ixI l n))):=by
 refine yM zO Tryz.func11 rfl rfl rfl rfl rfl rfl ?_;intro w0 s0 mx;refine xG 0 rfl fun hl0=>?_;refine zK 100 ?_;refine zB (zK 200 ?_);refine zQ ?_;refine yB (ι:=Nf l n) [0,1,7] [] 250 (fun x=>[(8,.v (.int .i64 x.k))]) (fun _=>[]) (fun x=>l.length-x.k) ⟨0,Aq _,fun j hj=>by omega⟩ ?_;refine⟨⟨yK,yH,rfl,rfl⟩,fun x=>?_⟩;have hk:=x.le;refine zK 300 ?_;refine zB (zX (fun c2=>?_) (fun c2=>?_))
 ·
  refine zJ (zA (zB (zQ (zK 400 ?_))));refine zK 500 ?_;refine zX (fun c4=>?_) (fun c4=>?_)
  ·
   refine zK 600 ?_;refine zN (zP (zM (yL (zP (zM ?_)))));exact u1 rfl (u7 (x.found c2 c4).symm)
  ·
   refine zJ (zL (zA (yO zO [] 700 ?_)));exact zR (x.next c2 c4) ⟨yK,yH,rfl,rfl⟩ (by show l.length-(x.k+1)<l.length-x.k;omega)
 ·
  refine yF (zZ (yA (zW (zA (zK 800 ?_)))));refine zN ?_;exact u1 rfl (u7 (x.none c2).symm)
theorem zK0(l:List ByteArray)(n:ByteArray):Fn Tryz.prog 92 [ssD l,.v (.string n)] (.v (.int .i64 (ixI l n))):=by
 refine yM zO Tryz.func92 rfl rfl rfl rfl rfl rfl ?_;intro w0 s0 mx;refine xG 0 rfl fun hl0=>?_;refine zK 100 ?_;refine zB (zK 200 ?_);refine zQ ?_;refine yB (ι:=Nf l n) [0,1,7] [] 250 (fun x=>[(8,.v (.int .i64 x.k))]) (fun _=>[]) (fun x=>l.length-x.k) ⟨0,Aq _,fun j hj=>by omega⟩ ?_;refine⟨⟨yK,yH,rfl,rfl⟩,fun x=>?_⟩;have hk:=x.le;refine zK 300 ?_;refine zB (zX (fun c2=>?_) (fun c2=>?_))
 ·
  refine zJ (zA (zB (zQ (zK 400 ?_))));refine zK 500 ?_;refine zX (fun c4=>?_) (fun c4=>?_)
  ·
   refine zK 600 ?_;refine zN (zP (zM (yL (zP (zM ?_)))));exact u1 rfl (u7 (x.found c2 c4).symm)
  ·
   refine zJ (zL (zA (yO zO [] 700 ?_)));exact zR (x.next c2 c4) ⟨yK,yH,rfl,rfl⟩ (by show l.length-(x.k+1)<l.length-x.k;omega)
 ·
  refine yF (zZ (yA (zW (zA (zK 800 ?_)))));refine zN ?_;exact u1 rfl (u7 (x.none c2).symm)
theorem jR(l:List Int)(n:Int):Fn Tryz.prog 103 [isD l,.v (.int .i64 n)] (.v (.bool (hasB l n))):=by
 refine yM zO Tryz.func103 rfl rfl rfl rfl rfl rfl ?_;intro w0 s0 mx;refine zK 100 ?_;refine zB (zE zO [] 200 rfl ?_);refine zF ?_;refine zS _ (IndexI_ok _ _) rfl ?_;refine zf (zA (zN ?_));exact u1 rfl (u5 (wG0 l n))
theorem ContainsS_ok(l:List ByteArray)(n:ByteArray):Fn Tryz.prog 145 [ssD l,.v (.string n)] (.v (.bool (hasB l n))):=by
 refine yM zO Tryz.func145 rfl rfl rfl rfl rfl rfl ?_;intro w0 s0 mx;refine zK 100 ?_;refine zB (zE zO [] 200 rfl ?_);refine zF ?_;refine zS _ (zK0 _ _) rfl ?_;refine zf (zA (zN ?_));exact u1 rfl (u5 (wG0 l n))
theorem dG(l:List Int)(n:Int):Fn Tryz.prog 177 [isD l,.v (.int .i64 n)] (.v (.bool (hasB l n))):=by
 refine yM zO Tryz.func177 rfl rfl rfl rfl rfl rfl ?_;intro w0 s0 mx;refine zK 100 ?_;refine zB (zE zO [] 200 rfl ?_);refine zF ?_;refine zS _ (jR _ _) rfl ?_;refine zf (zA (zN ?_));exact u1 rfl (u4 _)
theorem HasString_ok(l:List ByteArray)(n:ByteArray):Fn Tryz.prog 98 [ssD l,.v (.string n)] (.v (.bool (hasB l n))):=by
 refine yM zO Tryz.func98 rfl rfl rfl rfl rfl rfl ?_;intro w0 s0 mx;refine zK 100 ?_;refine zB (zE zO [] 200 rfl ?_);refine zF ?_;refine zS _ (ContainsS_ok _ _) rfl ?_;refine zf (zA (zN ?_));exact u1 rfl (u4 _)
theorem EqualI_ok(l m:List Int):Fn Tryz.prog 138 [isD l,isD m] (.v (.bool (decide (l=m)))):=by
 refine yM zO Tryz.func138 rfl rfl rfl rfl rfl rfl ?_;intro w0 s0 mx;refine xG 0 rfl fun hl0=>?_;refine zK 100 ?_;refine zB (zK 200 ?_);refine zT rfl (fun c1=>?_) (fun c1=>?_)
 ·simp at c1;refine zK 300 ?_;refine zN (zM ?_);exact u1 rfl (u5 (by simp;rintro rfl;exact c1 rfl))
 ·simp at c1;have c1:=Int.ofNat_inj.1 c1;refine zJ (zA (zB (zK 400 ?_)));refine zQ ?_;refine yB (ι:=Eq2 l m) [0,1,12] [] 450 (fun x=>[(13,.v (.int .i64 x.k))]) (fun _=>[]) (fun x=>l.length-x.k) ⟨0,Aq _,rfl⟩ ?_;refine⟨⟨yK,yH,rfl,rfl⟩,fun x=>?_⟩;have hk:=x.le;refine zK 500 ?_;refine zB (zX (fun c4=>?_) (fun c4=>?_))
  ·
   refine zJ (zA (zB (zQ (zK 600 ?_))));refine zB (yE zO [] mK1 700 yX kr rfl ?_);refine zF ?_;refine zC (zA (zT rfl (fun c6=>?_) (fun c6=>?_)))
   ·simp only[Bd,Av]at c6;refine zK 800 ?_;refine zN (zP (zM (yL (zP (zM ?_)))));exact u1 rfl (u5 (by simpa using gC0 (c6)))
   ·simp only[Be,Ai]at c6;refine zJ (zL (zA (yO zO [] 900 ?_)));exact zR (x.next c1 c4 c6) ⟨yK,yH,rfl,rfl⟩ (by show l.length-(x.k+1)<l.length-x.k;omega)
  ·
   refine yF (zZ (yA (zW (zA (zK 1000 ?_)))));refine zN ?_;exact u1 rfl (u5 (by simpa using x.all c1 c4))
theorem EqualS_ok(l m:List ByteArray):Fn Tryz.prog 139 [ssD l,ssD m] (.v (.bool (decide (l=m)))):=by
 refine yM zO Tryz.func139 rfl rfl rfl rfl rfl rfl ?_;intro w0 s0 mx;refine xG 0 rfl fun hl0=>?_;refine zK 100 ?_;refine zB (zK 200 ?_);refine zT rfl (fun c1=>?_) (fun c1=>?_)
 ·simp at c1;refine zK 300 ?_;refine zN (zM ?_);exact u1 rfl (u5 (by simp;rintro rfl;exact c1 rfl))
 ·simp at c1;have c1:=Int.ofNat_inj.1 c1;refine zJ (zA (zB (zK 400 ?_)));refine zQ ?_;refine yB (ι:=Eq2 l m) [0,1,12] [] 450 (fun x=>[(13,.v (.int .i64 x.k))]) (fun _=>[]) (fun x=>l.length-x.k) ⟨0,Aq _,rfl⟩ ?_;refine⟨⟨yK,yH,rfl,rfl⟩,fun x=>?_⟩;have hk:=x.le;refine zK 500 ?_;refine zB (zX (fun c4=>?_) (fun c4=>?_))
  ·
   refine zJ (zA (zB (zQ (zK 600 ?_))));refine zB (yE zO [] mK1 700 yX kr rfl ?_);refine zF ?_;refine zC (zA (zT rfl (fun c6=>?_) (fun c6=>?_)))
   ·simp only[Bd,Av]at c6;refine zK 800 ?_;refine zN (zP (zM (yL (zP (zM ?_)))));exact u1 rfl (u5 (by simpa using gC0 (c6)))
   ·simp only[Be,Ai]at c6;refine zJ (zL (zA (yO zO [] 900 ?_)));exact zR (x.next c1 c4 c6) ⟨yK,yH,rfl,rfl⟩ (by show l.length-(x.k+1)<l.length-x.k;omega)
  ·
   refine yF (zZ (yA (zW (zA (zK 1000 ?_)))));refine zN ?_;exact u1 rfl (u5 (by simpa using x.all c1 c4))
theorem EqualU_ok(l m:List Nat):Fn Tryz.prog 81 [usD l,usD m] (.v (.bool (decide (l=m)))):=by
 refine yM zO Tryz.func81 rfl rfl rfl rfl rfl rfl ?_;intro w0 s0 mx;refine xG 0 rfl fun hl0=>?_;refine zK 100 ?_;refine zB (zK 200 ?_);refine zT rfl (fun c1=>?_) (fun c1=>?_)
 ·simp at c1;refine zK 300 ?_;refine zN (zM ?_);exact u1 rfl (u5 (by simp;rintro rfl;exact c1 rfl))
 ·simp at c1;have c1:=Int.ofNat_inj.1 c1;refine zJ (zA (zB (zK 400 ?_)));refine zQ ?_;refine yB (ι:=Eq2 l m) [0,1,12] [] 450 (fun x=>[(13,.v (.int .i64 x.k))]) (fun _=>[]) (fun x=>l.length-x.k) ⟨0,Aq _,rfl⟩ ?_;refine⟨⟨yK,yH,rfl,rfl⟩,fun x=>?_⟩;have hk:=x.le;refine zK 500 ?_;refine zB (zX (fun c4=>?_) (fun c4=>?_))
  ·
   refine zJ (zA (zB (zQ (zK 600 ?_))));refine zB (yE zO [] mK1 700 yX kr rfl ?_);refine zF ?_;refine zC (zA (zT rfl (fun c6=>?_) (fun c6=>?_)))
   ·simp only[Bd,Av]at c6;refine zK 800 ?_;refine zN (zP (zM (yL (zP (zM ?_)))));exact u1 rfl (u5 (by simpa using gC0 (fun e=>c6 (congrArg Int.ofNat e))))
   ·simp only[Be,Ai]at c6;refine zJ (zL (zA (yO zO [] 900 ?_)));exact zR (x.next c1 c4 (Int.ofNat_inj.1 c6)) ⟨yK,yH,rfl,rfl⟩ (by show l.length-(x.k+1)<l.length-x.k;omega)
  ·
   refine yF (zZ (yA (zW (zA (zK 1000 ?_)))));refine zN ?_;exact u1 rfl (u5 (by simpa using x.all c1 c4))
theorem yV0(l m:List Int):Fn Tryz.prog 87 [isD l,isD m] (.v (.bool (decide (l=m)))):=by
 refine yM zO Tryz.func87 rfl rfl rfl rfl rfl rfl ?_;intro w0 s0 mx;refine zK 100 ?_;refine zB (zE zO [] 200 rfl ?_);refine zF ?_;refine zS _ (EqualI_ok _ _) rfl ?_;refine zf (zA (zN ?_));exact u1 rfl (u4 _)
theorem kV(l m:List ByteArray):Fn Tryz.prog 88 [ssD l,ssD m] (.v (.bool (decide (l=m)))):=by
 refine yM zO Tryz.func88 rfl rfl rfl rfl rfl rfl ?_;intro w0 s0 mx;refine zK 100 ?_;refine zB (zE zO [] 200 rfl ?_);refine zF ?_;refine zS _ (EqualS_ok _ _) rfl ?_;refine zf (zA (zN ?_));exact u1 rfl (u4 _)
def qA(h:List Ob)(n:Int):Bool:=(decide (0<=n)&&decide (n<h.length))&& !decide ((h.getD n.toNat ob0).kind=0)
theorem jP(h:List Ob)(n:Int):Fn Tryz.prog 17 [hpD md h,.v (.int .i64 n)] (.v (.bool (qA h n))):=by
 refine yM zO Tryz.func17 rfl rfl rfl rfl rfl rfl ?_;intro w0 s0 mx;refine zK 100 ?_;refine zK 200 ?_;refine zN ?_;exact u1 rfl (u4 _)
theorem uZ{h:List Ob}{n:Int}(hi:qA h n=true):0<=n/\n.toNat<h.length:=by
 simp only[qA,Ah,Ai]at hi;omega
def yD(h:List Ob)(v:Vl):Ob:=if v.k=6/\qA h v.r=true then h.getD v.r.toNat ob0 else ob0
theorem qX(h:List Ob)(v:Vl):Fn Tryz.prog 5 [hpD md h,.agg (vlD v)] (.agg (obD (yD h v))):=by
 refine yM zO Tryz.func5 rfl rfl rfl rfl rfl rfl ?_;intro w0 s0 mx;refine zK 100 ?_;refine zB ?_;refine zB (zE zO [] 200 rfl ?_);refine zF ?_;refine yP _ (fun hg7=>jP _ _) rfl ?_;refine zF ?_;refine zC (zA (zT rfl (fun c1=>?_) (fun c1=>?_)))
 ·simp at c1;refine zK 300 ?_;refine zN (zM ?_);have e:yD h v=ob0:=Aa (by rcases c1 with c1|c1<;>simp[c1])
  rw[e];exact u1 rfl (by repeat(first|exact trivial|exact u4 _|exact u10 rfl|refine SubP.agg ?_|refine⟨?_,?_⟩))
 ·simp at c1;refine zJ (zA ?_);refine zB (zE zO [] 400 rfl ?_);repeat(first|refine zH ?_|refine zU (by exact uZ c1.2) ?_)
  refine zC (zA (zN ?_));have e:yD h v=h.getD v.r.toNat ob0:=Ag c1;rw[e];exact u1 rfl (by repeat(first|exact trivial|exact u4 _|exact u10 rfl|refine SubP.agg ?_|refine⟨?_,?_⟩))
theorem xQ0(n:Int):Fn Tryz.prog 102 [.v (.int .i64 n)] (.v (.bool (decide (n=0)||decide (28<=n)))):=by
 refine yM zO Tryz.func102 rfl rfl rfl rfl rfl rfl ?_;intro w0 s0 mx;refine zK 100 ?_;refine zK 200 ?_;refine zN ?_;exact u1 rfl (u4 _)
theorem xC(c i:Int):Fn Tryz.prog 47 [.v (.int .i64 c),.v (.int .i64 i)] (.agg [.v (.int .i64 c),.v (.int .i64 i)]):=by
 refine yM zO Tryz.func47 rfl rfl rfl rfl rfl rfl ?_;intro w0 s0 mx;refine zK 100 ?_;refine zK 200 ?_;refine zN ?_;exact u1 rfl (u4 _)
end Go.Proofs.YtmakjjodkiedmaaGreatDoor
