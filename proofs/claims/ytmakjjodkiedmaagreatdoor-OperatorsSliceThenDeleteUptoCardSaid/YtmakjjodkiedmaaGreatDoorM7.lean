/-Part 7 of the proof. -/
import Derived.Test.YtmakjjodkiedmaaGreatDoorM6
namespace Go.Proofs.YtmakjjodkiedmaaGreatDoor
open Go.RowKit
mutual
def D.ren(ρ:Nat->Nat):D->D
 | .bp k off=> .bp (ρ k) off
 | .own k sz rows=> .own (ρ k) sz rows
 | .mo k n=> .mo (ρ k) n
 | .mp k n i sz o=> .mp (ρ k) n i sz o
 | .mk k=> .mk (ρ k)
 | .mw k q i sz n=> .mw (ρ k) q i sz n
 | .agg l=> .agg (D.renL ρ l)
 | .tpo l=> .tpo (D.renL ρ l)
 | .clo f l=> .clo f (D.renL ρ l)
 | .gd c (.bp k off)=> .gd c (.bp (ρ k) off)
 | .gd c (.mo k n)=> .gd c (.mo (ρ k) n)
 | .gd c (.mp k n i sz o)=> .gd c (.mp (ρ k) n i sz o)
 | .gd c (.mk k)=> .gd c (.mk (ρ k))
 | .gd c (.mw k q i sz n)=> .gd c (.mw (ρ k) q i sz n)
 |d=>d
def D.renL(ρ:Nat->Nat):List D->List D
 |[]=>[]
 |d::l=>d.ren ρ::D.renL ρ l
end
mutual
theorem D.ren_tv(ρ:Nat->Nat)(d:D):(d.ren ρ).tv=d.tv.ren ρ:=by
 match d with
 | .v _=>rfl
 | .agg l=>rw[D.ren,D.tv,D.tv,TV.ren,D.renL_tv]
 | .tpo l=>rw[D.ren,D.tv,D.tv,TV.ren,D.renL_tv]
 | .clo f l=>rw[D.ren,D.tv,D.tv,TV.ren,D.renL_tv]
 | .tup _=>rfl
 | .sl _ _ _ _ _=>rfl
 | .slr _ _ _=>rfl
 | .slf _ _=>rfl
 | .pt _ _=>rfl
 | .bp _ _=>rfl
 | .own _ _ _=>rfl
 | .mo _ _=>rfl
 | .mp _ _ _ _ _=>rfl
 | .mk _=>rfl
 | .mw _ _ _ _ _=>rfl
 | .op _=>rfl
 | .gd c (.bp _ _)=>rfl
 | .gd c (.mo _ _)=>rfl
 | .gd c (.mp _ _ _ _ _)=>rfl
 | .gd c (.mk _)=>rfl
 | .gd c (.mw _ _ _ _ _)=>rfl
 | .gd c (.v _)=>rfl
 | .gd c (.agg _)=>rfl
 | .gd c (.tup _)=>rfl
 | .gd c (.tpo _)=>rfl
 | .gd c (.clo _ _)=>rfl
 | .gd c (.sl _ _ _ _ _)=>rfl
 | .gd c (.slr _ _ _)=>rfl
 | .gd c (.slf _ _)=>rfl
 | .gd c (.pt _ _)=>rfl
 | .gd c (.own _ _ _)=>rfl
 | .gd c (.op _)=>rfl
 | .gd c (.gd _ _)=>rfl
theorem D.renL_tv(ρ:Nat->Nat)(l:List D):D.tvl (D.renL ρ l)=TV.rens ρ (D.tvl l):=by
 match l with
 |[]=>rw[D.renL,D.tvl,TV.rens]
 |d::l=>rw[D.renL,D.tvl,D.tvl,TV.rens,D.ren_tv,D.renL_tv]
end
def DOwn.ren(ρ:Nat->Nat):DOwn->DOwn
 | .box t cs=> .box t (D.renL ρ cs)
 |c=>c
theorem DOwn.ren_o(ρ:Nat->Nat)(c:DOwn):(c.ren ρ).o=c.o.ren ρ:=by
 cases c with
 |box t cs=>show Own.box t (D.tvl (D.renL ρ cs))=Own.box t (TV.rens ρ (D.tvl cs));rw[D.renL_tv]
 |row _ _ _=>rfl
 |mrow _ _ _=>rfl
 |map _=>rfl
 |itr _=>rfl
def idxK:List Nat->Nat->Option Nat
 |[],_=>none
 |j::l,k=>match Nat.beq j k with
  |true=>some 0
  |false=>match idxK l k with
   |some i=>some (i+1)
   |none=>none
def qF:List Nat->Nat->Nat->Nat
 |[],nx,_=>nx
 |j::_,_,0=>j
 |_::l,nx,i+1=>qF l nx i
theorem jV:∀{ks:List Nat}{k i:Nat}(nx:Nat),idxK ks k=some i->i<ks.length/\qF ks nx i=k
 |[],k,i,nx,h=>by cases h
 |j::l,k,i,nx,h=>by
  unfold idxK at h
  cases hb:Nat.beq j k with
  |true=>rw[hb]at h;cases h;exact⟨by simp,Ab hb⟩
  |false=>
   rw[hb]at h;simp only at h
   cases hi:idxK l k with
   |none=>rw[hi]at h;cases h
   |some m=>
    rw[hi]at h
    cases h;obtain⟨h1,h2⟩:=jV nx hi;exact⟨by simp;omega,h2⟩
def ksOk(nx:Nat):List Nat->Bool
 |[]=>true
 |k::l=>match idxK l k with
  |some _=>false
  |none=>match Nat.blt k nx with
   |true=>ksOk nx l
   |false=>false
theorem cQ:∀{ks:List Nat}{k:Nat},idxK ks k=none->∀nx i,i<ks.length->qF ks nx i≠k
 |[],k,_,nx,i,hi=>by simp at hi
 |j::l,k,h,nx,i,hi=>by
  unfold idxK at h
  cases hb:Nat.beq j k with
  |true=>rw[hb]at h;cases h
  |false=>
   rw[hb]at h;simp only at h
   cases hx:idxK l k with
   |some m=>rw[hx]at h;cases h
   |none=>
    cases i with
    |zero=>
     show j≠k;intro e;subst e;rw[Nat.beq_refl]at hb;cases hb
    |succ i=>exact cQ hx nx i (by simpa using hi)
theorem vP0:∀{ks:List Nat}{nx:Nat},ksOk nx ks=true->∀i,i<ks.length->qF ks nx i<nx
 |[],nx,_,i,hi=>by simp at hi
 |k::l,nx,h,i,hi=>by
  unfold ksOk at h
  cases hx:idxK l k with
  |some _=>rw[hx]at h;cases h
  |none=>
   rw[hx]at h;simp only at h
   cases hb:Nat.blt k nx with
   |false=>rw[hb]at h;cases h
   |true=>
    rw[hb]at h
    cases i with
    |zero=>exact An hb
    |succ i=>exact vP0 h i (by simpa using hi)
theorem bI:∀(ks:List Nat)(nx i:Nat),ks.length<=i->qF ks nx i=nx
 |[],_,_,_=>rfl
 |_::l,nx,0,h=>by simp at h
 |_::l,nx,i+1,h=>bI l nx i (by simpa using h)
def sigK(ks:List Nat)(nx n:Nat)(j:Nat):Option Nat:=match idxK ks j with
 |some i=>some i
 |none=>if j=nx/\ks.length<n then some ks.length else none
theorem qY0:∀{ks:List Nat}{nx:Nat},ksOk nx ks=true->∀i,i<ks.length->idxK ks (qF ks nx i)=some i
 |[],nx,_,i,hi=>by simp at hi
 |k::l,nx,h,i,hi=>by
  unfold ksOk at h
  cases hx:idxK l k with
  |some _=>rw[hx]at h;cases h
  |none=>
   rw[hx]at h;simp only at h
   cases hb:Nat.blt k nx with
   |false=>rw[hb]at h;cases h
   |true=>
    rw[hb]at h
    cases i with
    |zero=>
     show idxK (k::l) k=some 0;unfold idxK;rw[Nat.beq_refl]
    |succ i=>
     have hi':i<l.length:=by simpa using hi
     show idxK (k::l) (qF l nx i)=some (i+1);unfold idxK;have hne:Nat.beq k (qF l nx i)=false:=by
      cases hq:Nat.beq k (qF l nx i)with
      |false=>rfl
      |true=>exact absurd (Ab hq).symm (cQ hx nx i hi')
     rw[hne,qY0 h i hi']
theorem sigK_rho{ks:List Nat}{nx n:Nat}(h:ksOk nx ks=true)(hn:n<=ks.length+1):∀i,i<n->sigK ks nx n (qF ks nx i)=some i:=by
 intro i hi;unfold sigK;rcases Bm i ks.length with h1|h1
 ·rw[qY0 h i h1]
 ·have hi':i=ks.length:=by omega
  subst hi';rw[bI ks nx _ (Ap _)];have:idxK ks nx=none:=by
   cases hx:idxK ks nx with
   |none=>rfl
   |some m=>
    obtain⟨h2,h3⟩:=jV nx hx;have:=vP0 h m h2;omega
  rw[this];show(if nx=nx/\ks.length<n then some ks.length else none)=some ks.length;exact Ag ⟨rfl,hi⟩
theorem sigK_inv{ks:List Nat}{nx n:Nat}(hn:ks.length<=n):∀j i,sigK ks nx n j=some i->i<n/\qF ks nx i=j:=by
 intro j i h;unfold sigK at h
 cases hx:idxK ks j with
 |some m=>
  rw[hx]at h
  cases h;obtain⟨h1,h2⟩:=jV nx hx;exact⟨by omega,h2⟩
 |none=>
  rw[hx]at h;simp only at h;split at h
  ·rename_i hc
   cases h;exact⟨hc.2,by rw[bI ks nx _ (Ap _),hc.1]⟩
  ·cases h
mutual
def D.loc(ks:List Nat)(w:Bool):D->Option D
 | .bp k off=>match idxK ks k with
  |some i=>some (.bp i off)
  |none=>none
 | .own k sz rows=>match w with
  |true=>some (.slr false sz rows)
  |false=>match idxK ks k with
   |some i=>some (.own i sz rows)
   |none=>none
 | .mo k n=>match idxK ks k with
  |some i=>some (.mo i n)
  |none=>none
 | .mp k n i sz o=>match idxK ks k with
  |some j=>some (.mp j n i sz o)
  |none=>none
 | .mk k=>match idxK ks k with
  |some i=>some (.mk i)
  |none=>none
 | .mw k q i sz n=>match idxK ks k with
  |some j=>some (.mw j q i sz n)
  |none=>none
 | .agg l=>match D.locL ks w l with
  |some r=>some (.agg r)
  |none=>none
 | .clo f l=>match D.locL ks w l with
  |some r=>some (.clo f r)
  |none=>none
 | .v x=>some (.v x)
 | .tup l=>some (.tup l)
 | .sl m sz l f e=>some (.sl m sz l f e)
 | .slr m sz rows=>some (.slr m sz rows)
 | .slf sz rows=>some (.slf sz rows)
 | .pt m row=>some (.pt m row)
 | .op p=>some (.op p)
 | .gd _ _=>none
 | .tpo _=>none
def D.locL(ks:List Nat)(w:Bool):List D->Option (List D)
 |[]=>some []
 |d::l=>match d.loc ks w with
  |some e=>match D.locL ks w l with
   |some r=>some (e::r)
   |none=>none
  |none=>none
end
mutual
theorem D.loc_ok{ks:List Nat}{nx n:Nat}(hn:ks.length<=n){w:Bool}{d e:D}(h:d.loc ks w=some e):idB n e.tv=true/\(w=false->(e.ren (qF ks nx)).tv=d.tv)/\∀W s g v,d.tv.P W s g v->(e.ren (qF ks nx)).tv.P W s g v:=by
 have key:∀{e:D},idB n e.tv=true->(e.ren (qF ks nx)).tv=d.tv->idB n e.tv=true/\(w=false->(e.ren (qF ks nx)).tv=d.tv)/\∀W s g v,d.tv.P W s g v->(e.ren (qF ks nx)).tv.P W s g v:=fun h1 h2=>⟨h1,fun _=>h2,fun W s g v hv=>by rw[h2];exact hv⟩
 match d,h with
 | .bp k off,h=>
  rw[D.loc]at h
  cases hx:idxK ks k with
  |none=>rw[hx]at h;cases h
  |some i=>
   rw[hx]at h;cases h;obtain⟨h1,h2⟩:=jV nx hx;exact key (Dd om) (by rw[D.ren,h2])
 | .mo k m,h=>
  rw[D.loc]at h
  cases hx:idxK ks k with
  |none=>rw[hx]at h;cases h
  |some i=>
   rw[hx]at h;cases h;obtain⟨h1,h2⟩:=jV nx hx;exact key (Dd om) (by rw[D.ren,h2])
 | .mp k m j sz o,h=>
  rw[D.loc]at h
  cases hx:idxK ks k with
  |none=>rw[hx]at h;cases h
  |some i=>
   rw[hx]at h;cases h;obtain⟨h1,h2⟩:=jV nx hx;exact key (Dd om) (by rw[D.ren,h2])
 | .mk k,h=>
  rw[D.loc]at h
  cases hx:idxK ks k with
  |none=>rw[hx]at h;cases h
  |some i=>
   rw[hx]at h;cases h;obtain⟨h1,h2⟩:=jV nx hx;exact key (Dd om) (by rw[D.ren,h2])
 | .mw k q j sz m,h=>
  rw[D.loc]at h
  cases hx:idxK ks k with
  |none=>rw[hx]at h;cases h
  |some i=>
   rw[hx]at h;cases h;obtain⟨h1,h2⟩:=jV nx hx;exact key (Dd om) (by rw[D.ren,h2])
 | .own k sz rows,h=>
  cases w with
  |true=>
   rw[D.loc]at h
   cases h;exact⟨rfl,(fun h=>by cases h),fun W s g v hv=>by rw[D.tv,TV.P]at hv;exact hv.1⟩
  |false=>
   rw[D.loc]at h
   cases hx:idxK ks k with
   |none=>rw[hx]at h;cases h
   |some i=>
    rw[hx]at h;cases h;obtain⟨h1,h2⟩:=jV nx hx;exact key (Dd om) (by rw[D.ren,h2])
 | .agg l,h=>
  rw[D.loc]at h
  cases hx:D.locL ks w l with
  |none=>rw[hx]at h;cases h
  |some r=>
   rw[hx]at h;cases h;obtain⟨h1,h2,h3⟩:=D.locL_ok (nx:=nx) hn hx;refine⟨h1,fun hw=>by rw[D.ren,D.tv,D.tv,h2 hw],fun W s g v hv=>?_⟩;rw[D.tv,TV.P]at hv;rw[D.ren,D.tv,TV.P];obtain⟨vs,g1,g2⟩:=hv;exact⟨vs,g1,h3 W s g vs g2⟩
 | .clo f l,h=>
  rw[D.loc]at h
  cases hx:D.locL ks w l with
  |none=>rw[hx]at h;cases h
  |some r=>
   rw[hx]at h;cases h;obtain⟨h1,h2,h3⟩:=D.locL_ok (nx:=nx) hn hx;refine⟨h1,fun hw=>by rw[D.ren,D.tv,D.tv,h2 hw],fun W s g v hv=>?_⟩;rw[D.tv,TV.P]at hv;rw[D.ren,D.tv,TV.P];obtain⟨vs,g1,g2⟩:=hv;exact⟨vs,g1,h3 W s g vs g2⟩
 | .v x,h=>rw[D.loc]at h;cases h;exact key rfl rfl
 | .tup l,h=>rw[D.loc]at h;cases h;exact key rfl rfl
 | .sl m sz l f e,h=>rw[D.loc]at h;cases h;exact key rfl rfl
 | .slr m sz rows,h=>rw[D.loc]at h;cases h;exact key rfl rfl
 | .slf sz rows,h=>rw[D.loc]at h;cases h;exact key rfl rfl
 | .pt m row,h=>rw[D.loc]at h;cases h;exact key rfl rfl
 | .op p,h=>rw[D.loc]at h;cases h;exact key rfl rfl
 | .gd _ _,h=>rw[D.loc]at h;cases h
 | .tpo _,h=>rw[D.loc]at h;cases h
theorem D.locL_ok{ks:List Nat}{nx n:Nat}(hn:ks.length<=n){w:Bool}{l r:List D}(h:D.locL ks w l=some r):idBs n (D.tvl r)=true/\(w=false->D.tvl (D.renL (qF ks nx) r)=D.tvl l)/\∀W s g vs,AllT W s g (D.tvl l) vs->AllT W s g (D.tvl (D.renL (qF ks nx) r)) vs:=by
 match l,h with
 |[],h=>rw[D.locL]at h;cases h;exact⟨rfl,fun _=>rfl,fun _ _ _ _ h=>h⟩
 |d::l,h=>
  rw[D.locL]at h
  cases hd:d.loc ks w with
  |none=>rw[hd]at h;cases h
  |some e=>
   rw[hd]at h;simp only at h
   cases hl:D.locL ks w l with
   |none=>rw[hl]at h;cases h
   |some r'=>
    rw[hl]at h;cases h;obtain⟨a1,a2,a3⟩:=D.loc_ok (nx:=nx) hn hd;obtain⟨b1,b2,b3⟩:=D.locL_ok (nx:=nx) hn hl;refine⟨by rw[D.tvl,idBs,a1,b1];rfl,fun hw=>by rw[D.renL,D.tvl,D.tvl,a2 hw,b2 hw],fun W s g vs hv=>?_⟩;rw[D.renL,D.tvl];rw[D.tvl]at hv
    match vs,hv with
    |u::us,hv=>
     rw[AllT]at hv⊢;exact⟨a3 _ _ _ _ hv.1,b3 _ _ _ _ hv.2⟩
    |[],hv=>exact hv.elim
end
def fstL:List (Nat×DOwn)->List Nat
 |[]=>[]
 |x::l=>x.1::fstL l
def uE:Nat->List DOwn->List (Nat×DOwn)
 |_,[]=>[]
 |i,c::l=>(i,c)::uE (i+1) l
theorem vK:∀{l:List DOwn}{i k:Nat},yQ k (uE i l)=if i<=k then l[k-i]? else none
 |[],i,k=>by simp[uE,yQ]
 |c::l,i,k=>by
  unfold uE;rw[yN];by_cases h:i=k
  ·subst h;simp
  ·rw[Aa h,vK];by_cases h1:i+1<=k
   ·rw[Ag h1,Ag om,show k-i=(k-(i+1))+1 by omega];simp
   ·rw[Aa h1,Aa om]
def idOs(n:Nat):List DOwn->Bool
 |[]=>true
 |c::l=>match idO n c.o with|true=>idOs n l|false=>false
theorem bU{n:Nat}:∀{l:List DOwn},idOs n l=true->∀c∈l,idO n c.o=true
 |[],_,_,h=>by cases h
 |d::l,h,c,hc=>by
  unfold idOs at h
  cases hd:idO n d.o with
  |false=>rw[hd]at h;cases h
  |true=>
   rw[hd]at h;rcases Bc.1 hc with rfl|hc
   ·exact hd
   ·exact bU h c hc
def chkG(n0:Nat)(out:D)(l:List DOwn):Bool:=match Nat.ble n0 l.length with
 |true=>match Nat.ble l.length (n0+1)with
  |true=>match idB l.length out.tv with
   |true=>idOs l.length l
   |false=>false
  |false=>false
 |false=>false
theorem yS0{n0:Nat}{out:D}{l:List DOwn}(h:chkG n0 out l=true):n0<=l.length/\l.length<=n0+1/\idB l.length out.tv=true/\∀c∈l,idO l.length c.o=true:=by
 unfold chkG at h
 cases h1:Nat.ble n0 l.length with
 |false=>rw[h1]at h;cases h
 |true=>
  cases h2:Nat.ble l.length (n0+1)with
  |false=>rw[h1,h2]at h;cases h
  |true=>
   cases h3:idB l.length out.tv with
   |false=>rw[h1,h2,h3]at h;cases h
   |true=>
    rw[h1,h2,h3]at h;exact⟨An h1,An h2,rfl,bU h⟩
def updG(ks:List Nat)(nx:Nat):Nat->List DOwn->List (Nat×DOwn)
 |_,[]=>[]
 |i,c::l=>(qF ks nx i,c.ren (qF ks nx))::updG ks nx (i+1) l
theorem bE(ks:List Nat)(nx:Nat):∀(i:Nat)(l:List DOwn),ows (updG ks nx i l)=renL (qF ks nx) (ows (uE i l))
 |_,[]=>rfl
 |i,c::l=>by
  show(qF ks nx i,(c.ren (qF ks nx)).o)::ows (updG ks nx (i+1) l)=(qF ks nx i,c.o.ren (qF ks nx))::renL (qF ks nx) (ows (uE (i+1) l));rw[DOwn.ren_o,bE]
def cI(ks:List Nat):DOwn->Option DOwn
 | .box t cs=>match D.locL ks false cs with
  |some r=>some (.box t r)
  |none=>none
 |c=>some c
def pF(ow:Nat->Option DOwn)(ks:List Nat):List Nat->Option (List DOwn)
 |[]=>some []
 |k::l=>match ow k with
  |some c=>match cI ks c with
   |some d=>match pF ow ks l with
    |some r=>some (d::r)
    |none=>none
   |none=>none
  |none=>none
theorem cH{ks:List Nat}{nx n:Nat}(hn:ks.length<=n){c d:DOwn}(h:cI ks c=some d):idO n d.o=true/\(d.ren (qF ks nx)).o=c.o:=by
 cases c with
 |box t cs=>
  unfold cI at h;simp only at h
  cases hx:D.locL ks false cs with
  |none=>rw[hx]at h;cases h
  |some r=>
   rw[hx]at h;cases h;obtain⟨h1,h2,_⟩:=D.locL_ok (nx:=nx) hn hx;exact⟨h1,by show Own.box t _=Own.box t _;rw[h2 rfl]⟩
 |row _ _ _=>cases h;exact⟨rfl,rfl⟩
 |mrow _ _ _=>cases h;exact⟨rfl,rfl⟩
 |map _=>cases h;exact⟨rfl,rfl⟩
 |itr _=>cases h;exact⟨rfl,rfl⟩
theorem dQ{ow:Nat->Option DOwn}{ks:List Nat}:∀{l:List Nat}{r:List DOwn},pF ow ks l=some r->r.length=l.length/\∀(i:Nat)(k:Nat)(d:DOwn),l[i]?=some k->r[i]?=some d->∃c,ow k=some c/\cI ks c=some d
 |[],r,h=>by cases h;exact⟨rfl,fun i k d hk=>by simp at hk⟩
 |j::l,r,h=>by
  unfold pF at h
  cases hc:ow j with
  |none=>rw[hc]at h;cases h
  |some c=>
   rw[hc]at h;simp only at h
   cases hd:cI ks c with
   |none=>rw[hd]at h;cases h
   |some d=>
    rw[hd]at h;simp only at h
    cases hr:pF ow ks l with
    |none=>rw[hr]at h;cases h
    |some r'=>
     rw[hr]at h
     cases h;obtain⟨h1,h2⟩:=dQ hr;refine⟨by simp[h1],fun i k e hk he=>?_⟩
     cases i with
     |zero=>simp at hk he;subst hk;subst he;exact⟨c,hc,hd⟩
     |succ i=>exact h2 i k e (by simpa using hk) (by simpa using he)
mutual
def D.keys(w:Bool):D->List Nat
 | .bp k _=>[k]
 | .own k _ _=>match w with|true=>[k]|false=>[]
 | .mo k _=>[k]
 | .mp k _ _ _ _=>[k]
 | .mk k=>[k]
 | .mw k _ _ _ _=>[k]
 | .agg l=>D.keysL w l
 | .clo _ l=>D.keysL w l
 |_=>[]
def D.keysL(w:Bool):List D->List Nat
 |[]=>[]
 |d::l=>d.keys w++D.keysL w l
end
def cC(ow:Nat->Option DOwn):Nat->List Nat->List Nat->List Nat
 |0,_,done=>done
 |_+1,[],done=>done
 |f+1,k::l,done=>match idxK done k with
  |some _=>cC ow f l done
  |none=>match ow k with
   |some (.box _ cs)=>cC ow f (l++D.keysL true cs) (done++[k])
   |_=>cC ow f l (done++[k])
def wL(ow:Nat->Option DOwn):Nat->List D->Option (List D×(List (Nat×DOwn)×List Prop))
 |0,_=>none
 |_+1,[]=>some ([],[],[])
 |f+1,d::l=>match wL ow f l with
  |none=>none
  |some (r,acc,ps)=>match d with
   | .mo k n=>match ow k with
    |some (.mrow t sz (.map la fn e))=>some (.sl true sz la fn e::r,(k,.mrow t sz (.map la fn e))::acc,(n=la.length)::ps)
    |some (.mrow t sz (.lst rows))=>some (.slr true sz rows::r,(k,.mrow t sz (.lst rows))::acc,(n=rows.length)::ps)
    |_=>none
   | .bp k off=>match ow k with
    |some (.box t cs)=>match wL ow f cs with
     |some (ds,acc',ps')=>some (.pt true (wD off ds)::r,(k,.box t cs)::(acc'++acc),ps'++ps)
     |none=>none
    |_=>none
   | .agg cs=>match wL ow f cs with
    |some (ds,acc',ps')=>some (.agg ds::r,acc'++acc,ps'++ps)
    |none=>none
   | .clo g cs=>match wL ow f cs with
    |some (ds,acc',ps')=>some (.clo g ds::r,acc'++acc,ps'++ps)
    |none=>none
   | .own _ sz rows=>some (.slr false sz rows::r,acc,ps)
   | .v x=>some (.v x::r,acc,ps)
   | .tup x=>some (.tup x::r,acc,ps)
   | .sl m sz la fn e=>some (.sl m sz la fn e::r,acc,ps)
   | .slr m sz rows=>some (.slr m sz rows::r,acc,ps)
   | .slf sz rows=>some (.slf sz rows::r,acc,ps)
   | .pt m row=>some (.pt m row::r,acc,ps)
   | .op p=>some (.op p::r,acc,ps)
   |_=>none
def AllP:List Prop->Prop
 |[]=>True
 |p::l=>p/\AllP l
theorem uV:∀{a b:List Prop},AllP (a++b)->AllP a/\AllP b
 |[],_,h=>⟨trivial,h⟩
 |_::_,_,h=>⟨⟨h.1,(uV h.2).1⟩,(uV h.2).2⟩
def LentL(acc:List (Nat×Own))(l:List TV)(ds:List PV):Prop:=l.length=ds.length/\∀(j:Nat)(d:TV)(e:PV),l[j]?=some d->ds[j]?=some e->Lent acc d e
theorem LentL.cons{acc:List (Nat×Own)}{d:TV}{e:PV}{l:List TV}{ds:List PV}(h:Lent acc d e)(hl:LentL acc l ds):LentL acc (d::l) (e::ds):=⟨by simp[hl.1],fun j a b ha hb=>by
 cases j with
 |zero=>simp at ha hb;subst ha;subst hb;exact h
 |succ j=>exact hl.2 j a b (by simpa using ha) (by simpa using hb)⟩
theorem uG{ow:Nat->Option DOwn}{acc0:List (Nat×Own)}:∀{f:Nat}{l r:List D}{acc:List (Nat×DOwn)}{ps:List Prop},wL ow f l=some (r,acc,ps)->AllP ps->(∀x∈acc,fnd x.1 acc0=some x.2.o)->LentL acc0 (D.tvl l) (D.pvs r)
 |0,_,_,_,_,h,_,_=>by cases h
 |f+1,[],r,acc,ps,h,_,_=>by cases h;exact⟨rfl,fun j d e hd=>by simp[D.tvl]at hd⟩
 |f+1,d::l,r,acc,ps,h,hp,hk=>by
  unfold wL at h
  cases hl:wL ow f l with
  |none=>rw[hl]at h;cases h
  |some q=>
   obtain⟨r',acc',ps'⟩:=q;rw[hl]at h;simp only at h;rw[D.tvl];have plain:∀{e:D},some (e::r',acc',ps')=some (r,acc,ps)->Lent acc0 d.tv e.pv->LentL acc0 (d.tv::D.tvl l) (D.pvs r):=fun he hd=>by
    cases he;rw[D.pvs];exact LentL.cons hd (uG hl hp hk)
   cases d with
   |v x=>exact plain h (Lent.pv _)
   |tup x=>exact plain h (Lent.pv _)
   |sl m sz la fn e=>exact plain h (Lent.pv _)
   |slr m sz rows=>exact plain h (Lent.pv _)
   |slf sz rows=>exact plain h (Lent.pv _)
   |pt m row=>exact plain h (Lent.pv _)
   |op p=>exact plain h (Lent.pv _)
   |own k sz rows=>
    refine plain h ?_;rw[D.tv];exact Lent.own _ _ _
   |agg cs=>
    simp only at h
    cases hc:wL ow f cs with
    |none=>rw[hc]at h;cases h
    |some q=>
     obtain⟨ds,acc2,ps2⟩:=q;rw[hc]at h
     cases h;obtain⟨p1,p2⟩:=uV hp;have hL:=uG hc p1 fun x hx=>hk x (List.mem_append_left _ hx);rw[D.pvs,D.tv];exact LentL.cons (Lent.agg _ _ hL.1 hL.2) (uG hl p2 fun x hx=>hk x (List.mem_append_right _ hx))
   |clo g cs=>
    simp only at h
    cases hc:wL ow f cs with
    |none=>rw[hc]at h;cases h
    |some q=>
     obtain⟨ds,acc2,ps2⟩:=q;rw[hc]at h
     cases h;obtain⟨p1,p2⟩:=uV hp;have hL:=uG hc p1 fun x hx=>hk x (List.mem_append_left _ hx);rw[D.pvs,D.tv];exact LentL.cons (Lent.clo _ _ _ hL.1 hL.2) (uG hl p2 fun x hx=>hk x (List.mem_append_right _ hx))
   |bp k off=>
    simp only at h
    cases hw:ow k with
    |none=>rw[hw]at h;cases h
    |some c=>
     rw[hw]at h
     cases c with
     |box t cs=>
      simp only at h
      cases hc:wL ow f cs with
      |none=>rw[hc]at h;cases h
      |some q=>
       obtain⟨ds,acc2,ps2⟩:=q;rw[hc]at h
       cases h;obtain⟨p1,p2⟩:=uV hp;have hL:=uG hc p1 fun x hx=>hk x (Bl _ (List.mem_append_left _ hx));rw[D.pvs,D.tv];have hb:=Lent.bp (acc:=acc0) k off t (D.tvl cs) (D.pvs ds) (hk (k,.box t cs) By) hL.1 hL.2;rw[<-gB,<-jX]at hb;exact LentL.cons hb (uG hl p2 fun x hx=>hk x (Bl _ (List.mem_append_right _ hx)))
     |row _ _ _=>cases h
     |mrow _ _ _=>cases h
     |map _=>cases h
     |itr _=>cases h
   |mo k n=>
    simp only at h
    cases hw:ow k with
    |none=>rw[hw]at h;cases h
    |some c=>
     rw[hw]at h
     cases c with
     |mrow t sz M=>
      cases M with
      |map la fn e=>
       cases h;have h1:=hk (k,.mrow t sz (.map la fn e)) By;have hm:=Lent.mo (acc:=acc0) k n t sz (D.pvss (MR.map la fn e).rows) h1 (by rw[yI,MR.len_rows];exact hp.1);have e1:D.pvss (MR.map la fn e).rows=la.map fun a=>D.pvs (fn a):=by rw[MR.rows,yJ,Bz];rfl
       rw[e1]at hm;rw[D.pvs,D.tv];exact LentL.cons hm (uG hl hp.2 fun x hx=>hk x (Bl _ hx))
      |lst rows=>
       cases h;have h1:=hk (k,.mrow t sz (.lst rows)) By;have hm:=Lent.mo (acc:=acc0) k n t sz (D.pvss (MR.lst rows).rows) h1 (by rw[yI,MR.len_rows];exact hp.1);rw[D.pvs,D.tv];exact LentL.cons hm (uG hl hp.2 fun x hx=>hk x (Bl _ hx))
      |upd _ _ _=>cases h
      |app _ _=>cases h
      |cpy _ _=>cases h
     |row _ _ _=>cases h
     |box _ _=>cases h
     |map _=>cases h
     |itr _=>cases h
   |mp k n i sz o=>cases h
   |mk k=>cases h
   |mw k q i sz n=>cases h
   |gd c d=>cases h
   |tpo l=>cases h
theorem wK{ow:Nat->Option DOwn}:∀{f:Nat}{l r:List D}{acc:List (Nat×DOwn)}{ps:List Prop},wL ow f l=some (r,acc,ps)->∀x∈acc,ow x.1=some x.2/\lendable x.2.o=true
 |0,_,_,_,_,h=>by cases h
 |f+1,[],r,acc,ps,h=>by cases h;exact fun _ h=>by cases h
 |f+1,d::l,r,acc,ps,h=>by
  unfold wL at h
  cases hl:wL ow f l with
  |none=>rw[hl]at h;cases h
  |some q=>
   obtain⟨r',acc',ps'⟩:=q;rw[hl]at h;simp only at h;have hl':=wK hl
   cases d with
   |v x=>cases h;exact hl'
   |tup x=>cases h;exact hl'
   |sl m sz la fn e=>cases h;exact hl'
   |slr m sz rows=>cases h;exact hl'
   |slf sz rows=>cases h;exact hl'
   |pt m row=>cases h;exact hl'
   |op p=>cases h;exact hl'
   |own k sz rows=>cases h;exact hl'
   |agg cs=>
    simp only at h
    cases hc:wL ow f cs with
    |none=>rw[hc]at h;cases h
    |some q=>
     obtain⟨ds,acc2,ps2⟩:=q;rw[hc]at h
     cases h;exact fun x hx=>(Az.1 hx).elim (wK hc x) (hl' x)
   |clo g cs=>
    simp only at h
    cases hc:wL ow f cs with
    |none=>rw[hc]at h;cases h
    |some q=>
     obtain⟨ds,acc2,ps2⟩:=q;rw[hc]at h
     cases h;exact fun x hx=>(Az.1 hx).elim (wK hc x) (hl' x)
   |bp k off=>
    simp only at h
    cases hw:ow k with
    |none=>rw[hw]at h;cases h
    |some c=>
     rw[hw]at h
     cases c with
     |box t cs=>
      simp only at h
      cases hc:wL ow f cs with
      |none=>rw[hc]at h;cases h
      |some q=>
       obtain⟨ds,acc2,ps2⟩:=q;rw[hc]at h
       cases h;intro x hx;rcases Bc.1 hx with rfl|hx
       ·exact⟨hw,rfl⟩
       ·exact(Az.1 hx).elim (wK hc x) (hl' x)
     |row _ _ _=>cases h
     |mrow _ _ _=>cases h
     |map _=>cases h
     |itr _=>cases h
   |mo k n=>
    simp only at h
    cases hw:ow k with
    |none=>rw[hw]at h;cases h
    |some c=>
     rw[hw]at h
     cases c with
     |mrow t sz M=>
      cases M with
      |map la fn e=>
       cases h;intro x hx;rcases Bc.1 hx with rfl|hx
       ·exact⟨hw,rfl⟩
       ·exact hl' x hx
      |lst rows=>
       cases h;intro x hx;rcases Bc.1 hx with rfl|hx
       ·exact⟨hw,rfl⟩
       ·exact hl' x hx
      |upd _ _ _=>cases h
      |app _ _=>cases h
      |cpy _ _=>cases h
     |row _ _ _=>cases h
     |box _ _=>cases h
     |map _=>cases h
     |itr _=>cases h
   |mp k n i sz o=>cases h
   |mk k=>cases h
   |mw k q i sz n=>cases h
   |gd c d=>cases h
   |tpo l=>cases h
theorem xN0{ow:Nat->Option DOwn}:∀{acc:List (Nat×DOwn)},(∀x∈acc,ow x.1=some x.2)->∀x∈acc,fnd x.1 (ows acc)=some x.2.o
 |[],_,x,hx=>by cases hx
 |y::acc,h,x,hx=>by
  show fnd x.1 ((y.1,y.2.o)::ows acc)=_;rw[zY];by_cases e:y.1=x.1
  ·rw[Ag e];have h1:=h y By;have h2:=h x hx;rw[e,h2]at h1;rw[Option.some.inj h1]
  ·rw[Aa e];rcases Bc.1 hx with rfl|hx
   ·exact absurd rfl e
   ·exact xN0 (fun z hz=>h z (Bl _ hz)) x hx
theorem vW0{acc:List (Nat×DOwn)}{k:Nat}{c:Own}(h:fnd k (ows acc)=some c):∃d,(k,d)∈acc/\c=d.o:=by
 have:=jG h;obtain⟨x,hx,e⟩:=Bu.1 this
 cases e;exact⟨x.2,hx,rfl⟩
end Go.Proofs.YtmakjjodkiedmaaGreatDoor
