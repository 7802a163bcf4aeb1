/-Part 11 of the proof. -/
import Derived.Test.YtmakjjodkiedmaaGreatDoorM10
namespace Go.Proofs.YtmakjjodkiedmaaGreatDoor
open Go.RowKit
inductive Out:Type 1
 |done (S:DS)
 |need (p:Prop) (r:Out)
 |imp (a b:Bool) (r:Out)
 |call (c:Option Bool) (f:FuncId) (args:List D) (r:D->Out)
 |callO (f:FuncId) (args:List D) (r:TypeId->Nat->List (List D)->Out)
 |callL (c:Option Bool) (f:FuncId) (args:List D) (r:D->Out)
 |callG (f:FuncId) (args:List D) (n:Nat) (lown:List DOwn) (r:D->List DOwn->Out)
 |pick (p:List D->Prop) (r:List D->Out)
 |split (c:Bool) (a b:Out)
 |pan (ch:List PanicEntry) (r:Out)
 |bad (i:Nat)
structure PanS(a b:Prop):Prop where
 l:a
 r:b
def Out.sat(P:Program)(E:Pn):Out->(DS->Prop)->Prop
 | .done S,K=>K S
 | .need p r,K=>p/\r.sat P E K
 | .imp a b r,K=>(a=true->b=true)/\r.sat P E K
 | .call c f args r,K=>∃out:D,(c≠some false->PFun P f (D.pvs args) out.pv)/\out.flat=true/\(r out).sat P E K
 | .callO f args r,K=>∃e sz rows,OFun P f (D.pvs args) e sz (D.pvss rows)/\(r e sz rows).sat P E K
 | .callL c f args r,K=>∃out:D,(c≠some false->PFun P f (D.pvs args) out.pv)/\out.flat=true/\out.str=true/\(r out).sat P E K
 | .callG f args n lown r,K=>∃(out:D)(l:List DOwn),GFunE P E f (D.tvl args) (ows (uE 0 lown)) out.tv (ows (uE 0 l))/\chkG n out l=true/\(r out l).sat P E K
 | .pick p r,K=>∃row,p row/\(r row).sat P E K
 | .split c a b,K=>(c=true->a.sat P E K)/\(c=false->b.sat P E K)
 | .pan ch r,K=>PanS (E ch) (r.sat P E K)
 | .bad _,_=>False
noncomputable def gD (ps:List Prop) (r:Out):Out:=List.rec (motive:=fun _=>Out) r (fun p _ ih=> .need p ih) ps
noncomputable def qU0 (e:Bool) (ps:List Prop) (r:Out):Out:=List.rec (motive:=fun _=>Out) r (fun p _ ih=> .need (e=true->p) ih) ps
noncomputable def imps (e:Bool) (cs:List Bool) (r:Out):Out:=List.rec (motive:=fun _=>Out) r (fun c _ ih=> .imp e c ih) cs
theorem jK{P:Program}{E:Pn}{K:DS->Prop}:∀{ps:List Prop}{r:Out},(gD ps r).sat P E K->AllP ps/\r.sat P E K
 |[],_,h=>⟨trivial,h⟩
 |p::l,r,h=>by
  obtain⟨h1,h2⟩:=h;obtain⟨h3,h4⟩:=jK h2;exact⟨⟨h1,h3⟩,h4⟩
theorem wV{P:Program}{E:Pn}{e:Bool}{K:DS->Prop}:∀{ps:List Prop}{r:Out},(qU0 e ps r).sat P E K->(e=true->AllP ps)/\r.sat P E K
 |[],_,h=>⟨fun _=>trivial,h⟩
 |p::l,r,h=>by
  obtain⟨h1,h2⟩:=h;obtain⟨h3,h4⟩:=wV h2;exact⟨fun he=>⟨h1 he,h3 he⟩,h4⟩
theorem qK{P:Program}{E:Pn}{e:Bool}{K:DS->Prop}:∀{cs:List Bool}{r:Out},(imps e cs r).sat P E K->(e=true->∀c∈cs,c=true)/\r.sat P E K
 |[],_,h=>⟨(fun _ _ h=>by cases h),h⟩
 |c::l,r,h=>by
  obtain⟨h1,h2⟩:=h;obtain⟨h3,h4⟩:=qK h2;refine⟨fun he c' hc=>?_,h4⟩;rcases Bc.1 hc with rfl|hc
  ·exact h1 he
  ·exact h3 he c' hc
def D.unw:D->Option (D×Option Bool)
 | .gd c (.bp k off)=>some (.bp k off,some c)
 | .gd c (.mo k n)=>some (.mo k n,some c)
 | .gd c (.mp k n i sz o)=>some (.mp k n i sz o,some c)
 | .gd c (.mk k)=>some (.mk k,some c)
 | .gd c (.mw k q i sz n)=>some (.mw k q i sz n,some c)
 | .gd c (.own _ sz rows)=>some (.slr false sz rows,some c)
 | .gd c d=>match d.flat with
  |true=>some (d,some c)
  |false=>none
 |d=>some (d,none)
theorem D.unw_ok{d e:D}{c:Option Bool}(h:d.unw=some (e,c)){w:World}{s:Sb}{g:Gh}{v:Value}(hc:∀b,c=some b->b=true)(hv:d.tv.P w s g v):e.tv.P w s g v:=by
 unfold D.unw at h;split at h
 ·cases h;have:=hc _ rfl;subst this;rw[D.tv,TV.P]at hv;rw[D.tv];exact hv.1 rfl
 ·cases h;have:=hc _ rfl;subst this;rw[D.tv,TV.P]at hv;rw[D.tv];exact hv.1 rfl
 ·cases h;have:=hc _ rfl;subst this;rw[D.tv,TV.P]at hv;rw[D.tv];exact hv.1 rfl
 ·cases h;have:=hc _ rfl;subst this;rw[D.tv,TV.P]at hv;rw[D.tv];exact hv.1 rfl
 ·cases h;have:=hc _ rfl;subst this;rw[D.tv,TV.P]at hv;rw[D.tv];exact hv.1 rfl
 ·cases h;have:=hc _ rfl;subst this;exact hv.1 rfl
 ·rename_i c' d' h1 h2 h3 h4 h4w h5;split at h
  ·rename_i hf
   cases h;have:=hc _ rfl;subst this;have hv':(PV.gd true e.pv).p w s v:=by
    cases e<;>first|exact hv|exact absurd rfl (h1 _ _)|exact absurd rfl (h2 _ _)|exact absurd rfl (h3 _ _ _ _ _)|exact absurd rfl (h4 _)|exact absurd rfl (h4w _ _ _ _ _)
   exact D.ofPV hf (hv'.1 rfl)
  ·cases h
 ·cases h;exact hv
def D.wrap:D->Bool
 | .bp _ _=>true
 | .mo _ _=>true
 | .mp _ _ _ _ _=>true
 | .mk _=>true
 | .mw _ _ _ _ _=>true
 |d=>d.pure
theorem D.wrap_ok{d:D}(h:d.wrap=true){w:World}{s:Sb}{g:Gh}{v:Value}(hv:d.tv.P w s g v):(D.gd true d).tv.P w s g v:=by
 have key:d.pure=true->(PV.gd true d.pv).p w s v:=fun hp=>⟨fun _=>D.reads hp hv,fun h=>by cases h⟩
 cases d with
 |bp k off=>rw[D.tv]at hv;rw[D.tv,TV.P];exact⟨fun _=>hv,fun h=>by cases h⟩
 |mo k n=>rw[D.tv]at hv;rw[D.tv,TV.P];exact⟨fun _=>hv,fun h=>by cases h⟩
 |mp k n i sz o=>rw[D.tv]at hv;rw[D.tv,TV.P];exact⟨fun _=>hv,fun h=>by cases h⟩
 |mk k=>rw[D.tv]at hv;rw[D.tv,TV.P];exact⟨fun _=>hv,fun h=>by cases h⟩
 |mw k q i sz n=>rw[D.tv]at hv;rw[D.tv,TV.P];exact⟨fun _=>hv,fun h=>by cases h⟩
 |_=>exact key h
theorem D.wrap_undef{d:D}{w:World}{s:Sb}{g:Gh}:(D.gd false d).tv.P w s g undef:=by
 have key:(PV.gd false d.pv).p w s undef:=⟨(fun h=>by cases h),fun _=>rfl⟩
 cases d with
 |bp k off=>rw[D.tv,TV.P];exact⟨(fun h=>by cases h),fun _=>rfl⟩
 |mo k n=>rw[D.tv,TV.P];exact⟨(fun h=>by cases h),fun _=>rfl⟩
 |mp k n i sz o=>rw[D.tv,TV.P];exact⟨(fun h=>by cases h),fun _=>rfl⟩
 |mk k=>rw[D.tv,TV.P];exact⟨(fun h=>by cases h),fun _=>rfl⟩
 |mw k q i sz n=>rw[D.tv,TV.P];exact⟨(fun h=>by cases h),fun _=>rfl⟩
 |_=>exact key
def mR:List (Nat×D)->Option (List (Nat×D)×List Bool)
 |[]=>some ([],[])
 |(t,d)::l=>match d.unw with
  |some (e,c)=>match mR l with
   |some (r,cs)=>match c with
    |some b=>some ((t,e)::r,b::cs)
    |none=>some ((t,e)::r,cs)
   |none=>none
  |none=>none
theorem dM:∀{l r:List (Nat×D)}{cs:List Bool},mR l=some (r,cs)->∀{t:Nat}{e:D},yQ t r=some e->∃d c,yQ t l=some d/\d.unw=some (e,c)/\∀b,c=some b->b∈cs
 |[],r,cs,h,t,e,hf=>by cases h;cases hf
 |(u,d)::l,r,cs,h,t,e,hf=>by
  unfold mR at h;split at h
  ·rename_i e' c hd;split at h
   ·rename_i r' cs' hl;have hr:r=(u,e')::r':=by split at h<;>cases h<;>rfl
    have hsub:∀b,b∈cs'->b∈cs:=by
     intro b hb;split at h<;>cases h
     ·exact Bl _ hb
     ·exact hb
    have hcc:∀b,c=some b->b∈cs:=by
     intro b hb;subst hb;simp only at h
     cases h;exact By
    subst hr;rw[yN]at hf⊢;by_cases hut:u=t
    ·simp only[hut,if_true]at hf⊢
     cases hf;exact⟨d,c,rfl,hd,hcc⟩
    ·simp only[hut,if_false]at hf⊢;obtain⟨d',c',h1,h2,h3⟩:=dM hl hf;exact⟨d',c',h1,h2,fun b hb=>hsub b (h3 b hb)⟩
   ·cases h
  ·cases h
theorem unwAll_ok{w:World}{s:Sb}{g:Gh}{a:Act}{l r:List (Nat×D)}{cs:List Bool}(h:mR l=some (r,cs))(hc:∀c∈cs,c=true)(ht:qW w s g (tvs l) a):qW w s g (tvs r) a:=by
 intro t d hf;rw[qE]at hf
 cases he:yQ t r with
 |none=>rw[he]at hf;cases hf
 |some e=>
  rw[he]at hf
  cases hf;obtain⟨d',c,h1,h2,h3⟩:=dM h he;obtain⟨v,h4,h5⟩:=ht t d'.tv (by rw[qE,h1];rfl);exact⟨v,h4,D.unw_ok h2 (fun b hb=>hc b (h3 b hb)) h5⟩
def opd(tm:List (Nat×D)):Operand->Option D
 | .tmp t=>yQ t tm
 | .const v=>some (.v v)
 | .global n=>some (.v (.pointer (some ⟨n,0,none⟩)))
 | .func f=>some (.v (.func (.func f) #[] #[]))
theorem cE{tm:List (Nat×D)}{x:Operand}{d:D}(h:opd tm x=some d):Opd (tvs tm) x d.tv:=by
 cases x with
 |tmp t=>
  have h':yQ t tm=some d:=h;show fnd t (tvs tm)=some d.tv;rw[qE,h'];rfl
 |const v=>cases h;rfl
 |global n=>cases h;rfl
 |func f=>cases h;rfl
theorem UOp.tms{P:Program}{o:Oper}{tm tm':List (Nat×TV)}{acc acc':List (Nat×Own)}{out:TV}(h:UOp P o tm' acc out acc')(ht:∀w s g a,qW w s g tm a->qW w s g tm' a):UOp P o tm acc out acc':=
 fun w s g a K Q h1 h2 h3=>h w s g a K Q (ht _ _ _ _ h1) h2 h3
theorem UOpE.tms{P:Program}{E:Pn}{o:Oper}{tm tm':List (Nat×TV)}{acc acc':List (Nat×Own)}{out:TV}(h:UOpE P E o tm' acc out acc')(ht:∀w s g a,qW w s g tm a->qW w s g tm' a):UOpE P E o tm acc out acc':=
 fun w s g a K Q h1 h2 h3 h4=>h w s g a K Q (ht _ _ _ _ h1) h2 h3 h4
def opsOf:Op->List Operand
 | .move x| .assign x| .nilCheck x| .box _ x| .load _ x| .unOp _ _ x| .convert _ _ x| .fieldAddr _ x _| .field _ x _| .extract x _| .range _ x| .next x _| .makeInterface _ x| .panic x| .typeAssert x _ _ _=>[x]
 | .pick c a b=>[c,a,b]
 | .build _ ps| .buildSlice _ _ ps=>ps.toList.map (·.2)
 | .store _ a v| .binOp _ _ a v _| .indexAddr _ a v| .index _ a v| .makeSlice _ a v=>[a,v]
 | .makeFunc _ first xs=>first.toList++xs.toList
 | .lookup _ x y _=>[x,y]
 | .mapUpdate _ x y q| .insert _ x y q=>[x,y,q]
 | .slice _ x l h _=>x::((match l with|some y=>[y]|none=>[])++match h with|some y=>[y]|none=>[])
 | .call c=>match c.callee with
  | .value f=>f::c.args.toList
  |_=>c.args.toList
 |_=>[]
def vC0:List Operand->List Nat
 |[]=>[]
 | .tmp t::l=>t::vC0 l
 |_::l=>vC0 l
def opAt:List Oper->Nat->Option Oper
 |[],_=>none
 |o::_,0=>some o
 |_::l,n+1=>opAt l n
theorem bM:∀(l:List Oper)(n:Nat),opAt l n=l[n]?
 |[],_=>by simp[opAt]
 |o::_,0=>by simp[opAt]
 |_::l,n+1=>by simpa[opAt]using bM l n
def gdT(ops:List Oper)(o:Oper):List Nat:=match o.guard with
 |none=>[]
 |some (j,_)=>match opAt ops j with
  |some q=>match q.dst with
   |some t=>[t]
   |none=>[]
  |none=>[]
def qJ(ops:List Oper)(o:Oper):List Nat:=gdT ops o++vC0 (opsOf o.op)
def yT(tm:List (Nat×D)):List Nat->List (Nat×D)
 |[]=>[]
 |t::l=>match yQ t tm with
  |some d=>(t,d)::yT tm l
  |none=>yT tm l
theorem pH{tm:List (Nat×D)}:∀{l:List Nat}{t:Nat}{d:D},yQ t (yT tm l)=some d->t∈l/\yQ t tm=some d
 |[],_,_,h=>by cases h
 |u::l,t,d,h=>by
  unfold yT at h;split at h
  ·rename_i e he;rw[yN]at h;by_cases hut:u=t
   ·simp only[hut,if_true]at h
    cases h;subst hut;exact⟨By,he⟩
   ·simp only[hut,if_false]at h;obtain⟨h1,h2⟩:=pH h;exact⟨Bl _ h1,h2⟩
  ·obtain⟨h1,h2⟩:=pH h;exact⟨Bl _ h1,h2⟩
def gdOf(ops:List Oper)(ins:List (Nat×D))(j:Nat)(want:Bool):Option Bool:=match opAt ops j with
 |some q=>match q.dst with
  |some t=>match yQ t ins with
   |some (.v (.bool b))=>match want with
    |true=>some b
    |false=>some (!b)
   |some (.gd c (.v (.bool b)))=>match want with
    |true=>some (c&&b)
    |false=>some (c&& !b)
   |_=>none
  |none=>none
 |none=>none
theorem gdOf_ok{ops:List Oper}{o:Oper}{ins:List (Nat×D)}{j:Nat}{want e:Bool}(hg:o.guard=some (j,want))(h:gdOf ops ins j want=some e):Wd ops.toArray o (tvs ins) e:=by
 intro w s g a ht;unfold gdOf at h;rw[bM]at h;split at h
 ·rename_i q hq;split at h
  ·rename_i t hd;have hy:∀v,a.tmps[t]?=some v->yielded ops.toArray a.tmps j=(match v with| .bool b=>some b|_=>none):=by
    intro v hv;unfold yielded;simp[hq,hd,hv]
    cases v<;>rfl
   unfold Region.wanted;rw[hg];simp only;split at h
   ·rename_i b hb;obtain⟨v,h1,h2⟩:=ht t (.pv (PV.lit (.bool b))) (by rw[qE,hb];rfl);have h2':v= .bool b:=h2;subst h2';rw[hy _ h1]
    cases want<;>cases b<;>(simp at h;subst h;rfl)
   ·rename_i c b hb;obtain⟨v,h1,h2⟩:=ht t (.pv (PV.gd c (PV.lit (.bool b)))) (by rw[qE,hb];rfl);obtain⟨h3,h4⟩:=h2
    cases c with
    |false=>
     have h4':v=undef:=h4 rfl;subst h4';rw[hy _ h1]
     cases want<;>(simp at h;subst h;rfl)
    |true=>
     have h3':v= .bool b:=h3 rfl;subst h3';rw[hy _ h1]
     cases want<;>cases b<;>(simp at h;subst h;rfl)
   ·cases h
  ·cases h
 ·cases h
abbrev Kont:=D->List (Nat×DOwn)->List Nat->List Nat->Out
def optL(c:Option Bool):List Bool:=match c with
 |some x=>[x]
 |none=>[]
theorem wS{c:Option Bool}(h:∀x∈optL c,x=true):∀x,c=some x->x=true:=by
 rintro x rfl;exact h x By
def pkB(a b:Operand)(c0 x y:Bool):Bool:=match b with
 | .const (.bool false)=>c0&&x
 |_=>match a with
  | .const (.bool true)=>c0||y
  |_=>if c0 then x else y
theorem qO0{a b:Operand}{x y:Bool}(h:a= .const (.bool true)->x=true):pkB a b true x y=x:=by
 unfold pkB;split
 ·rfl
 ·split
  ·rw[h rfl];rfl
  ·rfl
theorem cD{a b:Operand}{x y:Bool}(h:b= .const (.bool false)->y=false):pkB a b false x y=y:=by
 unfold pkB;split
 ·rw[h rfl];rfl
 ·split
  ·rfl
  ·rfl
noncomputable def pkK (a b:Operand) (c0 x y:Bool) (k:Bool->Out):Out:=match b with
 | .const (.bool false)=>k (c0&&x)
 |_=>match a with
  | .const (.bool true)=>k (c0||y)
  |_=>k (if c0 then x else y)
theorem kE0(a b:Operand)(c0 x y:Bool)(k:Bool->Out):pkK a b c0 x y k=k (pkB a b c0 x y):=by
 unfold pkK pkB;split
 ·rfl
 ·split<;>rfl
noncomputable def pkN (a b:Operand) (c0:Bool) (a' b':D) (k:Kont):Out:=match a',b' with
 | .v (.bool x),.v (.bool y)=>pkK a b c0 x y fun z=>k (.v (.bool z)) [] [] []
 |a',b'=> .split c0 (k a' [] [] []) (k b' [] [] [])
noncomputable def pkG (e:Bool) (a b:Operand) (c0:Bool) (a' b':D) (k:Kont):Out:=match a',b' with
 | .v (.bool x),.v (.bool y)=>pkK a b c0 x y fun z=>k (.gd e (.v (.bool z))) [] [] []
 |a',b'=>match a'.wrap&&b'.wrap with
  |true=> .split c0 (k (.gd e a') [] [] []) (k (.gd e b') [] [] [])
  |false=> .bad 0
noncomputable def yG0 (look:Operand->Option D) (c a b:Operand) (k:Kont):Out:=
 match look c,look a,look b with
 |some dc,some da,some db=>match dc.unw,da.unw,db.unw with
  |some (.v (.bool c0),cc),some (a',ca),some (b',cb)=>imps true (optL cc) (imps c0 (optL ca) (imps (!c0) (optL cb) (pkN a b c0 a' b' k)))
  |_,_,_=> .bad 1
 |_,_,_=> .bad 2
noncomputable def yH0 (e:Bool) (look:Operand->Option D) (c a b:Operand) (k:Kont):Out:=
 match look c,look a,look b with
 |some dc,some da,some db=>match dc.unw,da.unw,db.unw with
  |some (.v (.bool c0),cc),some (a',ca),some (b',cb)=>imps e (optL cc) (imps (e&&c0) (optL ca) (imps (e&& !c0) (optL cb) (pkG e a b c0 a' b' k)))
  |_,_,_=> .bad 1
 |_,_,_=> .bad 2
noncomputable def wX0 (T:List (Nat×TI)) (fl:Fl) (nx:Nat) (ins:List (Nat×D)) (ow:List (Nat×DOwn)) (op:Op) (k:Kont):Out:=
 match op with
 | .pick c a b=>yG0 (opd ins) c a b k
 | .move x| .assign x=>match opd ins x with
  |some d=>k d [] [] []
  |none=> .bad 3
 |op=>match mR ins with
  |none=> .bad 4
  |some (uins,cs)=>imps true cs (match mC T fl nx (opd uins) (fun j=>yQ j ow) op with
   | .u ps out=>gD ps (k out [] [] [])
   | .r j ps out=>gD ps (k out [] [j] [])
   | .w j c' ps out=>gD ps (k out [(j,c')] [j] [j])
   | .n c' ps out=>gD ps (k out [(nx,c')] [] [nx])
   | .c f args=> .call none f args fun out=>k out [] [] []
   | .co f args=> .callO f args fun e sz rows=>k (.own nx sz rows) [(nx,.row e sz rows.length)] [] [nx]
   | .cl f args acc ps=>gD ps (.callL none f args fun out=>k out [] (fstL acc) [])
   | .g f args ks lown=> .callG f args ks.length lown fun out l=>k (out.ren (qF ks nx)) (updG ks nx 0 l) ks (fstL (updG ks nx 0 l))
   | .lk j p out=> .pick p fun row=>k (out row) [] [j] []
   | .pn ch=> .pan ch (k (.v undef) [(nx,deadO)] [] [nx])
   | .ix rows n=> .pick (fun row=>0<=n/\n.toNat<rows.length/\rows.getD n.toNat []=row) fun row=>k (.pt false row) [] [] []
   | .bad=> .bad 5)
noncomputable def evGd (T:List (Nat×TI)) (fl:Fl) (nx:Nat) (ins:List (Nat×D)) (ow:List (Nat×DOwn)) (e:Bool) (op:Op) (k:Kont):Out:=
 match op with
 | .pick c a b=>yH0 e (opd ins) c a b k
 |op=>match mR ins with
  |none=> .split e (.bad 6) (k (.v undef) [] [] [])
  |some (uins,cs)=>match mC T fl nx (opd uins) (fun j=>yQ j ow) op with
   | .u ps out=>match out.wrap with
    |true=>imps e cs (qU0 e ps (k (.gd e out) [] [] []))
    |false=> .split e (imps true cs (gD ps (k out [] [] []))) (k (.v undef) [] [] [])
   | .r j ps out=>match out.wrap with
    |true=>imps e cs (qU0 e ps (k (.gd e out) [] [j] []))
    |false=> .split e (imps true cs (gD ps (k out [] [j] []))) (k (.v undef) [] [] [])
   | .w j c' ps out=> .split e (imps true cs (gD ps (k out [(j,c')] [j] [j]))) (k (.v undef) [] [] [])
   | .n c' ps out=> .split e (imps true cs (gD ps (k out [(nx,c')] [] [nx]))) (k (.v undef) [] [] [])
   | .c f args=>imps e cs (.call (some e) f args fun out=>k (.gd e out) [] [] [])
   | .co _ _=> .bad 11
   | .cl f args acc ps=>imps e cs (qU0 e ps (.callL (some e) f args fun out=>k (.gd e out) [] (fstL acc) []))
   | .g f args ks lown=> .split e (imps true cs (.callG f args ks.length lown fun out l=>k (out.ren (qF ks nx)) (updG ks nx 0 l) ks (fstL (updG ks nx 0 l)))) (k (.v undef) [] [] [])
   | .lk j p out=> .split e (imps true cs (.pick p fun row=>k (out row) [] [j] [])) (k (.v undef) [] [] [])
   | .pn ch=> .split e (imps true cs (.pan ch (k (.v undef) [(nx,deadO)] [] [nx]))) (k (.v undef) [] [] [])
   | .ix _ _=> .bad 12
   | .bad=> .split e (.bad 9) (k (.v undef) [] [] [])
noncomputable def mJ0 (T:List (Nat×TI)) (fl:Fl) (ops:List Oper) (nx:Nat) (ins:List (Nat×D)) (ow:List (Nat×DOwn)) (o:Oper) (k:Kont):Out:=
 match o.guard with
 |none=>wX0 T fl nx ins ow o.op k
 |some (j,want)=>match gdOf ops ins j want with
  |some e=>evGd T fl nx ins ow e o.op k
  |none=> .bad 10
def cB(ops:List Oper)(o:Oper)(ins:List (Nat×D))(acc:List (Nat×DOwn))(out:TV)(acc':List (Nat×DOwn))(wr did:Bool):Rw:=
 ⟨o.dst,qJ ops o,tvs ins,ows acc,out,ows acc',wr,did⟩
def updW(u:List (Nat×DOwn))(ow:List (Nat×DOwn)):List (Nat×DOwn):=u++ow
theorem ows_append(u ow:List (Nat×DOwn)):ows (u++ow)=ows u++ows ow:=by simp[ows]
theorem gJ:∀l:List (Nat×DOwn),fstL l=(ows l).map (·.1)
 |[]=>rfl
 |x::l=>by
  show x.1::fstL l=x.1::(ows l).map (·.1);rw[gJ l]
structure Told(P:Program)(E:Pn)(ops:List Oper)(sz nx0 i:Nat)(o:Oper)(tm:List (Nat×D))(ow:List (Nat×DOwn))(out:D)(u:List (Nat×DOwn))(ord owr:List Nat)(r:Rw):Prop where
 ok:RowOk P E ops.toArray sz nx0 1 i o (fun t=>fnd t (tvs tm)) (fun k=>fnd k (ows ow)) r
 out:r.out=out.tv
 upd:(if r.wr then r.acc' else [])=ows u
 rd:r.rd=qJ ops o
 ord:∀k∈r.ki.ord,k∈ord
 owr:∀k∈r.ki.owr,k∈owr
section
variable{P:Program}{E:Pn}{T:List (Nat×TI)}(hT:wC P T=true){ops:List Oper}{sz nx0 i:Nat}{o:Oper}{tm:List (Nat×D)}{ow:List (Nat×DOwn)}{K:DS->Prop}{k:Kont}
theorem mA{t:Nat}{d:TV}(h:fnd t (tvs (yT tm (qJ ops o)))=some d):t∈qJ ops o/\fnd t (tvs tm)=some d:=by
 rw[qE]at h⊢
 cases he:yQ t (yT tm (qJ ops o))with
 |none=>rw[he]at h;cases h
 |some e=>
  rw[he]at h;obtain⟨h1,h2⟩:=pH he;exact⟨h1,by rw[h2];exact h⟩
theorem xD{out:D}{o':TV}(hd:dstB o.dst sz=true)(hu:UOp P o (tvs (yT tm (qJ ops o))) [] o' [])(he:∀w s g v,o'.P w s g v->out.tv.P w s g v)(hw:Wd ops.toArray o (tvs (yT tm (qJ ops o))) true):
  Told P E ops sz nx0 i o tm ow out [] [] [] (cB ops o (yT tm (qJ ops o)) [] out.tv [] false true):=
 ⟨⟨rfl,fun t d h=>mA h,(fun _ _ h=>by cases h),(fun _ _ _ h=>by cases h),(fun _ _ h=>by cases h),hd,fun _=>⟨(hu.weaken he).toE,hw⟩,(fun h=>by cases h)⟩,rfl,rfl,rfl,fun _ h=>h,fun _ h=>h⟩
theorem qI{out:D}{ord owr:List Nat}(hd:dstB o.dst sz=true)(he:∀w s g,out.tv.P w s g undef)(hw:Wd ops.toArray o (tvs (yT tm (qJ ops o))) false):
  Told P E ops sz nx0 i o tm ow out [] ord owr (cB ops o (yT tm (qJ ops o)) [] out.tv [] false false):=
 ⟨⟨rfl,fun t d h=>mA h,(fun _ _ h=>by cases h),(fun _ _ _ h=>by cases h),(fun _ _ h=>by cases h),hd,(fun h=>by cases h),fun _=>⟨hw,he,rfl,rfl⟩⟩,rfl,rfl,rfl,(fun _ h=>by cases h),(fun _ h=>by cases h)⟩
theorem gP0{out:D}{j:Nat}{c:DOwn}{o':TV}(hk:yQ j ow=some c)(hd:dstB o.dst sz=true)(hu:UOp P o (tvs (yT tm (qJ ops o))) [(j,c.o)] o' [(j,c.o)])(he:∀w s g v,o'.P w s g v->out.tv.P w s g v)(hw:Wd ops.toArray o (tvs (yT tm (qJ ops o))) true):
  Told P E ops sz nx0 i o tm ow out [] [j] [] (cB ops o (yT tm (qJ ops o)) [(j,c)] out.tv [(j,c)] false true):=
 ⟨⟨rfl,fun t d h=>mA h,fun k c' h=>by
   obtain⟨rfl,rfl⟩:=vV h;rw[qD,hk];rfl,fun _ k c' h=>h,fun k c' h=> .inl ⟨_,h⟩,hd,fun _=>⟨(hu.weaken he).toE,hw⟩,(fun h=>by cases h)⟩,rfl,rfl,rfl,fun _ h=>h,fun _ h=>h⟩
theorem told_w{out:D}{j:Nat}{c c':DOwn}(hk:yQ j ow=some c)(hd:dstB o.dst sz=true)(hu:UOp P o (tvs (yT tm (qJ ops o))) [(j,c.o)] out.tv [(j,c'.o)])(hw:Wd ops.toArray o (tvs (yT tm (qJ ops o))) true):
  Told P E ops sz nx0 i o tm ow out [(j,c')] [j] [j] (cB ops o (yT tm (qJ ops o)) [(j,c)] out.tv [(j,c')] true true):=
 ⟨⟨rfl,fun t d h=>mA h,fun k c' h=>by
   obtain⟨rfl,rfl⟩:=vV h;rw[qD,hk];rfl,(fun h=>by cases h),fun k d h=> .inl (by
   obtain⟨rfl,rfl⟩:=vV h;exact⟨c.o,by show fnd k [(k,c.o)]=_;rw[zY];simp⟩),hd,fun _=>⟨hu.toE,hw⟩,(fun h=>by cases h)⟩,rfl,rfl,rfl,fun _ h=>h,fun _ h=>h⟩
theorem gQ0{out:D}{c':DOwn}(hd:dstB o.dst sz=true)(hu:UOp P o (tvs (yT tm (qJ ops o))) [] out.tv [(nx0+i,c'.o)])(hw:Wd ops.toArray o (tvs (yT tm (qJ ops o))) true):
  Told P E ops sz nx0 i o tm ow out [(nx0+i,c')] [] [nx0+i] (cB ops o (yT tm (qJ ops o)) [] out.tv [(nx0+i,c')] true true):=
 ⟨⟨rfl,fun t d h=>mA h,(fun _ _ h=>by cases h),(fun h=>by cases h),fun k d h=> .inr (by
   obtain⟨rfl,rfl⟩:=vV h;omega),hd,fun _=>⟨hu.toE,hw⟩,(fun h=>by cases h)⟩,rfl,rfl,rfl,fun _ h=>h,fun _ h=>h⟩
theorem told_p{out:D}{c':DOwn}(hd:dstB o.dst sz=true)(hu:UOpE P E o (tvs (yT tm (qJ ops o))) [] out.tv [(nx0+i,c'.o)])(hw:Wd ops.toArray o (tvs (yT tm (qJ ops o))) true):
  Told P E ops sz nx0 i o tm ow out [(nx0+i,c')] [] [nx0+i] (cB ops o (yT tm (qJ ops o)) [] out.tv [(nx0+i,c')] true true):=
 ⟨⟨rfl,fun t d h=>mA h,(fun _ _ h=>by cases h),(fun h=>by cases h),fun k d h=> .inr (by
   obtain⟨rfl,rfl⟩:=vV h;omega),hd,fun _=>⟨hu,hw⟩,(fun h=>by cases h)⟩,rfl,rfl,rfl,fun _ h=>h,fun _ h=>h⟩
theorem told_l{out:D}{acc:List (Nat×DOwn)}{o':TV}(hk:∀x∈acc,yQ x.1 ow=some x.2)(hd:dstB o.dst sz=true)(hu:UOp P o (tvs (yT tm (qJ ops o))) (ows acc) o' (ows acc))(he:∀w s g v,o'.P w s g v->out.tv.P w s g v)(hw:Wd ops.toArray o (tvs (yT tm (qJ ops o))) true):
  Told P E ops sz nx0 i o tm ow out [] (fstL acc) [] (cB ops o (yT tm (qJ ops o)) acc out.tv acc false true):=
 ⟨⟨rfl,fun t d h=>mA h,fun k c' h=>by
   obtain⟨d,hd,rfl⟩:=vW0 h;rw[qD,hk _ hd];rfl,fun _ k c' h=>h,fun k c' h=> .inl ⟨_,h⟩,hd,fun _=>⟨(hu.weaken he).toE,hw⟩,(fun h=>by cases h)⟩,rfl,rfl,rfl,fun k h=>by rw[gJ];exact h,fun _ h=>h⟩
theorem told_g{out:D}{acc acc':List (Nat×DOwn)}(hk:∀k c,fnd k (ows acc)=some c->fnd k (ows ow)=some c)(hn:∀k c,fnd k (ows acc')=some c->(∃c0,fnd k (ows acc)=some c0)\/k=nx0+i)(hd:dstB o.dst sz=true)(hu:UOpE P E o (tvs (yT tm (qJ ops o))) (ows acc) out.tv (ows acc'))(hw:Wd ops.toArray o (tvs (yT tm (qJ ops o))) true){ks:List Nat}(hks:∀k∈fstL acc,k∈ks):
  Told P E ops sz nx0 i o tm ow out acc' ks (fstL acc') (cB ops o (yT tm (qJ ops o)) acc out.tv acc' true true):=
 ⟨⟨rfl,fun t d h=>mA h,hk,(fun h=>by cases h),fun k c h=>(hn k c h).imp id fun e=>by omega,hd,fun _=>⟨hu,hw⟩,(fun h=>by cases h)⟩,rfl,rfl,rfl,fun k h=>hks k (by rw[gJ];exact h),fun k h=>by rw[gJ];exact h⟩
theorem kA{tm:List (Nat×TV)}{dst:Option Tmp}{ty:TypeId}{pos:String}{aft:Array Edge}{gd:Option (Nat×Bool)}{c x y:Operand}{c0:Bool}{out:TV}(hc:∀w s g a,qW w s g tm a->a.eval c= .bool c0)
  (ha:c0=true->∀w s g a,qW w s g tm a->out.P w s g (a.eval x)) (hb:c0=false->∀w s g a,qW w s g tm a->out.P w s g (a.eval y)):UOp P ⟨dst,.pick c x y,ty,pos,aft,gd⟩ tm [] out []:=
 UOp.pure fun w s g a ht=>by
  have h:=hc w s g a ht
  cases c0 with
  |true=>exact⟨a.eval x,by simp[execOp,h,asBool],ha rfl w s g a ht⟩
  |false=>exact⟨a.eval y,by simp[execOp,h,asBool],hb rfl w s g a ht⟩
theorem kK{ins:List (Nat×D)}{x:Operand}{d e:D}{c:Option Bool}(hx:opd ins x=some d)(hu:d.unw=some (e,c))(hc:∀b,c=some b->b=true){w:World}{s:Sb}{g:Gh}{a:Act}(ht:qW w s g (tvs ins) a):e.tv.P w s g (a.eval x):=
 D.unw_ok hu hc (Opd.eval ht (cE hx))
theorem gC{ins:List (Nat×D)}{x:Operand}{d:D}{c:Option Bool}{v:Bool}{b:Bool}(hx:opd ins x=some d)(hu:d.unw=some (.v (.bool v),c))(e:x= .const (.bool b)):v=b:=by
 subst e;have:d= .v (.bool b):=by
  have h:some (D.v (.bool b))=some d:=hx
  cases h;rfl
 subst this;have h:(D.v (.bool b)).unw=some (.v (.bool b),none):=rfl;rw[h]at hu
 cases hu;rfl
theorem evPickN_told{dst:Option Tmp}{ty:TypeId}{pos:String}{aft:Array Edge}{c a b:Operand}(ho:o=⟨dst,.pick c a b,ty,pos,aft,none⟩)(hd:dstB o.dst sz=true)(h:(yG0 (opd (yT tm (qJ ops o))) c a b k).sat P E K):
  ∃out u ord owr r,Told P E ops sz nx0 i o tm ow out u ord owr r/\(k out u ord owr).sat P E K:=by
 have hw:Wd ops.toArray o (tvs (yT tm (qJ ops o))) true:=fun w s g a _=>by rw[ho];rfl
 unfold yG0 at h;split at h
 ·rename_i dc da db hc ha hb;split at h
  ·rename_i c0 cc a' ca b' cb huc hua hub;obtain⟨h1,q1⟩:=qK h;obtain⟨h2,q2⟩:=qK q1;obtain⟨h3,q3⟩:=qK q2;clear h q1 q2;have hcv:∀w s g(a:Act),qW w s g (tvs (yT tm (qJ ops o))) a->a.eval c= .bool c0:=fun w s g a ht=>kK hc huc (wS (h1 rfl)) ht;have hav:c0=true->∀w s g(act:Act),qW w s g (tvs (yT tm (qJ ops o))) act->a'.tv.P w s g (act.eval a):=fun e w s g act ht=>kK ha hua (wS (h2 e)) ht;have hbv:c0=false->∀w s g(act:Act),qW w s g (tvs (yT tm (qJ ops o))) act->b'.tv.P w s g (act.eval b):=fun e w s g act ht=>kK hb hub (wS (h3 (by rw[e];rfl))) ht;unfold pkN at q3;split at q3
   ·rename_i x y;rw[kE0]at q3
    refine⟨_,_,_,_,_,xD (out:= .v (.bool (pkB a b c0 x y))) hd (by
     subst ho;exact kA (out:= .pv (PV.lit (.bool (pkB a b c0 x y)))) hcv (fun e w s g act ht=>by
       have hx:act.eval a= .bool x:=hav e w s g act ht;show act.eval a=_;rw[hx,e,qO0 fun e'=>gC ha hua e']) (fun e w s g act ht=>by
       have hy:act.eval b= .bool y:=hbv e w s g act ht;show act.eval b=_;rw[hy,e,cD fun e'=>gC hb hub e'])) (fun _ _ _ _ h=>h) hw,q3⟩
   ·have h':((c0=true->(k a' [] [] []).sat P E K)/\(c0=false->(k b' [] [] []).sat P E K)):=q3
    cases hc0:c0 with
    |true=>
     exact⟨_,_,_,_,_,xD hd (by
      subst ho;exact kA hcv (fun e=>hav e) (fun e=>by rw[hc0]at e;cases e)) (fun _ _ _ _ h=>h) hw,h'.1 hc0⟩
    |false=>
     exact⟨_,_,_,_,_,xD hd (by
      subst ho;exact kA hcv (fun e=>by rw[hc0]at e;cases e) (fun e=>hbv e)) (fun _ _ _ _ h=>h) hw,h'.2 hc0⟩
  ·exact h.elim
 ·exact h.elim
theorem xP{d:D}(h:d.wrap=true):∀w s g v,d.tv.P w s g v->(D.gd true d).tv.P w s g v:=fun _ _ _ _ hv=>D.wrap_ok h hv
theorem evPickG_told{e:Bool}{dst:Option Tmp}{ty:TypeId}{pos:String}{aft:Array Edge}{gd:Option (Nat×Bool)}{c a b:Operand}(ho:o=⟨dst,.pick c a b,ty,pos,aft,gd⟩)(hw:Wd ops.toArray o (tvs (yT tm (qJ ops o))) e)(hd:dstB o.dst sz=true)(h:(yH0 e (opd (yT tm (qJ ops o))) c a b k).sat P E K):
  ∃out u ord owr r,Told P E ops sz nx0 i o tm ow out u ord owr r/\(k out u ord owr).sat P E K:=by
 unfold yH0 at h;split at h
 ·rename_i dc da db hc ha hb;split at h
  ·rename_i c0 cc a' ca b' cb huc hua hub;obtain⟨h1,q1⟩:=qK h;obtain⟨h2,q2⟩:=qK q1;obtain⟨h3,q3⟩:=qK q2;clear h q1 q2;have hcv:e=true->∀w s g(a:Act),qW w s g (tvs (yT tm (qJ ops o))) a->a.eval c= .bool c0:=fun he w s g a ht=>kK hc huc (wS (h1 he)) ht;have hav:e=true->c0=true->∀w s g(act:Act),qW w s g (tvs (yT tm (qJ ops o))) act->a'.tv.P w s g (act.eval a):=fun he e w s g act ht=>kK ha hua (wS (h2 (by rw[he,e];rfl))) ht;have hbv:e=true->c0=false->∀w s g(act:Act),qW w s g (tvs (yT tm (qJ ops o))) act->b'.tv.P w s g (act.eval b):=fun he e w s g act ht=>kK hb hub (wS (h3 (by rw[he,e];rfl))) ht;unfold pkG at q3;split at q3
   ·rename_i x y;rw[kE0]at q3
    cases he:e with
    |false=>
     rw[he]at q3 hw;exact⟨_,_,_,_,_,qI hd (fun _ _ _=>D.wrap_undef) hw,q3⟩
    |true=>
     rw[he]at q3 hw
     refine⟨_,_,_,_,_,xD (out:= .gd true (.v (.bool (pkB a b c0 x y)))) hd (by
      subst ho;exact kA (out:= .pv (PV.lit (.bool (pkB a b c0 x y)))) (hcv he) (fun e w s g act ht=>by
        have hx:act.eval a= .bool x:=hav he e w s g act ht;show act.eval a=_;rw[hx,e,qO0 fun e'=>gC ha hua e']) (fun e w s g act ht=>by
        have hy:act.eval b= .bool y:=hbv he e w s g act ht;show act.eval b=_;rw[hy,e,cD fun e'=>gC hb hub e'])) (xP (d:= .v (.bool (pkB a b c0 x y))) rfl) hw,q3⟩
   ·split at q3
    ·rename_i hwr;simp only[Ah]at hwr;have h':((c0=true->(k (.gd e a') [] [] []).sat P E K)/\(c0=false->(k (.gd e b') [] [] []).sat P E K)):=q3
     cases he:e with
     |false=>
      rw[he]at h' hw
      cases hc0:c0 with
      |true=>exact⟨_,_,_,_,_,qI hd (fun _ _ _=>D.wrap_undef) hw,h'.1 hc0⟩
      |false=>exact⟨_,_,_,_,_,qI hd (fun _ _ _=>D.wrap_undef) hw,h'.2 hc0⟩
     |true=>
      rw[he]at h' hw
      cases hc0:c0 with
      |true=>
       exact⟨_,_,_,_,_,xD hd (by
        subst ho;exact kA (hcv he) (fun e=>hav he e) (fun e=>by rw[hc0]at e;cases e)) (xP hwr.1) hw,h'.1 hc0⟩
      |false=>
       exact⟨_,_,_,_,_,xD hd (by
        subst ho;exact kA (hcv he) (fun e=>by rw[hc0]at e;cases e) (fun e=>hbv he e)) (xP hwr.2) hw,h'.2 hc0⟩
    ·exact q3.elim
  ·exact h.elim
 ·exact h.elim
end
mutual
theorem D.flat_pure{d:D}(h:d.flat=true):d.pure=true:=by
 match d,h with
 | .v _,_=>rfl
 | .agg l,h=>
  rw[D.flat]at h;rw[D.pure];exact D.flats_pures h
 | .tup _,_=>rfl
 | .clo f l,h=>
  rw[D.flat]at h;rw[D.pure];exact D.flats_pures h
 | .sl _ _ _ _ _,_=>rfl
 | .slr _ _ _,_=>rfl
 | .slf _ _,_=>rfl
 | .pt _ _,_=>rfl
 | .op _,_=>rfl
 | .gd c (.v _),_=>rfl
 | .gd c (.agg _),_=>rfl
 | .gd c (.tup _),_=>rfl
 | .gd c (.tpo _),_=>rfl
 | .gd c (.clo _ _),_=>rfl
 | .gd c (.sl _ _ _ _ _),_=>rfl
 | .gd c (.slr _ _ _),_=>rfl
 | .gd c (.slf _ _),_=>rfl
 | .gd c (.pt _ _),_=>rfl
 | .gd c (.own _ _ _),_=>rfl
 | .gd c (.op _),_=>rfl
 | .gd c (.gd _ _),_=>rfl
 | .gd c (.bp _ _),h=>simp[D.flat]at h
 | .gd c (.mo _ _),h=>simp[D.flat]at h
 | .gd c (.mp _ _ _ _ _),h=>simp[D.flat]at h
 | .gd c (.mk _),h=>simp[D.flat]at h
 | .gd c (.mw _ _ _ _ _),h=>simp[D.flat]at h
 | .bp _ _,h=>simp[D.flat]at h
 | .own _ _ _,h=>simp[D.flat]at h
 | .mo _ _,h=>simp[D.flat]at h
 | .mp _ _ _ _ _,h=>simp[D.flat]at h
 | .mk _,h=>simp[D.flat]at h
 | .mw _ _ _ _ _,h=>simp[D.flat]at h
 | .tpo _,h=>simp[D.flat]at h
theorem D.flats_pures{l:List D}(h:D.flats l=true):D.pures l=true:=by
 match l,h with
 |[],_=>rw[D.pures]
 |d::l,h=>
  obtain⟨h1,h2⟩:=kQ h;rw[D.pures,D.flat_pure h1];exact D.flats_pures h2
end
section
variable{P:Program}{E:Pn}{T:List (Nat×TI)}(hT:wC P T=true){fl:Fl}{ops:List Oper}{sz nx0 i:Nat}{o:Oper}{tm:List (Nat×D)}{ow:List (Nat×DOwn)}{K:DS->Prop}{k:Kont}
include hT
theorem zD0{uins:List (Nat×D)}{cs:List Bool}(hu:mR (yT tm (qJ ops o))=some (uins,cs))(hcs:∀c∈cs,c=true)(hw:Wd ops.toArray o (tvs (yT tm (qJ ops o))) true)(hd:dstB o.dst sz=true):
  match mC T fl (nx0+i) (opd uins) (fun j=>yQ j ow) o.op with
  | .u ps out=>AllP ps->∀out':D,(∀w s g v,out.tv.P w s g v->out'.tv.P w s g v)->∃r,Told P E ops sz nx0 i o tm ow out' [] [] [] r
  | .r j ps out=>AllP ps->∀out':D,(∀w s g v,out.tv.P w s g v->out'.tv.P w s g v)->∃r,Told P E ops sz nx0 i o tm ow out' [] [j] [] r
  | .w j c' ps out=>AllP ps->∃r,Told P E ops sz nx0 i o tm ow out [(j,c')] [j] [j] r
  | .n c' ps out=>AllP ps->∃r,Told P E ops sz nx0 i o tm ow out [(nx0+i,c')] [] [nx0+i] r
  | .c f args=>∀out:D,PFun P f (D.pvs args) out.pv->out.flat=true->∀out':D,(∀w s g v,out.tv.P w s g v->out'.tv.P w s g v)->∃r,Told P E ops sz nx0 i o tm ow out' [] [] [] r
  | .co f args=>∀e z rows,OFun P f (D.pvs args) e z (D.pvss rows)->∃r,Told P E ops sz nx0 i o tm ow (.own (nx0+i) z rows) [(nx0+i,.row e z rows.length)] [] [nx0+i] r
  | .cl f args acc ps=>AllP ps->∀out:D,PFun P f (D.pvs args) out.pv->out.flat=true->out.str=true->∀out':D,(∀w s g v,out.tv.P w s g v->out'.tv.P w s g v)->∃r,Told P E ops sz nx0 i o tm ow out' [] (fstL acc) [] r
  | .g f args ks lown=>∀(out:D)(l:List DOwn),GFunE P E f (D.tvl args) (ows (uE 0 lown)) out.tv (ows (uE 0 l))->chkG ks.length out l=true->∃r,Told P E ops sz nx0 i o tm ow (out.ren (qF ks (nx0+i))) (updG ks (nx0+i) 0 l) ks (fstL (updG ks (nx0+i) 0 l)) r
  | .pn ch=>E ch->∃r,Told P E ops sz nx0 i o tm ow (.v undef) [(nx0+i,deadO)] [] [nx0+i] r
  | .lk j p out=>∀row,p row->∃r,Told P E ops sz nx0 i o tm ow (out row) [] [j] [] r
  | .ix rows n=>∀row,(0<=n/\n.toNat<rows.length/\rows.getD n.toNat []=row)->∃r,Told P E ops sz nx0 i o tm ow (.pt false row) [] [] [] r
  | .bad=>True:=by
 have hts:∀w s g a,qW w s g (tvs (yT tm (qJ ops o))) a->qW w s g (tvs uins) a:=fun w s g a ht=>unwAll_ok hu hcs ht;have hc:=evCore_ok (P:=P) (E:=E) hT (fl:=fl) (ow:=fun j=>yQ j ow) (nx:=nx0+i) (HL:=fun x d h=>cE (tm:=uins) h) (dst:=o.dst) (ty:=o.type) (pos:=o.pos) (aft:=o.after) (gd:=o.guard) o.op;generalize mC T fl (nx0+i) (opd uins) (fun j=>yQ j ow) o.op=r1 at hc⊢
 cases r1 with
 |u ps out=>exact fun hp out' he=>⟨_,xD hd ((hc hp).tms hts) he hw⟩
 |r j ps out=>
  intro hp out' he;obtain⟨c,h1,h2⟩:=hc hp;exact⟨_,gP0 h1 hd (h2.tms hts) he hw⟩
 |w j c' ps out=>
  intro hp;obtain⟨c,h1,h2⟩:=hc hp;exact⟨_,told_w h1 hd (h2.tms hts) hw⟩
 |n c' ps out=>exact fun hp=>⟨_,gQ0 hd ((hc hp).tms hts) hw⟩
 |c f args=>exact fun out hF hfl out' he=>⟨_,xD hd ((hc _ hF).tms hts) (fun w s g v hv=>he w s g v (D.ofPV hfl hv)) hw⟩
 |pn ch=>exact fun hE=>⟨_,told_p hd ((hc hE).tms hts) hw⟩
 |co f args=>exact fun e sz' rows hF=>⟨_,gQ0 hd ((hc e sz' rows hF).tms hts) hw⟩
 |cl f args acc ps=>exact fun hp out hF hfl hst out' he=>⟨_,told_l (hc hp).1 hd (((hc hp).2 out.pv (D.str_pv out hst) hF).tms hts) (fun w s g v hv=>he w s g v (D.ofPV hfl hv)) hw⟩
 |g f args ks lown=>
  intro out l hF hchk;obtain⟨h1,h2,h3,h4⟩:=hc out l hchk hF;obtain⟨c1,c2,_,_⟩:=yS0 hchk;have hmem:∀{j:Nat}{l:List DOwn}{k:Nat}{c:Own},fnd k (ows (updG ks (nx0+i) j l))=some c->∃m d,l[m]?=some d/\k=qF ks (nx0+i) (j+m)/\c=(d.ren (qF ks (nx0+i))).o:=by
   intro j l;induction l generalizing j with
   |nil=>intro k c h;cases h
   |cons d l ih=>
    intro k c h;have h:fnd k ((qF ks (nx0+i) j,(d.ren (qF ks (nx0+i))).o)::ows (updG ks (nx0+i) (j+1) l))=some c:=h;rw[zY]at h;by_cases e:qF ks (nx0+i) j=k
    ·rw[Ag e]at h;cases h;exact⟨0,d,rfl,by rw[Ce];exact e.symm,rfl⟩
    ·rw[Aa e]at h;obtain⟨m,d',g1,g2,g3⟩:=ih h;exact⟨m+1,d',by simpa using g1,by rw[g2];congr 1;omega,g3⟩
  have hrk:∀m,m<ks.length->ks[m]?=some (qF ks (nx0+i) m):=by
   have:∀(ks:List Nat)(m:Nat),m<ks.length->ks[m]?=some (qF ks (nx0+i) m):=by
    intro ks;induction ks with
    |nil=>intro m hm;simp at hm
    |cons k ks ih=>
     intro m hm
     cases m with
     |zero=>rfl
     |succ m=>
      have h9:=ih m (by simpa using hm);show(k::ks)[m+1]?=some (qF ks (nx0+i) m);rw[List.getElem?_cons_succ];exact h9
   exact this ks
  refine⟨_,told_g (fun k c hk=>?_) (fun k c hk=>?_) hd (h4.tms hts) hw fun k hk=>?_⟩
  ·obtain⟨m,d,g1,rfl,rfl⟩:=hmem hk;have hm:m<ks.length:=by rw[<-h3];exact(Ac.1 g1).1
   obtain⟨c0,e1,e2⟩:=h2 m _ d (hrk m hm) g1;rw[Bv,qD,show yQ (qF ks (nx0+i) m) ow=some c0 from e1];exact congrArg some e2
  ·obtain⟨m,d,g1,rfl,rfl⟩:=hmem hk;have hm:m<l.length:=(Ac.1 g1).1;rw[Bv];rcases Bm m ks.length with h|h
   ·refine .inl ?_;have hml:m<lown.length:=by omega
    have:∀{j:Nat}{l:List DOwn}{m:Nat},m<l.length->∃c,fnd (qF ks (nx0+i) (j+m)) (ows (updG ks (nx0+i) j l))=some c:=by
     intro j l;induction l generalizing j with
     |nil=>intro m hm;simp at hm
     |cons d l ih=>
      intro m hm;show∃c,fnd _ ((qF ks (nx0+i) j,(d.ren (qF ks (nx0+i))).o)::ows (updG ks (nx0+i) (j+1) l))=some c;rw[zY];by_cases e:qF ks (nx0+i) j=qF ks (nx0+i) (j+m)
      ·rw[Ag e];exact⟨_,rfl⟩
      ·rw[Aa e]
       cases m with
       |zero=>exact absurd rfl e
       |succ m=>
        have:=ih (j:=j+1) (m:=m) (by simpa using hm);rw[show j+(m+1)=j+1+m by omega];exact this
    have:=this (j:=0) hml;rw[Bv]at this;exact this
   ·exact .inr (bI ks _ m h)
  ·rw[gJ]at hk;obtain⟨c,hc'⟩:=qW0 hk;obtain⟨m,d,g1,rfl,rfl⟩:=hmem hc';have hm:m<ks.length:=by rw[<-h3];exact(Ac.1 g1).1
   rw[Bv];exact Aw (hrk m hm)
 |lk j p out=>
  intro row hp;obtain⟨c,h1,h2⟩:=hc row hp;exact⟨_,gP0 h1 hd (h2.tms hts) (fun _ _ _ _ h=>h) hw⟩
 |ix rows n=>exact fun row hp=>⟨_,xD hd ((hc row hp).tms hts) (fun _ _ _ _ h=>h) hw⟩
 |bad=>trivial
theorem evFree_told(ho:o.guard=none)(hd:dstB o.dst sz=true)(h:(wX0 T fl (nx0+i) (yT tm (qJ ops o)) ow o.op k).sat P E K):
  ∃out u ord owr r,Told P E ops sz nx0 i o tm ow out u ord owr r/\(k out u ord owr).sat P E K:=by
 have hw:Wd ops.toArray o (tvs (yT tm (qJ ops o))) true:=fun w s g a _=>by unfold Region.wanted;rw[ho]
 have mv:∀(x:Operand)(d:D),opd (yT tm (qJ ops o)) x=some d->(o.op= .move x\/o.op= .assign x)->∃r,Told P E ops sz nx0 i o tm ow d [] [] [] r:=by
  intro x d hx hop;refine⟨_,xD hd ?_ (fun _ _ _ _ h=>h) hw⟩;obtain⟨dst,op,ty,pos,aft,gd⟩:=o;rcases hop with rfl|rfl
  ·exact uZ0 (cE hx)
  ·exact yX0 (cE hx)
 unfold wX0 at h;split at h
 ·rename_i c a b hop;refine evPickN_told (dst:=o.dst) (ty:=o.type) (pos:=o.pos) (aft:=o.after) (c:=c) (a:=a) (b:=b) ?_ hd h;rw[<-ho,<-hop]
 ·rename_i x hop;split at h
  ·rename_i d hx;obtain⟨r,hr⟩:=mv x d hx (.inl hop);exact⟨_,_,_,_,r,hr,h⟩
  ·exact h.elim
 ·rename_i x hop;split at h
  ·rename_i d hx;obtain⟨r,hr⟩:=mv x d hx (.inr hop);exact⟨_,_,_,_,r,hr,h⟩
  ·exact h.elim
 ·split at h
  ·exact h.elim
  ·rename_i uins cs hu;obtain⟨h1,q⟩:=qK h;clear h;have hc:=zD0 (E:=E) (fl:=fl) hT (nx0:=nx0) (i:=i) (sz:=sz) (ow:=ow) hu (h1 rfl) hw hd;generalize mC T fl (nx0+i) (opd uins) (fun j=>yQ j ow) o.op=r1 at hc q
   cases r1 with
   |u ps out=>
    obtain⟨hp,hk⟩:=jK q;obtain⟨r,hr⟩:=hc hp out fun _ _ _ _ h=>h;exact⟨_,_,_,_,r,hr,hk⟩
   |r j ps out=>
    obtain⟨hp,hk⟩:=jK q;obtain⟨r,hr⟩:=hc hp out fun _ _ _ _ h=>h;exact⟨_,_,_,_,r,hr,hk⟩
   |w j c' ps out=>
    obtain⟨hp,hk⟩:=jK q;obtain⟨r,hr⟩:=hc hp;exact⟨_,_,_,_,r,hr,hk⟩
   |n c' ps out=>
    obtain⟨hp,hk⟩:=jK q;obtain⟨r,hr⟩:=hc hp;exact⟨_,_,_,_,r,hr,hk⟩
   |c f args=>
    obtain⟨out,hF,hfl,hk⟩:=q;obtain⟨r,hr⟩:=hc out (hF (by simp)) hfl out fun _ _ _ _ h=>h;exact⟨_,_,_,_,r,hr,hk⟩
   |co f args=>
    obtain⟨e,sz',rows,hF,hk⟩:=q;obtain⟨r,hr⟩:=hc e sz' rows hF;exact⟨_,_,_,_,r,hr,hk⟩
   |cl f args acc ps=>
    obtain⟨hp,out,hF,hfl,hst,hk⟩:=jK q;obtain⟨r,hr⟩:=hc hp out (hF (by simp)) hfl hst out fun _ _ _ _ h=>h;exact⟨_,_,_,_,r,hr,hk⟩
   |g f args ks lown=>
    obtain⟨out,l,hF,hchk,hk⟩:=q;obtain⟨r,hr⟩:=hc out l hF hchk;exact⟨_,_,_,_,r,hr,hk⟩
   |lk j p out=>
    obtain⟨row,hp,hk⟩:=q;obtain⟨r,hr⟩:=hc row hp;exact⟨_,_,_,_,r,hr,hk⟩
   |pn ch=>
    obtain⟨hE,hk⟩:=q;obtain⟨r,hr⟩:=hc hE;exact⟨_,_,_,_,r,hr,hk⟩
   |ix rows n=>
    obtain⟨row,hp,hk⟩:=q;obtain⟨r,hr⟩:=hc row hp;exact⟨_,_,_,_,r,hr,hk⟩
   |bad=>exact q.elim
theorem evGd_told{e:Bool}(hw:Wd ops.toArray o (tvs (yT tm (qJ ops o))) e)(hd:dstB o.dst sz=true)(h:(evGd T fl (nx0+i) (yT tm (qJ ops o)) ow e o.op k).sat P E K):
  ∃out u ord owr r,Told P E ops sz nx0 i o tm ow out u ord owr r/\(k out u ord owr).sat P E K:=by
 unfold evGd at h;split at h
 ·rename_i c a b hop;refine evPickG_told (dst:=o.dst) (ty:=o.type) (pos:=o.pos) (aft:=o.after) (gd:=o.guard) (c:=c) (a:=a) (b:=b) ?_ hw hd h;rw[<-hop]
 ·split at h
  ·have h':((e=true->False)/\(e=false->(k (.v undef) [] [] []).sat P E K)):=h
   cases he:e with
   |true=>exact(h'.1 he).elim
   |false=>
    rw[he]at hw;exact⟨_,_,_,_,_,qI (out:= .v undef) hd (fun _ _ _=>rfl) hw,h'.2 he⟩
  ·rename_i uins cs hu;have hc:=fun(hcs:∀c∈cs,c=true)(hw:Wd ops.toArray o (tvs (yT tm (qJ ops o))) true)=>zD0 (E:=E) (fl:=fl) hT (nx0:=nx0) (i:=i) (sz:=sz) (ow:=ow) hu hcs hw hd;generalize mC T fl (nx0+i) (opd uins) (fun j=>yQ j ow) o.op=r1 at hc h
   cases r1 with
   |u ps out=>
    simp only at h;split at h
    ·rename_i hwr;obtain⟨h1,q1⟩:=qK h;obtain⟨h2,hk⟩:=wV q1
     cases he:e with
     |true=>
      rw[he]at hk hw;obtain⟨r,hr⟩:=hc (h1 he) hw (h2 he) (.gd true out) (xP hwr);exact⟨_,_,_,_,r,hr,hk⟩
     |false=>
      rw[he]at hk hw;exact⟨_,_,_,_,_,qI hd (fun _ _ _=>D.wrap_undef) hw,hk⟩
    ·have h':((e=true->(imps true cs (gD ps (k out [] [] []))).sat P E K)/\(e=false->(k (.v undef) [] [] []).sat P E K)):=h
     cases he:e with
     |true=>
      rw[he]at hw;obtain⟨h1,q1⟩:=qK (h'.1 he);obtain⟨hp,hk⟩:=jK q1;obtain⟨r,hr⟩:=hc (h1 rfl) hw hp out (fun _ _ _ _ h=>h);exact⟨_,_,_,_,r,hr,hk⟩
     |false=>
      rw[he]at hw;exact⟨_,_,_,_,_,qI (out:= .v undef) hd (fun _ _ _=>rfl) hw,h'.2 he⟩
   |r j ps out=>
    simp only at h;split at h
    ·rename_i hwr;obtain⟨h1,q1⟩:=qK h;obtain⟨h2,hk⟩:=wV q1
     cases he:e with
     |true=>
      rw[he]at hk hw;obtain⟨r,hr⟩:=hc (h1 he) hw (h2 he) (.gd true out) (xP hwr);exact⟨_,_,_,_,r,hr,hk⟩
     |false=>
      rw[he]at hk hw;exact⟨_,_,_,_,_,qI hd (fun _ _ _=>D.wrap_undef) hw,hk⟩
    ·have h':((e=true->(imps true cs (gD ps (k out [] [j] []))).sat P E K)/\(e=false->(k (.v undef) [] [] []).sat P E K)):=h
     cases he:e with
     |true=>
      rw[he]at hw;obtain⟨h1,q1⟩:=qK (h'.1 he);obtain⟨hp,hk⟩:=jK q1;obtain⟨r,hr⟩:=hc (h1 rfl) hw hp out (fun _ _ _ _ h=>h);exact⟨_,_,_,_,r,hr,hk⟩
     |false=>
      rw[he]at hw;exact⟨_,_,_,_,_,qI (out:= .v undef) hd (fun _ _ _=>rfl) hw,h'.2 he⟩
   |w j c' ps out=>
    have h':((e=true->(imps true cs (gD ps (k out [(j,c')] [j] [j]))).sat P E K)/\(e=false->(k (.v undef) [] [] []).sat P E K)):=h
    cases he:e with
    |true=>
     rw[he]at hw;obtain⟨h1,q1⟩:=qK (h'.1 he);obtain⟨hp,hk⟩:=jK q1;obtain⟨r,hr⟩:=hc (h1 rfl) hw hp;exact⟨_,_,_,_,r,hr,hk⟩
    |false=>
     rw[he]at hw;exact⟨_,_,_,_,_,qI (out:= .v undef) hd (fun _ _ _=>rfl) hw,h'.2 he⟩
   |n c' ps out=>
    have h':((e=true->(imps true cs (gD ps (k out [(nx0+i,c')] [] [nx0+i]))).sat P E K)/\(e=false->(k (.v undef) [] [] []).sat P E K)):=h
    cases he:e with
    |true=>
     rw[he]at hw;obtain⟨h1,q1⟩:=qK (h'.1 he);obtain⟨hp,hk⟩:=jK q1;obtain⟨r,hr⟩:=hc (h1 rfl) hw hp;exact⟨_,_,_,_,r,hr,hk⟩
    |false=>
     rw[he]at hw;exact⟨_,_,_,_,_,qI (out:= .v undef) hd (fun _ _ _=>rfl) hw,h'.2 he⟩
   |c f args=>
    obtain⟨h1,q1⟩:=qK h;obtain⟨out,hF,hfl,hk⟩:=q1;have hwr:out.wrap=true:=by
     have hp:=D.flat_pure hfl;unfold D.wrap;split<;>first|rfl|exact hp
    cases he:e with
    |true=>
     rw[he]at hk hw;obtain⟨r,hr⟩:=hc (h1 he) hw out (hF (by rw[he];simp)) hfl (.gd true out) (xP hwr);exact⟨_,_,_,_,r,hr,hk⟩
    |false=>
     rw[he]at hk hw;exact⟨_,_,_,_,_,qI hd (fun _ _ _=>D.wrap_undef) hw,hk⟩
   |co f args=>exact h.elim
   |cl f args acc ps=>
    obtain⟨h1,q1⟩:=qK h;obtain⟨h2,out,hF,hfl,hst,hk⟩:=wV q1;have hwr:out.wrap=true:=by
     have hp:=D.flat_pure hfl;unfold D.wrap;split<;>first|rfl|exact hp
    cases he:e with
    |true=>
     rw[he]at hk hw;obtain⟨r,hr⟩:=hc (h1 he) hw (h2 he) out (hF (by rw[he];simp)) hfl hst (.gd true out) (xP hwr);exact⟨_,_,_,_,r,hr,hk⟩
    |false=>
     rw[he]at hk hw;exact⟨_,_,_,_,_,qI hd (fun _ _ _=>D.wrap_undef) hw,hk⟩
   |g f args ks lown=>
    have h':((e=true->(imps true cs (.callG f args ks.length lown fun out l=>k (out.ren (qF ks (nx0+i))) (updG ks (nx0+i) 0 l) ks (fstL (updG ks (nx0+i) 0 l)))).sat P E K)/\(e=false->(k (.v undef) [] [] []).sat P E K)):=h
    cases he:e with
    |true=>
     rw[he]at hw;obtain⟨h1,out,l,hF,hchk,hk⟩:=qK (h'.1 he);obtain⟨r,hr⟩:=hc (h1 rfl) hw out l hF hchk;exact⟨_,_,_,_,r,hr,hk⟩
    |false=>
     rw[he]at hw;exact⟨_,_,_,_,_,qI (out:= .v undef) hd (fun _ _ _=>rfl) hw,h'.2 he⟩
   |lk j p out=>
    have h':((e=true->(imps true cs (.pick p fun row=>k (out row) [] [j] [])).sat P E K)/\(e=false->(k (.v undef) [] [] []).sat P E K)):=h
    cases he:e with
    |true=>
     rw[he]at hw;obtain⟨h1,row,hp,hk⟩:=qK (h'.1 he);obtain⟨r,hr⟩:=hc (h1 rfl) hw row hp;exact⟨_,_,_,_,r,hr,hk⟩
    |false=>
     rw[he]at hw;exact⟨_,_,_,_,_,qI (out:= .v undef) hd (fun _ _ _=>rfl) hw,h'.2 he⟩
   |pn ch=>
    have h':((e=true->(imps true cs (.pan ch (k (.v undef) [(nx0+i,deadO)] [] [nx0+i]))).sat P E K)/\(e=false->(k (.v undef) [] [] []).sat P E K)):=h
    cases he:e with
    |true=>
     rw[he]at hw;obtain⟨h1,hE,hk⟩:=qK (h'.1 he);obtain⟨r,hr⟩:=hc (h1 rfl) hw hE;exact⟨_,_,_,_,r,hr,hk⟩
    |false=>
     rw[he]at hw;exact⟨_,_,_,_,_,qI (out:= .v undef) hd (fun _ _ _=>rfl) hw,h'.2 he⟩
   |ix rows n=>exact h.elim
   |bad=>
    have h':((e=true->False)/\(e=false->(k (.v undef) [] [] []).sat P E K)):=h
    cases he:e with
    |true=>exact(h'.1 he).elim
    |false=>
     rw[he]at hw;exact⟨_,_,_,_,_,qI (out:= .v undef) hd (fun _ _ _=>rfl) hw,h'.2 he⟩
theorem evOne_told(hd:dstB o.dst sz=true)(h:(mJ0 T fl ops (nx0+i) (yT tm (qJ ops o)) ow o k).sat P E K):
  ∃out u ord owr r,Told P E ops sz nx0 i o tm ow out u ord owr r/\(k out u ord owr).sat P E K:=by
 unfold mJ0 at h;split at h
 ·rename_i hg;exact evFree_told hT hg hd h
 ·rename_i j want hg;split at h
  ·rename_i e he;exact evGd_told hT (gdOf_ok hg he) hd h
  ·exact h.elim
end
def owC(ord owr ord' owr':List Nat):Bool:=owr.any (fun k=>ord'.any (Nat.beq k)||owr'.any (Nat.beq k))||owr'.any (fun k=>ord.any (Nat.beq k))
def okK(anc ord owr:List Nat):List (Nat×List Nat×List Nat)->Bool
 |[]=>true
 |x::r=>(match owC x.2.1 x.2.2 ord owr with
  |true=>anc.any (Nat.beq x.1)
  |false=>true)&&okK anc ord owr r
def lAt:List (List Nat)->Nat->List Nat
 |[],_=>[]
 |x::_,0=>x
 |_::l,n+1=>lAt l n
theorem cK:∀(l:List (List Nat))(n:Nat),lAt l n=l.getD n []
 |[],n=>by simp[lAt]
 |x::_,0=>by simp[lAt]
 |_::l,n+1=>by simpa[lAt]using cK l n
def flB(fls:List Nat)(dst:Option Tmp):Fl:=match dst with
 |some t=>match fls.any (Nat.beq t)with
  |true=> .o
  |false=>match fls.any (Nat.beq (1000+t))with
   |true=> .g
   |false=> .n
 |none=> .g
def putD(dst:Option Tmp)(d:D)(tm:List (Nat×D)):List (Nat×D):=match dst with|some t=>(t,d)::tm|none=>tm
def evOw(u ow:List (Nat×DOwn))(k:List (Nat×DOwn)->Out):Out:=match u with
 |[]=>k ow
 |[x]=>k (x::ow)
 |[x,y]=>k (x::y::ow)
 |[x,y,z]=>k (x::y::z::ow)
 |x::y::z::r=>k (x::y::z::(r++ow))
theorem wR0(u ow:List (Nat×DOwn))(k:List (Nat×DOwn)->Out):evOw u ow k=k (updW u ow):=by unfold evOw;split<;>rfl
def wT0(dst:Option Tmp)(out:D)(u:List (Nat×DOwn))(tm:List (Nat×D))(ow:List (Nat×DOwn))(k:List (Nat×D)->List (Nat×DOwn)->Out):Out:=match dst with
 |some t=>evOw u ow fun ow'=>k ((t,out)::tm) ow'
 |none=>evOw u ow fun ow'=>k tm ow'
theorem cY(dst:Option Tmp)(out:D)(u:List (Nat×DOwn))(tm:List (Nat×D))(ow:List (Nat×DOwn))(k:List (Nat×D)->List (Nat×DOwn)->Out):wT0 dst out u tm ow k=k (putD dst out tm) (updW u ow):=by cases dst with
 |some t=>exact wR0 u ow fun ow'=>k ((t,out)::tm) ow'
 |none=>exact wR0 u ow fun ow'=>k tm ow'
noncomputable def wP0 (T:List (Nat×TI)) (fls:List Nat) (ops:List Oper) (A:Option (List (List Nat))) (sz nx0:Nat) (o:Oper) (ih:List Nat->List (Nat×D)->List (Nat×DOwn)->List (Nat×List Nat×List Nat)->Out) (is:List Nat) (tm:List (Nat×D)) (ow:List (Nat×DOwn)) (kis:List (Nat×List Nat×List Nat)):Out:=match is with
 |[]=> .bad 99
 |i::is=>match dstB o.dst sz with
  |true=>mJ0 T (flB fls o.dst) ops (nx0+i) (yT tm (qJ ops o)) ow o fun out u ord owr=>match A with
   |none=>wT0 o.dst out u tm ow fun tm' ow'=>ih is tm' ow' kis
   |some A'=>match okK (lAt A' i) ord owr kis with
    |true=>wT0 o.dst out u tm ow fun tm' ow'=>ih is tm' ow' (match ord,owr with|[],[]=>kis|_,_=>(i,ord,owr)::kis)
    |false=> .bad (100+i)
  |false=> .bad (200+i)
noncomputable def cX (T:List (Nat×TI)) (fls:List Nat) (ops:List Oper) (A:Option (List (List Nat))) (sz nx0 nx1:Nat) (l:List Oper):List Nat->List (Nat×D)->List (Nat×DOwn)->List (Nat×List Nat×List Nat)->Out:=
 List.rec (motive:=fun _=>List Nat->List (Nat×D)->List (Nat×DOwn)->List (Nat×List Nat×List Nat)->Out) (fun _ tm ow _=> .done ⟨tm,ow,nx1⟩) (fun o _ ih=>wP0 T fls ops A sz nx0 o ih) l
theorem evReg_cons{T:List (Nat×TI)}{fls:List Nat}{ops:List Oper}{A:Option (List (List Nat))}{sz nx0 nx1:Nat}{o:Oper}{l:List Oper}:cX T fls ops A sz nx0 nx1 (o::l)=wP0 T fls ops A sz nx0 o (cX T fls ops A sz nx0 nx1 l):=rfl
def Tr(P:Program)(E:Pn)(ops:List Oper)(sz nx0:Nat):Nat->List Oper->List (Nat×TV)->List (Nat×Own)->List Rw->List (Nat×TV)->List (Nat×Own)->Prop
 |_,[],tm,ow,[],tm',ow'=>tm=tm'/\ow=ow'
 |i,o::l,tm,ow,r::rs,tm',ow'=>RowOk P E ops.toArray sz nx0 1 i o (fun t=>fnd t tm) (fun k=>fnd k ow) r/\r.rd=qJ ops o/\Tr P E ops sz nx0 (i+1) l (putT r.dst r.out tm) ((if r.wr then r.acc' else [])++ow) rs tm' ow'
 |_,_,_,_,_,_,_=>False
def TrK(A:List (List Nat))(i:Nat)(rows:List Rw)(kis:List (Nat×List Nat×List Nat)):Prop:=
 (∀x∈kis,∀b r,rows[b]?=some r->owC x.2.1 x.2.2 r.ki.ord r.ki.owr=true->x.1∈A.getD (i+b) [])/\
 ∀a b ra rb,a<b->rows[a]?=some ra->rows[b]?=some rb->owC ra.ki.ord ra.ki.owr rb.ki.ord rb.ki.owr=true->i+a∈A.getD (i+b) []
theorem yU0{l l':List Nat}{p:Nat->Bool}(h:∀k∈l,k∈l')(hp:l.any p=true):l'.any p=true:=by
 obtain⟨k,h1,h2⟩:=Cj.1 hp;exact Cj.2 ⟨k,h k h1,h2⟩
theorem vX0{a b c d a' b' c' d':List Nat}(h1:∀k∈a,k∈a')(h2:∀k∈b,k∈b')(h3:∀k∈c,k∈c')(h4:∀k∈d,k∈d')(h:owC a b c d=true):owC a' b' c' d'=true:=by
 unfold owC at*;simp only[Cc]at h⊢;rcases h with h|h
 ·refine .inl ?_;obtain⟨k,g1,g2⟩:=Cj.1 h;refine Cj.2 ⟨k,h2 k g1,?_⟩;simp only[Cc]at g2⊢;exact g2.imp (yU0 h3) (yU0 h4)
 ·refine .inr ?_;obtain⟨k,g1,g2⟩:=Cj.1 h;exact Cj.2 ⟨k,h4 k g1,yU0 h1 g2⟩
theorem kM{l:List Nat}{n:Nat}(h:l.any (Nat.beq n)=true):n∈l:=by
 obtain⟨k,h1,h2⟩:=Cj.1 h;rw[Ab h2];exact h1
theorem vY0{anc ord owr:List Nat}:∀{kis:List (Nat×List Nat×List Nat)},okK anc ord owr kis=true->∀x∈kis,owC x.2.1 x.2.2 ord owr=true->x.1∈anc
 |[],_,x,hx,_=>by cases hx
 |y::r,h,x,hx,hc=>by
  unfold okK at h;simp only[Ah]at h;rcases Bc.1 hx with rfl|hx
  ·rw[hc]at h;exact kM h.1
  ·exact vY0 h.2 x hx hc
theorem owC_nil{a b:List Nat}:owC [] [] a b=false:=by
 unfold owC;simp
theorem tvs_put(dst:Option Tmp)(d:D)(tm:List (Nat×D)):tvs (putD dst d tm)=putT dst d.tv (tvs tm):=by cases dst<;>rfl
section
variable{P:Program}{E:Pn}{T:List (Nat×TI)}(hT:wC P T=true){fls:List Nat}{ops:List Oper}{sz nx0 nx1:Nat}{K:DS->Prop}
include hT
theorem wX{A:Option (List (List Nat))}:∀{l:List Oper}{is:List Nat}{i:Nat}{tm:List (Nat×D)}{ow:List (Nat×DOwn)}{kis:List (Nat×List Nat×List Nat)},(∀j n,is[j]?=some n->n=i+j)->(cX T fls ops A sz nx0 nx1 l is tm ow kis).sat P E K->
  ∃rows tm' ow',Tr P E ops sz nx0 i l (tvs tm) (ows ow) rows (tvs tm') (ows ow')/\K ⟨tm',ow',nx1⟩/\∀A',A=some A'->TrK A' i rows kis
 |[],is,i,tm,ow,kis,_,h=>⟨[],tm,ow,⟨rfl,rfl⟩,h,fun _ _=>⟨fun _ _ _ _ h=>by simp at h,fun _ _ _ _ _ h=>by simp at h⟩⟩
 |_::_,[],_,_,_,_,_,h=>h.elim
 |o::l,i'::is,i,tm,ow,kis,hi,h=>by
  have hi0:i'=i:=by simpa using hi 0 i' rfl
  subst hi0;have hi':∀j n,is[j]?=some n->n=i'+1+j:=fun j n hn=>by have:=hi (j+1) n (by simpa using hn);omega
  rw[evReg_cons]at h;unfold wP0 at h;simp only at h;split at h
  ·rename_i hd;obtain⟨out,u,ord,owr,r,hr,hk⟩:=evOne_told hT hd h;clear h;have hstep:putT r.dst r.out (tvs tm)=tvs (putD o.dst out tm):=by rw[tvs_put,hr.ok.dst,hr.out]
   have hown:(if r.wr then r.acc' else [])++ows ow=ows (updW u ow):=by rw[hr.upd];exact(ows_append u ow).symm
   cases A with
   |none=>
    simp only[cY]at hk;obtain⟨rows,tm',ow',h1,h2,_⟩:=wX (i:=i'+1) hi' hk;refine⟨r::rows,tm',ow',⟨hr.ok,hr.rd,?_⟩,h2,fun A' hA=>by cases hA⟩;rw[hstep,hown];exact h1
   |some A'=>
    simp only at hk;split at hk
    ·rename_i hok;simp only[cY]at hk;obtain⟨rows,tm',ow',h1,h2,h3⟩:=wX (i:=i'+1) hi' hk;refine⟨r::rows,tm',ow',⟨hr.ok,hr.rd,?_⟩,h2,fun B hB=>?_⟩
     ·rw[hstep,hown];exact h1
     ·cases hB;obtain⟨g1,g2⟩:=h3 A' rfl;rw[cK]at hok;have hkis:∀x∈kis,x∈(match ord,owr with|[],[]=>kis|_,_=>(i',ord,owr)::kis):=by
       intro x hx;split
       ·exact hx
       ·exact Bl _ hx
      refine⟨fun x hx b rb hb hc=>?_,fun a b ra rb hab ha hb hc=>?_⟩
      ·cases b with
       |zero=>
        simp at hb;subst hb;exact vY0 hok x hx (vX0 (fun _ h=>h) (fun _ h=>h) hr.ord hr.owr hc)
       |succ b=>
        have:=g1 x (hkis x hx) b rb (by simpa using hb) hc;rw[show i'+(b+1)=i'+1+b by omega];exact this
      ·cases b with
       |zero=>omega
       |succ b=>
        have hb':rows[b]?=some rb:=by simpa using hb
        rw[show i'+(b+1)=i'+1+b by omega]
        cases a with
        |zero=>
         simp at ha;subst ha;have hc':=vX0 hr.ord hr.owr (fun _ h=>h) (fun _ h=>h) hc;refine g1 (i',ord,owr) ?_ b rb hb' hc';split
         ·rw[owC_nil]at hc';cases hc'
         ·exact By
        |succ a=>
         have:=g2 a b ra rb om (by simpa using ha) hb' hc;rw[show i'+(a+1)=i'+1+a by omega];exact this
    ·exact hk.elim
  ·exact h.elim
end
def tmC(ops:List Oper)(a b:Oper):Bool:=
 (match a.dst with|some t=>(qJ ops b).any (Nat.beq t)||(match b.dst with|some u=>Nat.beq t u|none=>false)|none=>false)||(match b.dst with|some t=>(qJ ops a).any (Nat.beq t)|none=>false)
def xK0(ops:List Oper)(A:List (List Nat)):Bool:=
 (List.range ops.length).all fun j=>match opAt ops j with
  |none=>false
  |some o=>(o.after.toList.all fun e=> !(Region.binds .any e)||Nat.blt e.on j)&&(((lAt A j).all fun i=>o.after.toList.any fun e=>Region.binds .any e&&(Nat.beq e.on i||(lAt A e.on).any (Nat.beq i)))&&
   (List.range j).all fun i=>match opAt ops i with
    |some q=> !(tmC ops q o)||(lAt A j).any (Nat.beq i)
    |none=>false)
theorem chkReg_ok{ops:List Oper}{A:List (List Nat)}(h:xK0 ops A=true):mT0 ops.toArray A/\∀i j q o,i<j->ops[i]?=some q->ops[j]?=some o->tmC ops q o=true->i∈A.getD j []:=by
 unfold xK0 at h;rw[Bt]at h
 have key:∀j o,ops[j]?=some o->(o.after.toList.all fun e=> !(Region.binds .any e)||Nat.blt e.on j)=true/\(((lAt A j).all fun i=>o.after.toList.any fun e=>Region.binds .any e&&(Nat.beq e.on i||(lAt A e.on).any (Nat.beq i)))=true/\
   ((List.range j).all fun i=>match opAt ops i with
    |some q=> !(tmC ops q o)||(lAt A j).any (Nat.beq i)
    |none=>false)=true):=by
  intro j o ho;have h1:=h j (Cx.2 (Ac.1 ho).1);rw[bM,ho]at h1;simpa only[Ah]using h1
 refine⟨fun j o ho=>?_,fun i j q o hij hq ho hc=>?_⟩
 ·obtain⟨h1,h2,_⟩:=key j o (by simpa using ho);rw[Bt]at h1 h2;refine⟨fun e he hb=>?_,fun i hi=>?_⟩
  ·have:=h1 e (by simpa using he);rw[hb]at this;simp only[Bool.not_true,Bool.false_or]at this;exact An this
  ·have:=h2 i (by rw[cK];exact hi);obtain⟨e,he,h3⟩:=Cj.1 this;simp only[Ah,Cc]at h3;refine⟨e,by simpa using he,h3.1,h3.2.imp Ab fun h=>?_⟩;rw[<-cK];exact kM h
 ·obtain⟨_,_,h3⟩:=key j o ho;rw[Bt]at h3;have:=h3 i (Cx.2 hij);rw[bM,hq]at this;simp only[hc,Bool.not_true,Bool.false_or]at this;rw[<-cK];exact kM this
section
variable{P:Program}{E:Pn}{ops:List Oper}{sz nx0:Nat}
theorem Tr.len:∀{l:List Oper}{i:Nat}{tm tm':List (Nat×TV)}{ow ow':List (Nat×Own)}{rs:List Rw},Tr P E ops sz nx0 i l tm ow rs tm' ow'->rs.length=l.length
 |[],_,_,_,_,_,[],_=>rfl
 |_::_,_,_,_,_,_,_::_,h=>by simp[Tr.len h.2.2]
 |[],_,_,_,_,_,_::_,h=>h.elim
 |_::_,_,_,_,_,_,[],h=>h.elim
theorem qK0(dst:Option Tmp)(d:TV)(tm:List (Nat×TV))(t:Nat):fnd t (putT dst d tm)=if dst=some t then some d else fnd t tm:=by
 cases dst with
 |none=>simp[putT]
 |some u=>
  show fnd t ((u,d)::tm)=_;rw[zY];by_cases h:u=t<;>simp[h]
theorem zH0(r:Rw)(ow:List (Nat×Own))(k:Nat):fnd k ((if r.wr then r.acc' else [])++ow)=if r.wr=true/\(fnd k r.acc').isSome=true then fnd k r.acc' else fnd k ow:=by
 rw[kP]
 cases hw:r.wr with
 |false=>simp[fnd]
 |true=>
  simp only[if_true,true_and]
  cases hk:fnd k r.acc'<;>simp
theorem Tr.states{rows:List Rw}{tm0:List (Nat×TV)}{ow0:List (Nat×Own)}:∀{l:List Oper}{i:Nat}{tm tm':List (Nat×TV)}{ow ow':List (Nat×Own)}{rs:List Rw},Tr P E ops sz nx0 i l tm ow rs tm' ow'->(∀j,rs[j]?=rows[i+j]?)->
  (∀t,fnd t tm=tmAt rows (fun _=>true) (fun t=>fnd t tm0) i t)->(∀k,fnd k ow=owAt rows (fun _=>true) (fun k=>fnd k ow0) i k)->
  (∀j o r,l[j]?=some o->rs[j]?=some r->RowOk P E ops.toArray sz nx0 1 (i+j) o (tmAt rows (fun _=>true) (fun t=>fnd t tm0) (i+j)) (owAt rows (fun _=>true) (fun k=>fnd k ow0) (i+j)) r/\r.rd=qJ ops o)/\
  (∀t,fnd t tm'=tmAt rows (fun _=>true) (fun t=>fnd t tm0) (i+l.length) t)/\∀k,fnd k ow'=owAt rows (fun _=>true) (fun k=>fnd k ow0) (i+l.length) k
 |[],i,tm,tm',ow,ow',[],h,_,ht,ho=>by
  obtain⟨rfl,rfl⟩:=h;exact⟨fun j o r hj=>by simp at hj,ht,ho⟩
 |o::l,i,tm,tm',ow,ow',r::rs,h,hr,ht,ho=>by
  obtain⟨h1,h2,h3⟩:=h;have hri:rows[i]?=some r:=by have:=hr 0;simpa using this.symm
  have et:(fun t=>fnd t tm)=tmAt rows (fun _=>true) (fun t=>fnd t tm0) i:=funext ht;have eo:(fun k=>fnd k ow)=owAt rows (fun _=>true) (fun k=>fnd k ow0) i:=funext ho
  obtain⟨g1,g2,g3⟩:=Tr.states (rows:=rows) (tm0:=tm0) (ow0:=ow0) h3 (fun j=>by have:=hr (j+1);rw[show i+(j+1)=i+1+j by omega]at this;simpa using this)
   (fun t=>by
    rw[qK0];unfold tmAt;rw[hri];simp only[true_and];rw[ht t]) (fun k=>by
    rw[zH0];unfold owAt;rw[hri];simp only[true_and];rw[ho k])
  refine⟨fun j o' r' hj hj'=>?_,fun t=>?_,fun k=>?_⟩
  ·cases j with
   |zero=>
    simp at hj hj';subst hj;subst hj';rw[et,eo]at h1;exact⟨h1,h2⟩
   |succ j=>
    have:=g1 j o' r' (by simpa using hj) (by simpa using hj');rw[show i+(j+1)=i+1+j by omega];exact this
  ·rw[g2 t,Ak,show i+1+l.length=i+(l.length+1) by omega]
  ·rw[g3 k,Ak,show i+1+l.length=i+(l.length+1) by omega]
 |[],_,_,_,_,_,_::_,h,_,_,_=>h.elim
 |_::_,_,_,_,_,_,[],h,_,_,_=>h.elim
end
theorem Rel.owLt{b:Ba}{w:World}{s:Sb}{g:Gh}{S:Ste}{a:Act}(h:Rel b w s g S a){k:Nat}{c:Own}(hk:fnd k S.ow=some c):k<S.nx:=by
 rcases Bm k S.nx with h1|h1
 ·exact h1
 ·exfalso;have h2:=(h.ow k c hk).1;obtain⟨f1,f2⟩:=h.fr k h1
  match c,h2 with
  | .box t cs,⟨N,vs,e,_⟩=>rw[f1]at e;cases e
  | .row t sz len,⟨_,v,e,_⟩=>rw[f2]at e;cases e
  | .mrow t sz rows,⟨_,v,e,_⟩=>rw[f2]at e;cases e
  | .map es,⟨N,arr,clock,e,_⟩=>rw[f1]at e;cases e
  | .itr l,⟨N,b,p,n,e,_⟩=>rw[f1]at e;cases e
def Ev(P:Program)(b:Ba)(c:Code)(S:DS)(K:Exit->DS->Prop):Prop:=
 ∀(w:World)(s:Sb)(g:Gh)(a:Act)(Q:Exit->Act->World->Prop),Rel b w s g S.ste a->(∀ex w' s' g' a'(S':DS),Rel b w' s' g' S'.ste a'->K ex S'->Q ex a' w')->c.wp P Q a w
def panE(K:Exit->DS->Prop):Pn:=fun ch=>K (.panic ch) ⟨[],[],40⟩
def nat0:List Nat:=0::1::2::3::4::5::6::7::8::9::10::11::12::13::14::15::16::17::18::19::20::21::22::23::24::25::26::27::28::29::30::31::32::33::34::35::36::37::38::39::40::41::42::43::44::45::46::47::48::49::50::51::52::53::54::55::56::57::58::59::60::61::62::63::64::65::66::67::68::69::70::71::72::73::74::75::76::77::78::79::80::81::82::83::84::85::86::87::88::89::90::91::92::93::94::95::96::97::98::99::100::101::102::103::104::105::106::107::108::109::110::111::112::113::114::115::116::117::118::119::[]
theorem vZ0:∀j n,nat0[j]?=some n->n=0+j:=by
 have h:nat0=List.range 120:=by decide
 intro j n hn;rw[h]at hn;have:=Ac.1 hn;obtain⟨h1,h2⟩:=this;simp at h2;omega
theorem Tr.run{P:Program}{E:Pn}{b:Ba}{ops:List Oper}{nx0:Nat}(Q:Exit->Act->World->Prop):∀{l:List Oper}{i:Nat}{tm tm':List (Nat×TV)}{ow ow':List (Nat×Own)}{rs:List Rw},Tr P E ops b.sz nx0 i l tm ow rs tm' ow'->
  (∀w s g a,RelF b w s g (fun t=>fnd t tm') (fun k=>fnd k ow') (fun k=>nx0+i+l.length<=k) a->Q .normal a w)->(∀ch w s g a,E ch->Rel b w s g ⟨[],[],40⟩ a->Q (.panic ch) a w)->∀w s g a,RelF b w s g (fun t=>fnd t tm) (fun k=>fnd k ow) (fun k=>nx0+i<=k) a->wpList P ops.toArray Q l a w
 |[],i,tm,tm',ow,ow',[],h,hQ,_,w,s,g,a,hR=>by
  obtain⟨rfl,rfl⟩:=h;exact hQ w s g a hR
 |o::l,i,tm,tm',ow,ow',r::rs,h,hQ,hE,w,s,g,a,hR=>by
  obtain⟨h1,_,h3⟩:=h;refine wpList_step fun K' hK'=>?_;have htok:qW w s g r.ins a:=fun t d ht=>hR.tm t d (h1.ins t d ht).2;have hnew:∀k c,fnd k r.acc'=some c->k<nx0+(i+1):=by
   intro k c hk;rcases h1.new k c hk with⟨c0,h0⟩|⟨_,h2⟩
   ·rcases Bm k (nx0+i)with hlt|hge
    ·omega
    ·exfalso;have h2:=(hR.ow k c0 (h1.acc k c0 h0)).1;obtain⟨f1,f2⟩:=hR.fr k hge
     match c0,h2 with
     | .box t cs,⟨N,vs,e,_⟩=>rw[f1]at e;cases e
     | .row t sz len,⟨_,v,e,_⟩=>rw[f2]at e;cases e
     | .mrow t sz rows,⟨_,v,e,_⟩=>rw[f2]at e;cases e
     | .map es,⟨N,arr,clock,e,_⟩=>rw[f1]at e;cases e
     | .itr l,⟨N,b,p,n,e,_⟩=>rw[f1]at e;cases e
   ·omega
  have hnext:∀w' s' g' v,r.out.P w' s' g' v->Stp w s g r.acc w' s' g' r.acc'->K' (a.put o.dst v) w':=by
   intro w' s' g' v hv hp;refine hK' _ _ (Tr.run Q h3 (fun w'' s'' g'' a'' hR'=>hQ w'' s'' g'' a'' ?_) hE w' s' g' _ ?_)
   ·refine⟨hR'.kp,hR'.lt,hR'.sz,hR'.tm,hR'.ow,hR'.sep,fun k hk=>hR'.fr k (by rw[Ak]at hk;omega),hR'.df,hR'.gb⟩
   ·have hS:=RelF.step (fr':=fun k=>nx0+(i+1)<=k) hR hp h1.acc (dst:=o.dst) (out:=r.out) (v:=v) (fun k hk=>⟨by omega,by
     cases hx:fnd k r.acc' with
     |none=>rfl
     |some x=>have:=hnew k x hx;omega⟩) (yQ0 h1.lt) hv
    have e1:updT (fun t=>fnd t tm) o.dst r.out=fun t=>fnd t (putT r.dst r.out tm):=by
     funext t
     rw[qK0,h1.dst];unfold updT
     cases o.dst with
     |none=>simp
     |some e=>by_cases he:e=t<;>simp[he]
    have e2:updO (fun k=>fnd k ow) r.acc'=fun k=>fnd k ((if r.wr then r.acc' else [])++ow):=by
     funext k
     rw[zH0];unfold updO
     cases hx:fnd k r.acc' with
     |none=>simp
     |some x=>
      cases hw:r.wr with
      |true=>simp
      |false=>
       have:=h1.acc k x (h1.same hw k x hx);simpa using this.symm
    rw[e1,e2]at hS;exact hS
  cases hdid:r.did with
  |true=>
   obtain⟨hu,hg⟩:=h1.hop.1 hdid;rw[hg _ _ _ _ htok];simp only[if_true];refine hu w s g a K' Q htok ⟨hR.lt,fun k c hk=>(hR.ow k c (h1.acc k c hk)).1,fun k k' c c' N h1' h2' hne=>hR.sep k k' c c' N (h1.acc k c h1') (h1.acc k' c' h2') hne,fun k c hk hno=>hR.fr k ?_,hR.kp.gb⟩ hnext fun ch w' s' hch hp=>hE ch w' s' _ a hch (hR.pan hp h1.acc);rcases h1.new k c hk with⟨c0,h0⟩|⟨h0,_⟩
   ·rw[hno]at h0;cases h0
   ·omega
  |false=>
   obtain⟨hg,e1,e2,e3⟩:=h1.hop.2 hdid;rw[hg _ _ _ _ htok];simp only[Bw,if_false];refine hnext w s g undef (e1 w s g) ?_;rw[e2,e3];exact Stp.refl w s g hR.lt
 |[],_,_,_,_,_,_::_,h,_,_,_,_,_,_,_=>h.elim
 |_::_,_,_,_,_,_,[],h,_,_,_,_,_,_,_=>h.elim
section
variable{P:Program}{b:Ba}{T:List (Nat×TI)}(hT:wC P T=true)
include hT
theorem yE(fls:List Nat)(A:List (List Nat)){id:Nat}{l:List Oper}{tm:List (Nat×D)}{ow:List (Nat×DOwn)}{nx0:Nat}(nx1:Nat){K:Exit->DS->Prop}(hm:P.follows .mixedOrders=true)(hc:xK0 l A=true)(hn:Nat.ble (nx0+l.length) nx1=true)
  (h:(cX T fls l (some A) b.sz nx0 nx1 l nat0 tm ow []).sat P (panE K) (K .normal)):Ev P b (.region id l.toArray true) ⟨tm,ow,nx0⟩ K:=by
 intro w s g a Q hr hK;obtain⟨rows,tm',ow',h1,h2,h3⟩:=wX hT vZ0 h;obtain⟨h4,h5⟩:=h3 A rfl;obtain⟨hanc,htm⟩:=chkReg_ok hc;have hlen:=h1.len;obtain⟨g1,g2,g3⟩:=h1.states (rows:=rows) (tm0:=tvs tm) (ow0:=ows ow) (fun j=>by simp) (fun t=>rfl) (fun k=>rfl);simp only[Bv]at g1 g2 g3;have hsz:l.toArray.size=l.length:=by simp
 have hTb:Tb P (panE K) l.toArray b.sz nx0 1 rows A (fun t=>fnd t (tvs tm)) (fun k=>fnd k (ows ow)):=by
  refine⟨by simpa using hlen,fun i o r ho hr=>(g1 i o r (by simpa using ho) hr).1,hanc,fun i j ri rj hij hi hj hcf=>?_,fun k c hk=>hr.owLt hk⟩;have hil:i<l.length:=by rw[<-hlen];exact(Ac.1 hi).1
  have hjl:j<l.length:=by rw[<-hlen];exact(Ac.1 hj).1
  have hoi:=Af hil;have hoj:=Af hjl;obtain⟨ri1,ri2⟩:=g1 i _ ri hoi hi;obtain⟨rj1,rj2⟩:=g1 j _ rj hoj hj;have hcase:tmC l l[i] l[j]=true\/owC ri.ki.ord ri.ki.owr rj.ki.ord rj.ki.owr=true:=by
   unfold dK at hcf;simp only[Cc]at hcf;have e1:ri.ki.dst=l[i].dst:=ri1.dst;have e2:rj.ki.dst=l[j].dst:=rj1.dst;have e3:ri.ki.rd=qJ l l[i]:=ri2;have e4:rj.ki.rd=qJ l l[j]:=rj2;rw[e1,e2,e3,e4]at hcf;unfold tmC owC;simp only[Cc];rcases hcf with((h|h)|h)|h
   ·exact .inl (.inl h)
   ·exact .inl (.inr h)
   ·exact .inr (.inl h)
   ·exact .inr (.inr h)
  rcases hcase with h|h
  ·exact htm i j _ _ hij hoi hoj h
  ·have:=h5 i j ri rj hij hi hj h;simpa using this
 refine wp_region_any hm (wpAny_rows hTb (fun w' s' g' a' hR=>?_) (fun ch w' s' g' a' hch hR=>hK (.panic ch) w' s' g' a' ⟨[],[],40⟩ hR hch) l.toArray.size _ s g a _ (by simp) (fun j o ho hl=>?_) (Bg (List.length_filter_le _ _) (by simp)) ?_)
 ·rw[hsz]at hR;refine hK .normal w' s' g' a' ⟨tm',ow',nx1⟩ ?_ h2;refine RelF.toRel hR (fun t d hd=>?_) (fun k c hk=>?_) (fun k hk=>?_)
  ·rw[<-g2 t];exact hd
  ·rw[<-g3 k];exact hk
  ·have hk':nx0+l.length<=k:=Bg (An hn) hk;refine⟨by omega,fun i r hi hri=>?_⟩
   cases hx:fnd k r.acc' with
   |none=>rfl
   |some x=>
    have:=hTb.accLt hri hx;have hil:i<l.length:=by rw[<-hlen];exact(Ac.1 hri).1
    omega
 ·exfalso;rw[De]at hl;have hjl:=(Bi.1 ho).1;rw[Array.getElem?_replicate,Ag hjl]at hl
  cases hl
 ·have hf:(fun i=>(Array.replicate l.toArray.size false).getD i false)=fun _=>false:=by
   funext i
   rw[De,Array.getElem?_replicate];split<;>rfl
  have hR:=hr.toF.drew (w.drawn+1);have e1:∀n t,tmAt rows (fun _=>false) (fun t=>fnd t (tvs tm)) n t=fnd t (tvs tm):=fun n t=>(mT (m:=0) (Aq n) (fun _ _ _ _ _ _=>rfl)).trans rfl;have e2:∀n k,owAt rows (fun _=>false) (fun k=>fnd k (ows ow)) n k=fnd k (ows ow):=fun n k=>(pA (m:=0) (Aq n) (fun _ _ _ _ _ _=>rfl)).trans rfl;rw[hf];refine⟨hR.kp,hR.lt,hR.sz,fun t d ht=>hR.tm t d ((e1 l.toArray.size t).symm.trans ht),fun k c hk=>hR.ow k c ((e2 l.toArray.size k).symm.trans hk),fun k k' c c' N hk hk'=>hR.sep k k' c c' N ((e2 l.toArray.size k).symm.trans hk) ((e2 l.toArray.size k').symm.trans hk'),fun k hk=>hR.fr k hk.1,hR.df,hR.gb⟩
theorem zE(fls:List Nat){id:Nat}{l:List Oper}{tm:List (Nat×D)}{ow:List (Nat×DOwn)}{nx0:Nat}(nx1:Nat){K:Exit->DS->Prop}(hn:Nat.ble (nx0+l.length) nx1=true)
  (h:(cX T fls l none b.sz nx0 nx1 l nat0 tm ow []).sat P (panE K) (K .normal)):Ev P b (.region id l.toArray false) ⟨tm,ow,nx0⟩ K:=by
 intro w s g a Q hr hK;obtain⟨rows,tm',ow',h1,h2,_⟩:=wX hT vZ0 h;refine wp_region_lit (Tr.run Q h1 (fun w' s' g' a' hR=>?_) (fun ch w' s' g' a' hch hR=>hK (.panic ch) w' s' g' a' ⟨[],[],40⟩ hR hch) w s g a ?_)
 ·refine hK .normal w' s' g' a' ⟨tm',ow',nx1⟩ ?_ h2;exact RelF.toRel hR (fun t d hd=>hd) (fun k c hk=>hk) (fun k hk=>by have:=An hn;have hk':nx1<=k:=hk;omega)
 ·exact hr.toF
end
def Sub(d d':D):Prop:=∀w s g v,d.tv.P w s g v->d'.tv.P w s g v
theorem Sub.refl(d:D):Sub d d:=fun _ _ _ _ h=>h
abbrev u0:= @Sub.refl
theorem Sub.of_eq{d d':D}(h:d=d'):Sub d d':=by subst h;exact u0 d
theorem Sub.int{k:IntKind}{n m:Int}(h:n=m):Sub (.v (.int k n)) (.v (.int k m)):=by subst h;exact u0 _
abbrev u19:= @Sub.int
theorem Sub.bool{n m:Bool}(h:n=m):Sub (.v (.bool n)) (.v (.bool m)):=by subst h;exact u0 _
theorem Sub.own{k sz:Nat}{rows rows':List (List D)}(h:rows=rows'):Sub (.own k sz rows) (.own k sz rows'):=by subst h;exact u0 _
theorem wW{α:Type}(l:List α)(f:α->List D):D.pvss (l.map f)=l.map fun a=>D.pvs (f a):=by rw[yJ,Bz];rfl
theorem Sub.ownSl{α:Type}{k sz:Nat}{rows:List (List D)}{l:List α}{f:α->List D}{e:α}(h:rows=l.map f):Sub (.own k sz rows) (.sl false sz l f e):=by
 subst h;intro w s g v hv;rw[D.tv,TV.P]at hv;have:=hv.1;rw[wW]at this;exact this
abbrev u3:= @Sub.ownSl
theorem Sub.slrSl{α:Type}{m:Bool}{sz:Nat}{rows:List (List D)}{l:List α}{f:α->List D}{e:α}(h:rows=l.map f):Sub (.slr m sz rows) (.sl m sz l f e):=by
 subst h;intro w s g v hv;have hv':(PV.sl m sz (D.pvss (l.map f))).p w s v:=hv;rw[wW]at hv';exact hv'
abbrev u11:= @Sub.slrSl
theorem Sub.slSl{α β:Type}{m:Bool}{sz:Nat}{l:List α}{f:α->List D}{e:α}{l':List β}{f':β->List D}{e':β}(h:l.map f=l'.map f'):Sub (.sl m sz l f e) (.sl m sz l' f' e'):=by
 intro w s g v hv;have hv':(PV.sl m sz (l.map fun a=>D.pvs (f a))).p w s v:=hv;rw[<-wW,h,wW]at hv';exact hv'
theorem Sub.nilSl{α:Type}{sz:Nat}{f:α->List D}{e:α}:Sub (.v (.slice none 0 0)) (.sl false sz [] f e):=by
 intro w s g v hv;have hv':v= .slice none 0 0:=hv;subst hv';exact PV.sl_nil
abbrev u14:= @Sub.nilSl
def SubL:List D->List D->Prop
 |[],[]=>True
 |d::l,d'::l'=>Sub d d'/\d'.one=true/\SubL l l'
 |_,_=>False
theorem SubL.all{w:World}{s:Sb}{g:Gh}:∀{l l':List D}{vs:List Value},SubL l l'->AllT w s g (D.tvl l) vs->AllT w s g (D.tvl l') vs/\∀d∈D.tvl l',d.one=true
 |[],[],vs,_,h=>⟨h,fun d hd=>by cases hd⟩
 |d::l,d'::l',[],h,hv=>by rw[D.tvl]at hv;simp[AllT]at hv
 |d::l,d'::l',v::vs,h,hv=>by
  obtain⟨h1,h2,h3⟩:=h;rw[D.tvl,AllT]at hv;obtain⟨g1,g2⟩:=SubL.all h3 hv.2;rw[D.tvl];refine⟨by rw[AllT];exact⟨h1 _ _ _ _ hv.1,g1⟩,fun x hx=>?_⟩;rcases Bc.1 hx with rfl|hx
  ·exact D.tv_one h2
  ·exact g2 x hx
 |[],_::_,_,h,_=>h.elim
 |_::_,[],_,h,_=>h.elim
def SubO:DOwn->DOwn->Prop
 | .box ty cs,.box ty' cs'=>ty=ty'/\SubL cs cs'
 | .row ty sz n,.row ty' sz' n'=>ty=ty'/\sz=sz'/\n=n'
 | .mrow ty sz m,.mrow ty' sz' m'=>ty=ty'/\sz=sz'/\D.pvss m.rows=D.pvss m'.rows
 | .map l,.map l'=>(l.map fun x=>(x.1,x.2.pv))=(l'.map fun x=>(x.1,x.2.pv))
 | .itr l,.itr l'=>l=l'
 |_,_=>False
theorem SubO.ok{w:World}{s:Sb}{g:Gh}{k:Nat}{c c':DOwn}(h:SubO c c')(ho:Ok1 w s g k c.o):Ok1 w s g k c'.o/\blk g k c'.o=blk g k c.o:=by
 match c,c',h,ho with
 | .box _ _,.box _ _,h,ho=>
  obtain⟨rfl,h⟩:=h;obtain⟨N,vs,h1,h2,h3,h4,h5⟩:=ho;obtain⟨g1,g2⟩:=SubL.all h h3;exact⟨⟨N,vs,h1,h2,g1,g2,h5⟩,rfl⟩
 | .row _ _ _,.row _ _ _,h,ho=>
  obtain⟨rfl,rfl,rfl⟩:=h;exact⟨ho,rfl⟩
 | .mrow ty sz m,.mrow ty' sz' m',h,ho=>
  obtain⟨rfl,rfl,h⟩:=h;have e:(DOwn.mrow ty sz m').o=(DOwn.mrow ty sz m).o:=by show Own.mrow ty sz (D.pvss m'.rows)=Own.mrow ty sz (D.pvss m.rows);rw[h]
  rw[e];exact⟨ho,rfl⟩
 | .map l,.map l',h,ho=>
  have h':(DOwn.map l').o=(DOwn.map l).o:=by
   have h2:=congrArg (List.map fun x:Int×PV=>(Value.int .i64 x.1,x.2)) (Eq.symm (h:(l.map fun x=>(x.1,x.2.pv))=(l'.map fun x=>(x.1,x.2.pv))));rw[Bz,Bz]at h2;exact congrArg Own.map h2
  rw[h'];exact⟨ho,rfl⟩
 | .itr l,.itr l',h,ho=>
  have h:l=l':=h;subst h;exact⟨ho,rfl⟩
def leT(tm:List (Nat×D)):List (Nat×D)->Prop
 |[]=>True
 |(t,d')::l=>(match yQ t tm with|some d=>Sub d d'|none=>False)/\leT tm l
def leO(ow:List (Nat×DOwn)):List (Nat×DOwn)->Prop
 |[]=>True
 |(k,c')::l=>(match yQ k ow with|some c=>SubO c c'|none=>False)/\leO ow l
theorem wF0{tm:List (Nat×D)}:∀{l:List (Nat×D)}{t:Nat}{d':D},leT tm l->yQ t l=some d'->∃d,yQ t tm=some d/\Sub d d'
 |[],_,_,_,h=>by cases h
 |(u,e)::l,t,d',h,hf=>by
  obtain⟨h1,h2⟩:=h;rw[yN]at hf;by_cases hu:u=t
  ·simp only[hu,if_true]at hf
   cases hf;subst hu
   cases hx:yQ u tm with
   |none=>rw[hx]at h1;exact h1.elim
   |some d=>rw[hx]at h1;exact⟨d,rfl,h1⟩
  ·simp only[hu,if_false]at hf;exact wF0 h2 hf
theorem zZ0{ow:List (Nat×DOwn)}:∀{l:List (Nat×DOwn)}{k:Nat}{c':DOwn},leO ow l->yQ k l=some c'->∃c,yQ k ow=some c/\SubO c c'
 |[],_,_,_,h=>by cases h
 |(u,e)::l,t,d',h,hf=>by
  obtain⟨h1,h2⟩:=h;rw[yN]at hf;by_cases hu:u=t
  ·simp only[hu,if_true]at hf
   cases hf;subst hu
   cases hx:yQ u ow with
   |none=>rw[hx]at h1;exact h1.elim
   |some d=>rw[hx]at h1;exact⟨d,rfl,h1⟩
  ·simp only[hu,if_false]at hf;exact zZ0 h2 hf
mutual
def D.idB(n:Nat):D->Bool
 | .bp k _=>Nat.blt k n
 | .own k _ _=>Nat.blt k n
 | .mo k _=>Nat.blt k n
 | .mp k _ _ _ _=>Nat.blt k n
 | .mk k=>Nat.blt k n
 | .mw k _ _ _ _=>Nat.blt k n
 | .gd _ (.bp k _)=>Nat.blt k n
 | .gd _ (.mo k _)=>Nat.blt k n
 | .gd _ (.mp k _ _ _ _)=>Nat.blt k n
 | .gd _ (.mk k)=>Nat.blt k n
 | .gd _ (.mw k _ _ _ _)=>Nat.blt k n
 | .agg l=>D.idBs n l
 | .tpo l=>D.idBs n l
 | .clo _ l=>D.idBs n l
 |_=>true
def D.idBs(n:Nat):List D->Bool
 |[]=>true
 |d::l=>match d.idB n with|true=>D.idBs n l|false=>false
end
mutual
theorem D.idB_tv{n:Nat}{d:D}(h:d.idB n=true):Go.Proofs.YtmakjjodkiedmaaGreatDoor.idB n d.tv=true:=by
 match d,h with
 | .v _,_=>rfl
 | .agg l,h=>rw[D.idB]at h;rw[D.tv,Go.Proofs.YtmakjjodkiedmaaGreatDoor.idB];exact D.idBs_tv h
 | .tpo l,h=>rw[D.idB]at h;rw[D.tv,Go.Proofs.YtmakjjodkiedmaaGreatDoor.idB];exact D.idBs_tv h
 | .clo f l,h=>rw[D.idB]at h;rw[D.tv,Go.Proofs.YtmakjjodkiedmaaGreatDoor.idB];exact D.idBs_tv h
 | .tup _,_=>rfl
 | .sl _ _ _ _ _,_=>rfl
 | .slr _ _ _,_=>rfl
 | .slf _ _,_=>rfl
 | .pt _ _,_=>rfl
 | .op _,_=>rfl
 | .bp k off,h=>rw[D.idB]at h;exact h
 | .mo k n,h=>rw[D.idB]at h;exact h
 | .mp k _ _ _ _,h=>rw[D.idB]at h;exact h
 | .mk k,h=>rw[D.idB]at h;exact h
 | .mw k _ _ _ _,h=>rw[D.idB]at h;exact h
 | .own k sz rows,h=>rw[D.idB]at h;rw[D.tv,Go.Proofs.YtmakjjodkiedmaaGreatDoor.idB];exact h
 | .gd c (.v _),_=>rfl
 | .gd c (.agg _),_=>rfl
 | .gd c (.tup _),_=>rfl
 | .gd c (.tpo _),_=>rfl
 | .gd c (.clo _ _),_=>rfl
 | .gd c (.sl _ _ _ _ _),_=>rfl
 | .gd c (.slr _ _ _),_=>rfl
 | .gd c (.slf _ _),_=>rfl
 | .gd c (.pt _ _),_=>rfl
 | .gd c (.own _ _ _),_=>rfl
 | .gd c (.op _),_=>rfl
 | .gd c (.gd _ _),_=>rfl
 | .gd c (.bp k off),h=>rw[D.idB]at h;exact h
 | .gd c (.mo k n),h=>rw[D.idB]at h;exact h
 | .gd c (.mp k _ _ _ _),h=>rw[D.idB]at h;exact h
 | .gd c (.mk k),h=>rw[D.idB]at h;exact h
 | .gd c (.mw k _ _ _ _),h=>rw[D.idB]at h;exact h
theorem D.idBs_tv{n:Nat}{l:List D}(h:D.idBs n l=true):Go.Proofs.YtmakjjodkiedmaaGreatDoor.idBs n (D.tvl l)=true:=by
 match l,h with
 |[],_=>rfl
 |d::l,h=>
  rw[D.idBs]at h
  cases hd:d.idB n with
  |false=>rw[hd]at h;simp at h
  |true=>
   rw[hd]at h;rw[D.tvl,Go.Proofs.YtmakjjodkiedmaaGreatDoor.idBs,D.idB_tv hd,D.idBs_tv h];rfl
end
def idT(n:Nat):List (Nat×D)->Bool
 |[]=>Nat.ble 40 n
 |(_,d)::l=>match d.idB n with|true=>idT n l|false=>false
def idW(n:Nat):List (Nat×DOwn)->Bool
 |[]=>true
 |(k,.box _ cs)::l=>match Nat.blt k n with|true=>(match D.idBs n cs with|true=>idW n l|false=>false)|false=>false
 |(k,.row _ _ _)::l=>match Nat.blt k n with|true=>idW n l|false=>false
 |(k,.mrow _ _ _)::l=>match Nat.blt k n with|true=>idW n l|false=>false
 |(k,.map _)::l=>match Nat.blt k n with|true=>idW n l|false=>false
 |(k,.itr _)::l=>match Nat.blt k n with|true=>idW n l|false=>false
theorem kJ0{n:Nat}:∀{l:List (Nat×D)},idT n l=true->40<=n
 |[],h=>An h
 |(t,d)::l,h=>by
  unfold idT at h
  cases hd:d.idB n with
  |false=>rw[hd]at h;simp at h
  |true=>rw[hd]at h;exact kJ0 h
theorem wH0{n:Nat}:∀{l:List (Nat×D)},idT n l=true->(tvs l).all (fun x=>idB n x.2)=true
 |[],_=>rfl
 |(t,d)::l,h=>by
  unfold idT at h
  cases hd:d.idB n with
  |false=>rw[hd]at h;simp at h
  |true=>
   rw[hd]at h;show(idB n d.tv&&(tvs l).all (fun x=>idB n x.2))=true;rw[D.idB_tv hd,wH0 h];rfl
theorem kO{n:Nat}:∀{l:List (Nat×DOwn)},idW n l=true->(ows l).all (fun x=>Nat.blt x.1 n&&idO n x.2)=true
 |[],_=>rfl
 |(k,.box ty cs)::l,h=>by
  unfold idW at h
  cases hk:Nat.blt k n with
  |false=>rw[hk]at h;simp at h
  |true=>
   cases hd:D.idBs n cs with
   |false=>rw[hk,hd]at h;simp at h
   |true=>
    rw[hk,hd]at h;show((Nat.blt k n&&idO n (.box ty (D.tvl cs)))&&(ows l).all (fun x=>Nat.blt x.1 n&&idO n x.2))=true;have e:idO n (.box ty (D.tvl cs))=true:=D.idBs_tv hd;rw[hk,e,kO h];rfl
 |(k,.row ty sz m)::l,h=>by
  unfold idW at h
  cases hk:Nat.blt k n with
  |false=>rw[hk]at h;simp at h
  |true=>
   rw[hk]at h;show((Nat.blt k n&&idO n (.row ty sz m))&&(ows l).all (fun x=>Nat.blt x.1 n&&idO n x.2))=true;rw[hk,kO h];rfl
 |(k,.mrow ty sz m)::l,h=>by
  unfold idW at h
  cases hk:Nat.blt k n with
  |false=>rw[hk]at h;simp at h
  |true=>
   rw[hk]at h;show((Nat.blt k n&&true)&&(ows l).all (fun x=>Nat.blt x.1 n&&idO n x.2))=true;rw[hk,kO h];rfl
 |(k,.map _)::l,h=>by
  unfold idW at h
  cases hk:Nat.blt k n with
  |false=>rw[hk]at h;simp at h
  |true=>
   rw[hk]at h;show((Nat.blt k n&&true)&&(ows l).all (fun x=>Nat.blt x.1 n&&idO n x.2))=true;rw[hk,kO h];rfl
 |(k,.itr _)::l,h=>by
  unfold idW at h
  cases hk:Nat.blt k n with
  |false=>rw[hk]at h;simp at h
  |true=>
   rw[hk]at h;show((Nat.blt k n&&true)&&(ows l).all (fun x=>Nat.blt x.1 n&&idO n x.2))=true;rw[hk,kO h];rfl
structure LeD(S S':DS):Prop where
 tm:leT S.tm S'.tm
 ow:leO S.ow S'.ow
 idt:idT S'.nx S'.tm=true
 idw:idW S'.nx S'.ow=true
theorem LeD.le{b:Ba}{S S':DS}(h:LeD S S'):Le b S.ste S'.ste:=by
 intro w s g a hr;have h1:Rel b w s g ⟨tvs S'.tm,ows S'.ow,S.nx⟩ a:=by
  refine⟨hr.kp,hr.lt,hr.sz,fun t d hd=>?_,fun k c hk=>?_,fun k k' c c' N hk hk' hne hb=>?_,hr.fr,hr.df,hr.gb⟩
  ·have hd':fnd t (tvs S'.tm)=some d:=hd;rw[qE]at hd'
   cases hx:yQ t S'.tm with
   |none=>rw[hx]at hd';cases hd'
   |some d'=>
    rw[hx]at hd';cases hd';obtain⟨e,g1,g2⟩:=wF0 h.tm hx;obtain⟨v,g3,g4⟩:=hr.tm t e.tv (by show fnd t (tvs S.tm)=_;rw[qE,g1];rfl);exact⟨v,g3,g2 _ _ _ _ g4⟩
  ·have hk':fnd k (ows S'.ow)=some c:=hk;rw[qD]at hk'
   cases hx:yQ k S'.ow with
   |none=>rw[hx]at hk';cases hk'
   |some c'=>
    rw[hx]at hk';cases hk';obtain⟨e,g1,g2⟩:=zZ0 h.ow hx;obtain⟨g3,g4⟩:=hr.ow k e.o (by show fnd k (ows S.ow)=_;rw[qD,g1];rfl);obtain⟨g5,g6⟩:=g2.ok g3;exact⟨g5,fun N hN=>g4 N (by rw[<-g6];exact hN)⟩
  ·have key:∀{j:Nat}{x:Own},fnd j (ows S'.ow)=some x->∃e,fnd j (ows S.ow)=some e/\blk g j x=blk g j e:=by
    intro j x hj;rw[qD]at hj
    cases hx:yQ j S'.ow with
    |none=>rw[hx]at hj;cases hj
    |some c'=>
     rw[hx]at hj;cases hj;obtain⟨e,g1,g2⟩:=zZ0 h.ow hx;have g0:fnd j (ows S.ow)=some e.o:=by rw[qD,g1];rfl
     exact⟨e.o,g0,(g2.ok (hr.ow j e.o g0).1).2⟩
   obtain⟨e,h2,h3⟩:=key hk;obtain⟨e',h4,h5⟩:=key hk';rw[h5];exact hr.sep k k' e e' N h2 h4 hne (by rw[<-h3];exact hb)
 exact⟨s,cutG g S'.nx,h1.cut S'.nx (kJ0 h.idt) (wH0 h.idt) (kO h.idw)⟩
section
variable{P:Program}{b:Ba}
def exS(P:Program)(b:Ba)(y:Code)(K:Exit->DS->Prop)(ex:Exit)(S:DS):Prop:=match ex with
 | .normal=>Ev P b y S K
 |e=>K e S
theorem zA{y:Code}{K:Exit->DS->Prop}{S:DS}(h:Ev P b y S K):exS P b y K .normal S:=h
theorem zM{y:Code}{K:Exit->DS->Prop}{S:DS}(h:K .ret S):exS P b y K .ret S:=h
theorem zZ{y:Code}{K:Exit->DS->Prop}{S:DS}{j:Nat}(h:K (.exit j) S):exS P b y K (.exit j) S:=h
theorem zB{x y:Code}{S:DS}{K:Exit->DS->Prop}(h:Ev P b x S (exS P b y K)):Ev P b (.seq x y) S K:=
 fun w s g a Q hr hK=>wp_seq (h w s g a _ hr fun ex w' s' g' a' S' h1 h2=>by
  cases ex with
  |normal=>exact h2 w' s' g' a' Q h1 hK
  |_=>exact hK _ w' s' g' a' S' h1 h2)
theorem zJ{S:DS}{K:Exit->DS->Prop}(h:K .normal S):Ev P b .skip S K:=fun _ _ _ _ _ hr hK=>wp_skip (hK _ _ _ _ _ _ hr h)
theorem zN{S:DS}{K:Exit->DS->Prop}(h:K .ret S):Ev P b .ret S K:=fun _ _ _ _ _ hr hK=>wp_ret (hK _ _ _ _ _ _ hr h)
theorem yF{id:Nat}{S:DS}{K:Exit->DS->Prop}(h:K (.exit id) S):Ev P b (.exit id) S K:=fun _ _ _ _ _ hr hK=>wp_exit (hK _ _ _ _ _ _ hr h)
theorem zT{c:Operand}{x y:Code}{S:DS}{K:Exit->DS->Prop}{t:Bool}(hc:opd S.tm c=some (.v (.bool t)))(h1:t=true->Ev P b x S K)(h2:t=false->Ev P b y S K):Ev P b (.cond c x y) S K:=
 fun w s g a Q hr hK=>wp_cond_split (Opd.lit hr.tmok (cE hc)) (fun e=>h1 e w s g a Q hr hK) (fun e=>h2 e w s g a Q hr hK)
def exBl(id:Nat)(K:Exit->DS->Prop)(ex:Exit)(S:DS):Prop:=match ex with
 | .exit j=>if j=id then K .normal S else K (.exit j) S
 |e=>K e S
theorem zW{id:Nat}{K:Exit->DS->Prop}{S:DS}(h:K .normal S):exBl id K (.exit id) S:=by
 show if id=id then _ else _;rw[Ag rfl];exact h
theorem zL{id:Nat}{K:Exit->DS->Prop}{S:DS}(h:K .normal S):exBl id K .normal S:=h
theorem zP{id:Nat}{K:Exit->DS->Prop}{S:DS}(h:K .ret S):exBl id K .ret S:=h
theorem zQ{id:Nat}{c:Code}{S:DS}{K:Exit->DS->Prop}(h:Ev P b c S (exBl id K)):Ev P b (.block id c) S K:=
 fun w s g a Q hr hK=>wp_block (h w s g a _ hr fun ex w' s' g' a' S' h1 h2=>by
  cases ex with
  |exit j=>
   show if j=id then Q .normal a' w' else Q (.exit j) a' w';have h3:if j=id then K .normal S' else K (.exit j) S':=h2;by_cases e:j=id
   ·rw[Ag e]at h3⊢;exact hK _ w' s' g' a' S' h1 h3
   ·rw[Aa e]at h3⊢;exact hK _ w' s' g' a' S' h1 h3
  |_=>exact hK _ w' s' g' a' S' h1 h2)
theorem pM0{c:Code}{S:DS}(S':DS){K:Exit->DS->Prop}(hl:LeD S S')(h:Ev P b c S' K):Ev P b c S K:=fun w s g a Q hr hK=>by
 obtain⟨s',g',h1⟩:=hl.le w s g a hr;exact h w s' g' a Q h1 hK
def exL{ι:Type}(I:ι->DS)(μ:ι->Nat)(x:ι)(K:Exit->DS->Prop)(ex:Exit)(S:DS):Prop:=match ex with
 | .normal=>∃y,LeD S (I y)/\μ y<μ x
 |e=>K e S
theorem zR{ι:Type}{I:ι->DS}{μ:ι->Nat}{x:ι}{K:Exit->DS->Prop}{S:DS}(y:ι)(h:LeD S (I y))(hm:μ y<μ x):exL I μ x K .normal S:=⟨y,h,hm⟩
theorem yL{ι:Type}{I:ι->DS}{μ:ι->Nat}{x:ι}{K:Exit->DS->Prop}{S:DS}(h:K .ret S):exL I μ x K .ret S:=h
theorem yA{ι:Type}{I:ι->DS}{μ:ι->Nat}{x:ι}{K:Exit->DS->Prop}{S:DS}{j:Nat}(h:K (.exit j) S):exL I μ x K (.exit j) S:=h
theorem ev_loop{ι:Type}(I:ι->DS)(μ:ι->Nat){c:Code}{S:DS}{K:Exit->DS->Prop}(x0:ι)(h0:LeD S (I x0))(h:∀x,Ev P b c (I x) (exL I μ x K)):Ev P b (.loop c) S K:=by
 have:=cod_loop (P:=P) (b:=b) (fun x=>(I x).ste) μ (c:=c) (S:=S.ste) (K:=fun ex s=>∃S',s=DS.ste S'/\K ex S') x0 h0.le (fun x=>by
  intro w s g a Q hr hK;refine h x w s g a Q hr fun ex w' s' g' a' S' h1 h2=>hK ex w' s' g' a' S'.ste h1 ?_
  cases ex with
  |normal=>
   obtain⟨y,h3,h4⟩:=h2;exact⟨y,h3.le,h4⟩
  |_=>exact⟨S',rfl,h2⟩)
 intro w s g a Q hr hK;refine this w s g a Q hr fun ex w' s' g' a' S' h1 h2=>?_;obtain⟨S'',rfl,h3⟩:=h2;exact hK ex w' s' g' a' S'' h1 h3
def nilT(t:Nat)(d:D):List (Nat×D)->List (Nat×D)
 |[]=>[]
 |(u,x)::l=>match Nat.beq u t with
  |true=>(u,d)::l
  |false=>(u,x)::nilT t d l
theorem qT0{t:Nat}{d:D}:∀{l:List (Nat×D)}{u:Nat}{x:D},yQ u (nilT t d l)=some x->(u=t/\x=d/\∃y,yQ t l=some y)\/(u≠t/\yQ u l=some x)
 |[],_,_,h=>by cases h
 |(u',x')::l,u,x,h=>by
  unfold nilT at h
  cases hb:Nat.beq u' t with
  |true=>
   rw[hb]at h;have hut:=Ab hb;subst hut;simp only at h;rw[yN]at h;by_cases hu:u'=u
   ·simp only[hu,if_true]at h
    cases h;exact .inl ⟨hu.symm,rfl,x',by rw[yN];simp⟩
   ·simp only[hu,if_false]at h;exact .inr ⟨fun e=>hu e.symm,by rw[yN];simpa[hu]using h⟩
  |false=>
   rw[hb]at h;simp only at h;have hne:u'≠t:=by rintro rfl;rw[Nat.beq_refl]at hb;cases hb
   rw[yN]at h;by_cases hu:u'=u
   ·simp only[hu,if_true]at h;exact .inr ⟨fun e=>hne (hu.trans e),by rw[yN];simpa[hu]using h⟩
   ·simp only[hu,if_false]at h;rcases qT0 h with⟨h1,h2,y,h3⟩|⟨h1,h2⟩
    ·exact .inl ⟨h1,h2,y,by rw[yN];simp[hne,h3]⟩
    ·exact .inr ⟨h1,by rw[yN];simp[hu,h2]⟩
theorem yU(t ty sz:Nat){c:Code}{tm:List (Nat×D)}{ow:List (Nat×DOwn)}{nx:Nat}{K:Exit->DS->Prop}(ht:yQ t tm=some (.v (.slice none 0 0)))
  (h:Ev P b c ⟨nilT t (.own nx sz []) tm,(nx,.row ty sz 0)::ow,nx+1⟩ K):Ev P b c ⟨tm,ow,nx⟩ K:=by
 intro w s g a Q hr hK;have hfr:=hr.fr nx (Ap _);have hst:=Stp.ghostRow (w:=w) (s:=s) (k:=nx) (sz:=sz) (e:=ty) hr.lt hfr;have hnlt:∀k c,fnd k (ows ow)=some c->k<nx:=fun k c hk=>hr.owLt hk;refine h w s (g.setRow nx 0 (.slice none 0 0)) a Q ⟨hr.kp,hr.lt,hr.sz,fun u d hd=>?_,fun k c hk=>?_,fun k k' c c' N hk hk' hne hb=>?_,fun k hk=>?_,hr.df,fun k hk=>⟨(hr.gb k hk).1,fun m v e=>hst.gle.gn k m v ((hr.gb k hk).2 m v e)⟩⟩ hK
 ·have hd':fnd u (tvs (nilT t (.own nx sz []) tm))=some d:=hd;rw[qE]at hd'
  cases hx:yQ u (nilT t (.own nx sz []) tm)with
  |none=>rw[hx]at hd';cases hd'
  |some x=>
   rw[hx]at hd';cases hd';rcases qT0 hx with⟨rfl,rfl,y,hy⟩|⟨hne,hy⟩
   ·obtain⟨v,h1,h2⟩:=hr.tm u (.pv (PV.lit (.slice none 0 0))) (by show fnd u (tvs tm)=_;rw[qE,ht];rfl);have h2':v= .slice none 0 0:=h2;subst h2';refine⟨_,h1,?_⟩;rw[D.tv,TV.P];exact⟨PV.sl_nil,Gh.setRow_eq _ _ _ _⟩
   ·obtain⟨v,h1,h2⟩:=hr.tm u x.tv (by show fnd u (tvs tm)=_;rw[qE,hy];rfl);exact⟨v,h1,TV.mono (Ex.refl w s) hst.gle h2⟩
 ·have hk':fnd k ((nx,Own.row ty sz 0)::ows ow)=some c:=hk;rw[zY]at hk';by_cases hkn:nx=k
  ·simp only[hkn,if_true]at hk'
   cases hk';subst hkn;refine⟨hst.ok _ _ (by rw[zY];simp),fun N hN=>?_⟩;rw[uF (Gh.setRow_eq _ _ _ _)]at hN
   cases hN
  ·simp only[hkn,if_false]at hk';obtain⟨h1,h2⟩:=hr.ow k c hk';have hsame:=hst.same k (by rw[zY];simp[hkn,fnd]);refine⟨h1.keep (Ex.refl w s) hst.gle hsame.2 (fun _ _=>rfl) (fun _ _ _ h=>h),fun N hN=>h2 N ?_⟩;rw[gN h1 hst.gle]at hN;exact hN
 ·have key:∀{j:Nat}{x:Own}{N:Nat},fnd j ((nx,Own.row ty sz 0)::ows ow)=some x->blk (g.setRow nx 0 (.slice none 0 0)) j x=some N->fnd j (ows ow)=some x/\blk g j x=some N:=by
   intro j x N hj hbj;rw[zY]at hj;by_cases hjn:nx=j
   ·simp only[hjn,if_true]at hj
    cases hj;subst hjn;rw[uF (Gh.setRow_eq _ _ _ _)]at hbj
    cases hbj
   ·simp only[hjn,if_false]at hj;refine⟨hj,?_⟩;rw[gN (hr.ow j x hj).1 hst.gle]at hbj;exact hbj
  obtain⟨h1,h2⟩:=key hk hb;intro hb';obtain⟨h3,h4⟩:=key hk' hb';exact hr.sep k k' c c' N h1 h3 hne h2 h4
 ·have hk':nx+1<=k:=hk;obtain⟨f1,f2⟩:=hr.fr k (by show nx<=k;omega);exact⟨f1,fun m=>by rw[Gh.setRow_ne _ _ om];exact f2 m⟩
end
end Go.Proofs.YtmakjjodkiedmaaGreatDoor
