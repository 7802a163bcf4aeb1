/-Part 10 of the proof. -/
import Derived.Test.YtmakjjodkiedmaaGreatDoorM9
namespace Go.Proofs.YtmakjjodkiedmaaGreatDoor
open Go.RowKit
def gB0(d:D):Option (List D):=match d with
 | .agg l=>some l
 |d=>match d.one with
  |true=>some [d]
  |false=>none
theorem qP0{tm:List (Nat×TV)}{x:Operand}{d:D}{l:List D}(hx:Opd tm x d.tv)(h:gB0 d=some l):PartOk tm x (D.tvl l):=by
 unfold gB0 at h;split at h
 ·cases h;rw[D.tv]at hx;exact .inl hx
 ·split at h
  ·rename_i h1
   cases h;exact .inr ⟨_,hx,D.tv_one h1,rfl⟩
  ·cases h
def zB0(look:Operand->Option D)(pl:List (Nat×Nat)):List (Nat×Operand)->List D->Option (List D)
 |[],cells=>some cells
 |(i,x)::r,cells=>match look x with
  |some d=>match gB0 d with
   |some ds=>match zX0 i pl with
    |some (off,size)=>match Nat.beq ds.length size with
     |true=>match layS off ds cells with
      |some cells'=>zB0 look pl r cells'
      |none=>none
     |false=>none
    |none=>none
   |none=>none
  |none=>none
def litS:List Value->List D
 |[]=>[]
 |z::l=> .v z::litS l
theorem gE:∀l:List Value,D.tvl (litS l)=l.map fun v=> .pv (PV.lit v)
 |[]=>rfl
 |z::l=>by rw[litS,D.tvl,gE l];rfl
theorem pQ{tm:List (Nat×TV)}{look:Operand->Option D}(HL:∀x d,look x=some d->Opd tm x d.tv){pl:List (Nat×Nat)}:∀{parts:List (Nat×Operand)}{cells out:List D},zB0 look pl parts cells=some out->∃ps,PartsOk tm parts ps/\uS0 pl (D.tvl cells) ps=some (D.tvl out)
 |[],cells,out,h=>by cases h;exact⟨[],trivial,rfl⟩
 |(i,x)::r,cells,out,h=>by
  unfold zB0 at h;split at h
  ·rename_i d hd;split at h
   ·rename_i ds hds;split at h
    ·rename_i off size hp;split at h
     ·rename_i hb;split at h
      ·rename_i cells' hl;obtain⟨ps,h1,h2⟩:=pQ HL h;obtain⟨h3,h4⟩:=vH hl;rw[bL]at hp;have hsz:=Ab hb;refine⟨(i,D.tvl ds)::ps,⟨rfl,qP0 (HL x d hd) hds,h1⟩,?_⟩;unfold uS0;rw[hp];have hb2:(Nat.beq (D.tvl ds).length size&&Nat.ble (off+size) (D.tvl cells).length)=true:=by
        rw[qU,qU,hb,Bool.true_and];exact Dd om
       simp only[hb2];rw[<-h2];congr 1;subst h4;rw[hsz];simp[qH,Cy,Cv]
      ·cases h
     ·cases h
    ·cases h
   ·cases h
  ·cases h
theorem bP:∀zs:List Value,D.pvs (litS zs)=zs.map PV.lit
 |[]=>rfl
 |z::zs=>by rw[litS,D.pvs,bP zs];rfl
def yN0(T:List (Nat×TI))(look:Operand->Option D)(t:TypeId)(parts:List (Nat×Operand)):R1:=
 match fnd t T with
 |some (.st _ zs pl)=>match zB0 look pl parts (litS zs)with
  |some out=> .u [] (.agg out)
  |none=> .bad
 |some (.ar _ c q _ zs)=>match zB0 look (arPl c q) parts (litS zs)with
  |some out=> .u [] (.agg out)
  |none=> .bad
 |_=> .bad
def jK0(look:Operand->Option D)(sz:Nat):Nat->List (Nat×Operand)->Option (List (List D))
 |_,[]=>some []
 |i,(j,x)::r=>match look x with
  |some d=>match gB0 d with
   |some l=>match Nat.beq j i&&(Nat.beq l.length sz&&(uT l&&(D.pures l&&D.strL l)))with
    |true=>match jK0 look sz (i+1) r with
     |some rs=>some (l::rs)
     |none=>none
    |false=>none
   |none=>none
  |none=>none
theorem pO{tm:List (Nat×TV)}{look:Operand->Option D}(HL:∀x d,look x=some d->Opd tm x d.tv){sz:Nat}:∀{parts:List (Nat×Operand)}{i:Nat}{rows:List (List D)},jK0 look sz i parts=some rows->mG tm sz i parts (D.pvss rows)
 |[],i,rows,h=>by cases h;trivial
 |(j,x)::r,i,rows,h=>by
  unfold jK0 at h;split at h
  ·rename_i d hd;split at h
   ·rename_i l hl;split at h
    ·rename_i hb;split at h
     ·rename_i rs hr
      cases h;simp only[Ah]at hb;obtain⟨h1,h2,h3,h4,h5⟩:=hb;rw[D.pvss];refine⟨Ab h1,⟨_,qP0 (HL x d hd) hl,D.toPVs h4⟩,by rw[jF];exact Ab h2,fun p hp=>?_,D.strL_pv l h5,pO HL hr⟩;rw[uL]at hp;obtain⟨e,he,rfl⟩:=Bu.1 hp;refine D.pv_one (kU h3 e he) ?_;have aux:∀{l:List D},D.pures l=true->∀e∈l,e.pure=true:=by
       intro l;induction l with
       |nil=>intro _ e he;cases he
       |cons a l ih=>
        intro hp e he;obtain⟨p1,p2⟩:=dP hp;rcases Bc.1 he with rfl|he
        ·exact p1
        ·exact ih p2 e he
      exact aux h4 e he
     ·cases h
    ·cases h
   ·cases h
  ·cases h
def wN(T:List (Nat×TI))(fl:Fl)(nx:Nat)(look:Operand->Option D)(t:TypeId)(len:Nat)(parts:List (Nat×Operand)):R1:=
 match fnd t T with
 |some (.sl e sz)=>match jK0 look sz 0 parts with
  |some []=>match Nat.beq len 0 with
   |true=>match fl with
    | .o=> .n (.row e sz 0) [] (.own nx sz [])
    | .g=> .n (.mrow e sz (.lst [])) [] (.mo nx 0)
    |_=> .u [] (.slr false sz [])
   |false=> .bad
  |some (r::rows)=>match Nat.beq len (r::rows).length&&Nat.ble (len*sz) 16777216 with
   |true=>match fl with
    | .o=> .n (.row e sz len) [] (.own nx sz (r::rows))
    |_=> .u [] (.slr false sz (r::rows))
   |false=> .bad
  |none=> .bad
 |_=> .bad
def yO0(T:List (Nat×TI))(nx:Nat)(t:TypeId):R1:=
 match fnd t T with
 |some (.st _ zs _)=> .n (.box t (litS zs)) [] (.bp nx 0)
 |some (.ar _ _ _ _ zs)=> .n (.box t (litS zs)) [] (.bp nx 0)
 |some (.int k)=> .n (.box t [.v (.int k 0)]) [] (.bp nx 0)
 |some .bool=> .n (.box t [.v (.bool false)]) [] (.bp nx 0)
 |some .str=> .n (.box t [.v (.string ByteArray.empty)]) [] (.bp nx 0)
 |some (.sl _ _)=> .n (.box t [.v (.slice none 0 0)]) [] (.bp nx 0)
 |some (.one z)=> .n (.box t [.v z]) [] (.bp nx 0)
 |some (.mp _ _)=> .bad
 |some (.fl _)=> .bad
 |none=> .bad
def srcR(sz:Nat)(d:Option D):Option (List (List D)):=match d with
 |some (.sl _ z l f _)=>match Nat.beq z sz with
  |true=>some (l.map f)
  |false=>none
 |some (.slr _ z rows)=>match Nat.beq z sz with
  |true=>some rows
  |false=>none
 |some (.own _ z rows)=>match Nat.beq z sz with
  |true=>some rows
  |false=>none
 |some (.v (.slice none 0 0))=>some []
 |_=>none
theorem zQ0{tm:List (Nat×TV)}{look:Operand->Option D}(HL:∀x d,look x=some d->Opd tm x d.tv){y:Operand}{sz:Nat}{r:List (List D)}(h:srcR sz (look y)=some r):∃mo d,Opd tm y d/\∀w s g v,d.P w s g v->(PV.sl mo sz (D.pvss r)).p w s v:=by
 unfold srcR at h;split at h
 ·rename_i α m z l f e hd;split at h
  ·rename_i hz
   cases h;have hz:=Ab hz;subst hz;refine⟨m,_,HL y _ hd,fun w s g v hv=>?_⟩;have e1:D.pvss (l.map f)=l.map fun a=>D.pvs (f a):=by rw[yJ,Bz];rfl
   rw[e1];exact hv
  ·cases h
 ·rename_i m z rows hd;split at h
  ·rename_i hz
   cases h;have hz:=Ab hz;subst hz;exact⟨_,_,HL y _ hd,fun w s g v hv=>hv⟩
  ·cases h
 ·rename_i k z rows hd;split at h
  ·rename_i hz
   cases h;have hz:=Ab hz;subst hz;refine⟨false,_,HL y _ hd,fun w s g v hv=>?_⟩;rw[D.tv,TV.P]at hv;exact hv.1
  ·cases h
 ·rename_i hd
  cases h;refine⟨false,_,HL y _ hd,fun w s g v hv=>?_⟩;have hv':v= .slice none 0 0:=hv;subst hv';exact PV.sl_nil
 ·cases h
def tF(T:List (Nat×TI))(fl:Fl)(nx:Nat)(ow:Nat->Option DOwn)(t:TypeId)(x y:Option D):R1:=
 match fnd t T with
 |some (.sl e sz)=>match srcR sz y with
  |some r=>match x with
   |some (.own k z rows)=>match ow k with
    |some (.row e' z' n)=>match Nat.beq e e'&&(Nat.beq z sz&&Nat.beq z' sz)with
     |true=> .w k (.row e sz (rows++r).length) [rows.length=n,rows.length+r.length<=1073741824] (.own k sz (rows++r))
     |false=> .bad
    |_=> .bad
   |some (.slf z rows)=>match Nat.beq z sz with
    |true=> .n (.row e sz (rows++r).length) [0<r.length/\rows.length+r.length<=1073741824] (.own nx sz (rows++r))
    |false=> .bad
   |some (.v (.slice none 0 0))=>match fl with
    | .g=> .n (.mrow e sz (.lst r)) [r.length<=1073741824] (.mo nx r.length)
    |_=> .n (.row e sz r.length) [r.length<=1073741824] (.own nx sz r)
   |some (.mo k q)=>match ow k with
    |some (.mrow e' z' M)=>match Nat.beq e e'&&Nat.beq z' sz with
     |true=> .w k (.mrow e sz (.app M r)) [q=M.len,q+r.length<=1073741824] (.mo k (q+r.length))
     |false=> .bad
    |_=> .bad
   |some (.mw k q i z n)=>match ow k with
    |some (.mrow e' z' M)=>match Nat.beq e e'&&(Nat.beq z sz&&(Nat.beq z' sz&&Nat.beq i 0))with
     |true=>match r with
      |[row]=> .w k (.mrow e sz (.upd M n row)) [q=M.len,n<q] (.mw k q 0 sz (n+1))
      |_=> .bad
     |false=> .bad
    |_=> .bad
   |_=> .bad
  |none=> .bad
 |_=> .bad
def xS(T:List (Nat×TI))(ow:Nat->Option DOwn)(t t':TypeId)(x y:Option D):R1:=
 match fnd t T,fnd t' T with
 |some (.sl e sz),some .str=>match Nat.beq sz 1 with
  |true=>match y with
   |some (.v (.string p))=>match x with
    |some (.mo k q)=>match ow k with
     |some (.mrow e' z' M)=>match Nat.beq e e'&&Nat.beq z' sz with
      |true=> .w k (.mrow e sz (.app M (p.data.toList.map u8D))) [q=M.len,q+p.size<=1073741824] (.mo k (q+p.size))
      |false=> .bad
     |_=> .bad
    |_=> .bad
   |_=> .bad
  |false=> .bad
 |_,_=> .bad
def byteR:List D->UInt8
 |[.v (.int .u8 n)]=>UInt8.ofNat n.toNat
 |_=>0
def mD0(r:List (List D)):List UInt8:=r.map byteR
def yD0(T:List (Nat×TI))(src dt:TypeId)(x:Option D):R1:=
 match fnd src T,fnd dt T with
 |some (.sl e sz),some .str=>match fnd e T with
  |some (.int k)=>match kEq k .u8 with
   |true=>match srcR 1 x with
    |some r=> .u [r=(mD0 r).map u8D] (.v (.string ⟨(mD0 r).toArray⟩))
    |none=> .bad
   |false=> .bad
  |_=> .bad
 |some (.int _),some .str=>match x with
  |some (.v (.int _ n))=> .u [] (.v (.string (Utf8.encode n)))
  |_=> .bad
 |_,_=> .bad
def gK0(T:List (Nat×TI))(e:TypeId):Option (List Value):=match fnd e T with
 |some (.st _ zs _)=>some zs
 |some (.ar _ _ _ _ zs)=>some zs
 |some (.int k)=>some [.int k 0]
 |some .bool=>some [.bool false]
 |some .str=>some [.string ByteArray.empty]
 |some (.sl _ _)=>some [.slice none 0 0]
 |some (.one z)=>some [z]
 |_=>none
def wV0(T:List (Nat×TI))(nx:Nat)(t:TypeId)(x y:Option D):R1:=match fnd t T with
 |some (.sl e sz)=>match gK0 T e with
  |some zs=>match x,y with
   |some (.v (.int _ l)),some (.v (.int _ c))=> .n (.mrow e sz (.map (List.replicate l.toNat ()) (fun _=>litS zs) ())) [0<=l/\l<=c/\c<=1073741824] (.mo nx l.toNat)
   |_,_=> .bad
  |none=> .bad
 |_=> .bad
def tD(T:List (Nat×TI))(nx:Nat)(src dt:TypeId)(x:Option D):R1:=match fnd src T,fnd dt T,x with
 |some .str,some (.sl e sz),some (.v (.string p))=>match fnd e T with
  |some (.int k)=>match kEq k .u8 with
   |true=> .n (.mrow e 1 (.map p.data.toList u8D 0)) [p.size<=1073741824] (.mo nx p.size)
   |false=> .bad
  |_=> .bad
 |_,_,_=> .bad
def wY0(T:List (Nat×TI))(ow:Nat->Option DOwn)(t:TypeId)(x y:Option D):R1:=match fnd t T with
 |some (.sl e sz)=>match Nat.beq sz 1 with
  |true=>match srcR 1 y with
   |some r=>match x with
    |some (.mo k q)=>match ow k with
     |some (.mrow e' z' M)=>match Nat.beq e e'&&Nat.beq z' 1 with
      |true=> .w k (.mrow e 1 (.cpy M r)) [q=M.len,r.length<=q] (.v (.int .i64 r.length))
      |false=> .bad
     |_=> .bad
    |_=> .bad
   |none=> .bad
  |false=> .bad
 |_=> .bad
def mL0(x y:Option D):R1:=match x,y with
 |some (.v (.int k n)),some (.v (.int k' m))=>match kEq k k' with
  |true=> .u [] (.v (.int k (if m<n then m else n)))
  |false=> .bad
 |_,_=> .bad
def mM0(x y:Option D):R1:=match x,y with
 |some (.v (.int k n)),some (.v (.int k' m))=>match kEq k k' with
  |true=> .u [] (.v (.int k (if n<m then m else n)))
  |false=> .bad
 |_,_=> .bad
def wU0(x y q:Option D):R1:=match x,y,q with
 |some (.v (.int k n)),some (.v (.int k' m)),some (.v (.int k2 r))=>match kEq k k'&&kEq k k2 with
  |true=> .u [] (.v (.int k (if(if n<m then m else n)<r then r else(if n<m then m else n))))
  |false=> .bad
 |_,_,_=> .bad
def pT(look:Operand->Option D):List Operand->Option (List D)
 |[]=>some []
 |x::l=>match look x with
  |some d=>match pT look l with
   |some r=>some (d::r)
   |none=>none
  |none=>none
theorem wO{tm:List (Nat×TV)}{look:Operand->Option D}(HL:∀x d,look x=some d->Opd tm x d.tv):∀{l:List Operand}{r:List D},pT look l=some r->(D.tvl r).length=l.length/\∀(j:Nat)(x:Operand)(t:TV),l[j]?=some x->(D.tvl r)[j]?=some t->Opd tm x t
 |[],r,h=>by cases h;exact⟨rfl,fun j x t hx=>by simp at hx⟩
 |x::l,r,h=>by
  unfold pT at h;split at h
  ·rename_i d hd;split at h
   ·rename_i q hq
    cases h;obtain⟨h1,h2⟩:=wO HL hq;rw[D.tvl];refine⟨by simp[h1],fun j y t hy ht=>?_⟩
    cases j with
    |zero=>simp at hy ht;subst hy;subst ht;exact HL x d hd
    |succ j=>exact h2 j y t (by simpa using hy) (by simpa using ht)
   ·cases h
  ·cases h
def mO0(look:Operand->Option D):Operand->Option (FuncId×List D)
 | .func f=>some (f,[])
 |x=>match look x with
  |some (.clo f l)=>match Nat.blt f 1000000 with
   |true=>some (f,l)
   |false=>none
  |_=>none
def xA0(look:Operand->Option D)(x:Operand):Option (FuncId×List D):=match look x with
 |some (.clo f l)=>match Nat.blt f 1000000 with
  |true=>none
  |false=>some (f-1000000,l)
 |_=>none
theorem evCalB_ok{tm:List (Nat×TV)}{look:Operand->Option D}(HL:∀x d,look x=some d->Opd tm x d.tv){x:Operand}{f:FuncId}{first:List D}(h:xA0 look x=some (f,first)):CalB tm x f (D.tvl first):=by
 unfold xA0 at h;split at h
 ·rename_i f' l hl;split at h
  ·cases h
  ·rename_i hb;simp only[Option.some.injEq,Prod.mk.injEq]at h;obtain⟨rfl,rfl⟩:=h;have:=HL _ _ hl;rw[D.tv]at this;exact CalB.clo (fun hlt=>by rw[show Nat.blt f' 1000000=true from Dd hlt]at hb;cases hb) this
 ·cases h
theorem evCal_ok{tm:List (Nat×TV)}{look:Operand->Option D}(HL:∀x d,look x=some d->Opd tm x d.tv){x:Operand}{f:FuncId}{caps:List D}(h:mO0 look x=some (f,caps)):CalOk tm x f (D.tvl caps):=by
 unfold mO0 at h;split at h
 ·cases h;exact CalOk.func tm f
 ·split at h
  ·rename_i f' l hl;split at h
   ·rename_i hb
    cases h;have:=HL _ _ hl;rw[D.tv]at this;exact CalOk.clo (An hb) this
   ·cases h
  ·cases h
noncomputable def kL0 {β:Type 1} (l:List Nat) (k:List Nat->β):β:=List.rec (motive:=fun _=>(List Nat->β)->β) (fun k=>k []) (fun x _ ih k=>ih fun l'=>k (x::l')) l k
theorem cV{β:Type 1}:∀(l:List Nat)(k:List Nat->β),kL0 l k=k l
 |[],_=>rfl
 |x::l,k=>cV l fun l'=>k (x::l')
noncomputable def evG (nx:Nat) (ow:Nat->Option DOwn) (f:FuncId) (ds:List D):R1:=kL0 (cC ow 40 (D.keysL false ds) []) fun ks=>match D.locL ks true ds with
 |some r=>match pF ow ks ks with
  |some lo=>match ksOk nx ks with
   |true=> .g f r ks lo
   |false=> .bad
  |none=> .bad
 |none=> .bad
noncomputable def evGo (fl:Fl) (nx:Nat) (ow:Nat->Option DOwn) (f:FuncId) (ds:List D):R1:=match fl with
 | .n=>match D.pures ds with
  |true=> .c f ds
  |false=>match wL ow 60 ds with
   |some (es,acc,ps)=> .cl f es acc ps
   |none=> .bad
 | .o=>match D.pures ds with
  |true=> .co f ds
  |false=> .bad
 | .g=>evG nx ow f ds
def appD:List D->List D->List D
 |[],r=>r
 |d::l,r=>d::appD l r
theorem yT0:∀l r:List D,appD l r=l++r
 |[],_=>rfl
 |d::l,r=>by rw[appD,yT0 l r];rfl
noncomputable def wZ0 (T:List (Nat×TI)) (fl:Fl) (nx:Nat) (look:Operand->Option D) (ow:Nat->Option DOwn) (c:Callee) (args:List Operand) (ts:List TypeId):R1:=
 match c with
 | .value x=>match mO0 look x with
  |some (f,caps)=>match pT look args with
   |some r=>evGo fl nx ow f (appD r caps)
   |none=> .bad
  |none=>match xA0 look x with
   |some (f,first)=>match pT look args with
    |some r=>evG nx ow f (appD first r)
    |none=> .bad
   |none=> .bad
 | .builtin .len=>match args,ts with
  |[x],[t]=>mN0 T t (look x)
  |_,_=> .bad
 | .builtin .append=>match args,ts with
  |[x,y],[t,t']=>match Nat.beq t t' with
   |true=>tF T fl nx ow t (look x) (look y)
   |false=>xS T ow t t' (look x) (look y)
  |_,_=> .bad
 | .builtin .copy=>match args,ts with
  |[x,y],[t,_]=>wY0 T ow t (look x) (look y)
  |_,_=> .bad
 | .builtin .min=>match args with
  |[x,y]=>mL0 (look x) (look y)
  |_=> .bad
 | .builtin .max=>match args with
  |[x,y]=>mM0 (look x) (look y)
  |[x,y,q]=>wU0 (look x) (look y) (look q)
  |_=> .bad
 |_=> .bad
def zA0(x:Option D):R1:=match x with
 |some d=> .u [] d
 |none=> .bad
def kO0(op:BinOp)(x y:Option D):R1:=match x,y with
 |some (.v (.int k n)),some (.v (.int k' m))=>match kEq k k' with
  |true=>match op with
   | .add=> .u [] (.v (.int k (k.wrap (n+m))))
   | .sub=> .u [] (.v (.int k (k.wrap (n-m))))
   | .mul=> .u [] (.v (.int k (k.wrap (n*m))))
   |_=> .bad
  |false=> .bad
 |_,_=> .bad
def kN0(look:Operand->Option D)(f:Go.Fn)(first:List Operand)(xs:List Operand):R1:=match f,first with
 | .func f,[]=>match pT look xs,Nat.blt f 1000000 with
  |some r,true=> .u [] (.clo f r)
  |_,_=> .bad
 | .func f,x::l=>match xs with
  |[]=>match pT look (x::l)with
   |some r=> .u [] (.clo (1000000+f) r)
   |none=> .bad
  |_=> .bad
 |_,_=> .bad
def mK0(x:Option D):R1:=match x with
 |some (.bp k o)=> .u [] (.bp k o)
 |some (.pt m row)=> .u [] (.pt m row)
 |some (.mp k n i sz o)=> .u [] (.mp k n i sz o)
 |_=> .bad
def zD(ag:Bool)(zs:List Value):D:=match ag,zs with
 |true,[]=> .v (.agg #[])
 |true,z::l=> .agg (litS (z::l))
 |false,z::_=> .v z
 |false,[]=> .v undef
def lkP(n:Int)(l:List (Int×D))(z:D):List D->Prop
 |[d,.v (.bool b)]=>(∀w s v,((lkI n l).getD z).pv.p w s v->d.pv.p w s v)/\(lkI n l).isSome=b
 |_=>False
def lkO(ok:Bool)(row:List D):D:=match ok,row with
 |true,row=> .tup row
 |false,d::_=>match d.flat with
  |true=>d
  |false=> .op PV.any
 |false,[]=> .op PV.any
def tB(T:List (Nat×TI))(ow:Nat->Option DOwn)(t:TypeId)(x y:Option D)(ok:Bool):R1:=match fnd t T with
 |some (.mp ag zs)=>match x with
  |some (.mk k)=>match ow k with
   |some (.map l)=>match y with
    |some (.v (.int kk n))=>match kEq kk .i64 with
     |true=> .lk k (lkP n l (zD ag zs)) (lkO ok)
     |false=> .bad
    |_=> .bad
   |_=> .bad
  |_=> .bad
 |_=> .bad
def mO(T:List (Nat×TI))(ow:Nat->Option DOwn)(t:TypeId)(x y q:Option D):R1:=match fnd t T with
 |some (.mp _ _)=>match x with
  |some (.mk k)=>match ow k with
   |some (.map l)=>match y with
    |some (.v (.int kk n))=>match q with
     |some d=>match kEq kk .i64&&d.pure&&d.str with
      |true=> .w k (.map (putI n d l)) [] (.v undef)
      |false=> .bad
     |none=> .bad
    |_=> .bad
   |_=> .bad
  |_=> .bad
 |_=> .bad
def yJ0(T:List (Nat×TI))(nx:Nat)(t:TypeId):R1:=match fnd t T with
 |some (.mp _ _)=> .n (.map []) [] (.mk nx)
 |_=> .bad
def wQ0(T:List (Nat×TI))(nx:Nat)(t:TypeId)(x:Option D):R1:=match fnd t T,x with
 |some .str,some (.v (.string b))=> .n (.itr (itL b b.size 0)) [] (.bp nx 0)
 |_,_=> .bad
def wS0(ow:Nat->Option DOwn)(x:Option D):R1:=match x with
 |some (.bp k 0)=>match ow k with
  |some (.itr [])=> .w k (.itr []) [] (.tup [.v (.bool false)])
  |some (.itr ((q,c)::l))=> .w k (.itr l) [] (.tup [.v (.bool true),.v (.int .i64 q),.v (.int .i32 c)])
  |_=> .bad
 |_=> .bad
def litL:List D->Option (List Value)
 |[]=>some []
 | .v x::l=>match litL l with
  |some r=>some (x::r)
  |none=>none
 |_::_=>none
def D.lit:D->Option Value
 | .v x=>some x
 | .agg l=>match litL l with
  |some r=>some (.agg r.toArray)
  |none=>none
 |_=>none
noncomputable def yL0 (T:List (Nat×TI)) (t:TypeId) (x:Option D):R1:=match fnd t T,x with
 |some (.st _ _ _),some d=>match d.lit with
  |some v=> .u [] (.v (.iface t v))
  |none=> .bad
 |_,_=> .bad
noncomputable def tE (T:List (Nat×TI)) (t:TypeId) (x:Option D):R1:=match fnd t T,x with
 |some (.st _ _ _),some (.v (.iface u (.agg a)))=>match Nat.beq u t with
  |true=> .u [] (.tup [.agg (litS a.toList),.v (.bool true)])
  |false=> .bad
 |_,_=> .bad
noncomputable def yI0 (x:Option D):R1:=match x with
 |some (.v (.iface t v))=> .pn [{v:= .iface t v,recovered:=false}]
 |_=> .bad
noncomputable def mC (T:List (Nat×TI)) (fl:Fl) (nx:Nat) (look:Operand->Option D) (ow:Nat->Option DOwn):Op->R1
 | .move x=>zA0 (look x)
 | .assign x=>zA0 (look x)
 | .box t x=>mP0 nx t (look x)
 | .alloc t=>yO0 T nx t
 | .build t parts=>yN0 T look t parts.toList
 | .buildSlice t len parts=>wN T fl nx look t len parts.toList
 | .load t x=>wW0 T ow t (look x)
 | .store t x y=>yE0 T ow t (look x) (look y)
 | .fieldAddr t x i=>xR T t (look x) i
 | .indexAddr t x y=>match fl with
  | .o=>tC T t (look x) (look y)
  |_=>xQ T t (look x) (look y)
 | .index t x y=>yK0 T t (look x) (look y)
 | .binOp op t x y _=>match fl with
  | .o=>kO0 op (look x) (look y)
  |_=>mQ0 T op t (look x) (look y)
 | .unOp op _ x=>evUn op (look x)
 | .convert src dt x=>match fnd dt T with
  |some .str=>yD0 T src dt (look x)
  |_=>match fl with
   | .g=>tD T nx src dt (look x)
   |_=>pS T src dt (look x)
 | .extract x i=>pR (look x) i
 | .slice t x lo hi none=>yF0 T look t x lo hi
 | .field t x i=>yM0 T t (look x) i
 | .call c=>wZ0 T fl nx look ow c.callee c.args.toList c.argTypes.toList
 | .makeSlice t x y=>wV0 T nx t (look x) (look y)
 | .makeFunc f first xs=>kN0 look f first.toList xs.toList
 | .nilCheck x=>mK0 (look x)
 | .makeMap t none=>yJ0 T nx t
 | .lookup t x y ok=>tB T ow t (look x) (look y) ok
 | .mapUpdate t x y q=>mO T ow t (look x) (look y) (look q)
 | .insert t x y q=>mO T ow t (look x) (look y) (look q)
 | .range t x=>wQ0 T nx t (look x)
 | .next x true=>wS0 ow (look x)
 | .makeInterface t x=>yL0 T t (look x)
 | .panic x=>yI0 (look x)
 | .typeAssert x _ t true=>tE T t (look x)
 |_=> .bad
section
variable{P:Program}{E:Pn}{T:List (Nat×TI)}(hT:wC P T=true){fl:Fl}{tm:List (Nat×TV)}{ow:Nat->Option DOwn}{nx:Nat}{look:Operand->Option D}(HL:∀x d,look x=some d->Opd tm x d.tv)
 {dst:Option Tmp} {ty:TypeId} {pos:String} {aft:Array Edge} {gd:Option (Nat×Bool)}
include HL
theorem cZ(x:Operand):(zA0 (look x)).Ok P E ⟨dst,.move x,ty,pos,aft,gd⟩ tm ow nx/\(zA0 (look x)).Ok P E ⟨dst,.assign x,ty,pos,aft,gd⟩ tm ow nx:=by
 unfold zA0;split
 ·rename_i d hx;exact⟨fun _=>uZ0 (HL x _ hx),fun _=>yX0 (HL x _ hx)⟩
 ·exact⟨trivial,trivial⟩
omit HL in
theorem zD_ok(ag:Bool)(zs:List Value)(w:World)(s:Sb):(zD ag zs).pv.p w s (mzV ag zs):=by
 match ag,zs with
 |true,[]=>exact(rfl:Value.agg _=Value.agg _)
 |true,z::l=>
  show(PV.agg (D.pvs (litS (z::l)))).p w s _;rw[bP];exact⟨z::l,rfl,AllV.lits w s (z::l)⟩
 |false,z::_=>exact(rfl:z=z)
 |false,[]=>exact(rfl:undef=undef)
omit HL in
theorem yP0(l:List (Int×D)):entI (l.map fun x=>(x.1,x.2.pv))=l.map fun x=>(Value.int .i64 x.1,x.2.pv):=by
 unfold entI;rw[Bz];rfl
include hT in
theorem evLookup_ok(t:TypeId)(x y:Operand)(ok:Bool):(tB T ow t (look x) (look y) ok).Ok P E ⟨dst,.lookup t x y ok,ty,pos,aft,gd⟩ tm ow nx:=by
 unfold tB;split
 ·rename_i ag zs hf;have hM:=(kW0 (yC hT hf)).2;split
  ·rename_i k hx;have hx:=HL x _ hx;rw[D.tv]at hx;split
   ·rename_i l hk;split
    ·rename_i kk n hy;have hy:=HL y _ hy;split
     ·rename_i hkk;have hkk:=uR hkk;subst hkk;intro row hrow;refine⟨_,hk,?_⟩;have h:=u_lookup (P:=P) (dst:=dst) (ty:=ty) (pos:=pos) (aft:=aft) (gd:=gd) (l:=l.map fun x=>(x.1,x.2.pv)) (e:=(zD ag zs).pv) (ok:=ok) hM (zD_ok ag zs) hx hy;rw[yP0,wD0]at h;have hq:((lkI n l).map D.pv).getD (zD ag zs).pv=((lkI n l).getD (zD ag zs)).pv:=by cases lkI n l<;>rfl
      have hq2:((lkI n l).map D.pv).isSome=(lkI n l).isSome:=by cases lkI n l<;>rfl
      rw[hq,hq2]at h;unfold lkP at hrow;split at hrow
      ·rename_i d b;obtain⟨h1,h2⟩:=hrow;refine h.weaken fun w s g v hv=>?_
       cases ok with
       |true=>
        rw[TV.P]at hv;obtain⟨vs,rfl,h3⟩:=hv
        match vs,h3 with
        |[a,c],⟨h3,h4,_⟩=>
         show(D.tup [d,.v (.bool b)]).tv.P w s g _;rw[D.tv,TV.P];have h4:c=Value.bool (lkI n l).isSome:=h4;exact⟨[a,c],rfl,h1 _ _ _ h3,by show c=_;rw[h4,h2],trivial⟩
       |false=>
        rw[TV.P]at hv;show(match d.flat with|true=>d|false=>D.op PV.any).tv.P w s g v
        cases hfl:d.flat with
        |true=>exact D.ofPV hfl (h1 _ _ _ hv)
        |false=>rw[D.tv,TV.P];trivial
      ·exact hrow.elim
     ·trivial
    ·trivial
   ·trivial
  ·trivial
 ·trivial
include hT in
theorem pP(t:TypeId)(x y q:Operand){o:Op}(ho:o= .mapUpdate t x y q\/o= .insert t x y q):(mO T ow t (look x) (look y) (look q)).Ok P E ⟨dst,o,ty,pos,aft,gd⟩ tm ow nx:=by
 unfold mO;split
 ·rename_i ag zs hf;have hM:=(kW0 (yC hT hf)).2;split
  ·rename_i k hx;have hx:=HL x _ hx;rw[D.tv]at hx;split
   ·rename_i l hk;split
    ·rename_i kk n hy;have hy:=HL y _ hy;split
     ·rename_i d hq;have hq:=HL q _ hq;split
      ·rename_i hb;simp only[Ah]at hb;obtain⟨⟨hkk,hp⟩,hs⟩:=hb;have hkk:=uR hkk;subst hkk;intro _;refine⟨_,hk,?_⟩;have h:=u_mapUpdate (P:=P) (dst:=dst) (ty:=ty) (pos:=pos) (aft:=aft) (gd:=gd) (l:=l.map fun x=>(x.1,x.2.pv)) ho hM hx hy hq (D.toPV hp) (D.str_pv d hs);rw[yP0,qL0,yP0]at h;exact h
      ·trivial
     ·trivial
    ·trivial
   ·trivial
  ·trivial
 ·trivial
omit HL in
theorem evMkMap_ok(t:TypeId):(yJ0 T nx t).Ok P E ⟨dst,.makeMap t none,ty,pos,aft,gd⟩ tm ow nx:=by
 unfold yJ0;split
 ·intro _;exact u_makeMap nx
 ·trivial
theorem evNil_ok(x:Operand):(mK0 (look x)).Ok P E ⟨dst,.nilCheck x,ty,pos,aft,gd⟩ tm ow nx:=by
 unfold mK0;split
 ·rename_i k o hx;intro _;refine kB (HL x _ hx) fun w s g v h=>?_;rw[D.tv,TV.P]at h;obtain⟨N,_,e⟩:=h;exact⟨_,e⟩
 ·rename_i m row hx;intro _;refine kB (HL x _ hx) fun w s g v h=>?_;obtain⟨b,o,e,_⟩:=h;exact⟨_,e⟩
 ·rename_i k n i sz o hx;intro _;refine kB (HL x _ hx) fun w s g v h=>?_;rw[D.tv,TV.P]at h;obtain⟨G,c,_,e⟩:=h;exact⟨_,e⟩
 ·trivial
theorem evBox_ok(t:TypeId)(x:Operand):(mP0 nx t (look x)).Ok P E ⟨dst,.box t x,ty,pos,aft,gd⟩ tm ow nx:=by
 unfold mP0;split
 ·rename_i l hx;split
  ·rename_i h1;intro _;have hx:=HL x _ hx;rw[D.tv]at hx;exact u_boxR nx hx (vB0 h1)
  ·trivial
 ·rename_i d hx;split
  ·rename_i h1;intro _;exact u_box1 nx (HL x _ hx) (D.tv_one h1)
  ·trivial
 ·trivial
theorem evMin_ok(x y:Operand){ts:Array TypeId}:(mL0 (look x) (look y)).Ok P E ⟨dst,.call {callee:= .builtin .min,args:= #[x,y],argTypes:=ts},ty,pos,aft,gd⟩ tm ow nx:=by
 unfold mL0;split
 ·rename_i k n k' m hx hy;split
  ·rename_i hk;have hk:=uR hk;subst hk;intro _;exact u_min (HL x _ hx) (HL y _ hy)
  ·trivial
 ·trivial
theorem evMax3_ok(x y q:Operand){ts:Array TypeId}:(wU0 (look x) (look y) (look q)).Ok P E ⟨dst,.call {callee:= .builtin .max,args:= #[x,y,q],argTypes:=ts},ty,pos,aft,gd⟩ tm ow nx:=by
 unfold wU0;split
 ·rename_i k n k' m k2 r hx hy hq;split
  ·rename_i hk;simp only[Ah]at hk;have h1:=uR hk.1;have h2:=uR hk.2;subst h1;subst h2;intro _;exact u_max3 (HL x _ hx) (HL y _ hy) (HL q _ hq)
  ·trivial
 ·trivial
theorem evMax_ok(x y:Operand){ts:Array TypeId}:(mM0 (look x) (look y)).Ok P E ⟨dst,.call {callee:= .builtin .max,args:= #[x,y],argTypes:=ts},ty,pos,aft,gd⟩ tm ow nx:=by
 unfold mM0;split
 ·rename_i k n k' m hx hy;split
  ·rename_i hk;have hk:=uR hk;subst hk;intro _;exact u_max (HL x _ hx) (HL y _ hy)
  ·trivial
 ·trivial
include hT
theorem evBuild_ok(t:TypeId)(parts:List (Nat×Operand)):(yN0 T look t parts).Ok P E ⟨dst,.build t parts.toArray,ty,pos,aft,gd⟩ tm ow nx:=by
 unfold yN0;split
 ·rename_i n zs pl hf;split
  ·rename_i out hb;intro _;obtain⟨ps,h1,h2⟩:=pQ HL hb;have:=vA0 (P:=P) (dst:=dst) (ty:=ty) (pos:=pos) (aft:=aft) (gd:=gd) (bF (yC hT hf)).2.2.1 h1 (by rw[<-gE];exact h2);rw[D.tv];exact this
  ·trivial
 ·rename_i n c q e zs hf;split
  ·rename_i out hb;intro _;obtain⟨ps,h1,h2⟩:=pQ HL hb;have:=vA0 (P:=P) (dst:=dst) (ty:=ty) (pos:=pos) (aft:=aft) (gd:=gd) (tZ (yC hT hf)).2.2.1 h1 (by rw[<-gE];exact h2);rw[D.tv];exact this
  ·trivial
 ·trivial
theorem evBuildSlice_ok(t:TypeId)(len:Nat)(parts:List (Nat×Operand)):(wN T fl nx look t len parts).Ok P E ⟨dst,.buildSlice t len parts.toArray,ty,pos,aft,gd⟩ tm ow nx:=by
 unfold wN;split
 ·rename_i e sz hf;have hA:=(wF (yC hT hf)).2.2;split
  ·rename_i hr;split
   ·rename_i hl;have hl:=Ab hl;subst hl;have hro:=pO HL hr;have hp:parts=[]:=by
     cases parts with
     |nil=>rfl
     |cons q r=>exact hro.elim
    subst hp;split
    ·intro _;exact wA nx hA
    ·intro _;exact(wA nx hA).thaw
    ·intro _;exact u_buildSlice0 hA.bslT
   ·trivial
  ·rename_i r rows hr;split
   ·rename_i hl;simp only[Ah]at hl;have h1:=Ab hl.1;have h2:len*sz<=16777216:=An hl.2;have h0:0<len:=by rw[h1];simp
    have hro:=pO HL hr;split
    ·intro _;rw[D.tv];exact u_buildSliceOwn nx hA hro (by rw[yI];exact h1) h2 h0
    ·intro _;exact u_buildSlice hA.bslT hro (by rw[yI];exact h1) h2 h0
   ·trivial
  ·trivial
 ·trivial
theorem evAppendStr_ok(t t':TypeId)(x y:Operand):(xS T ow t t' (look x) (look y)).Ok P E ⟨dst,.call {callee:= .builtin .append,args:= #[x,y],argTypes:= #[t,t']},ty,pos,aft,gd⟩ tm ow nx:=by
 unfold xS;split
 ·rename_i e sz hf hf';have hA:=(wF (yC hT hf)).2.2;have hu:=(vG (yC hT hf')).2.1;split
  ·rename_i h1;have h1:=Ab h1;split
   ·rename_i p hy;split
    ·rename_i k q hx;split
     ·rename_i e' z' M hk;split
      ·rename_i hb;simp only[Ah]at hb;have e1:=Ab hb.1;have e2:=Ab hb.2;subst e1;subst e2;rintro⟨h3,h4,_⟩;refine⟨_,hk,?_⟩;have:=u_appendStr (P:=P) (dst:=dst) (ty:=ty) (pos:=pos) (aft:=aft) (gd:=gd) (rows:=D.pvss M.rows) (n:=q) (m:=p.size) hA h1 hu (HL x _ hx) (by rw[yI,MR.len_rows];exact h3.symm) (HL y _ hy) rfl h4;show UOp P _ tm [(k,Own.mrow _ _ (D.pvss M.rows))] _ [(k,Own.mrow _ _ (D.pvss (M.rows++p.data.toList.map u8D)))];rw[yJ (M.rows++_),Ad,<-yJ,Bz];exact this
      ·trivial
     ·trivial
    ·trivial
   ·trivial
  ·trivial
 ·trivial
theorem evToStr_ok(src dt:TypeId)(x:Operand):(yD0 T src dt (look x)).Ok P E ⟨dst,.convert src dt x,ty,pos,aft,gd⟩ tm ow nx:=by
 unfold yD0;split
 ·rename_i e sz hs hd;split
  ·rename_i k he;split
   ·rename_i hk;have hk:=uR hk;subst hk;split
    ·rename_i r hr;rintro⟨h1,_⟩;obtain⟨mo,d,hy,hp⟩:=zQ0 HL hr;obtain⟨ie,z,hse,_⟩:=(wF (yC hT hs)).2.2.h;refine u_toStr (m:=mo) (l:=mD0 r) hse (xV (yC hT he)).2.1 (vG (yC hT hd)).2.1 hy fun w s g v h=>?_;have h2:=hp w s g v h;rw[h1,yJ,Bz]at h2;exact h2
    ·trivial
   ·trivial
  ·trivial
 ·rename_i k hs hd;split
  ·rename_i k' n hx;intro _;exact u_intStr (by rw[(xV (yC hT hs)).2.1];rfl) (vG (yC hT hd)).2.1 (HL x _ hx)
  ·trivial
 ·trivial
theorem evAppend_ok(t:TypeId)(x y:Operand):(tF T fl nx ow t (look x) (look y)).Ok P E ⟨dst,.call {callee:= .builtin .append,args:= #[x,y],argTypes:= #[t,t]},ty,pos,aft,gd⟩ tm ow nx:=by
 unfold tF;split
 ·rename_i e sz hf;have hA:=(wF (yC hT hf)).2.2;split
  ·rename_i r hr;obtain⟨mo,d,hy,hd⟩:=zQ0 HL hr;split
   ·rename_i k z rows hx;split
    ·rename_i e' z' n hk;split
     ·rename_i hb;simp only[Ah]at hb;have e1:=Ab hb.1;have e2:=Ab hb.2.1;have e3:=Ab hb.2.2;subst e1;subst e2;subst e3;rintro⟨h1,h2,_⟩;subst h1;refine⟨_,hk,?_⟩;have hx:=HL x _ hx;rw[D.tv]at hx;have:=u_appendOwn (P:=P) (dst:=dst) (ty:=ty) (pos:=pos) (aft:=aft) (gd:=gd) (n:=rows.length) (m:=r.length) hA hx (yI _) hy hd (yI _) h2;rw[D.tv,yJ,Ad,<-yJ,<-yJ];show UOp P _ tm [(k,Own.row _ _ rows.length)] _ [(k,Own.row _ _ (rows++r).length)];rw[Ae];exact this
     ·trivial
    ·trivial
   ·rename_i z rows hx;split
    ·rename_i hz;have hz:=Ab hz;subst hz;rintro⟨⟨h1,h2⟩,_⟩;have:=u_appendFull (P:=P) (dst:=dst) (ty:=ty) (pos:=pos) (aft:=aft) (gd:=gd) (n:=rows.length) (m:=r.length) nx hA (HL x _ hx) (yI _) hy hd (yI _) h1 h2;rw[D.tv,yJ,Ad,<-yJ,<-yJ];show UOp P _ tm [] _ [(nx,Own.row _ _ (rows++r).length)];rw[Ae];exact this
    ·trivial
   ·rename_i hx;split
    ·rintro⟨h2,_⟩;exact u_appendNilM (P:=P) (dst:=dst) (ty:=ty) (pos:=pos) (aft:=aft) (gd:=gd) (m:=r.length) nx hA (HL x _ hx) hy hd (yI _) h2
    ·rintro⟨h2,_⟩;have:=u_appendNil (P:=P) (dst:=dst) (ty:=ty) (pos:=pos) (aft:=aft) (gd:=gd) (m:=r.length) nx hA (HL x _ hx) hy hd (yI _) h2;rw[D.tv];exact this
   ·rename_i k q hx;split
    ·rename_i e' z' M hk;split
     ·rename_i hb;simp only[Ah]at hb;have e1:=Ab hb.1;have e2:=Ab hb.2;subst e1;subst e2;rintro⟨h1,h2,_⟩;refine⟨_,hk,?_⟩;have:=u_appendMo (P:=P) (dst:=dst) (ty:=ty) (pos:=pos) (aft:=aft) (gd:=gd) (rows:=D.pvss M.rows) (n:=q) (m:=r.length) hA (HL x _ hx) (by rw[yI,MR.len_rows];exact h1.symm) hy hd (yI _) h2;show UOp P _ tm [(k,Own.mrow _ _ (D.pvss M.rows))] _ [(k,Own.mrow _ _ (D.pvss (M.rows++r)))];rw[yJ (M.rows++r),Ad,<-yJ,<-yJ];exact this
     ·trivial
    ·trivial
   ·rename_i k q i z n hx;split
    ·rename_i e' z' M hk;split
     ·rename_i hb;simp only[Ah]at hb;have e1:=Ab hb.1;have e2:=Ab hb.2.1;have e3:=Ab hb.2.2.1;have e4:=Ab hb.2.2.2;subst e1;subst e2;subst e3;subst e4;split
      ·rename_i row;rintro⟨h1,h2,_⟩;refine⟨_,hk,?_⟩;have hx:=HL x _ hx;rw[D.tv]at hx;have:=u_appendMw (P:=P) (dst:=dst) (ty:=ty) (pos:=pos) (aft:=aft) (gd:=gd) (rows:=D.pvss M.rows) (row:=D.pvs row) hA hx (by rw[yI,MR.len_rows];exact h1.symm) hy (fun w s g v hv=>hd w s g v hv) h2;rw[D.tv];show UOp P _ tm [(k,Own.mrow _ _ (D.pvss M.rows))] _ [(k,Own.mrow _ _ (D.pvss (M.rows.set n row)))];rw[yJ (M.rows.set n row),List.map_set,<-yJ];exact this
      ·trivial
     ·trivial
    ·trivial
   ·trivial
  ·trivial
 ·trivial
end
section
variable{P:Program}{E:Pn}{T:List (Nat×TI)}(hT:wC P T=true){fl:Fl}{tm:List (Nat×TV)}{ow:Nat->Option DOwn}{nx:Nat}{look:Operand->Option D}(HL:∀x d,look x=some d->Opd tm x d.tv)
 {dst:Option Tmp} {ty:TypeId} {pos:String} {aft:Array Edge} {gd:Option (Nat×Bool)}
include hT
theorem evAlloc_ok(t:TypeId):(yO0 T nx t).Ok P E ⟨dst,.alloc t,ty,pos,aft,gd⟩ tm ow nx:=by
 have key:∀z:Value,(∀w,(zeroValue t).run P w= .ok z w)->z.oneCell'=true->UOp P ⟨dst,.alloc t,ty,pos,aft,gd⟩ tm [] (.bp nx 0) [(nx,.box t [.pv (PV.lit z)])]:=by
  intro z hz h1;have hc:=wP h1;have:=zO0 (P:=P) (tm:=tm) (dst:=dst) (ty:=ty) (pos:=pos) (aft:=aft) (gd:=gd) nx hz (by rw[hc];simp[h1]);rw[hc]at this;exact this
 unfold yO0;split
 ·rename_i n zs pl hf;intro _;obtain⟨_,_,_,_,h1,z,hz,hc⟩:=bF (yC hT hf);have:=zO0 (P:=P) (tm:=tm) (dst:=dst) (ty:=ty) (pos:=pos) (aft:=aft) (gd:=gd) nx hz (by rw[hc];exact Bt.2 h1);rw[hc,<-gE]at this;exact this
 ·rename_i n c q e zs hf;intro _;obtain⟨_,_,_,_,h1,z,hz,hc⟩:=tZ (yC hT hf);have:=zO0 (P:=P) (tm:=tm) (dst:=dst) (ty:=ty) (pos:=pos) (aft:=aft) (gd:=gd) nx hz (by rw[hc];exact Bt.2 h1);rw[hc,<-gE]at this;exact this
 ·rename_i k hf;intro _;exact key _ (xV (yC hT hf)).2.2 rfl
 ·rename_i hf;intro _;exact key _ (bG (yC hT hf)).2.2 rfl
 ·rename_i hf;intro _;exact key _ (vG (yC hT hf)).2.2 rfl
 ·rename_i e sz hf;intro _;exact key _ (wF (yC hT hf)).2.1 rfl
 ·rename_i z hf;intro _;exact key _ (tY (yC hT hf)).2.1 (tY (yC hT hf)).2.2
 ·trivial
 ·trivial
 ·trivial
omit hT in
theorem mS{w:World}{s:Sb}{g:Gh}{a:Act}(ht:qW w s g tm a):∀{xs:List Operand}{ts:List TV},ts.length=xs.length->(∀(j:Nat)(x:Operand)(t:TV),xs[j]?=some x->ts[j]?=some t->Opd tm x t)->AllT w s g ts (xs.map a.eval)
 |[],[],_,_=>trivial
 |x::xs,t::ts,hl,h=>⟨Opd.eval ht (h 0 x t rfl rfl),mS ht (by simpa using hl) fun j y u hy hu=>h (j+1) y u (by simpa using hy) (by simpa using hu)⟩
 |[],_::_,hl,_=>by simp at hl
 |_::_,[],hl,_=>by simp at hl
omit hT HL in
theorem kM0{c:Operand}{f:FuncId}{xs:List Operand}{ts:Array TypeId}{ds:List D}(hall:Bod P f->∀w s g a,qW w s g tm a->∃vs:List Value,(execOp a.eval ⟨dst,.call {callee:= .value c,args:=xs.toArray,argTypes:=ts},ty,pos,aft,gd⟩).run P w= .ok (.enter f vs.toArray) w/\AllT w s g (D.tvl ds) vs):
  (evG nx ow f ds).Ok P E ⟨dst,.call {callee:= .value c,args:=xs.toArray,argTypes:=ts},ty,pos,aft,gd⟩ tm ow nx:=by
 unfold evG;rw[cV];generalize cC ow 40 (D.keysL false ds) []=ks at*;split
 ·rename_i r' hr;split
  ·rename_i lo hlo;split
   ·rename_i hks;intro out lown' hchk hF;obtain⟨c1,c2,c3,c4⟩:=yS0 hchk;obtain⟨g1,g2⟩:=dQ hlo;refine⟨hks,fun i k d hk hd=>?_,g1,?_⟩
    ·obtain⟨c0,e1,e2⟩:=g2 i k d hk hd;exact⟨c0,e1,(cH (nx:=nx) c1 e2).2.symm⟩
    ·have hkey:∀{l:List DOwn}{n:Nat},l.length<=n->(∀c∈l,idO n c.o=true)->KeyOk n (ows (uE 0 l)):=fun{l n}hl hid=>by
      have hget:∀k,fnd k (ows (uE 0 l))=(l[k]?).map DOwn.o:=fun k=>by rw[qD,vK];simp
      have hmem:∀{i:Nat}{l:List DOwn}{x:Nat×DOwn},x∈uE i l->i<=x.1/\l[x.1-i]?=some x.2:=by
       intro i l;induction l generalizing i with
       |nil=>intro x hx;cases hx
       |cons c l ih=>
        intro x hx;rcases Bc.1 hx with rfl|hx
        ·simp
        ·obtain⟨h1,h2⟩:=ih hx;refine⟨by omega,?_⟩;rw[show x.1-i=(x.1-(i+1))+1 by omega];simpa using h2
      have hm2:∀x∈ows (uE 0 l),∃c,l[x.1]?=some c/\x.2=c.o:=by
       intro x hx;obtain⟨y,hy,rfl⟩:=Bu.1 hx;exact⟨y.2,by simpa using(hmem hy).2,rfl⟩
      refine⟨fun x hx=>?_,fun x hx=>?_,fun k c hk=>?_⟩
      ·obtain⟨c,h1,_⟩:=hm2 x hx;have:=(Ac.1 h1).1;omega
      ·obtain⟨c,h1,h2⟩:=hm2 x hx;rw[h2];exact hid c (Aw h1)
      ·obtain⟨c',h1,h2⟩:=hm2 _ hk;rw[hget,h1];exact congrArg some h2.symm
     have hren:=GFunE.ren hF (n:=lown'.length) (ρ:=qF ks nx) (σ:=sigK ks nx lown'.length) (sigK_rho hks c2) (sigK_inv c1) (D.locL_ok (nx:=nx) c1 hr).1 c3 (hkey om fun c hc=>by
       obtain⟨i,hi⟩:=Cw hc;have hil:i<ks.length:=by rw[<-g1];exact(Ac.1 hi).1
       obtain⟨c0,_,e2⟩:=g2 i _ c (Af hil) hi;exact(cH (nx:=nx) c1 e2).1) (hkey (Ap _) c4) (fun k c hk=>by
       rw[qD,vK]at hk⊢;simp only[Aq,if_true,Nat.sub_zero]at hk⊢;have hkl:k<lo.length:=by
        rcases Bm k lo.length with h|h
        ·exact h
        ·rw[Dc h]at hk;cases hk
       exact⟨_,by rw[Af om];rfl⟩) (fun k hk=>⟨_,by rw[qD,vK];simp only[Aq,if_true,Nat.sub_zero];rw[Af hk];rfl⟩)
     rw[<-bE,<-bE]at hren;rw[<-D.ren_tv]at hren;intro w s g a K Q ht hg hK hE;obtain⟨vs,h1,h2⟩:=hall hren.bod w s g a ht;unfold Oper.wp;rw[h1];have h3:=(D.locL_ok (nx:=nx) c1 hr).2.2 w s g _ h2;rw[D.renL_tv]at h3;refine(hren.run w s g _ hg h3).mono ?_;rintro e w' (⟨s',g',v,rfl,hv,hst⟩|⟨ch,s',rfl,hch,hst⟩)
     ·exact hK w' s' g' v hv hst
     ·exact hE ch w' s' hch hst
   ·trivial
  ·trivial
 ·trivial
omit hT in
theorem evGo_ok{c:Operand}{f:FuncId}{xs:List Operand}{ts:Array TypeId}{caps r:List D}(hc:CalOk tm c f (D.tvl caps))(ha:(D.tvl r).length=xs.length/\∀(j:Nat)(x:Operand)(t:TV),xs[j]?=some x->(D.tvl r)[j]?=some t->Opd tm x t):
  (evGo fl nx ow f (appD r caps)).Ok P E ⟨dst,.call {callee:= .value c,args:=xs.toArray,argTypes:=ts},ty,pos,aft,gd⟩ tm ow nx:=by
 rw[yT0];have htl:D.tvl (r++caps)=D.tvl r++D.tvl caps:=by simp[qH]
 have hall:∀w s g a,qW w s g tm a->∃vs:List Value,a.eval c= .func (.func f) #[] vs.toArray/\AllT w s g (D.tvl (r++caps)) (xs.map a.eval++vs):=fun w s g a ht=>by
  obtain⟨vs,h1,h2⟩:=hc w s g a ht;exact⟨vs,h1,by rw[htl];exact AllT.append (mS ht ha.1 ha.2) h2⟩
 unfold evGo;split
 ·split
  ·rename_i hp;intro out hF;intro w s g a K Q ht hg hK;obtain⟨vs,h1,h2⟩:=hall w s g a ht;unfold Oper.wp;rw[gM hF.bod h1];refine(hF.run w s _ hg.lt hg.gl (AllT.weakS (D.toPVs hp) h2)).mono ?_;rintro e w' ⟨s',v,rfl,hv,hp⟩;exact hK w' s' g v hv (hp.stp g)
  ·split
   ·rename_i es acc ps hl;intro hp;have hacc:=wK hl;refine⟨fun x hx=>(hacc x hx).1,fun out hstr hF=>?_⟩;have hL:=uG hl hp (xN0 fun x hx=>(hacc x hx).1);rw[htl]at hL;exact u_callL hF hstr hc ⟨D.tvl r,ha.1,ha.2,hL.1,hL.2⟩ fun k c hk=>by
     obtain⟨d,hd,rfl⟩:=vW0 hk;exact(hacc _ hd).2
   ·trivial
 ·split
  ·rename_i hp;intro e sz rows hF;have:=u_callOC (dst:=dst) (ty:=ty) (pos:=pos) (aft:=aft) (gd:=gd) (c:=c) (xs:=xs) (ts:=ts) (tm:=tm) nx hF fun w s g a ht=>by
    obtain⟨vs,h1,h2⟩:=hall w s g a ht;exact⟨vs,h1,AllT.weakS (D.toPVs hp) h2⟩
   rw[yI]at this;rw[D.tv];exact this
  ·trivial
 ·exact kM0 fun hb w s g a ht=>by
   obtain⟨vs,h1,h2⟩:=hall w s g a ht;exact⟨_,gM hb h1,h2⟩
omit hT in
theorem xJ{e:TypeId}{v:Value}(h:∀w,(zeroValue e).run P w= .ok v w):∃z i,P.info? e=some i/\i.zero=some z/\z=v:=by
 have h1:=h default;unfold zeroValue at h1
 cases hi:P.info? e with
 |none=>simp[typeInfo,hi]at h1
 |some i=>
  cases hz:i.zero with
  |none=>simp[typeInfo,hi,hz]at h1
  |some z=>
   simp[typeInfo,hi,hz]at h1;exact⟨z,i,rfl,hz,h1⟩
include HL
theorem evBytesM_ok(src dt:TypeId)(x:Operand):(tD T nx src dt (look x)).Ok P E ⟨dst,.convert src dt x,ty,pos,aft,gd⟩ tm ow nx:=by
 unfold tD;split
 ·rename_i e sz p hs hd hx;split
  ·rename_i k he;split
   ·rename_i hk;have hk:=uR hk;subst hk;rintro⟨hp,_⟩;obtain⟨ie,z,hde,_⟩:=(wF (yC hT hd)).2.2.h;have:=u_bytesM (P:=P) (dst:=dst) (ty:=ty) (pos:=pos) (aft:=aft) (gd:=gd) nx (vG (yC hT hs)).2.1 hde (xV (yC hT he)).2.1 hp (HL x _ hx);have e1:D.pvss (p.data.toList.map u8D)=vF p:=by rw[yJ,Bz];rfl
    show UOp P _ tm [] _ [(nx,.mrow e 1 (D.pvss (p.data.toList.map u8D)))];rw[e1];exact this
   ·trivial
  ·trivial
 ·trivial
theorem evMake_ok(t:TypeId)(x y:Operand):(wV0 T nx t (look x) (look y)).Ok P E ⟨dst,.makeSlice t x y,ty,pos,aft,gd⟩ tm ow nx:=by
 unfold wV0;split
 ·rename_i e sz hf;have hA:=(wF (yC hT hf)).2.2;split
  ·rename_i zs hz;split
   ·rename_i k1 l k2 c hx hy;rintro⟨⟨h1,h2,h3⟩,_⟩;have hZ:ZerT P e zs:=by
     unfold gK0 at hz;split at hz
     ·rename_i n zs' pl he
      cases hz;obtain⟨_,_,hB,_,h1,z,hz,hc⟩:=bF (yC hT he);obtain⟨z',i,g1,g2,g3⟩:=xJ hz;exact⟨i,z',g1,g2,by rw[g3];exact hc,h1⟩
     ·rename_i n c q e' zs' he
      cases hz;obtain⟨_,_,_,_,h1,z,hz,hc⟩:=tZ (yC hT he);obtain⟨z',i,g1,g2,g3⟩:=xJ hz;exact⟨i,z',g1,g2,by rw[g3];exact hc,h1⟩
     ·rename_i k he
      cases hz;obtain⟨z,i,h1,h2,h3⟩:=xJ (xV (yC hT he)).2.2;exact⟨i,z,h1,h2,by rw[h3];rfl,by simp[Value.oneCell']⟩
     ·rename_i he
      cases hz;obtain⟨z,i,h1,h2,h3⟩:=xJ (bG (yC hT he)).2.2;exact⟨i,z,h1,h2,by rw[h3];rfl,by simp[Value.oneCell']⟩
     ·rename_i he
      cases hz;obtain⟨z,i,h1,h2,h3⟩:=xJ (vG (yC hT he)).2.2;exact⟨i,z,h1,h2,by rw[h3];rfl,by simp[Value.oneCell']⟩
     ·rename_i e2 sz2 he
      cases hz;obtain⟨z,i,h1,h2,h3⟩:=xJ (wF (yC hT he)).2.1;exact⟨i,z,h1,h2,by rw[h3];rfl,by simp[Value.oneCell']⟩
     ·rename_i z0 he
      cases hz;obtain⟨z,i,h1,h2,h3⟩:=xJ (tY (yC hT he)).2.1;have h4:=(tY (yC hT he)).2.2;exact⟨i,z,h1,h2,by rw[h3,wP h4],by simpa using h4⟩
     ·cases hz
    have:=u_makeSlice (P:=P) (tm:=tm) (dst:=dst) (ty:=ty) (pos:=pos) (aft:=aft) (gd:=gd) nx hA hZ (HL x _ hx) (HL y _ hy) h1 h2 h3;show UOp P _ tm [] (.mo nx l.toNat) [(nx,Own.mrow e sz (D.pvss ((List.replicate l.toNat ()).map fun _=>litS zs)))];have e1:=bP zs;rw[yJ,Bz,List.map_replicate];show UOp P _ tm [] _ [(nx,Own.mrow e sz (List.replicate l.toNat (D.pvs (litS zs))))];rw[e1];exact this
   ·trivial
  ·trivial
 ·trivial
theorem evCopy_ok(t t2:TypeId)(x y:Operand):(wY0 T ow t (look x) (look y)).Ok P E ⟨dst,.call {callee:= .builtin .copy,args:= #[x,y],argTypes:= #[t,t2]},ty,pos,aft,gd⟩ tm ow nx:=by
 unfold wY0;split
 ·rename_i e sz hf;have hA:=(wF (yC hT hf)).2.2;split
  ·rename_i hs1;have hs1:=Ab hs1;subst hs1;split
   ·rename_i r hr;obtain⟨mo,d,hy,hd⟩:=zQ0 HL hr;split
    ·rename_i k q hx;split
     ·rename_i e' z' M hk;split
      ·rename_i hb;simp only[Ah]at hb;have e1:=Ab hb.1;have e2:=Ab hb.2;subst e1;subst e2;rintro⟨h1,h2,_⟩;refine⟨_,hk,?_⟩;obtain⟨ie,z,g1,g2,g3,g4,_⟩:=hA.h;have:=u_copyMo (P:=P) (dst:=dst) (ty:=ty) (pos:=pos) (aft:=aft) (gd:=gd) (t:=t) (t2:=t2) (rows:=D.pvss M.rows) (n:=q) (rows2:=D.pvss r) g1 (by rw[g2,<-g4];rfl) (HL x _ hx) (by rw[yI,MR.len_rows];exact h1.symm) hy hd (by rw[yI];exact h2);rw[yI]at this;show UOp P _ tm [(k,Own.mrow _ _ (D.pvss M.rows))] _ [(k,Own.mrow _ _ (D.pvss (r++M.rows.drop r.length)))];rw[yJ (r++_),Ad,Cv,<-yJ,<-yJ];exact this
      ·trivial
     ·trivial
    ·trivial
   ·trivial
  ·trivial
 ·trivial
theorem evCall_ok(c:Call):(wZ0 T fl nx look ow c.callee c.args.toList c.argTypes.toList).Ok P E ⟨dst,.call c,ty,pos,aft,gd⟩ tm ow nx:=by
 obtain⟨callee,args,ts⟩:=c;obtain⟨args,rfl⟩:∃l:List Operand,args=l.toArray:=⟨args.toList,by simp⟩;obtain⟨ts,rfl⟩:∃l:List TypeId,ts=l.toArray:=⟨ts.toList,by simp⟩;simp only[wZ0];split
 ·rename_i x;split
  ·rename_i f caps hcal;split
   ·rename_i r hr;exact evGo_ok (evCal_ok HL hcal) (wO HL hr)
   ·trivial
  ·split
   ·rename_i f first hcal;split
    ·rename_i r hr;have ha:=wO HL hr;exact kM0 fun hb w s g a ht=>by
      obtain⟨us,h1,h2⟩:=evCalB_ok HL hcal w s g a ht;refine⟨_,call_execB hb h1,?_⟩;rw[yT0,show D.tvl (first++r)=D.tvl first++D.tvl r by simp[qH]];exact AllT.append h2 (mS ht ha.1 ha.2)
    ·trivial
   ·trivial
 ·split
  ·exact evLen_ok hT HL _ _
  ·trivial
 ·split
  ·rename_i x y t t' _ _;split
   ·rename_i hb;have hb:=Ab hb;subst hb;exact evAppend_ok hT HL _ _ _
   ·exact evAppendStr_ok hT HL _ _ _ _
  ·trivial
 ·split
  ·exact evCopy_ok hT HL _ _ _ _
  ·trivial
 ·split
  ·exact evMin_ok HL _ _
  ·trivial
 ·split
  ·exact evMax_ok HL _ _
  ·exact evMax3_ok HL _ _ _
  ·trivial
 ·trivial
omit hT HL in
theorem wE0{w:World}{s:Sb}{g:Gh}:∀{l:List D}{r vs:List Value},litL l=some r->AllT w s g (D.tvl l) vs->vs=r
 |[],r,vs,h,hv=>by
  cases h;rw[D.tvl]at hv
  cases vs with
  |nil=>rfl
  |cons _ _=>exact hv.elim
 |d::l,r,vs,h,hv=>by
  cases d with
  |v x=>
   unfold litL at h
   cases hl:litL l with
   |none=>rw[hl]at h;cases h
   |some q=>
    rw[hl]at h
    cases h;rw[D.tvl]at hv
    cases vs with
    |nil=>exact hv.elim
    |cons u vs=>
     rw[AllT]at hv;have h1:u=x:=hv.1;rw[h1,wE0 hl hv.2]
  |_=>cases h
omit hT HL in
theorem lit_ok{w:World}{s:Sb}{g:Gh}{d:D}{x v:Value}(h:d.lit=some x)(hv:d.tv.P w s g v):v=x:=by
 cases d with
 |v y=>cases h;exact hv
 |agg l=>
  unfold D.lit at h
  cases hl:litL l with
  |none=>simp only[hl]at h;cases h
  |some q=>
   simp only[hl]at h
   cases h;rw[D.tv,TV.P]at hv;obtain⟨vs,h1,h2⟩:=hv;rw[h1,wE0 hl h2]
 |_=>cases h
theorem evIface_ok(t:TypeId)(x:Operand):(yL0 T t (look x)).Ok P E ⟨dst,.makeInterface t x,ty,pos,aft,gd⟩ tm ow nx:=by
 unfold yL0;split
 ·rename_i n zs pl d ht hx;split
  ·rename_i v hv;intro _;have hr:=(bF (yC hT ht)).2.1;obtain⟨dd,hu,hd⟩:=hr.und;refine UOp.pure fun w s g a hta=>⟨_,?_,rfl⟩;have he:a.eval x=v:=lit_ok hv (Opd.eval hta (HL _ _ hx));refine yG (s:=Instr.makeInterface t (a.eval x)) ?_;rw[he];unfold Instr.makeInterface;rw[Sem.run_bind,run_underlying hu w]
   cases dd<;>first|rfl|(cases hd;done)
  ·trivial
 ·trivial
theorem evAssert_ok(x:Operand)(xt t:TypeId):(tE T t (look x)).Ok P E ⟨dst,.typeAssert x xt t true,ty,pos,aft,gd⟩ tm ow nx:=by
 unfold tE;split
 ·rename_i n zs pl u a ht hx;split
  ·rename_i hb;have hb:=Ab hb;subst hb;intro _;obtain⟨dd,hu,hd⟩:=(bF (yC hT ht)).2.1.und;refine UOp.pure fun w s g act hta=>⟨.tuple #[.agg a,.bool true],?_,?_⟩
   ·have he:act.eval x= .iface u (.agg a):=Opd.lit hta (HL _ _ hx);refine yG (s:=Instr.typeAssert (act.eval x) xt u true) ?_;rw[he];unfold Instr.typeAssert;simp only[Sem.run_bind,run_underlying hu w,Result.andThen_ok]
    cases dd<;>first|(simp;done)|(cases hd;done)
   ·rw[D.tv,TV.P];refine⟨[.agg a,.bool true],rfl,⟨a.toList,by simp,?_⟩,rfl,trivial⟩;have:∀l:List Value,AllV w s (D.pvs (litS l)) l:=by
     intro l;induction l with
     |nil=>rw[litS,D.pvs];trivial
     |cons v l ih=>rw[litS,D.pvs];exact⟨rfl,ih⟩
    exact this a.toList
  ·trivial
 ·trivial
omit hT in
theorem evPanic_ok(x:Operand):(yI0 (look x)).Ok P E ⟨dst,.panic x,ty,pos,aft,gd⟩ tm ow nx:=by
 unfold yI0;split
 ·rename_i t v hx;intro hE w s g a K Q ht hg _ hQ;have he:a.eval x= .iface t v:=Opd.lit ht (HL _ _ hx);unfold Oper.wp;have hr:(execOp a.eval ⟨dst,.panic x,ty,pos,aft,gd⟩).run P w= .halt (.panic (.iface t v)) w:=by
   show(do pure (Next.value (<-Instr.panic (a.eval x))):Sem Next).run P w=_;rw[he,Sem.run_bind,run_panic_iface];rfl
  rw[hr];exact hQ _ w s hE (Pst.refl hg.lt)
 ·trivial
theorem evCore_ok(op:Op):(mC T fl nx look ow op).Ok P E ⟨dst,op,ty,pos,aft,gd⟩ tm ow nx:=by
 unfold mC;split
 ·exact(cZ HL _).1
 ·exact(cZ HL _).2
 ·exact evBox_ok HL _ _
 ·exact evAlloc_ok hT _
 ·rename_i t parts;have:=evBuild_ok (E:=E) (dst:=dst) (ty:=ty) (pos:=pos) (aft:=aft) (gd:=gd) (ow:=ow) (nx:=nx) hT HL t parts.toList;simpa using this
 ·rename_i t len parts;have:=evBuildSlice_ok (E:=E) (fl:=fl) (dst:=dst) (ty:=ty) (pos:=pos) (aft:=aft) (gd:=gd) (ow:=ow) (nx:=nx) hT HL t len parts.toList;simpa using this
 ·exact evLoad_ok hT HL _ _
 ·exact evStore_ok hT HL _ _ _
 ·exact evFieldAddr_ok hT HL _ _ _
 ·split
  ·exact evIndexX_ok hT HL _ _ _
  ·exact evIndexAddr_ok hT HL _ _ _
 ·exact evIndex_ok hT HL _ _ _
 ·split
  ·unfold kO0;split
   ·rename_i k n k' m hx hy;have hx:=HL _ _ hx;have hy:=HL _ _ hy;split
    ·rename_i hk;have hk:=uR hk;subst hk;split
     ·intro _;exact gN0 hx hy
     ·intro _;exact gL0 hx hy
     ·intro _;exact gM0 hx hy
     ·trivial
    ·trivial
   ·trivial
  ·exact evBin_ok hT HL _ _ _ _ _
 ·exact evUn_ok HL _ _ _
 ·split
  ·exact evToStr_ok hT HL _ _ _
  ·split
   ·exact evBytesM_ok hT HL _ _ _
   ·exact evConvert_ok hT HL _ _ _
 ·exact evExtract_ok HL _ _
 ·exact evSlice_ok hT HL _ _ _ _
 ·exact evField_ok hT HL _ _ _
 ·exact evCall_ok hT HL _
 ·exact evMake_ok hT HL _ _ _
 ·rename_i f first xs;unfold kN0;split
  ·rename_i f' hf;split
   ·rename_i r hr hlt;intro _;obtain⟨h1,h2⟩:=wO HL hr;have hfirst:first= #[]:=by
     apply Bx.1;rw[hf]
    subst hfirst;have:=u_makeFunc (P:=P) (tm:=tm) (dst:=dst) (ty:=ty) (pos:=pos) (aft:=aft) (gd:=gd) (f:=f') (xs:=xs.toList) (l:=D.tvl r) (An hlt) fun w s g a ht=>mS ht h1 h2;rw[D.tv];simpa using this
   ·trivial
  ·rename_i f' x l hf;split
   ·rename_i hxs;split
    ·rename_i r hr;intro _;obtain⟨h1,h2⟩:=wO HL hr;have hx:xs= #[]:=by
      apply Bx.1;rw[hxs]
     subst hx;have hfirst:first=(x::l).toArray:=by
      apply Bx.1;rw[hf]
     subst hfirst;have:=u_makeFuncB (P:=P) (tm:=tm) (dst:=dst) (ty:=ty) (pos:=pos) (aft:=aft) (gd:=gd) (f:=f') (xs:=x::l) (l:=D.tvl r) fun w s g a ht=>mS ht h1 h2;rw[D.tv];exact this
    ·trivial
   ·trivial
  ·trivial
 ·exact evNil_ok HL _
 ·exact evMkMap_ok _
 ·exact evLookup_ok hT HL _ _ _ _
 ·exact pP hT HL _ _ _ _ (.inl rfl)
 ·exact pP hT HL _ _ _ _ (.inr rfl)
 ·unfold wQ0;split
  ·rename_i b hs hx;intro _;exact u_rangeStr nx (vG (yC hT hs)).2.1 (HL _ _ hx)
  ·trivial
 ·unfold wS0;split
  ·rename_i k hx;split
   ·rename_i hk;intro _;exact⟨_,hk,u_nextNil (HL _ _ hx)⟩
   ·rename_i q c l hk;intro _;exact⟨_,hk,u_nextCons (HL _ _ hx)⟩
   ·trivial
  ·trivial
 ·exact evIface_ok hT HL _ _
 ·exact evPanic_ok HL _
 ·exact evAssert_ok hT HL _ _ _
 ·trivial
end
end Go.Proofs.YtmakjjodkiedmaaGreatDoor
