/-Part 10 of the proof. -/
import Derived.Test.YtammfbdgjnkolaaGreatDoorM9
namespace Go.Proofs.YtammfbdgjnkolaaGreatDoor
open Go.RowKit
def jK1(d:D):Option (List D):=match d with
 | .agg l=>some l
 |d=>match d.one with
  |true=>some [d]
  |false=>none
theorem pJ0{tm:List (Nat×TV)}{x:Operand}{d:D}{l:List D}(hx:Opd tm x d.tv)(h:jK1 d=some l):PartOk tm x (D.tvl l):=by
 unfold jK1 at h;split at h
 ·cases h;rw[D.tv]at hx;exact .inl hx
 ·split at h
  ·rename_i h1
   cases h;exact .inr ⟨_,hx,D.tv_one h1,rfl⟩
  ·cases h
def xI0(look:Operand->Option D)(pl:List (Nat×Nat)):List (Nat×Operand)->List D->Option (List D)
 |[],cells=>some cells
 |(i,x)::r,cells=>match look x with
  |some d=>match jK1 d with
   |some ds=>match gS0 i pl with
    |some (off,size)=>match Nat.beq ds.length size with
     |true=>match layS off ds cells with
      |some cells'=>xI0 look pl r cells'
      |none=>none
     |false=>none
    |none=>none
   |none=>none
  |none=>none
def litS:List Value->List D
 |[]=>[]
 |z::l=> .v z::litS l
theorem pN:∀l:List Value,D.tvl (litS l)=l.map fun v=> .pv (PV.lit v)
 |[]=>rfl
 |z::l=>by rw[litS,D.tvl,pN l];rfl
theorem zT0{tm:List (Nat×TV)}{look:Operand->Option D}(HL:∀x d,look x=some d->Opd tm x d.tv){pl:List (Nat×Nat)}:∀{parts:List (Nat×Operand)}{cells out:List D},xI0 look pl parts cells=some out->∃ps,PartsOk tm parts ps/\bZ0 pl (D.tvl cells) ps=some (D.tvl out)
 |[],cells,out,h=>by cases h;exact⟨[],trivial,rfl⟩
 |(i,x)::r,cells,out,h=>by
  unfold xI0 at h;split at h
  ·rename_i d hd;split at h
   ·rename_i ds hds;split at h
    ·rename_i off size hp;split at h
     ·rename_i hb;split at h
      ·rename_i cells' hl;obtain⟨ps,h1,h2⟩:=zT0 HL h;obtain⟨h3,h4⟩:=xJ hl;rw[jQ0]at hp;have hsz:=Ah hb;refine⟨(i,D.tvl ds)::ps,⟨rfl,pJ0 (HL x d hd) hds,h1⟩,?_⟩;unfold bZ0;rw[hp];have hb2:(Nat.beq (D.tvl ds).length size&&Nat.ble (off+size) (D.tvl cells).length)=true:=by
        rw[jI,jI,hb,Dm];exact Ek om
       simp only[hb2];rw[<-h2];congr 1;subst h4;rw[hsz];simp[jA,Eg,Eh]
      ·cases h
     ·cases h
    ·cases h
   ·cases h
  ·cases h
theorem jX0:∀zs:List Value,D.pvs (litS zs)=zs.map PV.lit
 |[]=>rfl
 |z::zs=>by rw[litS,D.pvs,jX0 zs];rfl
def kR0(T:List (Nat×TI))(look:Operand->Option D)(t:TypeId)(parts:List (Nat×Operand)):R1:=
 match fnd t T with
 |some (.st _ zs pl)=>match xI0 look pl parts (litS zs)with
  |some out=> .u [] (.agg out)
  |none=> .bad
 |some (.ar _ c q _ zs)=>match xI0 look (arPl c q) parts (litS zs)with
  |some out=> .u [] (.agg out)
  |none=> .bad
 |_=> .bad
def dM0(look:Operand->Option D)(sz:Nat):Nat->List (Nat×Operand)->Option (List (List D))
 |_,[]=>some []
 |i,(j,x)::r=>match look x with
  |some d=>match jK1 d with
   |some l=>match Nat.beq j i&&(Nat.beq l.length sz&&(wO l&&(D.pures l&&D.strL l)))with
    |true=>match dM0 look sz (i+1) r with
     |some rs=>some (l::rs)
     |none=>none
    |false=>none
   |none=>none
  |none=>none
theorem zR0{tm:List (Nat×TV)}{look:Operand->Option D}(HL:∀x d,look x=some d->Opd tm x d.tv){sz:Nat}:∀{parts:List (Nat×Operand)}{i:Nat}{rows:List (List D)},dM0 look sz i parts=some rows->tF tm sz i parts (D.pvss rows)
 |[],i,rows,h=>by cases h;trivial
 |(j,x)::r,i,rows,h=>by
  unfold dM0 at h;split at h
  ·rename_i d hd;split at h
   ·rename_i l hl;split at h
    ·rename_i hb;split at h
     ·rename_i rs hr
      cases h;simp only[Aj]at hb;obtain⟨h1,h2,h3,h4,h5⟩:=hb;rw[D.pvss];refine⟨Ah h1,⟨_,pJ0 (HL x d hd) hl,D.toPVs h4⟩,by rw[uB];exact Ah h2,fun p hp=>?_,D.strL_pv l h5,zR0 HL hr⟩;rw[xC]at hp;obtain⟨e,he,rfl⟩:=Dc.1 hp;refine D.pv_one (bN h3 e he) ?_;have aux:∀{l:List D},D.pures l=true->∀e∈l,e.pure=true:=by
       intro l;induction l with
       |nil=>intro _ e he;cases he
       |cons a l ih=>
        intro hp e he;obtain⟨p1,p2⟩:=qC0 hp;rcases Bi.1 he with rfl|he
        ·exact p1
        ·exact ih p2 e he
      exact aux h4 e he
     ·cases h
    ·cases h
   ·cases h
  ·cases h
def kJ(T:List (Nat×TI))(fl:Fl)(nx:Nat)(look:Operand->Option D)(t:TypeId)(len:Nat)(parts:List (Nat×Operand)):R1:=
 match fnd t T with
 |some (.sl e sz)=>match dM0 look sz 0 parts with
  |some []=>match Nat.beq len 0 with
   |true=>match fl with
    | .o=> .n (.row e sz 0) [] (.own nx sz [])
    | .g=> .n (.mrow e sz (.lst [])) [] (.mo nx 0)
    |_=> .u [] (.slr false sz [])
   |false=> .bad
  |some (r::rows)=>match Nat.beq len (r::rows).length&&Nat.ble (len*sz) 16777216 with
   |true=>match fl with
    | .o=> .n (.row e sz len) [] (.own nx sz (r::rows))
    |_=> .u [] (.slr false sz (r::rows))
   |false=> .bad
  |none=> .bad
 |_=> .bad
def kS0(T:List (Nat×TI))(nx:Nat)(t:TypeId):R1:=
 match fnd t T with
 |some (.st _ zs _)=> .n (.box t (litS zs)) [] (.bp nx 0)
 |some (.ar _ _ _ _ zs)=> .n (.box t (litS zs)) [] (.bp nx 0)
 |some (.int k)=> .n (.box t [.v (.int k 0)]) [] (.bp nx 0)
 |some .bool=> .n (.box t [.v (.bool false)]) [] (.bp nx 0)
 |some .str=> .n (.box t [.v (.string ByteArray.empty)]) [] (.bp nx 0)
 |some (.sl _ _)=> .n (.box t [.v (.slice none 0 0)]) [] (.bp nx 0)
 |some (.one z)=> .n (.box t [.v z]) [] (.bp nx 0)
 |some (.mp _ _)=> .bad
 |some (.fl _)=> .bad
 |none=> .bad
def srcR(sz:Nat)(d:Option D):Option (List (List D)):=match d with
 |some (.sl _ z l f _)=>match Nat.beq z sz with
  |true=>some (l.map f)
  |false=>none
 |some (.slr _ z rows)=>match Nat.beq z sz with
  |true=>some rows
  |false=>none
 |some (.own _ z rows)=>match Nat.beq z sz with
  |true=>some rows
  |false=>none
 |some (.v (.slice none 0 0))=>some []
 |_=>none
theorem gH0{tm:List (Nat×TV)}{look:Operand->Option D}(HL:∀x d,look x=some d->Opd tm x d.tv){y:Operand}{sz:Nat}{r:List (List D)}(h:srcR sz (look y)=some r):∃mo d,Opd tm y d/\∀w s g v,d.P w s g v->(PV.sl mo sz (D.pvss r)).p w s v:=by
 unfold srcR at h;split at h
 ·rename_i α m z l f e hd;split at h
  ·rename_i hz
   cases h;have hz:=Ah hz;subst hz;refine⟨m,_,HL y _ hd,fun w s g v hv=>?_⟩;have e1:D.pvss (l.map f)=l.map fun a=>D.pvs (f a):=by rw[yS,Cw];rfl
   rw[e1];exact hv
  ·cases h
 ·rename_i m z rows hd;split at h
  ·rename_i hz
   cases h;have hz:=Ah hz;subst hz;exact⟨_,_,HL y _ hd,fun w s g v hv=>hv⟩
  ·cases h
 ·rename_i k z rows hd;split at h
  ·rename_i hz
   cases h;have hz:=Ah hz;subst hz;refine⟨false,_,HL y _ hd,fun w s g v hv=>?_⟩;rw[D.tv,TV.P]at hv;exact hv.1
  ·cases h
 ·rename_i hd
  cases h;refine⟨false,_,HL y _ hd,fun w s g v hv=>?_⟩;have hv':v= .slice none 0 0:=hv;subst hv';exact PV.sl_nil
 ·cases h
def uP0(T:List (Nat×TI))(fl:Fl)(nx:Nat)(ow:Nat->Option DOwn)(t:TypeId)(x y:Option D):R1:=
 match fnd t T with
 |some (.sl e sz)=>match srcR sz y with
  |some r=>match x with
   |some (.own k z rows)=>match ow k with
    |some (.row e' z' n)=>match Nat.beq e e'&&(Nat.beq z sz&&Nat.beq z' sz)with
     |true=> .w k (.row e sz (rows++r).length) [rows.length=n,rows.length+r.length<=1073741824] (.own k sz (rows++r))
     |false=> .bad
    |_=> .bad
   |some (.v (.slice none 0 0))=>match fl with
    | .g=> .n (.mrow e sz (.lst r)) [r.length<=1073741824] (.mo nx r.length)
    |_=> .n (.row e sz r.length) [r.length<=1073741824] (.own nx sz r)
   |some (.mo k q)=>match ow k with
    |some (.mrow e' z' M)=>match Nat.beq e e'&&Nat.beq z' sz with
     |true=> .w k (.mrow e sz (.app M r)) [q=M.len,q+r.length<=1073741824] (.mo k (q+r.length))
     |false=> .bad
    |_=> .bad
   |some (.mw k q i z n)=>match ow k with
    |some (.mrow e' z' M)=>match Nat.beq e e'&&(Nat.beq z sz&&(Nat.beq z' sz&&Nat.beq i 0))with
     |true=>match r with
      |[row]=> .w k (.mrow e sz (.upd M n row)) [q=M.len,n<q] (.mw k q 0 sz (n+1))
      |_=> .bad
     |false=> .bad
    |_=> .bad
   |_=> .bad
  |none=> .bad
 |_=> .bad
def mX(T:List (Nat×TI))(ow:Nat->Option DOwn)(t t':TypeId)(x y:Option D):R1:=
 match fnd t T,fnd t' T with
 |some (.sl e sz),some .str=>match Nat.beq sz 1 with
  |true=>match y with
   |some (.v (.string p))=>match x with
    |some (.mo k q)=>match ow k with
     |some (.mrow e' z' M)=>match Nat.beq e e'&&Nat.beq z' sz with
      |true=> .w k (.mrow e sz (.app M (p.data.toList.map u8D))) [q=M.len,q+p.size<=1073741824] (.mo k (q+p.size))
      |false=> .bad
     |_=> .bad
    |_=> .bad
   |_=> .bad
  |false=> .bad
 |_,_=> .bad
def byteR:List D->UInt8
 |[.v (.int .u8 n)]=>UInt8.ofNat n.toNat
 |_=>0
def cM0(r:List (List D)):List UInt8:=r.map byteR
theorem kC(l:List UInt8):cM0 (l.map u8D)=l:=by
 unfold cM0;rw[Cw]
 conv=>rhs;rw[<-List.map_id l]
 exact List.map_congr_left fun b _=>by show UInt8.ofNat ((b.toNat:Int).toNat)=b;simp
def kH0(T:List (Nat×TI))(src dt:TypeId)(x:Option D):R1:=
 match fnd src T,fnd dt T with
 |some (.sl e sz),some .str=>match fnd e T with
  |some (.int k)=>match kEq k .u8 with
   |true=>match srcR 1 x with
    |some r=> .u [r=(cM0 r).map u8D] (.v (.string ⟨(cM0 r).toArray⟩))
    |none=> .bad
   |false=> .bad
  |_=> .bad
 |some (.int _),some .str=>match x with
  |some (.v (.int _ n))=> .u [] (.v (.string (Utf8.encode n)))
  |_=> .bad
 |_,_=> .bad
def jW1(T:List (Nat×TI))(e:TypeId):Option (List Value):=match fnd e T with
 |some (.st _ zs _)=>some zs
 |some (.ar _ _ _ _ zs)=>some zs
 |some (.int k)=>some [.int k 0]
 |some .bool=>some [.bool false]
 |some .str=>some [.string ByteArray.empty]
 |some (.sl _ _)=>some [.slice none 0 0]
 |some (.one z)=>some [z]
 |_=>none
def yI1(T:List (Nat×TI))(nx:Nat)(t:TypeId)(x y:Option D):R1:=match fnd t T with
 |some (.sl e sz)=>match jW1 T e with
  |some zs=>match x,y with
   |some (.v (.int _ l)),some (.v (.int _ c))=> .n (.mrow e sz (.map (List.replicate l.toNat ()) (fun _=>litS zs) ())) [0<=l/\l<=c/\c<=1073741824] (.mo nx l.toNat)
   |_,_=> .bad
  |none=> .bad
 |_=> .bad
def uN0(T:List (Nat×TI))(nx:Nat)(src dt:TypeId)(x:Option D):R1:=match fnd src T,fnd dt T,x with
 |some .str,some (.sl e sz),some (.v (.string p))=>match fnd e T with
  |some (.int k)=>match kEq k .u8 with
   |true=> .n (.mrow e 1 (.map p.data.toList u8D 0)) [p.size<=1073741824] (.mo nx p.size)
   |false=> .bad
  |_=> .bad
 |_,_,_=> .bad
def yL1(T:List (Nat×TI))(ow:Nat->Option DOwn)(t:TypeId)(x y:Option D):R1:=match fnd t T with
 |some (.sl e sz)=>match Nat.beq sz 1 with
  |true=>match srcR 1 y with
   |some r=>match x with
    |some (.mo k q)=>match ow k with
     |some (.mrow e' z' M)=>match Nat.beq e e'&&Nat.beq z' 1 with
      |true=> .w k (.mrow e 1 (.cpy M r)) [q=M.len,r.length<=q] (.v (.int .i64 r.length))
      |false=> .bad
     |_=> .bad
    |_=> .bad
   |none=> .bad
  |false=> .bad
 |_=> .bad
def xC1(x y:Option D):R1:=match x,y with
 |some (.v (.int k n)),some (.v (.int k' m))=>match kEq k k' with
  |true=> .u [] (.v (.int k (if m<n then m else n)))
  |false=> .bad
 |_,_=> .bad
def xD1(x y:Option D):R1:=match x,y with
 |some (.v (.int k n)),some (.v (.int k' m))=>match kEq k k' with
  |true=> .u [] (.v (.int k (if n<m then m else n)))
  |false=> .bad
 |_,_=> .bad
def yH1(x y q:Option D):R1:=match x,y,q with
 |some (.v (.int k n)),some (.v (.int k' m)),some (.v (.int k2 r))=>match kEq k k'&&kEq k k2 with
  |true=> .u [] (.v (.int k (if(if n<m then m else n)<r then r else(if n<m then m else n))))
  |false=> .bad
 |_,_,_=> .bad
def zW0(look:Operand->Option D):List Operand->Option (List D)
 |[]=>some []
 |x::l=>match look x with
  |some d=>match zW0 look l with
   |some r=>some (d::r)
   |none=>none
  |none=>none
theorem kK{tm:List (Nat×TV)}{look:Operand->Option D}(HL:∀x d,look x=some d->Opd tm x d.tv):∀{l:List Operand}{r:List D},zW0 look l=some r->(D.tvl r).length=l.length/\∀(j:Nat)(x:Operand)(t:TV),l[j]?=some x->(D.tvl r)[j]?=some t->Opd tm x t
 |[],r,h=>by cases h;exact⟨rfl,fun j x t hx=>by simp at hx⟩
 |x::l,r,h=>by
  unfold zW0 at h;split at h
  ·rename_i d hd;split at h
   ·rename_i q hq
    cases h;obtain⟨h1,h2⟩:=kK HL hq;rw[D.tvl];refine⟨by simp[h1],fun j y t hy ht=>?_⟩
    cases j with
    |zero=>simp at hy ht;subst hy;subst ht;exact HL x d hd
    |succ j=>exact h2 j y t (by simpa using hy) (by simpa using ht)
   ·cases h
  ·cases h
def xF1(look:Operand->Option D):Operand->Option (FuncId×List D)
 | .func f=>some (f,[])
 |x=>match look x with
  |some (.clo f l)=>match Nat.blt f 1000000 with
   |true=>some (f,l)
   |false=>none
  |_=>none
def yN1(look:Operand->Option D)(x:Operand):Option (FuncId×List D):=match look x with
 |some (.clo f l)=>match Nat.blt f 1000000 with
  |true=>none
  |false=>some (f-1000000,l)
 |_=>none
theorem evCalB_ok{tm:List (Nat×TV)}{look:Operand->Option D}(HL:∀x d,look x=some d->Opd tm x d.tv){x:Operand}{f:FuncId}{first:List D}(h:yN1 look x=some (f,first)):CalB tm x f (D.tvl first):=by
 unfold yN1 at h;split at h
 ·rename_i f' l hl;split at h
  ·cases h
  ·rename_i hb;simp only[Option.some.injEq,Prod.mk.injEq]at h;obtain⟨rfl,rfl⟩:=h;have:=HL _ _ hl;rw[D.tv]at this;exact CalB.clo (fun hlt=>by rw[show Nat.blt f' 1000000=true from Ek hlt]at hb;cases hb) this
 ·cases h
theorem evCal_ok{tm:List (Nat×TV)}{look:Operand->Option D}(HL:∀x d,look x=some d->Opd tm x d.tv){x:Operand}{f:FuncId}{caps:List D}(h:xF1 look x=some (f,caps)):CalOk tm x f (D.tvl caps):=by
 unfold xF1 at h;split at h
 ·cases h;exact CalOk.func tm f
 ·split at h
  ·rename_i f' l hl;split at h
   ·rename_i hb
    cases h;have:=HL _ _ hl;rw[D.tv]at this;exact CalOk.clo (Ax hb) this
   ·cases h
  ·cases h
noncomputable def vH1 {β:Type 1} (l:List Nat) (k:List Nat->β):β:=List.rec (motive:=fun _=>(List Nat->β)->β) (fun k=>k []) (fun x _ ih k=>ih fun l'=>k (x::l')) l k
theorem xC0{β:Type 1}:∀(l:List Nat)(k:List Nat->β),vH1 l k=k l
 |[],_=>rfl
 |x::l,k=>xC0 l fun l'=>k (x::l')
noncomputable def evG (nx:Nat) (ow:Nat->Option DOwn) (f:FuncId) (ds:List D):R1:=vH1 (vX0 ow 40 (D.keysL false ds) []) fun ks=>match D.locL ks true ds with
 |some r=>match zJ0 ow ks ks with
  |some lo=>match ksOk nx ks with
   |true=> .g f r ks lo
   |false=> .bad
  |none=> .bad
 |none=> .bad
noncomputable def evGo (fl:Fl) (nx:Nat) (ow:Nat->Option DOwn) (f:FuncId) (ds:List D):R1:=match fl with
 | .n=>match D.pures ds with
  |true=> .c f ds
  |false=>match kI ow 60 ds with
   |some (es,acc,ps)=> .cl f es acc ps
   |none=> .bad
 | .o=>match D.pures ds with
  |true=> .co f ds
  |false=> .bad
 | .g=>evG nx ow f ds
def appD:List D->List D->List D
 |[],r=>r
 |d::l,r=>d::appD l r
theorem kZ0:∀l r:List D,appD l r=l++r
 |[],_=>rfl
 |d::l,r=>by rw[appD,kZ0 l r];rfl
noncomputable def yM1 (T:List (Nat×TI)) (fl:Fl) (nx:Nat) (look:Operand->Option D) (ow:Nat->Option DOwn) (c:Callee) (args:List Operand) (ts:List TypeId):R1:=
 match c with
 | .value x=>match xF1 look x with
  |some (f,caps)=>match zW0 look args with
   |some r=>evGo fl nx ow f (appD r caps)
   |none=> .bad
  |none=>match yN1 look x with
   |some (f,first)=>match zW0 look args with
    |some r=>evG nx ow f (appD first r)
    |none=> .bad
   |none=> .bad
 | .builtin .len=>match args,ts with
  |[x],[t]=>xE1 T t (look x)
  |_,_=> .bad
 | .builtin .append=>match args,ts with
  |[x,y],[t,t']=>match Nat.beq t t' with
   |true=>uP0 T fl nx ow t (look x) (look y)
   |false=>mX T ow t t' (look x) (look y)
  |_,_=> .bad
 | .builtin .copy=>match args,ts with
  |[x,y],[t,_]=>yL1 T ow t (look x) (look y)
  |_,_=> .bad
 | .builtin .min=>match args with
  |[x,y]=>xC1 (look x) (look y)
  |_=> .bad
 | .builtin .max=>match args with
  |[x,y]=>xD1 (look x) (look y)
  |[x,y,q]=>yH1 (look x) (look y) (look q)
  |_=> .bad
 |_=> .bad
def xH0(x:Option D):R1:=match x with
 |some d=> .u [] d
 |none=> .bad
def vK1(op:BinOp)(x y:Option D):R1:=match x,y with
 |some (.v (.int k n)),some (.v (.int k' m))=>match kEq k k' with
  |true=>match op with
   | .add=> .u [] (.v (.int k (k.wrap (n+m))))
   | .sub=> .u [] (.v (.int k (k.wrap (n-m))))
   | .mul=> .u [] (.v (.int k (k.wrap (n*m))))
   |_=> .bad
  |false=> .bad
 |_,_=> .bad
def vJ1(look:Operand->Option D)(f:Go.Fn)(first:List Operand)(xs:List Operand):R1:=match f,first with
 | .func f,[]=>match zW0 look xs,Nat.blt f 1000000 with
  |some r,true=> .u [] (.clo f r)
  |_,_=> .bad
 | .func f,x::l=>match xs with
  |[]=>match zW0 look (x::l)with
   |some r=> .u [] (.clo (1000000+f) r)
   |none=> .bad
  |_=> .bad
 |_,_=> .bad
def xB1(x:Option D):R1:=match x with
 |some (.bp k o)=> .u [] (.bp k o)
 |some (.pt m row)=> .u [] (.pt m row)
 |some (.mp k n i sz o)=> .u [] (.mp k n i sz o)
 |_=> .bad
def zD(ag:Bool)(zs:List Value):D:=match ag,zs with
 |true,[]=> .v (.agg #[])
 |true,z::l=> .agg (litS (z::l))
 |false,z::_=> .v z
 |false,[]=> .v undef
def lkP(n:Int)(l:List (Int×D))(z:D):List D->Prop
 |[d,.v (.bool b)]=>(∀w s v,((lkI n l).getD z).pv.p w s v->d.pv.p w s v)/\(lkI n l).isSome=b
 |_=>False
def lkO(ok:Bool)(row:List D):D:=match ok,row with
 |true,row=> .tup row
 |false,d::_=>match d.flat with
  |true=>d
  |false=> .op PV.any
 |false,[]=> .op PV.any
def uL0(T:List (Nat×TI))(ow:Nat->Option DOwn)(t:TypeId)(x y:Option D)(ok:Bool):R1:=match fnd t T with
 |some (.mp ag zs)=>match x with
  |some (.mk k)=>match ow k with
   |some (.map l)=>match y with
    |some (.v (.int kk n))=>match kEq kk .i64 with
     |true=> .lk k (lkP n l (zD ag zs)) (lkO ok)
     |false=> .bad
    |_=> .bad
   |_=> .bad
  |_=> .bad
 |_=> .bad
def cB(T:List (Nat×TI))(ow:Nat->Option DOwn)(t:TypeId)(x y q:Option D):R1:=match fnd t T with
 |some (.mp _ _)=>match x with
  |some (.mk k)=>match ow k with
   |some (.map l)=>match y with
    |some (.v (.int kk n))=>match q with
     |some d=>match kEq kk .i64&&d.pure&&d.str with
      |true=> .w k (.map (putI n d l)) [] (.v undef)
      |false=> .bad
     |none=> .bad
    |_=> .bad
   |_=> .bad
  |_=> .bad
 |_=> .bad
def kN0(T:List (Nat×TI))(nx:Nat)(t:TypeId):R1:=match fnd t T with
 |some (.mp _ _)=> .n (.map []) [] (.mk nx)
 |_=> .bad
def yD1(T:List (Nat×TI))(nx:Nat)(t:TypeId)(x:Option D):R1:=match fnd t T,x with
 |some .str,some (.v (.string b))=> .n (.itr (itL b b.size 0)) [] (.bp nx 0)
 |_,_=> .bad
def yF1(ow:Nat->Option DOwn)(x:Option D):R1:=match x with
 |some (.bp k 0)=>match ow k with
  |some (.itr [])=> .w k (.itr []) [] (.tup [.v (.bool false)])
  |some (.itr ((q,c)::l))=> .w k (.itr l) [] (.tup [.v (.bool true),.v (.int .i64 q),.v (.int .i32 c)])
  |_=> .bad
 |_=> .bad
def litL:List D->Option (List Value)
 |[]=>some []
 | .v x::l=>match litL l with
  |some r=>some (x::r)
  |none=>none
 |_::_=>none
def D.lit:D->Option Value
 | .v x=>some x
 | .agg l=>match litL l with
  |some r=>some (.agg r.toArray)
  |none=>none
 |_=>none
noncomputable def kP0 (T:List (Nat×TI)) (t:TypeId) (x:Option D):R1:=match fnd t T,x with
 |some (.st _ _ _),some d=>match d.lit with
  |some v=> .u [] (.v (.iface t v))
  |none=> .bad
 |_,_=> .bad
noncomputable def uO0 (T:List (Nat×TI)) (t:TypeId) (x:Option D):R1:=match fnd t T,x with
 |some (.st _ _ _),some (.v (.iface u (.agg a)))=>match Nat.beq u t with
  |true=> .u [] (.tup [.agg (litS a.toList),.v (.bool true)])
  |false=> .bad
 |_,_=> .bad
noncomputable def kM0 (x:Option D):R1:=match x with
 |some (.v (.iface t v))=> .pn [{v:= .iface t v,recovered:=false}]
 |_=> .bad
noncomputable def bX (T:List (Nat×TI)) (fl:Fl) (nx:Nat) (look:Operand->Option D) (ow:Nat->Option DOwn):Op->R1
 | .move x=>xH0 (look x)
 | .assign x=>xH0 (look x)
 | .box t x=>xG1 nx t (look x)
 | .alloc t=>kS0 T nx t
 | .build t parts=>kR0 T look t parts.toList
 | .buildSlice t len parts=>kJ T fl nx look t len parts.toList
 | .load t x=>yJ1 T ow t (look x)
 | .store t x y=>kI0 T ow t (look x) (look y)
 | .fieldAddr t x i=>mW T t (look x) i
 | .indexAddr t x y=>match fl with
  | .o=>uM0 T t (look x) (look y)
  |_=>mV T t (look x) (look y)
 | .index t x y=>kO0 T t (look x) (look y)
 | .binOp op t x y _=>match fl with
  | .o=>vK1 op (look x) (look y)
  |_=>xH1 T op t (look x) (look y)
 | .unOp op _ x=>evUn op (look x)
 | .convert src dt x=>match fnd dt T with
  |some .str=>kH0 T src dt (look x)
  |_=>match fl with
   | .g=>uN0 T nx src dt (look x)
   |_=>zV0 T src dt (look x)
 | .extract x i=>zU0 (look x) i
 | .slice t x lo hi none=>kJ0 T look t x lo hi
 | .field t x i=>kQ0 T t (look x) i
 | .call c=>yM1 T fl nx look ow c.callee c.args.toList c.argTypes.toList
 | .makeSlice t x y=>yI1 T nx t (look x) (look y)
 | .makeFunc f first xs=>vJ1 look f first.toList xs.toList
 | .nilCheck x=>xB1 (look x)
 | .makeMap t none=>kN0 T nx t
 | .lookup t x y ok=>uL0 T ow t (look x) (look y) ok
 | .mapUpdate t x y q=>cB T ow t (look x) (look y) (look q)
 | .insert t x y q=>cB T ow t (look x) (look y) (look q)
 | .range t x=>yD1 T nx t (look x)
 | .next x true=>yF1 ow (look x)
 | .makeInterface t x=>kP0 T t (look x)
 | .panic x=>kM0 (look x)
 | .typeAssert x _ t true=>uO0 T t (look x)
 |_=> .bad
section
variable{P:Program}{E:Pn}{T:List (Nat×TI)}(hT:gV P T=true){fl:Fl}{tm:List (Nat×TV)}{ow:Nat->Option DOwn}{nx:Nat}{look:Operand->Option D}(HL:∀x d,look x=some d->Opd tm x d.tv)
 {dst:Option Tmp} {ty:TypeId} {pos:String} {aft:Array Edge} {gd:Option (Nat×Bool)}
include HL
theorem xG0(x:Operand):(xH0 (look x)).Ok P E ⟨dst,.move x,ty,pos,aft,gd⟩ tm ow nx/\(xH0 (look x)).Ok P E ⟨dst,.assign x,ty,pos,aft,gd⟩ tm ow nx:=by
 unfold xH0;split
 ·rename_i d hx;exact⟨fun _=>tN0 (HL x _ hx),fun _=>mJ0 (HL x _ hx)⟩
 ·exact⟨trivial,trivial⟩
omit HL in
theorem zD_ok(ag:Bool)(zs:List Value)(w:World)(s:Sb):(zD ag zs).pv.p w s (mzV ag zs):=by
 match ag,zs with
 |true,[]=>exact(rfl:Value.agg _=Value.agg _)
 |true,z::l=>
  show(PV.agg (D.pvs (litS (z::l)))).p w s _;rw[jX0];exact⟨z::l,rfl,AllV.lits w s (z::l)⟩
 |false,z::_=>exact(rfl:z=z)
 |false,[]=>exact(rfl:undef=undef)
omit HL in
theorem kT0(l:List (Int×D)):entI (l.map fun x=>(x.1,x.2.pv))=l.map fun x=>(Value.int .i64 x.1,x.2.pv):=by
 unfold entI;rw[Cw];rfl
include hT in
theorem evLookup_ok(t:TypeId)(x y:Operand)(ok:Bool):(uL0 T ow t (look x) (look y) ok).Ok P E ⟨dst,.lookup t x y ok,ty,pos,aft,gd⟩ tm ow nx:=by
 unfold uL0;split
 ·rename_i ag zs hf;have hM:=(vY1 (yI hT hf)).2;split
  ·rename_i k hx;have hx:=HL x _ hx;rw[D.tv]at hx;split
   ·rename_i l hk;split
    ·rename_i kk n hy;have hy:=HL y _ hy;split
     ·rename_i hkk;have hkk:=wM hkk;subst hkk;intro row hrow;refine⟨_,hk,?_⟩;have h:=u_lookup (P:=P) (dst:=dst) (ty:=ty) (pos:=pos) (aft:=aft) (gd:=gd) (l:=l.map fun x=>(x.1,x.2.pv)) (e:=(zD ag zs).pv) (ok:=ok) hM (zD_ok ag zs) hx hy;rw[kT0,zN1]at h;have hq:((lkI n l).map D.pv).getD (zD ag zs).pv=((lkI n l).getD (zD ag zs)).pv:=by cases lkI n l<;>rfl
      have hq2:((lkI n l).map D.pv).isSome=(lkI n l).isSome:=by cases lkI n l<;>rfl
      rw[hq,hq2]at h;unfold lkP at hrow;split at hrow
      ·rename_i d b;obtain⟨h1,h2⟩:=hrow;refine h.weaken fun w s g v hv=>?_
       cases ok with
       |true=>
        rw[TV.P]at hv;obtain⟨vs,rfl,h3⟩:=hv
        match vs,h3 with
        |[a,c],⟨h3,h4,_⟩=>
         show(D.tup [d,.v (.bool b)]).tv.P w s g _;rw[D.tv,TV.P];have h4:c=Value.bool (lkI n l).isSome:=h4;exact⟨[a,c],rfl,h1 _ _ _ h3,by show c=_;rw[h4,h2],trivial⟩
       |false=>
        rw[TV.P]at hv;show(match d.flat with|true=>d|false=>D.op PV.any).tv.P w s g v
        cases hfl:d.flat with
        |true=>exact D.ofPV hfl (h1 _ _ _ hv)
        |false=>rw[D.tv,TV.P];trivial
      ·exact hrow.elim
     ·trivial
    ·trivial
   ·trivial
  ·trivial
 ·trivial
include hT in
theorem zS0(t:TypeId)(x y q:Operand){o:Op}(ho:o= .mapUpdate t x y q\/o= .insert t x y q):(cB T ow t (look x) (look y) (look q)).Ok P E ⟨dst,o,ty,pos,aft,gd⟩ tm ow nx:=by
 unfold cB;split
 ·rename_i ag zs hf;have hM:=(vY1 (yI hT hf)).2;split
  ·rename_i k hx;have hx:=HL x _ hx;rw[D.tv]at hx;split
   ·rename_i l hk;split
    ·rename_i kk n hy;have hy:=HL y _ hy;split
     ·rename_i d hq;have hq:=HL q _ hq;split
      ·rename_i hb;simp only[Aj]at hb;obtain⟨⟨hkk,hp⟩,hs⟩:=hb;have hkk:=wM hkk;subst hkk;intro _;refine⟨_,hk,?_⟩;have h:=u_mapUpdate (P:=P) (dst:=dst) (ty:=ty) (pos:=pos) (aft:=aft) (gd:=gd) (l:=l.map fun x=>(x.1,x.2.pv)) ho hM hx hy hq (D.toPV hp) (D.str_pv d hs);rw[kT0,pE0,kT0]at h;exact h
      ·trivial
     ·trivial
    ·trivial
   ·trivial
  ·trivial
 ·trivial
omit HL in
theorem evMkMap_ok(t:TypeId):(kN0 T nx t).Ok P E ⟨dst,.makeMap t none,ty,pos,aft,gd⟩ tm ow nx:=by
 unfold kN0;split
 ·intro _;exact u_makeMap nx
 ·trivial
theorem evNil_ok(x:Operand):(xB1 (look x)).Ok P E ⟨dst,.nilCheck x,ty,pos,aft,gd⟩ tm ow nx:=by
 unfold xB1;split
 ·rename_i k o hx;intro _;refine dL (HL x _ hx) fun w s g v h=>?_;rw[D.tv,TV.P]at h;obtain⟨N,_,e⟩:=h;exact⟨_,e⟩
 ·rename_i m row hx;intro _;refine dL (HL x _ hx) fun w s g v h=>?_;obtain⟨b,o,e,_⟩:=h;exact⟨_,e⟩
 ·rename_i k n i sz o hx;intro _;refine dL (HL x _ hx) fun w s g v h=>?_;rw[D.tv,TV.P]at h;obtain⟨G,c,_,e⟩:=h;exact⟨_,e⟩
 ·trivial
theorem evBox_ok(t:TypeId)(x:Operand):(xG1 nx t (look x)).Ok P E ⟨dst,.box t x,ty,pos,aft,gd⟩ tm ow nx:=by
 unfold xG1;split
 ·rename_i l hx;split
  ·rename_i h1;intro _;have hx:=HL x _ hx;rw[D.tv]at hx;exact u_boxR nx hx (tQ0 h1)
  ·trivial
 ·rename_i d hx;split
  ·rename_i h1;intro _;exact u_box1 nx (HL x _ hx) (D.tv_one h1)
  ·trivial
 ·trivial
theorem evMin_ok(x y:Operand){ts:Array TypeId}:(xC1 (look x) (look y)).Ok P E ⟨dst,.call {callee:= .builtin .min,args:= #[x,y],argTypes:=ts},ty,pos,aft,gd⟩ tm ow nx:=by
 unfold xC1;split
 ·rename_i k n k' m hx hy;split
  ·rename_i hk;have hk:=wM hk;subst hk;intro _;exact u_min (HL x _ hx) (HL y _ hy)
  ·trivial
 ·trivial
theorem evMax3_ok(x y q:Operand){ts:Array TypeId}:(yH1 (look x) (look y) (look q)).Ok P E ⟨dst,.call {callee:= .builtin .max,args:= #[x,y,q],argTypes:=ts},ty,pos,aft,gd⟩ tm ow nx:=by
 unfold yH1;split
 ·rename_i k n k' m k2 r hx hy hq;split
  ·rename_i hk;simp only[Aj]at hk;have h1:=wM hk.1;have h2:=wM hk.2;subst h1;subst h2;intro _;exact u_max3 (HL x _ hx) (HL y _ hy) (HL q _ hq)
  ·trivial
 ·trivial
theorem evMax_ok(x y:Operand){ts:Array TypeId}:(xD1 (look x) (look y)).Ok P E ⟨dst,.call {callee:= .builtin .max,args:= #[x,y],argTypes:=ts},ty,pos,aft,gd⟩ tm ow nx:=by
 unfold xD1;split
 ·rename_i k n k' m hx hy;split
  ·rename_i hk;have hk:=wM hk;subst hk;intro _;exact u_max (HL x _ hx) (HL y _ hy)
  ·trivial
 ·trivial
include hT
theorem evBuild_ok(t:TypeId)(parts:List (Nat×Operand)):(kR0 T look t parts).Ok P E ⟨dst,.build t parts.toArray,ty,pos,aft,gd⟩ tm ow nx:=by
 unfold kR0;split
 ·rename_i n zs pl hf;split
  ·rename_i out hb;intro _;obtain⟨ps,h1,h2⟩:=zT0 HL hb;have:=tO0 (P:=P) (dst:=dst) (ty:=ty) (pos:=pos) (aft:=aft) (gd:=gd) (jF0 (yI hT hf)).2.2.1 h1 (by rw[<-pN];exact h2);rw[D.tv];exact this
  ·trivial
 ·rename_i n c q e zs hf;split
  ·rename_i out hb;intro _;obtain⟨ps,h1,h2⟩:=zT0 HL hb;have:=tO0 (P:=P) (dst:=dst) (ty:=ty) (pos:=pos) (aft:=aft) (gd:=gd) (gD0 (yI hT hf)).2.2.1 h1 (by rw[<-pN];exact h2);rw[D.tv];exact this
  ·trivial
 ·trivial
theorem evBuildSlice_ok(t:TypeId)(len:Nat)(parts:List (Nat×Operand)):(kJ T fl nx look t len parts).Ok P E ⟨dst,.buildSlice t len parts.toArray,ty,pos,aft,gd⟩ tm ow nx:=by
 unfold kJ;split
 ·rename_i e sz hf;have hA:=(gZ (yI hT hf)).2.2;split
  ·rename_i hr;split
   ·rename_i hl;have hl:=Ah hl;subst hl;have hro:=zR0 HL hr;have hp:parts=[]:=by
     cases parts with
     |nil=>rfl
     |cons q r=>exact hro.elim
    subst hp;split
    ·intro _;exact gR nx hA
    ·intro _;exact(gR nx hA).thaw
    ·intro _;exact u_buildSlice0 hA.bslT
   ·trivial
  ·rename_i r rows hr;split
   ·rename_i hl;simp only[Aj]at hl;have h1:=Ah hl.1;have h2:len*sz<=16777216:=Ax hl.2;have h0:0<len:=by rw[h1];simp
    have hro:=zR0 HL hr;split
    ·intro _;rw[D.tv];exact u_buildSliceOwn nx hA hro (by rw[yN];exact h1) h2 h0
    ·intro _;exact u_buildSlice hA.bslT hro (by rw[yN];exact h1) h2 h0
   ·trivial
  ·trivial
 ·trivial
theorem evAppendStr_ok(t t':TypeId)(x y:Operand):(mX T ow t t' (look x) (look y)).Ok P E ⟨dst,.call {callee:= .builtin .append,args:= #[x,y],argTypes:= #[t,t']},ty,pos,aft,gd⟩ tm ow nx:=by
 unfold mX;split
 ·rename_i e sz hf hf';have hA:=(gZ (yI hT hf)).2.2;have hu:=(xG (yI hT hf')).2.1;split
  ·rename_i h1;have h1:=Ah h1;split
   ·rename_i p hy;split
    ·rename_i k q hx;split
     ·rename_i e' z' M hk;split
      ·rename_i hb;simp only[Aj]at hb;have e1:=Ah hb.1;have e2:=Ah hb.2;subst e1;subst e2;rintro⟨h3,h4,_⟩;refine⟨_,hk,?_⟩;have:=u_appendStr (P:=P) (dst:=dst) (ty:=ty) (pos:=pos) (aft:=aft) (gd:=gd) (rows:=D.pvss M.rows) (n:=q) (m:=p.size) hA h1 hu (HL x _ hx) (by rw[yN,MR.len_rows];exact h3.symm) (HL y _ hy) rfl h4;show UOp P _ tm [(k,Own.mrow _ _ (D.pvss M.rows))] _ [(k,Own.mrow _ _ (D.pvss (M.rows++p.data.toList.map u8D)))];rw[yS (M.rows++_),Ad,<-yS,Cw];exact this
      ·trivial
     ·trivial
    ·trivial
   ·trivial
  ·trivial
 ·trivial
theorem evToStr_ok(src dt:TypeId)(x:Operand):(kH0 T src dt (look x)).Ok P E ⟨dst,.convert src dt x,ty,pos,aft,gd⟩ tm ow nx:=by
 unfold kH0;split
 ·rename_i e sz hs hd;split
  ·rename_i k he;split
   ·rename_i hk;have hk:=wM hk;subst hk;split
    ·rename_i r hr;rintro⟨h1,_⟩;obtain⟨mo,d,hy,hp⟩:=gH0 HL hr;obtain⟨ie,z,hse,_⟩:=(gZ (yI hT hs)).2.2.h;refine u_toStr (m:=mo) (l:=cM0 r) hse (pC (yI hT he)).2.1 (xG (yI hT hd)).2.1 hy fun w s g v h=>?_;have h2:=hp w s g v h;rw[h1,yS,Cw]at h2;exact h2
    ·trivial
   ·trivial
  ·trivial
 ·rename_i k hs hd;split
  ·rename_i k' n hx;intro _;exact u_intStr (by rw[(pC (yI hT hs)).2.1];rfl) (xG (yI hT hd)).2.1 (HL x _ hx)
  ·trivial
 ·trivial
theorem evAppend_ok(t:TypeId)(x y:Operand):(uP0 T fl nx ow t (look x) (look y)).Ok P E ⟨dst,.call {callee:= .builtin .append,args:= #[x,y],argTypes:= #[t,t]},ty,pos,aft,gd⟩ tm ow nx:=by
 unfold uP0;split
 ·rename_i e sz hf;have hA:=(gZ (yI hT hf)).2.2;split
  ·rename_i r hr;obtain⟨mo,d,hy,hd⟩:=gH0 HL hr;split
   ·rename_i k z rows hx;split
    ·rename_i e' z' n hk;split
     ·rename_i hb;simp only[Aj]at hb;have e1:=Ah hb.1;have e2:=Ah hb.2.1;have e3:=Ah hb.2.2;subst e1;subst e2;subst e3;rintro⟨h1,h2,_⟩;subst h1;refine⟨_,hk,?_⟩;have hx:=HL x _ hx;rw[D.tv]at hx;have:=u_appendOwn (P:=P) (dst:=dst) (ty:=ty) (pos:=pos) (aft:=aft) (gd:=gd) (n:=rows.length) (m:=r.length) hA hx (yN _) hy hd (yN _) h2;rw[D.tv,yS,Ad,<-yS,<-yS];show UOp P _ tm [(k,Own.row _ _ rows.length)] _ [(k,Own.row _ _ (rows++r).length)];rw[Ae];exact this
     ·trivial
    ·trivial
   ·rename_i hx;split
    ·rintro⟨h2,_⟩;exact u_appendNilM (P:=P) (dst:=dst) (ty:=ty) (pos:=pos) (aft:=aft) (gd:=gd) (m:=r.length) nx hA (HL x _ hx) hy hd (yN _) h2
    ·rintro⟨h2,_⟩;have:=u_appendNil (P:=P) (dst:=dst) (ty:=ty) (pos:=pos) (aft:=aft) (gd:=gd) (m:=r.length) nx hA (HL x _ hx) hy hd (yN _) h2;rw[D.tv];exact this
   ·rename_i k q hx;split
    ·rename_i e' z' M hk;split
     ·rename_i hb;simp only[Aj]at hb;have e1:=Ah hb.1;have e2:=Ah hb.2;subst e1;subst e2;rintro⟨h1,h2,_⟩;refine⟨_,hk,?_⟩;have:=u_appendMo (P:=P) (dst:=dst) (ty:=ty) (pos:=pos) (aft:=aft) (gd:=gd) (rows:=D.pvss M.rows) (n:=q) (m:=r.length) hA (HL x _ hx) (by rw[yN,MR.len_rows];exact h1.symm) hy hd (yN _) h2;show UOp P _ tm [(k,Own.mrow _ _ (D.pvss M.rows))] _ [(k,Own.mrow _ _ (D.pvss (M.rows++r)))];rw[yS (M.rows++r),Ad,<-yS,<-yS];exact this
     ·trivial
    ·trivial
   ·rename_i k q i z n hx;split
    ·rename_i e' z' M hk;split
     ·rename_i hb;simp only[Aj]at hb;have e1:=Ah hb.1;have e2:=Ah hb.2.1;have e3:=Ah hb.2.2.1;have e4:=Ah hb.2.2.2;subst e1;subst e2;subst e3;subst e4;split
      ·rename_i row;rintro⟨h1,h2,_⟩;refine⟨_,hk,?_⟩;have hx:=HL x _ hx;rw[D.tv]at hx;have:=u_appendMw (P:=P) (dst:=dst) (ty:=ty) (pos:=pos) (aft:=aft) (gd:=gd) (rows:=D.pvss M.rows) (row:=D.pvs row) hA hx (by rw[yN,MR.len_rows];exact h1.symm) hy (fun w s g v hv=>hd w s g v hv) h2;rw[D.tv];show UOp P _ tm [(k,Own.mrow _ _ (D.pvss M.rows))] _ [(k,Own.mrow _ _ (D.pvss (M.rows.set n row)))];rw[yS (M.rows.set n row),List.map_set,<-yS];exact this
      ·trivial
     ·trivial
    ·trivial
   ·trivial
  ·trivial
 ·trivial
end
section
variable{P:Program}{E:Pn}{T:List (Nat×TI)}(hT:gV P T=true){fl:Fl}{tm:List (Nat×TV)}{ow:Nat->Option DOwn}{nx:Nat}{look:Operand->Option D}(HL:∀x d,look x=some d->Opd tm x d.tv)
 {dst:Option Tmp} {ty:TypeId} {pos:String} {aft:Array Edge} {gd:Option (Nat×Bool)}
include hT
theorem evAlloc_ok(t:TypeId):(kS0 T nx t).Ok P E ⟨dst,.alloc t,ty,pos,aft,gd⟩ tm ow nx:=by
 have key:∀z:Value,(∀w,(zeroValue t).run P w= .ok z w)->z.oneCell'=true->UOp P ⟨dst,.alloc t,ty,pos,aft,gd⟩ tm [] (.bp nx 0) [(nx,.box t [.pv (PV.lit z)])]:=by
  intro z hz h1;have hc:=kL h1;have:=gC0 (P:=P) (tm:=tm) (dst:=dst) (ty:=ty) (pos:=pos) (aft:=aft) (gd:=gd) nx hz (by rw[hc];simp[h1]);rw[hc]at this;exact this
 unfold kS0;split
 ·rename_i n zs pl hf;intro _;obtain⟨_,_,_,_,h1,z,hz,hc⟩:=jF0 (yI hT hf);have:=gC0 (P:=P) (tm:=tm) (dst:=dst) (ty:=ty) (pos:=pos) (aft:=aft) (gd:=gd) nx hz (by rw[hc];exact Bl.2 h1);rw[hc,<-pN]at this;exact this
 ·rename_i n c q e zs hf;intro _;obtain⟨_,_,_,_,h1,z,hz,hc⟩:=gD0 (yI hT hf);have:=gC0 (P:=P) (tm:=tm) (dst:=dst) (ty:=ty) (pos:=pos) (aft:=aft) (gd:=gd) nx hz (by rw[hc];exact Bl.2 h1);rw[hc,<-pN]at this;exact this
 ·rename_i k hf;intro _;exact key _ (pC (yI hT hf)).2.2 rfl
 ·rename_i hf;intro _;exact key _ (jG0 (yI hT hf)).2.2 rfl
 ·rename_i hf;intro _;exact key _ (xG (yI hT hf)).2.2 rfl
 ·rename_i e sz hf;intro _;exact key _ (gZ (yI hT hf)).2.1 rfl
 ·rename_i z hf;intro _;exact key _ (vO0 (yI hT hf)).2.1 (vO0 (yI hT hf)).2.2
 ·trivial
 ·trivial
 ·trivial
omit hT in
theorem cL{w:World}{s:Sb}{g:Gh}{a:Act}(ht:jM w s g tm a):∀{xs:List Operand}{ts:List TV},ts.length=xs.length->(∀(j:Nat)(x:Operand)(t:TV),xs[j]?=some x->ts[j]?=some t->Opd tm x t)->AllT w s g ts (xs.map a.eval)
 |[],[],_,_=>trivial
 |x::xs,t::ts,hl,h=>⟨Opd.eval ht (h 0 x t rfl rfl),cL ht (by simpa using hl) fun j y u hy hu=>h (j+1) y u (by simpa using hy) (by simpa using hu)⟩
 |[],_::_,hl,_=>by simp at hl
 |_::_,[],hl,_=>by simp at hl
omit hT HL in
theorem vI1{c:Operand}{f:FuncId}{xs:List Operand}{ts:Array TypeId}{ds:List D}(hall:Bod P f->∀w s g a,jM w s g tm a->∃vs:List Value,(execOp a.eval ⟨dst,.call {callee:= .value c,args:=xs.toArray,argTypes:=ts},ty,pos,aft,gd⟩).run P w= .ok (.enter f vs.toArray) w/\AllT w s g (D.tvl ds) vs):
  (evG nx ow f ds).Ok P E ⟨dst,.call {callee:= .value c,args:=xs.toArray,argTypes:=ts},ty,pos,aft,gd⟩ tm ow nx:=by
 unfold evG;rw[xC0];generalize vX0 ow 40 (D.keysL false ds) []=ks at*;split
 ·rename_i r' hr;split
  ·rename_i lo hlo;split
   ·rename_i hks;intro out lown' hchk hF;obtain⟨c1,c2,c3,c4⟩:=kX0 hchk;obtain⟨g1,g2⟩:=qF0 hlo;refine⟨hks,fun i k d hk hd=>?_,g1,?_⟩
    ·obtain⟨c0,e1,e2⟩:=g2 i k d hk hd;exact⟨c0,e1,(wN0 (nx:=nx) c1 e2).2.symm⟩
    ·have hkey:∀{l:List DOwn}{n:Nat},l.length<=n->(∀c∈l,idO n c.o=true)->KeyOk n (ows (vC 0 l)):=fun{l n}hl hid=>by
      have hget:∀k,fnd k (ows (vC 0 l))=(l[k]?).map DOwn.o:=fun k=>by rw[qR,xO];simp
      have hmem:∀{i:Nat}{l:List DOwn}{x:Nat×DOwn},x∈vC i l->i<=x.1/\l[x.1-i]?=some x.2:=by
       intro i l;induction l generalizing i with
       |nil=>intro x hx;cases hx
       |cons c l ih=>
        intro x hx;rcases Bi.1 hx with rfl|hx
        ·simp
        ·obtain⟨h1,h2⟩:=ih hx;refine⟨by omega,?_⟩;rw[show x.1-i=(x.1-(i+1))+1 by omega];simpa using h2
      have hm2:∀x∈ows (vC 0 l),∃c,l[x.1]?=some c/\x.2=c.o:=by
       intro x hx;obtain⟨y,hy,rfl⟩:=Dc.1 hx;exact⟨y.2,by simpa using(hmem hy).2,rfl⟩
      refine⟨fun x hx=>?_,fun x hx=>?_,fun k c hk=>?_⟩
      ·obtain⟨c,h1,_⟩:=hm2 x hx;have:=(Ao.1 h1).1;omega
      ·obtain⟨c,h1,h2⟩:=hm2 x hx;rw[h2];exact hid c (Bg h1)
      ·obtain⟨c',h1,h2⟩:=hm2 _ hk;rw[hget,h1];exact congrArg some h2.symm
     have hren:=GFunE.ren hF (n:=lown'.length) (ρ:=qN ks nx) (σ:=sigK ks nx lown'.length) (sigK_rho hks c2) (sigK_inv c1) (D.locL_ok (nx:=nx) c1 hr).1 c3 (hkey om fun c hc=>by
       obtain⟨i,hi⟩:=Ee hc;have hil:i<ks.length:=by rw[<-g1];exact(Ao.1 hi).1
       obtain⟨c0,_,e2⟩:=g2 i _ c (Ac hil) hi;exact(wN0 (nx:=nx) c1 e2).1) (hkey (Ar _) c4) (fun k c hk=>by
       rw[qR,xO]at hk⊢;simp only[Aq,if_true,Nat.sub_zero]at hk⊢;have hkl:k<lo.length:=by
        rcases Br k lo.length with h|h
        ·exact h
        ·rw[Cz h]at hk;cases hk
       exact⟨_,by rw[Ac om];rfl⟩) (fun k hk=>⟨_,by rw[qR,xO];simp only[Aq,if_true,Nat.sub_zero];rw[Ac hk];rfl⟩)
     rw[<-jC0,<-jC0]at hren;rw[<-D.ren_tv]at hren;intro w s g a K Q ht hg hK hE;obtain⟨vs,h1,h2⟩:=hall hren.bod w s g a ht;unfold Oper.wp;rw[h1];have h3:=(D.locL_ok (nx:=nx) c1 hr).2.2 w s g _ h2;rw[D.renL_tv]at h3;refine(hren.run w s g _ hg h3).mono ?_;rintro e w' (⟨s',g',v,rfl,hv,hst⟩|⟨ch,s',rfl,hch,hst⟩)
     ·exact hK w' s' g' v hv hst
     ·exact hE ch w' s' hch hst
   ·trivial
  ·trivial
 ·trivial
omit hT in
theorem evGo_ok{c:Operand}{f:FuncId}{xs:List Operand}{ts:Array TypeId}{caps r:List D}(hc:CalOk tm c f (D.tvl caps))(ha:(D.tvl r).length=xs.length/\∀(j:Nat)(x:Operand)(t:TV),xs[j]?=some x->(D.tvl r)[j]?=some t->Opd tm x t):
  (evGo fl nx ow f (appD r caps)).Ok P E ⟨dst,.call {callee:= .value c,args:=xs.toArray,argTypes:=ts},ty,pos,aft,gd⟩ tm ow nx:=by
 rw[kZ0];have htl:D.tvl (r++caps)=D.tvl r++D.tvl caps:=by simp[jA]
 have hall:∀w s g a,jM w s g tm a->∃vs:List Value,a.eval c= .func (.func f) #[] vs.toArray/\AllT w s g (D.tvl (r++caps)) (xs.map a.eval++vs):=fun w s g a ht=>by
  obtain⟨vs,h1,h2⟩:=hc w s g a ht;exact⟨vs,h1,by rw[htl];exact AllT.append (cL ht ha.1 ha.2) h2⟩
 unfold evGo;split
 ·split
  ·rename_i hp;intro out hF;intro w s g a K Q ht hg hK;obtain⟨vs,h1,h2⟩:=hall w s g a ht;unfold Oper.wp;rw[pZ hF.bod h1];refine(hF.run w s _ hg.lt hg.gl (AllT.weakS (D.toPVs hp) h2)).mono ?_;rintro e w' ⟨s',v,rfl,hv,hp⟩;exact hK w' s' g v hv (hp.stp g)
  ·split
   ·rename_i es acc ps hl;intro hp;have hacc:=kH hl;refine⟨fun x hx=>(hacc x hx).1,fun out hstr hF=>?_⟩;have hL:=vS hl hp (qG1 fun x hx=>(hacc x hx).1);rw[htl]at hL;exact u_callL hF hstr hc ⟨D.tvl r,ha.1,ha.2,hL.1,hL.2⟩ fun k c hk=>by
     obtain⟨d,hd,rfl⟩:=zA1 hk;exact(hacc _ hd).2
   ·trivial
 ·split
  ·rename_i hp;intro e sz rows hF;have:=u_callOC (dst:=dst) (ty:=ty) (pos:=pos) (aft:=aft) (gd:=gd) (c:=c) (xs:=xs) (ts:=ts) (tm:=tm) nx hF fun w s g a ht=>by
    obtain⟨vs,h1,h2⟩:=hall w s g a ht;exact⟨vs,h1,AllT.weakS (D.toPVs hp) h2⟩
   rw[yN]at this;rw[D.tv];exact this
  ·trivial
 ·exact vI1 fun hb w s g a ht=>by
   obtain⟨vs,h1,h2⟩:=hall w s g a ht;exact⟨_,pZ hb h1,h2⟩
omit hT in
theorem mM{e:TypeId}{v:Value}(h:∀w,(zeroValue e).run P w= .ok v w):∃z i,P.info? e=some i/\i.zero=some z/\z=v:=by
 have h1:=h default;unfold zeroValue at h1
 cases hi:P.info? e with
 |none=>simp[typeInfo,hi]at h1
 |some i=>
  cases hz:i.zero with
  |none=>simp[typeInfo,hi,hz]at h1
  |some z=>
   simp[typeInfo,hi,hz]at h1;exact⟨z,i,rfl,hz,h1⟩
include HL
theorem evBytesM_ok(src dt:TypeId)(x:Operand):(uN0 T nx src dt (look x)).Ok P E ⟨dst,.convert src dt x,ty,pos,aft,gd⟩ tm ow nx:=by
 unfold uN0;split
 ·rename_i e sz p hs hd hx;split
  ·rename_i k he;split
   ·rename_i hk;have hk:=wM hk;subst hk;rintro⟨hp,_⟩;obtain⟨ie,z,hde,_⟩:=(gZ (yI hT hd)).2.2.h;have:=u_bytesM (P:=P) (dst:=dst) (ty:=ty) (pos:=pos) (aft:=aft) (gd:=gd) nx (xG (yI hT hs)).2.1 hde (pC (yI hT he)).2.1 hp (HL x _ hx);have e1:D.pvss (p.data.toList.map u8D)=xB p:=by rw[yS,Cw];rfl
    show UOp P _ tm [] _ [(nx,.mrow e 1 (D.pvss (p.data.toList.map u8D)))];rw[e1];exact this
   ·trivial
  ·trivial
 ·trivial
theorem evMake_ok(t:TypeId)(x y:Operand):(yI1 T nx t (look x) (look y)).Ok P E ⟨dst,.makeSlice t x y,ty,pos,aft,gd⟩ tm ow nx:=by
 unfold yI1;split
 ·rename_i e sz hf;have hA:=(gZ (yI hT hf)).2.2;split
  ·rename_i zs hz;split
   ·rename_i k1 l k2 c hx hy;rintro⟨⟨h1,h2,h3⟩,_⟩;have hZ:ZerT P e zs:=by
     unfold jW1 at hz;split at hz
     ·rename_i n zs' pl he
      cases hz;obtain⟨_,_,hB,_,h1,z,hz,hc⟩:=jF0 (yI hT he);obtain⟨z',i,g1,g2,g3⟩:=mM hz;exact⟨i,z',g1,g2,by rw[g3];exact hc,h1⟩
     ·rename_i n c q e' zs' he
      cases hz;obtain⟨_,_,_,_,h1,z,hz,hc⟩:=gD0 (yI hT he);obtain⟨z',i,g1,g2,g3⟩:=mM hz;exact⟨i,z',g1,g2,by rw[g3];exact hc,h1⟩
     ·rename_i k he
      cases hz;obtain⟨z,i,h1,h2,h3⟩:=mM (pC (yI hT he)).2.2;exact⟨i,z,h1,h2,by rw[h3];rfl,by simp[Value.oneCell']⟩
     ·rename_i he
      cases hz;obtain⟨z,i,h1,h2,h3⟩:=mM (jG0 (yI hT he)).2.2;exact⟨i,z,h1,h2,by rw[h3];rfl,by simp[Value.oneCell']⟩
     ·rename_i he
      cases hz;obtain⟨z,i,h1,h2,h3⟩:=mM (xG (yI hT he)).2.2;exact⟨i,z,h1,h2,by rw[h3];rfl,by simp[Value.oneCell']⟩
     ·rename_i e2 sz2 he
      cases hz;obtain⟨z,i,h1,h2,h3⟩:=mM (gZ (yI hT he)).2.1;exact⟨i,z,h1,h2,by rw[h3];rfl,by simp[Value.oneCell']⟩
     ·rename_i z0 he
      cases hz;obtain⟨z,i,h1,h2,h3⟩:=mM (vO0 (yI hT he)).2.1;have h4:=(vO0 (yI hT he)).2.2;exact⟨i,z,h1,h2,by rw[h3,kL h4],by simpa using h4⟩
     ·cases hz
    have:=u_makeSlice (P:=P) (tm:=tm) (dst:=dst) (ty:=ty) (pos:=pos) (aft:=aft) (gd:=gd) nx hA hZ (HL x _ hx) (HL y _ hy) h1 h2 h3;show UOp P _ tm [] (.mo nx l.toNat) [(nx,Own.mrow e sz (D.pvss ((List.replicate l.toNat ()).map fun _=>litS zs)))];have e1:=jX0 zs;rw[yS,Cw,List.map_replicate];show UOp P _ tm [] _ [(nx,Own.mrow e sz (List.replicate l.toNat (D.pvs (litS zs))))];rw[e1];exact this
   ·trivial
  ·trivial
 ·trivial
theorem evCopy_ok(t t2:TypeId)(x y:Operand):(yL1 T ow t (look x) (look y)).Ok P E ⟨dst,.call {callee:= .builtin .copy,args:= #[x,y],argTypes:= #[t,t2]},ty,pos,aft,gd⟩ tm ow nx:=by
 unfold yL1;split
 ·rename_i e sz hf;have hA:=(gZ (yI hT hf)).2.2;split
  ·rename_i hs1;have hs1:=Ah hs1;subst hs1;split
   ·rename_i r hr;obtain⟨mo,d,hy,hd⟩:=gH0 HL hr;split
    ·rename_i k q hx;split
     ·rename_i e' z' M hk;split
      ·rename_i hb;simp only[Aj]at hb;have e1:=Ah hb.1;have e2:=Ah hb.2;subst e1;subst e2;rintro⟨h1,h2,_⟩;refine⟨_,hk,?_⟩;obtain⟨ie,z,g1,g2,g3,g4,_⟩:=hA.h;have:=u_copyMo (P:=P) (dst:=dst) (ty:=ty) (pos:=pos) (aft:=aft) (gd:=gd) (t:=t) (t2:=t2) (rows:=D.pvss M.rows) (n:=q) (rows2:=D.pvss r) g1 (by rw[g2,<-g4];rfl) (HL x _ hx) (by rw[yN,MR.len_rows];exact h1.symm) hy hd (by rw[yN];exact h2);rw[yN]at this;show UOp P _ tm [(k,Own.mrow _ _ (D.pvss M.rows))] _ [(k,Own.mrow _ _ (D.pvss (r++M.rows.drop r.length)))];rw[yS (r++_),Ad,Eh,<-yS,<-yS];exact this
      ·trivial
     ·trivial
    ·trivial
   ·trivial
  ·trivial
 ·trivial
theorem evCall_ok(c:Call):(yM1 T fl nx look ow c.callee c.args.toList c.argTypes.toList).Ok P E ⟨dst,.call c,ty,pos,aft,gd⟩ tm ow nx:=by
 obtain⟨callee,args,ts⟩:=c;obtain⟨args,rfl⟩:∃l:List Operand,args=l.toArray:=⟨args.toList,by simp⟩;obtain⟨ts,rfl⟩:∃l:List TypeId,ts=l.toArray:=⟨ts.toList,by simp⟩;simp only[yM1];split
 ·rename_i x;split
  ·rename_i f caps hcal;split
   ·rename_i r hr;exact evGo_ok (evCal_ok HL hcal) (kK HL hr)
   ·trivial
  ·split
   ·rename_i f first hcal;split
    ·rename_i r hr;have ha:=kK HL hr;exact vI1 fun hb w s g a ht=>by
      obtain⟨us,h1,h2⟩:=evCalB_ok HL hcal w s g a ht;refine⟨_,call_execB hb h1,?_⟩;rw[kZ0,show D.tvl (first++r)=D.tvl first++D.tvl r by simp[jA]];exact AllT.append h2 (cL ht ha.1 ha.2)
    ·trivial
   ·trivial
 ·split
  ·exact evLen_ok hT HL _ _
  ·trivial
 ·split
  ·rename_i x y t t' _ _;split
   ·rename_i hb;have hb:=Ah hb;subst hb;exact evAppend_ok hT HL _ _ _
   ·exact evAppendStr_ok hT HL _ _ _ _
  ·trivial
 ·split
  ·exact evCopy_ok hT HL _ _ _ _
  ·trivial
 ·split
  ·exact evMin_ok HL _ _
  ·trivial
 ·split
  ·exact evMax_ok HL _ _
  ·exact evMax3_ok HL _ _ _
  ·trivial
 ·trivial
omit hT HL in
theorem zO1{w:World}{s:Sb}{g:Gh}:∀{l:List D}{r vs:List Value},litL l=some r->AllT w s g (D.tvl l) vs->vs=r
 |[],r,vs,h,hv=>by
  cases h;rw[D.tvl]at hv
  cases vs with
  |nil=>rfl
  |cons _ _=>exact hv.elim
 |d::l,r,vs,h,hv=>by
  cases d with
  |v x=>
   unfold litL at h
   cases hl:litL l with
   |none=>rw[hl]at h;cases h
   |some q=>
    rw[hl]at h
    cases h;rw[D.tvl]at hv
    cases vs with
    |nil=>exact hv.elim
    |cons u vs=>
     rw[AllT]at hv;have h1:u=x:=hv.1;rw[h1,zO1 hl hv.2]
  |_=>cases h
omit hT HL in
theorem lit_ok{w:World}{s:Sb}{g:Gh}{d:D}{x v:Value}(h:d.lit=some x)(hv:d.tv.P w s g v):v=x:=by
 cases d with
 |v y=>cases h;exact hv
 |agg l=>
  unfold D.lit at h
  cases hl:litL l with
  |none=>simp only[hl]at h;cases h
  |some q=>
   simp only[hl]at h
   cases h;rw[D.tv,TV.P]at hv;obtain⟨vs,h1,h2⟩:=hv;rw[h1,zO1 hl h2]
 |_=>cases h
theorem evIface_ok(t:TypeId)(x:Operand):(kP0 T t (look x)).Ok P E ⟨dst,.makeInterface t x,ty,pos,aft,gd⟩ tm ow nx:=by
 unfold kP0;split
 ·rename_i n zs pl d ht hx;split
  ·rename_i v hv;intro _;have hr:=(jF0 (yI hT ht)).2.1;obtain⟨dd,hu,hd⟩:=hr.und;refine UOp.pure fun w s g a hta=>⟨_,?_,rfl⟩;have he:a.eval x=v:=lit_ok hv (Opd.eval hta (HL _ _ hx));refine yK (s:=Instr.makeInterface t (a.eval x)) ?_;rw[he];unfold Instr.makeInterface;rw[Sem.run_bind,run_underlying hu w]
   cases dd<;>first|rfl|(cases hd;done)
  ·trivial
 ·trivial
theorem evAssert_ok(x:Operand)(xt t:TypeId):(uO0 T t (look x)).Ok P E ⟨dst,.typeAssert x xt t true,ty,pos,aft,gd⟩ tm ow nx:=by
 unfold uO0;split
 ·rename_i n zs pl u a ht hx;split
  ·rename_i hb;have hb:=Ah hb;subst hb;intro _;obtain⟨dd,hu,hd⟩:=(jF0 (yI hT ht)).2.1.und;refine UOp.pure fun w s g act hta=>⟨.tuple #[.agg a,.bool true],?_,?_⟩
   ·have he:act.eval x= .iface u (.agg a):=Opd.lit hta (HL _ _ hx);refine yK (s:=Instr.typeAssert (act.eval x) xt u true) ?_;rw[he];unfold Instr.typeAssert;simp only[Sem.run_bind,run_underlying hu w,Result.andThen_ok]
    cases dd<;>first|(simp;done)|(cases hd;done)
   ·rw[D.tv,TV.P];refine⟨[.agg a,.bool true],rfl,⟨a.toList,by simp,?_⟩,rfl,trivial⟩;have:∀l:List Value,AllV w s (D.pvs (litS l)) l:=by
     intro l;induction l with
     |nil=>rw[litS,D.pvs];trivial
     |cons v l ih=>rw[litS,D.pvs];exact⟨rfl,ih⟩
    exact this a.toList
  ·trivial
 ·trivial
omit hT in
theorem evPanic_ok(x:Operand):(kM0 (look x)).Ok P E ⟨dst,.panic x,ty,pos,aft,gd⟩ tm ow nx:=by
 unfold kM0;split
 ·rename_i t v hx;intro hE w s g a K Q ht hg _ hQ;have he:a.eval x= .iface t v:=Opd.lit ht (HL _ _ hx);unfold Oper.wp;have hr:(execOp a.eval ⟨dst,.panic x,ty,pos,aft,gd⟩).run P w= .halt (.panic (.iface t v)) w:=by
   show(do pure (Next.value (<-Instr.panic (a.eval x))):Sem Next).run P w=_;rw[he,Sem.run_bind,run_panic_iface];rfl
  rw[hr];exact hQ _ w s hE (Pst.refl hg.lt)
 ·trivial
theorem evCore_ok(op:Op):(bX T fl nx look ow op).Ok P E ⟨dst,op,ty,pos,aft,gd⟩ tm ow nx:=by
 unfold bX;split
 ·exact(xG0 HL _).1
 ·exact(xG0 HL _).2
 ·exact evBox_ok HL _ _
 ·exact evAlloc_ok hT _
 ·rename_i t parts;have:=evBuild_ok (E:=E) (dst:=dst) (ty:=ty) (pos:=pos) (aft:=aft) (gd:=gd) (ow:=ow) (nx:=nx) hT HL t parts.toList;simpa using this
 ·rename_i t len parts;have:=evBuildSlice_ok (E:=E) (fl:=fl) (dst:=dst) (ty:=ty) (pos:=pos) (aft:=aft) (gd:=gd) (ow:=ow) (nx:=nx) hT HL t len parts.toList;simpa using this
 ·exact evLoad_ok hT HL _ _
 ·exact evStore_ok hT HL _ _ _
 ·exact evFieldAddr_ok hT HL _ _ _
 ·split
  ·exact evIndexX_ok hT HL _ _ _
  ·exact evIndexAddr_ok hT HL _ _ _
 ·exact evIndex_ok hT HL _ _ _
 ·split
  ·unfold vK1;split
   ·rename_i k n k' m hx hy;have hx:=HL _ _ hx;have hy:=HL _ _ hy;split
    ·rename_i hk;have hk:=wM hk;subst hk;split
     ·intro _;exact uC1 hx hy
     ·intro _;exact uA1 hx hy
     ·intro _;exact uB1 hx hy
     ·trivial
    ·trivial
   ·trivial
  ·exact evBin_ok hT HL _ _ _ _ _
 ·exact evUn_ok HL _ _ _
 ·split
  ·exact evToStr_ok hT HL _ _ _
  ·split
   ·exact evBytesM_ok hT HL _ _ _
   ·exact evConvert_ok hT HL _ _ _
 ·exact evExtract_ok HL _ _
 ·exact evSlice_ok hT HL _ _ _ _
 ·exact evField_ok hT HL _ _ _
 ·exact evCall_ok hT HL _
 ·exact evMake_ok hT HL _ _ _
 ·rename_i f first xs;unfold vJ1;split
  ·rename_i f' hf;split
   ·rename_i r hr hlt;intro _;obtain⟨h1,h2⟩:=kK HL hr;have hfirst:first= #[]:=by
     apply Di.1;rw[hf]
    subst hfirst;have:=u_makeFunc (P:=P) (tm:=tm) (dst:=dst) (ty:=ty) (pos:=pos) (aft:=aft) (gd:=gd) (f:=f') (xs:=xs.toList) (l:=D.tvl r) (Ax hlt) fun w s g a ht=>cL ht h1 h2;rw[D.tv];simpa using this
   ·trivial
  ·rename_i f' x l hf;split
   ·rename_i hxs;split
    ·rename_i r hr;intro _;obtain⟨h1,h2⟩:=kK HL hr;have hx:xs= #[]:=by
      apply Di.1;rw[hxs]
     subst hx;have hfirst:first=(x::l).toArray:=by
      apply Di.1;rw[hf]
     subst hfirst;have:=u_makeFuncB (P:=P) (tm:=tm) (dst:=dst) (ty:=ty) (pos:=pos) (aft:=aft) (gd:=gd) (f:=f') (xs:=x::l) (l:=D.tvl r) fun w s g a ht=>cL ht h1 h2;rw[D.tv];exact this
    ·trivial
   ·trivial
  ·trivial
 ·exact evNil_ok HL _
 ·exact evMkMap_ok _
 ·exact evLookup_ok hT HL _ _ _ _
 ·exact zS0 hT HL _ _ _ _ (.inl rfl)
 ·exact zS0 hT HL _ _ _ _ (.inr rfl)
 ·unfold yD1;split
  ·rename_i b hs hx;intro _;exact u_rangeStr nx (xG (yI hT hs)).2.1 (HL _ _ hx)
  ·trivial
 ·unfold yF1;split
  ·rename_i k hx;split
   ·rename_i hk;intro _;exact⟨_,hk,u_nextNil (HL _ _ hx)⟩
   ·rename_i q c l hk;intro _;exact⟨_,hk,u_nextCons (HL _ _ hx)⟩
   ·trivial
  ·trivial
 ·exact evIface_ok hT HL _ _
 ·exact evPanic_ok HL _
 ·exact evAssert_ok hT HL _ _ _
 ·trivial
end
end Go.Proofs.YtammfbdgjnkolaaGreatDoor
