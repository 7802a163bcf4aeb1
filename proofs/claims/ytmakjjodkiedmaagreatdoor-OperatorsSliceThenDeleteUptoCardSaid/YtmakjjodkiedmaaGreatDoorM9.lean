/-Part 9 of the proof. -/
import Derived.Test.YtmakjjodkiedmaaGreatDoorM7
import Derived.Test.YtmakjjodkiedmaaGreatDoorM8
namespace Go.Proofs.YtmakjjodkiedmaaGreatDoor
open Go.RowKit
inductive Fl
 |n
 |o
 |g
inductive R1:Type 1
 |u (ps:List Prop) (out:D)
 |r (k:Nat) (ps:List Prop) (out:D)
 |w (k:Nat) (c':DOwn) (ps:List Prop) (out:D)
 |n (c':DOwn) (ps:List Prop) (out:D)
 |c (f:FuncId) (args:List D)
 |co (f:FuncId) (args:List D)
 |cl (f:FuncId) (args:List D) (acc:List (Nat×DOwn)) (ps:List Prop)
 |g (f:FuncId) (args:List D) (ks:List Nat) (lown:List DOwn)
 |ix (rows:List (List D)) (n:Int)
 |lk (j:Nat) (p:List D->Prop) (out:List D->D)
 |pn (ch:List PanicEntry)
 |bad
def deadO:DOwn:= .box 0 [.op PV.no]
def R1.Ok(P:Program)(E:Pn)(o:Oper)(tm:List (Nat×TV))(ow:Nat->Option DOwn)(nx:Nat):R1->Prop
 | .u ps out=>AllP ps->UOp P o tm [] out.tv []
 | .r k ps out=>AllP ps->∃c,ow k=some c/\UOp P o tm [(k,c.o)] out.tv [(k,c.o)]
 | .w k c' ps out=>AllP ps->∃c,ow k=some c/\UOp P o tm [(k,c.o)] out.tv [(k,c'.o)]
 | .n c' ps out=>AllP ps->UOp P o tm [] out.tv [(nx,c'.o)]
 | .c f args=>∀out,PFun P f (D.pvs args) out->UOp P o tm [] (.pv out) []
 | .co f args=>∀e sz rows,OFun P f (D.pvs args) e sz (D.pvss rows)->UOp P o tm [] (D.own nx sz rows).tv [(nx,(DOwn.row e sz rows.length).o)]
 | .cl f args acc ps=>AllP ps->(∀x∈acc,ow x.1=some x.2)/\∀out:PV,out.str=true->PFun P f (D.pvs args) out->UOp P o tm (ows acc) (.pv out) (ows acc)
 | .g f args ks lown=>∀(out:D)(lown':List DOwn),chkG ks.length out lown'=true->GFunE P E f (D.tvl args) (ows (uE 0 lown)) out.tv (ows (uE 0 lown'))->
   ksOk nx ks=true/\(∀(i k:Nat)(d:DOwn),ks[i]?=some k->lown[i]?=some d->∃c,ow k=some c/\c.o=(d.ren (qF ks nx)).o)/\lown.length=ks.length/\UOpE P E o tm (ows (updG ks nx 0 lown)) (out.ren (qF ks nx)).tv (ows (updG ks nx 0 lown'))
 | .lk j p out=>∀row,p row->∃c,ow j=some c/\UOp P o tm [(j,c.o)] (out row).tv [(j,c.o)]
 | .ix rows m=>∀row,(0<=m/\m.toNat<rows.length/\rows.getD m.toNat []=row)->UOp P o tm [] (D.pt false row).tv []
 | .pn ch=>E ch->UOpE P E o tm [] (D.v undef).tv [(nx,deadO.o)]
 | .bad=>True
theorem UOp.weaken{P:Program}{o:Oper}{tm:List (Nat×TV)}{acc acc':List (Nat×Own)}{out out':TV}(h:UOp P o tm acc out acc')(hw:∀w s g v,out.P w s g v->out'.P w s g v):UOp P o tm acc out' acc':=
 fun w s g a K Q ht hg hK=>h w s g a K Q ht hg fun w' s' g' v hv hp=>hK w' s' g' v (hw _ _ _ _ hv) hp
theorem gX:∀{l:List Prop},AllP l->∀p∈l,p
 |[],_,_,h=>by cases h
 |q::l,h,p,hp=>by
  rcases Bc.1 hp with rfl|hp
  ·exact h.1
  ·exact gX h.2 p hp
def cls(T:List (Nat×TI))(t:TypeId):Option (Option Nat):=match fnd t T with
 |some (.st n _ _)=>match Nat.beq n 0 with
  |true=>none
  |false=>some (some n)
 |some (.ar n _ _ _ _)=>some (some n)
 |some (.fl _)=>none
 |some _=>some none
 |none=>none
theorem ti_oneT{P:Program}{t:TypeId}{ti:TI}(h:tiB P t ti=true)(hn:∀n zs pl,ti≠ .st n zs pl)(hn':∀ts,ti≠ .fl ts)(hn'':∀n c q e zs,ti≠ .ar n c q e zs):OneT P t:=by
 cases ti with
 |int k=>exact(xV h).1
 |bool=>exact(bG h).1
 |str=>exact(vG h).1
 |sl e sz=>exact(wF h).1
 |st n zs pl=>exact absurd rfl (hn n zs pl)
 |one z=>exact(tY h).1
 |fl ts=>exact absurd rfl (hn' ts)
 |ar n c q e zs=>exact absurd rfl (hn'' n c q e zs)
 |mp ag zs=>exact(kW0 h).1
section
variable{P:Program}{E:Pn}{T:List (Nat×TI)}(hT:wC P T=true)
include hT
theorem vZ{t:TypeId}(h:cls T t=some none):OneT P t:=by
 unfold cls at h
 cases hf:fnd t T with
 |none=>rw[hf]at h;simp at h
 |some ti=>
  have hn':∀ts,ti≠ .fl ts:=fun ts e=>by rw[hf,e]at h;simp at h
  refine ti_oneT (yC hT hf hn') (fun n zs pl e=>?_) hn' fun n c q e' zs e=>?_
  ·rw[hf,e]at h;have h:(match Nat.beq n 0 with|true=>none|false=>some (some n))=some none:=h
   cases hb:Nat.beq n 0<;>rw[hb]at h<;>cases h
  ·rw[hf,e]at h;simp at h
theorem jY{t:TypeId}{n:Nat}(h:cls T t=some (some n)):0<n/\RowT P t n:=by
 unfold cls at h
 cases hf:fnd t T with
 |none=>rw[hf]at h;simp at h
 |some ti=>
  rw[hf]at h
  cases ti with
  |st n' zs pl=>
   have h:(match Nat.beq n' 0 with|true=>none|false=>some (some n'))=some (some n):=h
   cases hb:Nat.beq n' 0 with
   |true=>rw[hb]at h;cases h
   |false=>
    rw[hb]at h;cases h;refine⟨?_,(bF (yC hT hf)).2.1⟩;rcases(bF (yC hT hf)).1 with h0|h0
    ·exact h0
    ·subst h0;cases hb
  |ar n' c q e zs=>
   have h:some (some n')=some (some n):=h
   cases h;exact⟨(tZ (yC hT hf)).1,(tZ (yC hT hf)).2.1⟩
  |_=>cases h
end
def wW0(T:List (Nat×TI))(ow:Nat->Option DOwn)(t:TypeId)(x:Option D):R1:=
 match x with
 |some (.pt _ row)=>match cls T t with
  |some (some n)=>match kE D.flat n row with
   |some r=> .u [] (.agg r)
   |none=> .bad
  |some none=>match row with
   |d::_=>match d.flat with
    |true=> .u [] d
    |false=> .bad
   |[]=> .bad
  |none=> .bad
 |some (.bp k off)=>match ow k with
  |some (.box _ cs)=>match cls T t with
   |some (some n)=>match kE (fun _=>true) n (wD off cs)with
    |some r=> .r k [] (.agg r)
    |none=> .bad
   |some none=>match getS off cs with
    |some d=> .r k [] d
    |none=> .bad
   |none=> .bad
  |_=> .bad
 |some (.mp k n i sz o)=>match ow k with
  |some (.mrow _ z M)=>match Nat.beq z sz with
   |true=>match M.at i with
    |some row=>match cls T t with
     |some (some q)=>match kE D.flat q (wD o row)with
      |some r=> .r k ((n=M.len/\i<M.len)::M.okL i) (.agg r)
      |none=> .bad
     |some none=>match getS o row with
      |some d=>match d.flat with
       |true=> .r k ((n=M.len/\i<M.len)::M.okL i) d
       |false=> .bad
      |none=> .bad
     |none=> .bad
    |none=> .bad
   |false=> .bad
  |_=> .bad
 |_=> .bad
def uT:List D->Bool
 |[]=>true
 |d::l=>match d.one with|true=>uT l|false=>false
def bO(M:MR)(i o z:Nat)(ds:List D):Option (List D):=match Nat.beq o 0&&Nat.beq ds.length z with
 |true=>some ds
 |false=>match M.at i with
  |some row=>match Nat.beq row.length z with
   |true=>layS o ds row
   |false=>none
  |none=>none
def stP(M:MR)(i o z:Nat)(ds:List D):List Prop:=match Nat.beq o 0&&Nat.beq ds.length z with
 |true=>[]
 |false=>M.okL i
def yE0(T:List (Nat×TI))(ow:Nat->Option DOwn)(t:TypeId)(x y:Option D):R1:=
 match x with
 |some (.bp k off)=>match ow k with
  |some (.box bt cs)=>match cls T t with
   |some (some n)=>match y with
    |some (.agg l)=>match Nat.beq l.length n&&uT l with
     |true=>match layS off l cs with
      |some r=> .w k (.box bt r) [] (.v undef)
      |none=> .bad
     |false=> .bad
    |_=> .bad
   |some none=>match y with
    |some d=>match d.one with
     |true=>match layS off [d] cs with
      |some r=> .w k (.box bt r) [] (.v undef)
      |none=> .bad
     |false=> .bad
    |none=> .bad
   |none=>match fnd t T with
    |some (.st 0 _ _)=>match y with
     |some (.agg [])=>match Nat.ble off cs.length with
      |true=> .w k (.box bt cs) [] (.v undef)
      |false=> .bad
     |_=> .bad
    |_=> .bad
  |_=> .bad
 |some (.mp k n i sz o)=>match ow k with
  |some (.mrow e z M)=>match Nat.beq z sz with
   |true=>match cls T t with
    |some (some q)=>match y with
     |some (.agg l)=>match Nat.beq l.length q&&uT l&&D.pures l&&D.strL l with
      |true=>match bO M i o z l with
       |some r=> .w k (.mrow e z (.upd M i r)) ((n=M.len/\i<M.len)::stP M i o z l) (.v undef)
       |none=> .bad
      |false=> .bad
     |_=> .bad
    |some none=>match y with
     |some d=>match d.one&&d.pure&&d.str with
      |true=>match bO M i o z [d]with
       |some r=> .w k (.mrow e z (.upd M i r)) ((n=M.len/\i<M.len)::stP M i o z [d]) (.v undef)
       |none=> .bad
      |false=> .bad
     |none=> .bad
    |none=> .bad
   |false=> .bad
  |_=> .bad
 |_=> .bad
def zX0:Nat->List (Nat×Nat)->Option (Nat×Nat)
 |_,[]=>none
 |0,x::_=>some x
 |i+1,_::l=>zX0 i l
theorem bL:∀(i:Nat)(l:List (Nat×Nat)),zX0 i l=l[i]?
 |_,[]=>by simp[zX0]
 |0,x::_=>by simp[zX0]
 |i+1,_::l=>by simpa[zX0]using bL i l
def xR(T:List (Nat×TI))(t:TypeId)(x:Option D)(i:Nat):R1:=
 match fnd t T with
 |some (.st _ _ pl)=>match zX0 i pl with
  |some (off,_)=>match x with
   |some (.pt m row)=> .u [] (.pt m (wD off row))
   |some (.bp k o)=> .u [] (.bp k (o+off))
   |some (.mp k n j sz o)=> .u [] (.mp k n j sz (o+off))
   |_=> .bad
  |none=> .bad
 |_=> .bad
def xQ(T:List (Nat×TI))(t:TypeId)(x y:Option D):R1:=
 match fnd t T with
 |some (.sl _ sz)=>match y with
  |some (.v (.int _ n))=>match x with
   |some (.sl m z l f e)=>match Nat.beq z sz with
    |true=> .u [0<=n/\n.toNat<l.length] (.pt m (f (l.getD n.toNat e)))
    |false=> .bad
   |some (.slr m z rows)=>match Nat.beq z sz with
    |true=> .u [0<=n/\n.toNat<rows.length] (.pt m (rows.getD n.toNat []))
    |false=> .bad
   |some (.own _ z rows)=>match Nat.beq z sz with
    |true=> .u [0<=n/\n.toNat<rows.length] (.pt false (rows.getD n.toNat []))
    |false=> .bad
   |some (.mo k q)=> .u [0<=n/\n.toNat<q] (.mp k q n.toNat sz 0)
   |some (.mw k q i z m)=>match Nat.beq z sz with
    |true=> .u [0<=n/\n.toNat<m] (.mp k q (i+n.toNat) sz 0)
    |false=> .bad
   |_=> .bad
  |_=> .bad
 |some (.ar _ c q _ _)=>match y with
  |some (.v (.int _ n))=>match x with
   |some (.bp k off)=> .u [0<=n/\n.toNat<c] (.bp k (off+n.toNat*q))
   |some (.pt m row)=> .u [0<=n/\n.toNat<c] (.pt m (wD (n.toNat*q) row))
   |_=> .bad
  |_=> .bad
 |_=> .bad
def tC(T:List (Nat×TI))(t:TypeId)(x y:Option D):R1:=
 match fnd t T with
 |some (.sl _ sz)=>match y with
  |some (.v (.int _ n))=>match x with
   |some (.own _ z rows)=>match Nat.beq z sz with
    |true=> .ix rows n
    |false=> .bad
   |_=> .bad
  |_=> .bad
 |_=> .bad
def bAt(p:ByteArray)(i:Nat):Nat:=match p[i]? with|some c=>c.toNat|none=>0
def yK0(T:List (Nat×TI))(t:TypeId)(x y:Option D):R1:=
 match fnd t T with
 |some .str=>match x,y with
  |some (.v (.string p)),some (.v (.int _ n))=> .u [0<=n/\n.toNat<p.size] (.v (.int .u8 (bAt p n.toNat)))
  |_,_=> .bad
 |some (.ar _ c q e _)=>match x,y with
  |some (.agg l),some (.v (.int _ n))=>match cls T e with
   |some (some m)=>match kE (fun _=>true) m (wD (n.toNat*q) l)with
    |some r=> .u [0<=n/\n.toNat<c] (.agg r)
    |none=> .bad
   |some none=>match getS (n.toNat*q) l with
    |some d=> .u [0<=n/\n.toNat<c] d
    |none=> .bad
   |none=> .bad
  |_,_=> .bad
 |_=> .bad
def mN0(T:List (Nat×TI))(t:TypeId)(x:Option D):R1:=
 match fnd t T with
 |some (.sl _ sz)=>match x with
  |some (.sl _ z l _ _)=>match Nat.beq z sz with
   |true=> .u [] (.v (.int .i64 l.length))
   |false=> .bad
  |some (.mo _ n)=> .u [] (.v (.int .i64 n))
  |some (.mw _ _ _ _ n)=> .u [] (.v (.int .i64 n))
  |some (.slr _ z rows)=>match Nat.beq z sz with
   |true=> .u [] (.v (.int .i64 rows.length))
   |false=> .bad
  |some (.own _ z rows)=>match Nat.beq z sz with
   |true=> .u [] (.v (.int .i64 rows.length))
   |false=> .bad
  |some (.v (.slice _ n _))=> .u [] (.v (.int .i64 n))
  |_=> .bad
 |some .str=>match x with
  |some (.v (.string p))=> .u [] (.v (.int .i64 p.size))
  |_=> .bad
 |_=> .bad
def InI(n:Int):Prop:= -9223372036854775808<=n/\n<=9223372036854775807
def arI(k:IntKind)(n:Int):R1:=match k with
 | .i64=> .u [InI n] (.v (.int .i64 n))
 |k=> .u [] (.v (.int k (k.wrap n)))
def quI(k:IntKind)(n m:Int):R1:=match k with
 | .i64=> .u [m≠0/\InI (n.tdiv m)] (.v (.int .i64 (n.tdiv m)))
 |k=> .u [m≠0] (.v (.int k (k.wrap (n.tdiv m))))
def kP0(op:BinOp)(k:IntKind)(n m:Int):R1:=match op with
 | .lss=> .u [] (.v (.bool (decide (n<m))))
 | .leq=> .u [] (.v (.bool (decide (n<=m))))
 | .gtr=> .u [] (.v (.bool (decide (m<n))))
 | .geq=> .u [] (.v (.bool (decide (m<=n))))
 | .eql=> .u [] (.v (.bool (decide (n=m))))
 | .neq=> .u [] (.v (.bool (!decide (n=m))))
 | .add=>arI k (n+m)
 | .sub=>arI k (n-m)
 | .mul=>arI k (n*m)
 | .quo=>quI k n m
 | .rem=> .u [m≠0] (.v (.int k (n.tmod m)))
 | .shr=> .u [0<=m] (.v (.int k (n.fdiv (2^(min m.toNat k.bits)))))
 | .shl=> .u [0<=m] (.v (.int k (k.wrap (n*2^(min m.toNat k.bits)))))
 | .and=> .u [] (.v (.int k (bAnd k n m)))
 | .or=> .u [] (.v (.int k (bOr k n m)))
 | .xor=> .u [] (.v (.int k (bXor k n m)))
 | .andNot=> .u [] (.v (.int k (mR0 k n m)))
def mQ0(T:List (Nat×TI))(op:BinOp)(t:TypeId)(x y:Option D):R1:=
 match x,y with
 |some (.v (.int k n)),some (.v (.int k' m))=>match kEq k k' with
  |true=>kP0 op k n m
  |false=>match op with
   | .shr=> .u [0<=m] (.v (.int k (n.fdiv (2^(min m.toNat k.bits)))))
   | .shl=> .u [0<=m] (.v (.int k (k.wrap (n*2^(min m.toNat k.bits)))))
   |_=> .bad
 |some (.v (.bool n)),some (.v (.bool m))=>match fnd t T with
  |some .bool=>match op with
   | .eql=> .u [] (.v (.bool (n==m)))
   | .neq=> .u [] (.v (.bool (n !=m)))
   |_=> .bad
  |_=> .bad
 |some (.v (.string p)),some (.v (.string q))=>match op with
  | .eql=> .u [] (.v (.bool (decide (p=q))))
  | .neq=> .u [] (.v (.bool (!decide (p=q))))
  | .add=> .u [p.size+q.size<=9223372036854775807] (.v (.string (p++q)))
  | .lss=> .u [] (.v (.bool (sLt p q)))
  | .geq=> .u [] (.v (.bool (!sLt p q)))
  |_=> .bad
 |_,_=> .bad
def uR0:Nat->List (TypeId×Nat)->Option (TypeId×Nat)
 |_,[]=>none
 |0,x::_=>some x
 |i+1,_::l=>uR0 i l
theorem jG0:∀(i:Nat)(l:List (TypeId×Nat)),uR0 i l=l[i]?
 |_,[]=>by simp[uR0]
 |0,x::_=>by simp[uR0]
 |i+1,_::l=>by simpa[uR0]using jG0 i l
def yM0(T:List (Nat×TI))(t:TypeId)(x:Option D)(i:Nat):R1:=
 match fnd (2000000+t) T with
 |some (.fl ts)=>match uR0 i ts with
  |some (ft,off)=>match x with
   |some (.agg l)=>match cls T ft with
    |some (some n)=>match kE (fun _=>true) n (wD off l)with
     |some r=> .u [] (.agg r)
     |none=> .bad
    |some none=>match getS off l with
     |some d=> .u [] d
     |none=> .bad
    |none=> .bad
   |_=> .bad
  |none=> .bad
 |_=> .bad
def evUn(op:UnOp)(x:Option D):R1:=match op,x with
 | .not,some (.v (.bool b))=> .u [] (.v (.bool (!b)))
 | .neg,some (.v (.int k n))=> .u [] (.v (.int k (k.wrap (0-n))))
 | .xor,some (.v (.int k n))=> .u [] (.v (.int k (bNot k n)))
 |_,_=> .bad
def u8D(b:UInt8):List D:=[.v (.int .u8 b.toNat)]
def i32D(c:Int):List D:=[.v (.int .i32 c)]
def pS(T:List (Nat×TI))(src dt:TypeId)(x:Option D):R1:=
 match fnd src T,fnd dt T,x with
 |some (.int _),some (.int k'),some (.v (.int _ n))=> .u [] (.v (.int k' (k'.wrap n)))
 |some .str,some (.sl e _),some (.v (.string p))=>match fnd e T with
  |some (.int k)=>match kEq k .u8 with
   |true=> .u [p.size<=1073741824] (.sl false 1 p.data.toList u8D 0)
   |false=>match kEq k .i32 with
    |true=> .u [p.size<=1073741824] (.sl false 1 (ruL p) i32D 0)
    |false=> .bad
  |_=> .bad
 |_,_,_=> .bad
def pR(x:Option D)(i:Nat):R1:=match x with
 |some (.tup l)=>match getS i l with
  |some d=>match d.flat with
   |true=> .u [] d
   |false=> .bad
  |none=> .bad
 |some (.tpo l)=>match getS i l with
  |some d=> .u [] d
  |none=> .bad
 |_=> .bad
def gL(look:Operand->Option D)(x:Option Operand)(dflt:Int):Option Int:=match x with
 |none=>some dflt
 |some o=>match look o with
  |some (.v (.int _ n))=>some n
  |_=>none
def yF0(T:List (Nat×TI))(look:Operand->Option D)(t:TypeId)(x:Operand)(lo hi:Option Operand):R1:=
 match fnd t T with
 |some (.sl _ sz)=>match look x with
  |some (.sl m z l f e)=>match Nat.beq z sz with
   |true=>match gL look lo 0,gL look hi l.length with
    |some a,some b=> .u [0<=a/\a<=b/\b<=l.length] (.sl m z ((l.drop a.toNat).take (b.toNat-a.toNat)) f e)
    |_,_=> .bad
   |false=> .bad
  |some (.slr m z rows)=>match Nat.beq z sz with
   |true=>match gL look lo 0,gL look hi rows.length with
    |some a,some b=> .u [0<=a/\a<=b/\b<=rows.length] (.slr m z ((rows.drop a.toNat).take (b.toNat-a.toNat)))
    |_,_=> .bad
   |false=> .bad
  |some (.own _ z rows)=>match Nat.beq z sz with
   |true=>match gL look lo 0,gL look hi rows.length with
    |some a,some b=> .u [0<=a/\a<=b/\b<=rows.length] (.slr false z ((rows.drop a.toNat).take (b.toNat-a.toNat)))
    |_,_=> .bad
   |false=> .bad
  |some (.mo k q)=>match gL look lo 0,gL look hi q with
   |some a,some b=> .u [0<=a/\a<=b/\b<=q/\a<q] (.mw k q a.toNat sz (b.toNat-a.toNat))
   |_,_=> .bad
  |some (.mw k q i z n)=>match Nat.beq z sz with
   |true=>match gL look lo 0,gL look hi n with
    |some a,some b=> .u [0<=a/\a<=b/\b<=n/\i+a.toNat<q] (.mw k q (i+a.toNat) sz (b.toNat-a.toNat))
    |_,_=> .bad
   |false=> .bad
  |_=> .bad
 |some .str=>match look x with
  |some (.v (.string p))=>match gL look lo 0,gL look hi p.size with
   |some a,some b=> .u [0<=a/\a<=b/\b<=p.size] (.v (.string (p.extract a.toNat b.toNat)))
   |_,_=> .bad
  |_=> .bad
 |some (.ar _ c q _ _)=>match look x,lo,hi with
  |some (.pt false row),none,none=>match Nat.beq row.length (c*q),Nat.ble c 1000000,D.strL row with
   |true,true,true=> .u [] (.slf q (chkS q c row))
   |_,_,_=> .bad
  |_,_,_=> .bad
 |_=> .bad
def mP0(nx:Nat)(t:TypeId)(x:Option D):R1:=match x with
 |some (.agg l)=>match uT l with
  |true=> .n (.box t l) [] (.bp nx 0)
  |false=> .bad
 |some d=>match d.one with
  |true=> .n (.box t [d]) [] (.bp nx 0)
  |false=> .bad
 |none=> .bad
theorem kU:∀{l:List D},uT l=true->∀d∈l,d.one=true
 |[],_,_,h=>by cases h
 |e::l,h,d,hd=>by
  unfold uT at h
  cases he:e.one with
  |false=>rw[he]at h;simp at h
  |true=>
   rw[he]at h;rcases Bc.1 hd with rfl|hd
   ·exact he
   ·exact kU h d hd
theorem vB0{l:List D}(h:uT l=true):∀d∈D.tvl l,d.one=true:=by
 intro d hd;rw[qH]at hd;obtain⟨e,he,rfl⟩:=Bu.1 hd;exact D.tv_one (kU h e he)
theorem InI.wrap{n:Int}(h:InI n):IntKind.i64.wrap n=n:=by
 obtain⟨h1,h2⟩:=h;show(if(true&&decide (n%18446744073709551616≥9223372036854775808))=true then n%18446744073709551616-18446744073709551616 else n%18446744073709551616)=n;simp only[Bool.true_and,Ai];split<;>omega
section
variable{P:Program}{E:Pn}{tm:List (Nat×TV)}{ow:Nat->Option DOwn}{nx:Nat}{dst:Option Tmp}{ty:TypeId}{pos:String}{aft:Array Edge}{gd:Option (Nat×Bool)}
theorem xM0{o:Oper}{k:IntKind}{n:Int}(h:UOp P o tm [] (.pv (PV.lit (.int k (k.wrap n)))) []):(arI k n).Ok P E o tm ow nx:=by
 unfold arI;split
 ·rintro⟨h1,_⟩;rw[h1.wrap]at h;exact h
 ·intro _;exact h
theorem quI_ok{o:Oper}{k:IntKind}{n m:Int}(h:m≠0->UOp P o tm [] (.pv (PV.lit (.int k (k.wrap (n.tdiv m))))) []):(quI k n m).Ok P E o tm ow nx:=by
 unfold quI;split
 ·rintro⟨⟨h0,h1⟩,_⟩;have:=h h0;rw[h1.wrap]at this;exact this
 ·rintro⟨h0,_⟩;exact h h0
theorem gN0{x y:Operand}{t u:TypeId}{k:IntKind}{n m:Int}(hx:Opd tm x (.pv (PV.lit (.int k n))))(hy:Opd tm y (.pv (PV.lit (.int k m)))):UOp P ⟨dst,.binOp .add t x y u,ty,pos,aft,gd⟩ tm [] (.pv (PV.lit (.int k (k.wrap (n+m))))) []:=
 UOp.two hx hy fun ρ w h1 h2=>by simp[execOp,h1,h2,go_sem]
theorem gL0{x y:Operand}{t u:TypeId}{k:IntKind}{n m:Int}(hx:Opd tm x (.pv (PV.lit (.int k n))))(hy:Opd tm y (.pv (PV.lit (.int k m)))):UOp P ⟨dst,.binOp .sub t x y u,ty,pos,aft,gd⟩ tm [] (.pv (PV.lit (.int k (k.wrap (n-m))))) []:=
 UOp.two hx hy fun ρ w h1 h2=>by simp[execOp,h1,h2,go_sem]
theorem gM0{x y:Operand}{t u:TypeId}{k:IntKind}{n m:Int}(hx:Opd tm x (.pv (PV.lit (.int k n))))(hy:Opd tm y (.pv (PV.lit (.int k m)))):UOp P ⟨dst,.binOp .mul t x y u,ty,pos,aft,gd⟩ tm [] (.pv (PV.lit (.int k (k.wrap (n*m))))) []:=
 UOp.two hx hy fun ρ w h1 h2=>by simp[execOp,h1,h2,go_sem]
end
section
variable{P:Program}{E:Pn}{tm:List (Nat×TV)}{ow:Nat->Option DOwn}{nx:Nat}{look:Operand->Option D}(HL:∀x d,look x=some d->Opd tm x d.tv)
 {dst:Option Tmp} {ty:TypeId} {pos:String} {aft:Array Edge} {gd:Option (Nat×Bool)}
include HL
theorem evUn_ok(op:UnOp)(t:TypeId)(x:Operand):(evUn op (look x)).Ok P E ⟨dst,.unOp op t x,ty,pos,aft,gd⟩ tm ow nx:=by
 unfold evUn;split
 ·rename_i b hx;intro _;exact u_not (HL x _ hx)
 ·rename_i k n hx;intro _;exact u_neg (HL x _ hx)
 ·rename_i k n hx;intro _;exact u_compl (HL x _ hx)
 ·trivial
theorem evExtract_ok(x:Operand)(i:Nat):(pR (look x) i).Ok P E ⟨dst,.extract x i,ty,pos,aft,gd⟩ tm ow nx:=by
 unfold pR;split
 ·rename_i l hx;split
  ·rename_i d hd;split
   ·rename_i hf;intro _;rw[vT]at hd;exact(u_extract (l:=D.pvs l) (d:=d.pv) (HL x _ hx) (bK hd)).weaken fun w s g v hv=>D.ofPV hf hv
   ·trivial
  ·trivial
 ·rename_i l hx;split
  ·rename_i d hd;intro _;rw[vT]at hd;have hx:=HL x _ hx;rw[D.tv]at hx;exact u_extractT hx (by rw[qH];simp[hd])
  ·trivial
 ·trivial
theorem jL{x:Option Operand}{d n:Int}(h:gL look x d=some n):Bnd tm x d n:=by
 unfold gL at h
 cases x with
 |none=>simp at h;exact h.symm
 |some o=>
  simp only at h;split at h
  ·rename_i k m hm
   cases h;exact⟨k,HL o _ hm⟩
  ·cases h
end
section
variable{P:Program}{E:Pn}{T:List (Nat×TI)}(hT:wC P T=true){tm:List (Nat×TV)}{ow:Nat->Option DOwn}{nx:Nat}{look:Operand->Option D}(HL:∀x d,look x=some d->Opd tm x d.tv)
 {dst:Option Tmp} {ty:TypeId} {pos:String} {aft:Array Edge} {gd:Option (Nat×Bool)}
include hT HL
theorem evLoad_ok(t:TypeId)(x:Operand):(wW0 T ow t (look x)).Ok P E ⟨dst,.load t x,ty,pos,aft,gd⟩ tm ow nx:=by
 unfold wW0;split
 ·rename_i mm row hx;have hx:=HL x _ hx;split
  ·rename_i n hc;split
   ·rename_i r hr;obtain⟨h1,h2,h3⟩:=jQ hr;intro _;refine(u_loadPR (n:=n) (row:=D.pvs row) (jY hT hc).2 hx (by rw[jF];exact h1)).weaken fun w s g v hv=>?_;subst h3;rw[<-bJ]at hv;exact D.ofPV (d:= .agg (row.take n)) (by rw[D.flat];exact pL h2) hv
   ·trivial
  ·rename_i hc;split
   ·rename_i d _ _;split
    ·rename_i hd;intro _;exact(u_loadP1 (d:=d.pv) (vZ hT hc) hx (by rw[D.pvs];rfl)).weaken fun w s g v hv=>D.ofPV hd hv
    ·trivial
   ·trivial
  ·trivial
 ·rename_i k off hx;have hx:=HL x _ hx;split
  ·rename_i bt cs hk;split
   ·rename_i n hc;split
    ·rename_i r hr;obtain⟨h1,_,h3⟩:=jQ hr;rw[jX]at h1 h3;simp only[Ay]at h1;intro _;refine⟨_,hk,?_⟩;subst h3;have:=u_loadBR (P:=P) (tm:=tm) (dst:=dst) (ty:=ty) (pos:=pos) (aft:=aft) (gd:=gd) (x:=x) (bt:=bt) (cs:=D.tvl cs) (jY hT hc).2 hx (by have:=(jY hT hc).1;rw[qU];omega);simpa[DOwn.o,D.tv,qH,Cy,Cv]using this
    ·trivial
   ·rename_i hc;split
    ·rename_i d hd;rw[vT]at hd;intro _;exact⟨_,hk,u_loadB1 (vZ hT hc) hx (by rw[qH];simp[hd])⟩
    ·trivial
   ·trivial
  ·trivial
 ·rename_i k n i sz o hx;have hx:=HL x _ hx;rw[D.tv]at hx;split
  ·rename_i e z M hk;split
   ·rename_i hz;have hz:=Ab hz;subst hz;split
    ·rename_i row hrow;have hlen:(D.pvss M.rows).length=M.len:=by rw[yI,MR.len_rows]
     have hat:i<M.len->(∀p∈M.okL i,p)->(D.pvss M.rows)[i]?=some (D.pvs row):=fun hi hok=>by rw[yJ,Bf,MR.at_rows hrow hi hok];rfl
     split
     ·rename_i q hc;split
      ·rename_i r hr;obtain⟨h1,h2,h3⟩:=jQ hr;rw[jX]at h1 h3;simp only[Ay]at h1;rintro⟨⟨hn,hi⟩,hok⟩;refine⟨_,hk,?_⟩;refine(u_loadMpR (m:=q) (rows:=D.pvss M.rows) (row:=D.pvs row) (jY hT hc).2 hx (by rw[hlen];exact hn) (hat hi (gX hok)) (by have:=(jY hT hc).1;rw[jF];omega)).weaken fun w s g v hv=>?_;subst h3;rw[<-gB,<-bJ]at hv;exact D.ofPV (d:= .agg ((row.drop o).take q)) (by rw[D.flat];exact pL h2) hv
      ·trivial
     ·rename_i hc;split
      ·rename_i d hd;rw[vT]at hd;split
       ·rename_i hf;rintro⟨⟨hn,hi⟩,hok⟩;refine⟨_,hk,?_⟩;exact(u_loadMp1 (d:=d.pv) (rows:=D.pvss M.rows) (row:=D.pvs row) (vZ hT hc) hx (by rw[hlen];exact hn) (hat hi (gX hok)) (bK hd)).weaken fun w s g v hv=>D.ofPV hf hv
       ·trivial
      ·trivial
     ·trivial
    ·trivial
   ·trivial
  ·trivial
 ·trivial
omit hT HL in
mutual
theorem D.str_pure(d:D)(h:d.str=true):d.pure=true:=by
 match d,h with
 | .v _,_=>rfl
 | .agg l,h=>rw[D.str]at h;rw[D.pure];exact D.strL_pures l h
 | .clo _ l,h=>rw[D.str]at h;rw[D.pure];exact D.strL_pures l h
 | .tup _,_=>rfl
 | .sl _ _ _ _ _,_=>rfl
 | .slr _ _ _,_=>rfl
 | .slf _ _,_=>rfl
 | .pt _ _,_=>rfl
 | .own _ _ _,_=>rfl
 | .op _,_=>rfl
 | .gd _ (.bp _ _),h=>rw[D.str,D.str]at h;cases h
 | .gd _ (.mo _ _),h=>rw[D.str,D.str]at h;cases h
 | .gd _ (.mp _ _ _ _ _),h=>rw[D.str,D.str]at h;cases h
 | .gd _ (.mk _),h=>rw[D.str,D.str]at h;cases h
 | .gd _ (.v _),_=>rfl
 | .gd _ (.agg _),_=>rfl
 | .gd _ (.tup _),_=>rfl
 | .gd _ (.sl _ _ _ _ _),_=>rfl
 | .gd _ (.slr _ _ _),_=>rfl
 | .gd _ (.slf _ _),_=>rfl
 | .gd _ (.pt _ _),_=>rfl
 | .gd _ (.own _ _ _),_=>rfl
 | .gd _ (.op _),_=>rfl
 | .gd _ (.gd _ _),_=>rfl
 | .gd _ (.clo _ _),_=>rfl
 | .gd _ (.tpo _),_=>rfl
 | .bp _ _,h=>rw[D.str]at h;cases h
 | .mo _ _,h=>rw[D.str]at h;cases h
 | .mp _ _ _ _ _,h=>rw[D.str]at h;cases h
 | .mk _,h=>rw[D.str]at h;cases h
 | .mw _ _ _ _ _,h=>rw[D.str]at h;cases h
 | .tpo _,h=>rw[D.str]at h;cases h
theorem D.strL_pures(l:List D)(h:D.strL l=true):D.pures l=true:=by
 match l,h with
 |[],_=>rfl
 |d::l,h=>
  rw[D.strL]at h;rw[D.pures]
  cases hd:d.str with
  |false=>rw[hd]at h;cases h
  |true=>rw[hd]at h;rw[D.str_pure d hd];exact D.strL_pures l h
end
omit hT HL in
theorem vQ0:∀{l:List D},uT l=true->D.strL l=true->∀d∈D.pvs l,d.one=true
 |[],_,_,d,hd=>by rw[D.pvs]at hd;cases hd
 |e::l,h,hs,d,hd=>by
  unfold uT at h;rw[D.strL]at hs
  cases he:e.one with
  |false=>rw[he]at h;cases h
  |true=>
   rw[he]at h
   cases hs':e.str with
   |false=>rw[hs']at hs;cases hs
   |true=>
    rw[hs']at hs;rw[D.pvs]at hd;rcases Bc.1 hd with rfl|hd
    ·exact D.pv_one he (D.str_pure e hs')
    ·exact vQ0 h hs d hd
omit hT HL in
theorem jJ0{t:TypeId}{x y:Operand}{k n i z o:Nat}{e:TypeId}{M:MR}{ds r:List D}(hsz:(P.info? t).map (·.size)=some ds.length)(hx:Opd tm x (.mp k n (i*z+o)))(hn:n=M.len)(hi:i<M.len)(hok:∀p∈stP M i o z ds,p)(hr:bO M i o z ds=some r)(h1:uT ds=true)(hs:D.strL ds=true)
  (hy:∀w s g a,qW w s g tm a->AllV w s (D.pvs ds) (a.eval y).cells.toList):
  UOp P ⟨dst,.store t x y,ty,pos,aft,gd⟩ tm [(k,(DOwn.mrow e z M).o)] (D.v undef).tv [(k,(DOwn.mrow e z (.upd M i r)).o)]:=by
 have hlen:(D.pvss M.rows).length=M.len:=by rw[yI,MR.len_rows]
 have hset:∀r:List D,(DOwn.mrow e z (.upd M i r)).o= .mrow e z ((D.pvss M.rows).set i (D.pvs r)):=fun r=>by
  show Own.mrow e z (D.pvss (M.rows.set i r))=_;rw[yJ,yJ,List.map_set]
 have hpl:(D.pvs ds).length=ds.length:=jF ds;obtain⟨row,hrow⟩:∃row,(D.pvss M.rows)[i]?=some row:=⟨_,Af (by rw[hlen];exact hi)⟩;rw[hset];intro w s g a K Q ht hg hK;obtain⟨hno,v0,hv0,hcase⟩:=hg.one;have hz:row.length=z/\o+ds.length<=z/\row.take o++D.pvs ds++row.drop (o+(D.pvs ds).length)=D.pvs r:=by
  have hrz:row.length=z:=by
   rcases hcase with⟨_,h0⟩|⟨G,cap,vs,rest,_,_,_,_,_,_,h6,_⟩
   ·rw[h0]at hrow;simp at hrow
   ·exact h6.1 row (Aw hrow)
  refine⟨hrz,?_⟩;unfold bO at hr;unfold stP at hok
  cases hf:Nat.beq o 0&&Nat.beq ds.length z with
  |true=>
   rw[hf]at hr;simp only[Ah]at hf;have h3:=Ab hf.1;have h4:=Ab hf.2;have h5:ds=r:=Option.some.inj hr;subst h5;subst h3;refine⟨by omega,?_⟩;rw[hpl,Bv,List.take_zero,Dh,Bq om,Ca]
  |false=>
   rw[hf]at hr hok;simp only at hr hok
   cases ha:M.at i with
   |none=>rw[ha]at hr;cases hr
   |some row'=>
    rw[ha]at hr;simp only at hr
    cases hb:Nat.beq row'.length z with
    |false=>rw[hb]at hr;cases hr
    |true=>
     rw[hb]at hr;obtain⟨g1,g2⟩:=vH hr;have hb:=Ab hb;have:row=D.pvs row':=by
      have h2:(D.pvss M.rows)[i]?=some (D.pvs row'):=by rw[yJ,Bf,MR.at_rows ha hi hok];rfl
      rw[hrow]at h2;exact Option.some.inj h2
     refine⟨by omega,?_⟩;rw[g2,dO,dO,bJ,gB,this,hpl]
 obtain⟨hrz,hlo,heq⟩:=hz;have:=storeM_core (P:=P) (tm:=tm) (dst:=dst) (ty:=ty) (pos:=pos) (aft:=aft) (gd:=gd) (x:=x) (y:=y) (e:=e) (ds:=D.pvs ds) (by rw[hpl];exact hsz) hx (by rw[hlen];exact hn) hrow (by rw[hpl,hrz];exact hlo) (vQ0 h1 hs) (D.strL_pv ds hs) hy;rw[heq]at this;exact this w s g a K Q ht hg hK
theorem evStore_ok(t:TypeId)(x y:Operand):(yE0 T ow t (look x) (look y)).Ok P E ⟨dst,.store t x y,ty,pos,aft,gd⟩ tm ow nx:=by
 unfold yE0;split
 ·rename_i k off hx;have hx:=HL x _ hx;split
  ·rename_i bt cs hk;split
   ·rename_i n hc;split
    ·rename_i l hy;have hy:=HL y _ hy;split
     ·rename_i hb;simp only[Ah]at hb;split
      ·rename_i r hr;obtain⟨h1,h2⟩:=vH hr;intro _;refine⟨_,hk,?_⟩;have hn:=Ab hb.1;have hy':Opd tm y (.agg (D.tvl l)):=by rw[D.tv]at hy;exact hy
       have:=tU (P:=P) (tm:=tm) (dst:=dst) (ty:=ty) (pos:=pos) (aft:=aft) (gd:=gd) (x:=x) (y:=y) (bt:=bt) (cs:=D.tvl cs) (jY hT hc).2 hx hy' (by rw[qU];exact hn) (by rw[qU];omega) (vB0 hb.2);subst h2;subst hn;simpa[DOwn.o,D.tv,D.pv,qH,Cy,Cv]using this
      ·trivial
     ·trivial
    ·trivial
   ·rename_i hc;split
    ·rename_i d hy;have hy:=HL y _ hy;split
     ·rename_i hd;split
      ·rename_i r hr;obtain⟨h1,h2⟩:=vH hr;intro _;refine⟨_,hk,?_⟩;have:=u_storeB1 (P:=P) (tm:=tm) (dst:=dst) (ty:=ty) (pos:=pos) (aft:=aft) (gd:=gd) (x:=x) (y:=y) (bt:=bt) (cs:=D.tvl cs) (vZ hT hc) hx hy (by rw[qU];simpa using h1) (D.tv_one hd);subst h2;simpa[DOwn.o,D.tv,D.pv,qH,Cy,Cv]using this
      ·trivial
     ·trivial
    ·trivial
   ·split
    ·rename_i hf;split
     ·rename_i hy;have hy:=HL y _ hy;split
      ·rename_i hb;intro _;refine⟨_,hk,?_⟩;have hn:=An hb;have hy':Opd tm y (.agg []):=by rw[D.tv]at hy;exact hy
       have:=tU (P:=P) (tm:=tm) (dst:=dst) (ty:=ty) (pos:=pos) (aft:=aft) (gd:=gd) (x:=x) (y:=y) (bt:=bt) (cs:=D.tvl cs) (bF (yC hT hf)).2.1 hx hy' rfl (by rw[qU];omega) (fun _ h=>by cases h);simpa[DOwn.o,D.tv,D.pv,qH,Cy,Cv]using this
      ·trivial
     ·trivial
    ·trivial
  ·trivial
 ·rename_i k n i sz o hx;have hx:=HL x _ hx;rw[D.tv]at hx;split
  ·rename_i e z M hk;split
   ·rename_i hz;have hz:=Ab hz;subst hz;have hlen:(D.pvss M.rows).length=M.len:=by rw[yI,MR.len_rows]
    split
    ·rename_i q hc;split
     ·rename_i l hy;have hy:=HL y _ hy;split
      ·rename_i hb;simp only[Ah]at hb;obtain⟨⟨⟨hb1,hb2⟩,hb3⟩,hb4⟩:=hb;have hq:=Ab hb1;split
       ·rename_i r hr;rintro⟨⟨hn,hi⟩,hok⟩;refine⟨_,hk,jJ0 (ds:=l) (by rw[hq];exact(jY hT hc).2.size) hx hn hi (gX hok) hr hb2 hb4 fun w s g a ht=>?_⟩;rw[D.tv]at hy;have:=Opd.eval ht hy;rw[TV.P]at this;obtain⟨vs,h1,h2⟩:=this;rw[h1];exact AllT.weakS (D.toPVs hb3) h2
       ·trivial
      ·trivial
     ·trivial
    ·rename_i hc;split
     ·rename_i d hy;have hy:=HL y _ hy;split
      ·rename_i hb;simp only[Ah]at hb;obtain⟨⟨hb1,hb2⟩,hb3⟩:=hb;split
       ·rename_i r hr;rintro⟨⟨hn,hi⟩,hok⟩;refine⟨_,hk,jJ0 (ds:=[d]) (vZ hT hc).size hx hn hi (gX hok) hr (by unfold uT;rw[hb1];rfl) (by rw[D.strL,hb3];rfl) fun w s g a ht=>?_⟩;have h:=TV.weak (D.toPV hb2) (Opd.eval ht hy);rw[wP (d.pv.cell (D.pv_one hb1 hb2) _ _ _ h)];rw[D.pvs];exact⟨h,by rw[D.pvs];trivial⟩
       ·trivial
      ·trivial
     ·trivial
    ·trivial
   ·trivial
  ·trivial
 ·trivial
theorem evFieldAddr_ok(t:TypeId)(x:Operand)(i:Nat):(xR T t (look x) i).Ok P E ⟨dst,.fieldAddr t x i,ty,pos,aft,gd⟩ tm ow nx:=by
 unfold xR;split
 ·rename_i n zs pl hf;split
  ·rename_i off sz hp;rw[bL]at hp;have hF:=(bF (yC hT hf)).2.2.2.1 i _ hp;split
   ·rename_i m row hx;intro _;have:=u_fieldAddrP (P:=P) (tm:=tm) (dst:=dst) (ty:=ty) (pos:=pos) (aft:=aft) (gd:=gd) (row:=D.pvs row) hF (HL x _ hx);have e:(D.pt m (wD off row)).tv= .pv (PV.pt m ((D.pvs row).drop off)):=by
     rw[jX,<-gB];rfl
    show UOp _ _ _ _ (D.pt m (wD off row)).tv _;rw[e];exact this
   ·rename_i k o hx;intro _;exact u_fieldAddrB hF (HL x _ hx)
   ·rename_i k n j sz o hx;intro _;have hx:=HL x _ hx;rw[D.tv]at hx;have:=u_fieldMp (P:=P) (dst:=dst) (ty:=ty) (pos:=pos) (aft:=aft) (gd:=gd) hF hx;rw[Nat.add_assoc]at this;exact this
   ·trivial
  ·trivial
 ·trivial
theorem evIndexAddr_ok(t:TypeId)(x y:Operand):(xQ T t (look x) (look y)).Ok P E ⟨dst,.indexAddr t x y,ty,pos,aft,gd⟩ tm ow nx:=by
 unfold xQ;split
 ·rename_i e sz hf;have hS:=(wF (yC hT hf)).2.2.slT;split
  ·rename_i k n hy;have hy:=HL y _ hy;split
   ·rename_i m z α l f d hx;have hx:=HL x _ hx;split
    ·rename_i hz;have hz:=Ab hz;subst hz;rintro⟨⟨h0,h1⟩,_⟩;refine vN (rows:=l.map fun a=>D.pvs (f a)) hS hx rfl hy h0 ?_;rw[Bf,Af h1,Aj,Af h1];rfl
    ·trivial
   ·rename_i m z rows hx;have hx:=HL x _ hx;split
    ·rename_i hz;have hz:=Ab hz;subst hz;rintro⟨⟨h0,h1⟩,_⟩;refine vN (rows:=D.pvss rows) hS hx rfl hy h0 ?_;rw[yJ,Bf,Af h1,Aj,Af h1];rfl
    ·trivial
   ·rename_i k z rows hx;have hx:=HL x _ hx;split
    ·rename_i hz;have hz:=Ab hz;subst hz;rintro⟨⟨h0,h1⟩,_⟩;refine vN (rows:=D.pvss rows) hS hx (by rw[D.tv,TV.toPV]) hy h0 ?_;rw[yJ,Bf,Af h1,Aj,Af h1];rfl
    ·trivial
   ·rename_i k q hx;rintro⟨⟨h0,h1⟩,_⟩;exact u_indexMo hS (HL x _ hx) hy h0 h1
   ·rename_i k q i z m hx;split
    ·rename_i hz;have hz:=Ab hz;subst hz;rintro⟨⟨h0,h1⟩,_⟩;exact u_indexMw hS (HL x _ hx) hy h0 h1
    ·trivial
   ·trivial
  ·trivial
 ·rename_i n0 c q e zs hf;have hA:=(tZ (yC hT hf)).2.2.2.1;split
  ·rename_i k n hy;have hy:=HL y _ hy;split
   ·rename_i k off hx;rintro⟨⟨h0,h1⟩,_⟩;have hx:=HL x _ hx;rw[D.tv]at hx;exact u_idxAddrB hA hx hy h0 h1
   ·rename_i m row hx;rintro⟨⟨h0,h1⟩,_⟩;have:=u_idxAddrP (P:=P) (dst:=dst) (ty:=ty) (pos:=pos) (aft:=aft) (gd:=gd) hA (HL x _ hx) hy h0 h1;rw[jX];show UOp P _ tm [] (.pv (PV.pt m (D.pvs (row.drop _)))) [];rw[gB];exact this
   ·trivial
  ·trivial
 ·trivial
theorem evIndexX_ok(t:TypeId)(x y:Operand):(tC T t (look x) (look y)).Ok P E ⟨dst,.indexAddr t x y,ty,pos,aft,gd⟩ tm ow nx:=by
 unfold tC;split
 ·rename_i e sz hf;have hS:=(wF (yC hT hf)).2.2.slT;split
  ·rename_i k n hy;have hy:=HL y _ hy;split
   ·rename_i k z rows hx;have hx:=HL x _ hx;split
    ·rename_i hz;have hz:=Ab hz;subst hz;rintro row ⟨h0,h1,rfl⟩;refine vN (rows:=D.pvss rows) hS hx (by rw[D.tv,TV.toPV]) hy h0 ?_;rw[yJ,Bf,Af h1,Aj,Af h1];rfl
    ·trivial
   ·trivial
  ·trivial
 ·trivial
theorem evIndex_ok(t:TypeId)(x y:Operand):(yK0 T t (look x) (look y)).Ok P E ⟨dst,.index t x y,ty,pos,aft,gd⟩ tm ow nx:=by
 unfold yK0;split
 ·rename_i hf;split
  ·rename_i p k n hx hy;rintro⟨⟨h0,h1⟩,_⟩;have hc:p[n.toNat]?=some p[n.toNat]:=getElem?_pos p n.toNat h1;have:=u_indexStr (P:=P) (tm:=tm) (dst:=dst) (ty:=ty) (pos:=pos) (aft:=aft) (gd:=gd) (vG (yC hT hf)).2.1 (HL x _ hx) (HL y _ hy) h0 hc;have e:bAt p n.toNat=p[n.toNat].toNat:=by unfold bAt;rw[hc]
   rw[e];exact this
  ·trivial
 ·rename_i n0 c q e zs hf;have hA:=(tZ (yC hT hf)).2.2.2.1;split
  ·rename_i l k n hx hy;have hx:=HL x _ hx;have hy:=HL y _ hy;rw[D.tv]at hx;split
   ·rename_i m hc;split
    ·rename_i r hr;rintro⟨⟨h0,h1⟩,_⟩;obtain⟨g1,_,g3⟩:=jQ hr;rw[jX]at g1 g3
     have:=u_idxAR (P:=P) (dst:=dst) (ty:=ty) (pos:=pos) (aft:=aft) (gd:=gd) (n:=m) hA (jY hT hc).2 hx hy h0 h1 (by
      rw[qU];have h9:=(jY hT hc).1;rw[Ay]at g1;omega)
     rw[qH,<-Cv,<-Cy,<-g3,<-qH]at this;exact this
    ·trivial
   ·rename_i hc;split
    ·rename_i d hd;rintro⟨⟨h0,h1⟩,_⟩;rw[vT]at hd;exact u_idxA1 hA (vZ hT hc) hx hy h0 h1 (by rw[qH];simp[hd])
    ·trivial
   ·trivial
  ·trivial
 ·trivial
theorem evLen_ok(t:TypeId)(x:Operand):(mN0 T t (look x)).Ok P E ⟨dst,.call {callee:= .builtin .len,args:= #[x],argTypes:= #[t]},ty,pos,aft,gd⟩ tm ow nx:=by
 unfold mN0;split
 ·rename_i e sz hf;have hS:=(wF (yC hT hf)).2.2.slT;split
  ·rename_i m z α l f d hx;split
   ·rename_i hz;have hz:=Ab hz;subst hz;intro _;have:=zN0 (P:=P) (tm:=tm) (dst:=dst) (ty:=ty) (pos:=pos) (aft:=aft) (gd:=gd) (rows:=l.map fun a=>D.pvs (f a)) hS (HL x _ hx) rfl;rw[Ao]at this;exact this
   ·trivial
  ·rename_i k n hx;intro _;exact u_lenMo hS (HL x _ hx)
  ·rename_i k q i z n hx;intro _;exact u_lenMw hS (HL x _ hx)
  ·rename_i m z rows hx;split
   ·rename_i hz;have hz:=Ab hz;subst hz;intro _;have:=zN0 (P:=P) (tm:=tm) (dst:=dst) (ty:=ty) (pos:=pos) (aft:=aft) (gd:=gd) (rows:=D.pvss rows) hS (HL x _ hx) rfl;rw[yI]at this;exact this
   ·trivial
  ·rename_i k z rows hx;split
   ·rename_i hz;have hz:=Ab hz;subst hz;intro _;have:=zN0 (P:=P) (tm:=tm) (dst:=dst) (ty:=ty) (pos:=pos) (aft:=aft) (gd:=gd) (rows:=D.pvss rows) hS (HL x _ hx) (by rw[D.tv,TV.toPV]);rw[yI]at this;exact this
   ·trivial
  ·rename_i ad n c hx;intro _;exact u_lenNil hS (HL x _ hx)
  ·trivial
 ·rename_i hf;split
  ·rename_i p hx;intro _;exact u_lenStr (vG (yC hT hf)).2.1 (HL x _ hx)
  ·trivial
 ·trivial
theorem evBin_ok(op:BinOp)(t u:TypeId)(x y:Operand):(mQ0 T op t (look x) (look y)).Ok P E ⟨dst,.binOp op t x y u,ty,pos,aft,gd⟩ tm ow nx:=by
 unfold mQ0;split
 ·rename_i k n k' m hx hy;have hx:=HL x _ hx;have hy:=HL y _ hy;split
  ·rename_i hk;have hk:=uR hk;subst hk;unfold kP0
   cases op
   case lss=>exact fun _=>u_lss hx hy
   case leq=>exact fun _=>u_leq hx hy
   case gtr=>exact fun _=>u_gtr hx hy
   case geq=>exact fun _=>u_geq hx hy
   case eql=>exact fun _=>u_eql hx hy
   case neq=>exact fun _=>u_neq hx hy
   case add=>exact xM0 (gN0 hx hy)
   case sub=>exact xM0 (gL0 hx hy)
   case mul=>exact xM0 (gM0 hx hy)
   case quo=>exact quI_ok fun h=>u_quo hx hy h
   case rem=>exact fun h=>u_rem hx hy h.1
   case shr=>exact fun h=>mW0 hx hy h.1
   case shl=>exact fun h=>mX0 hx hy h.1
   case and=>exact fun _=>u_and hx hy
   case or=>exact fun _=>u_or hx hy
   case xor=>exact fun _=>u_xor hx hy
   case andNot=>exact fun _=>u_andNot hx hy
  ·split
   ·intro h;exact mW0 hx hy h.1
   ·intro h;exact mX0 hx hy h.1
   ·trivial
 ·rename_i n m hx hy;have hx:=HL x _ hx;have hy:=HL y _ hy;split
  ·rename_i hf;have hb:=(bG (yC hT hf)).2.1;split
   ·intro _;exact u_eqlB hb hx hy
   ·intro _;exact u_neqB hb hx hy
   ·trivial
  ·trivial
 ·rename_i p q hx hy;have hx:=HL x _ hx;have hy:=HL y _ hy;split
  ·intro _;exact u_eqlS hx hy
  ·intro _;exact u_neqS hx hy
  ·intro h;exact u_addStr hx hy h.1
  ·intro _;exact u_lssS hx hy
  ·intro _;exact u_geqS hx hy
  ·trivial
 ·trivial
theorem evField_ok(t:TypeId)(x:Operand)(i:Nat):(yM0 T t (look x) i).Ok P E ⟨dst,.field t x i,ty,pos,aft,gd⟩ tm ow nx:=by
 unfold yM0;split
 ·rename_i ts hf;split
  ·rename_i ft off hi;rw[jG0]at hi;have hP:=tabFl hT hf hi;split
   ·rename_i l hx;have hx:=HL x _ hx;rw[D.tv]at hx;split
    ·rename_i n hc;split
     ·rename_i r hr;intro _;obtain⟨g1,_,g3⟩:=jQ hr;rw[jX]at g1 g3
      have:=u_fieldR (P:=P) (dst:=dst) (ty:=ty) (pos:=pos) (aft:=aft) (gd:=gd) (n:=n) hP (jY hT hc).2 hx (by
       rw[qU];have h0:=(jY hT hc).1;simp at g1;simp only[]at g1⊢;omega)
      rw[qH,<-Cv,<-Cy,<-g3,<-qH]at this;exact this
     ·trivial
    ·rename_i hc;split
     ·rename_i d hd;intro _;rw[vT]at hd;exact u_field1 hP (vZ hT hc) hx (by rw[qH];simp[hd])
     ·trivial
    ·trivial
   ·trivial
  ·trivial
 ·trivial
theorem evConvert_ok(src dt:TypeId)(x:Operand):(pS T src dt (look x)).Ok P E ⟨dst,.convert src dt x,ty,pos,aft,gd⟩ tm ow nx:=by
 unfold pS;split
 ·rename_i ks k' k n hs hd hx;obtain⟨i,u,_,hu⟩:=vP (yC hT hs);intro _;exact u_conv hu (xV (yC hT hd)).2.1 (HL x _ hx)
 ·rename_i e sz p hs hd hx;split
  ·rename_i k he;split
   ·rename_i hk;have hk:=uR hk;subst hk;rintro⟨hp,_⟩;obtain⟨ie,z,hde,_⟩:=(wF (yC hT hd)).2.2.h;exact u_bytes (vG (yC hT hs)).2.1 hde (xV (yC hT he)).2.1 hp (HL x _ hx)
   ·split
    ·rename_i hk;have hk:=uR hk;subst hk;rintro⟨hp,_⟩;obtain⟨ie,z,hde,_⟩:=(wF (yC hT hd)).2.2.h;exact u_runes (vG (yC hT hs)).2.1 hde (xV (yC hT he)).2.1 hp (HL x _ hx)
    ·trivial
  ·trivial
 ·trivial
theorem evSlice_ok(t:TypeId)(x:Operand)(lo hi:Option Operand):(yF0 T look t x lo hi).Ok P E ⟨dst,.slice t x lo hi none,ty,pos,aft,gd⟩ tm ow nx:=by
 unfold yF0;split
 ·rename_i e sz hf;have hS:=(wF (yC hT hf)).2.2.slT;split
  ·rename_i m z α l f d hx;split
   ·rename_i hz;have hz:=Ab hz;subst hz;split
    ·rename_i a b ha hb;rintro⟨⟨h0,h1,h2⟩,_⟩;have:=zM0 (P:=P) (dst:=dst) (ty:=ty) (pos:=pos) (aft:=aft) (gd:=gd) (rows:=l.map fun a=>D.pvs (f a)) hS (HL x _ hx) rfl (jL HL ha) (by rw[Ao];exact jL HL hb) h0 h1 (by rw[Ao];exact h2);rw[<-Cv,<-Cy]at this;exact this
    ·trivial
   ·trivial
  ·rename_i m z rows hx;split
   ·rename_i hz;have hz:=Ab hz;subst hz;split
    ·rename_i a b ha hb;rintro⟨⟨h0,h1,h2⟩,_⟩;have:=zM0 (P:=P) (dst:=dst) (ty:=ty) (pos:=pos) (aft:=aft) (gd:=gd) (rows:=D.pvss rows) hS (HL x _ hx) rfl (jL HL ha) (by rw[yI];exact jL HL hb) h0 h1 (by rw[yI];exact h2);rw[yJ,<-Cv,<-Cy,<-yJ]at this;exact this
    ·trivial
   ·trivial
  ·rename_i k z rows hx;split
   ·rename_i hz;have hz:=Ab hz;subst hz;split
    ·rename_i a b ha hb;rintro⟨⟨h0,h1,h2⟩,_⟩;have:=zM0 (P:=P) (dst:=dst) (ty:=ty) (pos:=pos) (aft:=aft) (gd:=gd) (rows:=D.pvss rows) hS (HL x _ hx) (by rw[D.tv,TV.toPV]) (jL HL ha) (by rw[yI];exact jL HL hb) h0 h1 (by rw[yI];exact h2);rw[yJ,<-Cv,<-Cy,<-yJ]at this;exact this
    ·trivial
   ·trivial
  ·rename_i k q hx;split
   ·rename_i a b ha hb;rintro⟨⟨h0,h1,h2,h3⟩,_⟩;exact u_sliceMo hS (HL x _ hx) (jL HL ha) (jL HL hb) h0 h1 h2 h3
   ·trivial
  ·rename_i k q i z n hx;split
   ·rename_i hz;have hz:=Ab hz;subst hz;split
    ·rename_i a b ha hb;rintro⟨⟨h0,h1,h2,h3⟩,_⟩;exact u_sliceMw hS (HL x _ hx) (jL HL ha) (jL HL hb) h0 h1 h2 h3
    ·trivial
   ·trivial
  ·trivial
 ·rename_i hf;split
  ·rename_i p hx;split
   ·rename_i a b ha hb;rintro⟨⟨h0,h1,h2⟩,_⟩;exact u_sliceStr (vG (yC hT hf)).2.1 (HL x _ hx) (jL HL ha) (jL HL hb) h0 h1 h2
   ·trivial
  ·trivial
 ·rename_i n c q e zs hf;split
  ·rename_i row hx;split
   ·rename_i h1 h2 h3;intro _;have hA:=(tZ (yC hT hf)).2.2.2.1;have h4:D.pvss (chkS q c row)=chkS q c (D.pvs row):=by rw[yJ,show D.pvs=List.map D.pv from funext uL];exact jV0 _ _ _ _
    have h5:=u_sliceArr (P:=P) (dst:=dst) (ty:=ty) (pos:=pos) (aft:=aft) (gd:=gd) hA (HL x _ hx) (by rw[jF];exact Ab h1) (An h2) (D.strL_pv row h3);rw[<-h4]at h5;exact h5
   ·trivial
  ·trivial
 ·trivial
end
end Go.Proofs.YtmakjjodkiedmaaGreatDoor
