/- Part 9 of the proof. -/
import Derived.Test.YtinegkcbkefeiaaGreatDoorN7
import Derived.Test.YtinegkcbkefeiaaGreatDoorN8
namespace Go.Proofs.YtinegkcbkefeiaaGreatDoor
open Go.RowKit
inductive Fl
 | n
 | o
 | g
inductive R1 : Type 1
 | u (ps : List Prop) (out : D)
 | r (k : Nat) (ps : List Prop) (out : D)
 | w (k : Nat) (c' : DOwn) (ps : List Prop) (out : D)
 | n (c' : DOwn) (ps : List Prop) (out : D)
 | c (f : FuncId) (args : List D)
 | co (f : FuncId) (args : List D)
 | cl (f : FuncId) (args : List D) (acc : List (Nat × DOwn)) (ps : List Prop)
 | g (f : FuncId) (args : List D) (ks : List Nat) (lown : List DOwn)
 | ix (rows : List (List D)) (n : Int)
 | lk (j : Nat) (p : List D -> Prop) (out : List D -> D)
 | pn (ch : List PanicEntry)
 | bad
def deadO : DOwn := .box 0 [.op PV.no]
def R1.Ok (P : Program) (E : Pn) (o : Oper) (tm : List (Nat × TV)) (ow : Nat -> Option DOwn) (nx : Nat) : R1 -> Prop
 | .u ps out => AllP ps -> UOp P o tm [] out.tv []
 | .r k ps out => AllP ps -> ∃ c,ow k = some c /\ UOp P o tm [(k,c.o)] out.tv [(k,c.o)]
 | .w k c' ps out => AllP ps -> ∃ c,ow k = some c /\ UOp P o tm [(k,c.o)] out.tv [(k,c'.o)]
 | .n c' ps out => AllP ps -> UOp P o tm [] out.tv [(nx,c'.o)]
 | .c f args => ∀ out,PFun P f (D.pvs args) out -> UOp P o tm [] (.pv out) []
 | .co f args => ∀ e sz rows,OFun P f (D.pvs args) e sz (D.pvss rows) -> UOp P o tm [] (D.own nx sz rows).tv [(nx,(DOwn.row e sz rows.length).o)]
 | .cl f args acc ps => AllP ps -> (∀ x ∈ acc,ow x.1 = some x.2) /\ ∀ out : PV,out.str = true -> PFun P f (D.pvs args) out -> UOp P o tm (ows acc) (.pv out) (ows acc)
 | .g f args ks lown => ∀ (out : D) (lown' : List DOwn),chkG ks.length out lown' = true -> GFunE P E f (D.tvl args) (ows (uK 0 lown)) out.tv (ows (uK 0 lown')) ->
   ksOk nx ks = true /\ (∀ (i k : Nat) (d : DOwn),ks[i]? = some k -> lown[i]? = some d -> ∃ c,ow k = some c /\ c.o = (d.ren (qP ks nx)).o) /\ lown.length = ks.length /\ UOpE P E o tm (ows (updG ks nx 0 lown)) (out.ren (qP ks nx)).tv (ows (updG ks nx 0 lown'))
 | .lk j p out => ∀ row,p row -> ∃ c,ow j = some c /\ UOp P o tm [(j,c.o)] (out row).tv [(j,c.o)]
 | .ix rows m => ∀ row,(0 <= m /\ m.toNat < rows.length /\ rows.getD m.toNat [] = row) -> UOp P o tm [] (D.pt false row).tv []
 | .pn ch => E ch -> UOpE P E o tm [] (D.v undef).tv [(nx,deadO.o)]
 | .bad => True
theorem UOp.weaken {P : Program} {o : Oper} {tm : List (Nat × TV)} {acc acc' : List (Nat × Own)} {out out' : TV} (h : UOp P o tm acc out acc') (hw : ∀ w s g v,out.P w s g v -> out'.P w s g v) : UOp P o tm acc out' acc' :=
 fun w s g a K Q ht hg hK => h w s g a K Q ht hg fun w' s' g' v hv hp => hK w' s' g' v (hw _ _ _ _ hv) hp
theorem dH : ∀ {l : List Prop},AllP l -> ∀ p ∈ l,p
 | [],_,_,h => by cases h
 | q :: l,h,p,hp => by
  rcases Bq.1 hp with rfl | hp
  ·exact h.1
  ·exact dH h.2 p hp
def cls (T : List (Nat × TI)) (t : TypeId) : Option (Option Nat) := match fnd t T with
 | some (.st n _ _) => match Nat.beq n 0 with
  | true => none
  | false => some (some n)
 | some (.ar n _ _ _ _) => some (some n)
 | some (.fl _) => none
 | some _ => some none
 | none => none
theorem ti_oneT {P : Program} {t : TypeId} {ti : TI} (h : tiB P t ti = true) (hn : ∀ n zs pl,ti ≠ .st n zs pl) (hn' : ∀ ts,ti ≠ .fl ts) (hn'' : ∀ n c q e zs,ti ≠ .ar n c q e zs) : OneT P t := by
 cases ti with
 | int k => exact (mY h).1
 | bool => exact (qB0 h).1
 | str => exact (xG h).1
 | sl e sz => exact (kC h).1
 | st n zs pl => exact absurd rfl (hn n zs pl)
 | one z => exact (uK0 h).1
 | fl ts => exact absurd rfl (hn' ts)
 | ar n c q e zs => exact absurd rfl (hn'' n c q e zs)
 | mp ag zs => exact (yN1 h).1
section
variable {P : Program} {E : Pn} {T : List (Nat × TI)} (hT : wS P T = true)
include hT
theorem gN {t : TypeId} (h : cls T t = some none) : OneT P t := by
 unfold cls at h
 cases hf : fnd t T with
 | none => rw [hf] at h;simp at h
 | some ti =>
  have hn' : ∀ ts,ti ≠ .fl ts := fun ts e => by rw [hf,e] at h;simp at h
  refine ti_oneT (yG hT hf hn') (fun n zs pl e => ?_) hn' fun n c q e' zs e => ?_
  ·rw [hf,e] at h;have h : (match Nat.beq n 0 with | true => none | false => some (some n)) = some none := h
   cases hb : Nat.beq n 0 <;> rw [hb] at h <;> cases h
  ·rw [hf,e] at h;simp at h
theorem vA {t : TypeId} {n : Nat} (h : cls T t = some (some n)) : 0 < n /\ RowT P t n := by
 unfold cls at h
 cases hf : fnd t T with
 | none => rw [hf] at h;simp at h
 | some ti =>
  rw [hf] at h
  cases ti with
  | st n' zs pl =>
   have h : (match Nat.beq n' 0 with | true => none | false => some (some n')) = some (some n) := h
   cases hb : Nat.beq n' 0 with
   | true => rw [hb] at h;cases h
   | false =>
    rw [hb] at h;cases h;refine ⟨?_,(qA0 (yG hT hf)).2.1⟩;rcases (qA0 (yG hT hf)).1 with h0 | h0
    ·exact h0
    ·subst h0;cases hb
  | ar n' c q e zs =>
   have h : some (some n') = some (some n) := h
   cases h;exact ⟨(wS0 (yG hT hf)).1,(wS0 (yG hT hf)).2.1⟩
  | _ => cases h
end
def tC0 (T : List (Nat × TI)) (ow : Nat -> Option DOwn) (t : TypeId) (x : Option D) : R1 :=
 match x with
 | some (.pt _ row) => match cls T t with
  | some (some n) => match dO D.flat n row with
   | some r => .u [] (.agg r)
   | none => .bad
  | some none => match row with
   | d :: _ => match d.flat with
    | true => .u [] d
    | false => .bad
   | [] => .bad
  | none => .bad
 | some (.bp k off) => match ow k with
  | some (.box _ cs) => match cls T t with
   | some (some n) => match dO (fun _ => true) n (mU off cs) with
    | some r => .r k [] (.agg r)
    | none => .bad
   | some none => match getS off cs with
    | some d => .r k [] d
    | none => .bad
   | none => .bad
  | _ => .bad
 | some (.mp k n i sz o) => match ow k with
  | some (.mrow _ z M) => match Nat.beq z sz with
   | true => match M.at i with
    | some row => match cls T t with
     | some (some q) => match dO D.flat q (mU o row) with
      | some r => .r k ((n = M.len /\ i < M.len) :: M.okL i) (.agg r)
      | none => .bad
     | some none => match getS o row with
      | some d => match d.flat with
       | true => .r k ((n = M.len /\ i < M.len) :: M.okL i) d
       | false => .bad
      | none => .bad
     | none => .bad
    | none => .bad
   | false => .bad
  | _ => .bad
 | _ => .bad
def wK : List D -> Bool
 | [] => true
 | d :: l => match d.one with | true => wK l | false => false
def qS0 (M : MR) (i o z : Nat) (ds : List D) : Option (List D) := match Nat.beq o 0 && Nat.beq ds.length z with
 | true => some ds
 | false => match M.at i with
  | some row => match Nat.beq row.length z with
   | true => layS o ds row
   | false => none
  | none => none
def stP (M : MR) (i o z : Nat) (ds : List D) : List Prop := match Nat.beq o 0 && Nat.beq ds.length z with
 | true => []
 | false => M.okL i
def xP0 (T : List (Nat × TI)) (ow : Nat -> Option DOwn) (t : TypeId) (x y : Option D) : R1 :=
 match x with
 | some (.bp k off) => match ow k with
  | some (.box bt cs) => match cls T t with
   | some (some n) => match y with
    | some (.agg l) => match Nat.beq l.length n && wK l with
     | true => match layS off l cs with
      | some r => .w k (.box bt r) [] (.v undef)
      | none => .bad
     | false => .bad
    | _ => .bad
   | some none => match y with
    | some d => match d.one with
     | true => match layS off [d] cs with
      | some r => .w k (.box bt r) [] (.v undef)
      | none => .bad
     | false => .bad
    | none => .bad
   | none => match fnd t T with
    | some (.st 0 _ _) => match y with
     | some (.agg []) => match Nat.ble off cs.length with
      | true => .w k (.box bt cs) [] (.v undef)
      | false => .bad
     | _ => .bad
    | _ => .bad
  | _ => .bad
 | some (.mp k n i sz o) => match ow k with
  | some (.mrow e z M) => match Nat.beq z sz with
   | true => match cls T t with
    | some (some q) => match y with
     | some (.agg l) => match Nat.beq l.length q && wK l && D.pures l && D.strL l with
      | true => match qS0 M i o z l with
       | some r => .w k (.mrow e z (.upd M i r)) ((n = M.len /\ i < M.len) :: stP M i o z l) (.v undef)
       | none => .bad
      | false => .bad
     | _ => .bad
    | some none => match y with
     | some d => match d.one && d.pure && d.str with
      | true => match qS0 M i o z [d] with
       | some r => .w k (.mrow e z (.upd M i r)) ((n = M.len /\ i < M.len) :: stP M i o z [d]) (.v undef)
       | none => .bad
      | false => .bad
     | none => .bad
    | none => .bad
   | false => .bad
  | _ => .bad
 | _ => .bad
def xE0 : Nat -> List (Nat × Nat) -> Option (Nat × Nat)
 | _,[] => none
 | 0,x :: _ => some x
 | i + 1,_ :: l => xE0 i l
theorem qL0 : ∀ (i : Nat) (l : List (Nat × Nat)),xE0 i l = l[i]?
 | _,[] => by simp [xE0]
 | 0,x :: _ => by simp [xE0]
 | i + 1,_ :: l => by simpa [xE0] using qL0 i l
def mS (T : List (Nat × TI)) (t : TypeId) (x : Option D) (i : Nat) : R1 :=
 match fnd t T with
 | some (.st _ _ pl) => match xE0 i pl with
  | some (off,_) => match x with
   | some (.pt m row) => .u [] (.pt m (mU off row))
   | some (.bp k o) => .u [] (.bp k (o + off))
   | some (.mp k n j sz o) => .u [] (.mp k n j sz (o + off))
   | _ => .bad
  | none => .bad
 | _ => .bad
def mR (T : List (Nat × TI)) (t : TypeId) (x y : Option D) : R1 :=
 match fnd t T with
 | some (.sl _ sz) => match y with
  | some (.v (.int _ n)) => match x with
   | some (.sl m z l f e) => match Nat.beq z sz with
    | true => .u [0 <= n /\ n.toNat < l.length] (.pt m (f (l.getD n.toNat e)))
    | false => .bad
   | some (.slr m z rows) => match Nat.beq z sz with
    | true => .u [0 <= n /\ n.toNat < rows.length] (.pt m (rows.getD n.toNat []))
    | false => .bad
   | some (.own _ z rows) => match Nat.beq z sz with
    | true => .u [0 <= n /\ n.toNat < rows.length] (.pt false (rows.getD n.toNat []))
    | false => .bad
   | some (.mo k q) => .u [0 <= n /\ n.toNat < q] (.mp k q n.toNat sz 0)
   | some (.mw k q i z m) => match Nat.beq z sz with
    | true => .u [0 <= n /\ n.toNat < m] (.mp k q (i + n.toNat) sz 0)
    | false => .bad
   | _ => .bad
  | _ => .bad
 | some (.ar _ c q _ _) => match y with
  | some (.v (.int _ n)) => match x with
   | some (.bp k off) => .u [0 <= n /\ n.toNat < c] (.bp k (off + n.toNat * q))
   | some (.pt m row) => .u [0 <= n /\ n.toNat < c] (.pt m (mU (n.toNat * q) row))
   | _ => .bad
  | _ => .bad
 | _ => .bad
def jH0 (T : List (Nat × TI)) (t : TypeId) (x y : Option D) : R1 :=
 match fnd t T with
 | some (.sl _ sz) => match y with
  | some (.v (.int _ n)) => match x with
   | some (.own _ z rows) => match Nat.beq z sz with
    | true => .ix rows n
    | false => .bad
   | _ => .bad
  | _ => .bad
 | _ => .bad
def bAt (p : ByteArray) (i : Nat) : Nat := match p[i]? with | some c => c.toNat | none => 0
def xV0 (T : List (Nat × TI)) (t : TypeId) (x y : Option D) : R1 :=
 match fnd t T with
 | some .str => match x,y with
  | some (.v (.string p)),some (.v (.int _ n)) => .u [0 <= n /\ n.toNat < p.size] (.v (.int .u8 (bAt p n.toNat)))
  | _,_ => .bad
 | some (.ar _ c q e _) => match x,y with
  | some (.agg l),some (.v (.int _ n)) => match cls T e with
   | some (some m) => match dO (fun _ => true) m (mU (n.toNat * q) l) with
    | some r => .u [0 <= n /\ n.toNat < c] (.agg r)
    | none => .bad
   | some none => match getS (n.toNat * q) l with
    | some d => .u [0 <= n /\ n.toNat < c] d
    | none => .bad
   | none => .bad
  | _,_ => .bad
 | _ => .bad
def qP1 (T : List (Nat × TI)) (t : TypeId) (x : Option D) : R1 :=
 match fnd t T with
 | some (.sl _ sz) => match x with
  | some (.sl _ z l _ _) => match Nat.beq z sz with
   | true => .u [] (.v (.int .i64 l.length))
   | false => .bad
  | some (.mo _ n) => .u [] (.v (.int .i64 n))
  | some (.mw _ _ _ _ n) => .u [] (.v (.int .i64 n))
  | some (.slr _ z rows) => match Nat.beq z sz with
   | true => .u [] (.v (.int .i64 rows.length))
   | false => .bad
  | some (.own _ z rows) => match Nat.beq z sz with
   | true => .u [] (.v (.int .i64 rows.length))
   | false => .bad
  | some (.v (.slice _ n _)) => .u [] (.v (.int .i64 n))
  | _ => .bad
 | some .str => match x with
  | some (.v (.string p)) => .u [] (.v (.int .i64 p.size))
  | _ => .bad
 | _ => .bad
def InI (n : Int) : Prop := -9223372036854775808 <= n /\ n <= 9223372036854775807
def arI (k : IntKind) (n : Int) : R1 := match k with
 | .i64 => .u [InI n] (.v (.int .i64 n))
 | k => .u [] (.v (.int k (k.wrap n)))
def quI (k : IntKind) (n m : Int) : R1 := match k with
 | .i64 => .u [m ≠ 0 /\ InI (n.tdiv m)] (.v (.int .i64 (n.tdiv m)))
 | k => .u [m ≠ 0] (.v (.int k (k.wrap (n.tdiv m))))
def yB1 (op : BinOp) (k : IntKind) (n m : Int) : R1 := match op with
 | .lss => .u [] (.v (.bool (decide (n < m))))
 | .leq => .u [] (.v (.bool (decide (n <= m))))
 | .gtr => .u [] (.v (.bool (decide (m < n))))
 | .geq => .u [] (.v (.bool (decide (m <= n))))
 | .eql => .u [] (.v (.bool (decide (n = m))))
 | .neq => .u [] (.v (.bool (!decide (n = m))))
 | .add => arI k (n + m)
 | .sub => arI k (n - m)
 | .mul => arI k (n * m)
 | .quo => quI k n m
 | .rem => .u [m ≠ 0] (.v (.int k (n.tmod m)))
 | .shr => .u [0 <= m] (.v (.int k (n.fdiv (2 ^ (min m.toNat k.bits)))))
 | .shl => .u [0 <= m] (.v (.int k (k.wrap (n * 2 ^ (min m.toNat k.bits)))))
 | .and => .u [] (.v (.int k (bAnd k n m)))
 | .or => .u [] (.v (.int k (bOr k n m)))
 | .xor => .u [] (.v (.int k (bXor k n m)))
 | .andNot => .u [] (.v (.int k (qT1 k n m)))
def qS1 (T : List (Nat × TI)) (op : BinOp) (t : TypeId) (x y : Option D) : R1 :=
 match x,y with
 | some (.v (.int k n)),some (.v (.int k' m)) => match kEq k k' with
  | true => yB1 op k n m
  | false => match op with
   | .shr => .u [0 <= m] (.v (.int k (n.fdiv (2 ^ (min m.toNat k.bits)))))
   | .shl => .u [0 <= m] (.v (.int k (k.wrap (n * 2 ^ (min m.toNat k.bits)))))
   | _ => .bad
 | some (.v (.bool n)),some (.v (.bool m)) => match fnd t T with
  | some .bool => match op with
   | .eql => .u [] (.v (.bool (n == m)))
   | .neq => .u [] (.v (.bool (n != m)))
   | _ => .bad
  | _ => .bad
 | some (.v (.string p)),some (.v (.string q)) => match op with
  | .eql => .u [] (.v (.bool (decide (p = q))))
  | .neq => .u [] (.v (.bool (!decide (p = q))))
  | .add => .u [p.size + q.size <= 9223372036854775807] (.v (.string (p ++ q)))
  | .lss => .u [] (.v (.bool (sLt p q)))
  | .geq => .u [] (.v (.bool (!sLt p q)))
  | _ => .bad
 | _,_ => .bad
def pM0 : Nat -> List (TypeId × Nat) -> Option (TypeId × Nat)
 | _,[] => none
 | 0,x :: _ => some x
 | i + 1,_ :: l => pM0 i l
theorem mB0 : ∀ (i : Nat) (l : List (TypeId × Nat)),pM0 i l = l[i]?
 | _,[] => by simp [pM0]
 | 0,x :: _ => by simp [pM0]
 | i + 1,_ :: l => by simpa [pM0] using mB0 i l
def xX0 (T : List (Nat × TI)) (t : TypeId) (x : Option D) (i : Nat) : R1 :=
 match fnd (2000000 + t) T with
 | some (.fl ts) => match pM0 i ts with
  | some (ft,off) => match x with
   | some (.agg l) => match cls T ft with
    | some (some n) => match dO (fun _ => true) n (mU off l) with
     | some r => .u [] (.agg r)
     | none => .bad
    | some none => match getS off l with
     | some d => .u [] d
     | none => .bad
    | none => .bad
   | _ => .bad
  | none => .bad
 | _ => .bad
def evUn (op : UnOp) (x : Option D) : R1 := match op,x with
 | .not,some (.v (.bool b)) => .u [] (.v (.bool (!b)))
 | .neg,some (.v (.int k n)) => .u [] (.v (.int k (k.wrap (0 - n))))
 | .xor,some (.v (.int k n)) => .u [] (.v (.int k (bNot k n)))
 | _,_ => .bad
def u8D (b : UInt8) : List D := [.v (.int .u8 b.toNat)]
def i32D (c : Int) : List D := [.v (.int .i32 c)]
def cU (T : List (Nat × TI)) (src dt : TypeId) (x : Option D) : R1 :=
 match fnd src T,fnd dt T,x with
 | some (.int _),some (.int k'),some (.v (.int _ n)) => .u [] (.v (.int k' (k'.wrap n)))
 | some .str,some (.sl e _),some (.v (.string p)) => match fnd e T with
  | some (.int k) => match kEq k .u8 with
   | true => .u [p.size <= 1073741824] (.sl false 1 p.data.toList u8D 0)
   | false => match kEq k .i32 with
    | true => .u [p.size <= 1073741824] (.sl false 1 (ruL p) i32D 0)
    | false => .bad
  | _ => .bad
 | _,_,_ => .bad
def cT (x : Option D) (i : Nat) : R1 := match x with
 | some (.tup l) => match getS i l with
  | some d => match d.flat with
   | true => .u [] d
   | false => .bad
  | none => .bad
 | some (.tpo l) => match getS i l with
  | some d => .u [] d
  | none => .bad
 | _ => .bad
def pV (look : Operand -> Option D) (x : Option Operand) (dflt : Int) : Option Int := match x with
 | none => some dflt
 | some o => match look o with
  | some (.v (.int _ n)) => some n
  | _ => none
def xQ0 (T : List (Nat × TI)) (look : Operand -> Option D) (t : TypeId) (x : Operand) (lo hi : Option Operand) : R1 :=
 match fnd t T with
 | some (.sl _ sz) => match look x with
  | some (.sl m z l f e) => match Nat.beq z sz with
   | true => match pV look lo 0,pV look hi l.length with
    | some a,some b => .u [0 <= a /\ a <= b /\ b <= l.length] (.sl m z ((l.drop a.toNat).take (b.toNat - a.toNat)) f e)
    | _,_ => .bad
   | false => .bad
  | some (.slr m z rows) => match Nat.beq z sz with
   | true => match pV look lo 0,pV look hi rows.length with
    | some a,some b => .u [0 <= a /\ a <= b /\ b <= rows.length] (.slr m z ((rows.drop a.toNat).take (b.toNat - a.toNat)))
    | _,_ => .bad
   | false => .bad
  | some (.own _ z rows) => match Nat.beq z sz with
   | true => match pV look lo 0,pV look hi rows.length with
    | some a,some b => .u [0 <= a /\ a <= b /\ b <= rows.length] (.slr false z ((rows.drop a.toNat).take (b.toNat - a.toNat)))
    | _,_ => .bad
   | false => .bad
  | some (.mo k q) => match pV look lo 0,pV look hi q with
   | some a,some b => .u [0 <= a /\ a <= b /\ b <= q /\ a < q] (.mw k q a.toNat sz (b.toNat - a.toNat))
   | _,_ => .bad
  | some (.mw k q i z n) => match Nat.beq z sz with
   | true => match pV look lo 0,pV look hi n with
    | some a,some b => .u [0 <= a /\ a <= b /\ b <= n /\ i + a.toNat < q] (.mw k q (i + a.toNat) sz (b.toNat - a.toNat))
    | _,_ => .bad
   | false => .bad
  | _ => .bad
 | some .str => match look x with
  | some (.v (.string p)) => match pV look lo 0,pV look hi p.size with
   | some a,some b => .u [0 <= a /\ a <= b /\ b <= p.size] (.v (.string (p.extract a.toNat b.toNat)))
   | _,_ => .bad
  | _ => .bad
 | _ => .bad
def qR1 (nx : Nat) (t : TypeId) (x : Option D) : R1 := match x with
 | some (.agg l) => match wK l with
  | true => .n (.box t l) [] (.bp nx 0)
  | false => .bad
 | some d => match d.one with
  | true => .n (.box t [d]) [] (.bp nx 0)
  | false => .bad
 | none => .bad
theorem bK : ∀ {l : List D},wK l = true -> ∀ d ∈ l,d.one = true
 | [],_,_,h => by cases h
 | e :: l,h,d,hd => by
  unfold wK at h
  cases he : e.one with
  | false => rw [he] at h;simp at h
  | true =>
   rw [he] at h;rcases Bq.1 hd with rfl | hd
   ·exact he
   ·exact bK h d hd
theorem dA0 {l : List D} (h : wK l = true) : ∀ d ∈ D.tvl l,d.one = true := by
 intro d hd;rw [jC] at hd;obtain ⟨e,he,rfl⟩ := Cs.1 hd;exact D.tv_one (bK h e he)
theorem InI.wrap {n : Int} (h : InI n) : IntKind.i64.wrap n = n := by
 obtain ⟨h1,h2⟩ := h;show (if (true && decide (n % 18446744073709551616 ≥ 9223372036854775808)) = true then n % 18446744073709551616 - 18446744073709551616 else n % 18446744073709551616) = n;simp only [Dy,Ak];split <;> omega
section
variable {P : Program} {E : Pn} {tm : List (Nat × TV)} {ow : Nat -> Option DOwn} {nx : Nat} {dst : Option Tmp} {ty : TypeId} {pos : String} {aft : Array Edge} {gd : Option (Nat × Bool)}
theorem tT0 {o : Oper} {k : IntKind} {n : Int} (h : UOp P o tm [] (.pv (PV.lit (.int k (k.wrap n)))) []) : (arI k n).Ok P E o tm ow nx := by
 unfold arI;split
 ·rintro ⟨h1,_⟩;rw [h1.wrap] at h;exact h
 ·intro _;exact h
theorem quI_ok {o : Oper} {k : IntKind} {n m : Int} (h : m ≠ 0 -> UOp P o tm [] (.pv (PV.lit (.int k (k.wrap (n.tdiv m))))) []) : (quI k n m).Ok P E o tm ow nx := by
 unfold quI;split
 ·rintro ⟨⟨h0,h1⟩,_⟩;have := h h0;rw [h1.wrap] at this;exact this
 ·rintro ⟨h0,_⟩;exact h h0
theorem cZ0 {x y : Operand} {t u : TypeId} {k : IntKind} {n m : Int} (hx : Opd tm x (.pv (PV.lit (.int k n)))) (hy : Opd tm y (.pv (PV.lit (.int k m)))) : UOp P ⟨dst,.binOp .add t x y u,ty,pos,aft,gd⟩ tm [] (.pv (PV.lit (.int k (k.wrap (n + m))))) [] :=
 UOp.two hx hy fun ρ w h1 h2 => by simp [execOp,h1,h2,go_sem]
theorem cX0 {x y : Operand} {t u : TypeId} {k : IntKind} {n m : Int} (hx : Opd tm x (.pv (PV.lit (.int k n)))) (hy : Opd tm y (.pv (PV.lit (.int k m)))) : UOp P ⟨dst,.binOp .sub t x y u,ty,pos,aft,gd⟩ tm [] (.pv (PV.lit (.int k (k.wrap (n - m))))) [] :=
 UOp.two hx hy fun ρ w h1 h2 => by simp [execOp,h1,h2,go_sem]
theorem cY0 {x y : Operand} {t u : TypeId} {k : IntKind} {n m : Int} (hx : Opd tm x (.pv (PV.lit (.int k n)))) (hy : Opd tm y (.pv (PV.lit (.int k m)))) : UOp P ⟨dst,.binOp .mul t x y u,ty,pos,aft,gd⟩ tm [] (.pv (PV.lit (.int k (k.wrap (n * m))))) [] :=
 UOp.two hx hy fun ρ w h1 h2 => by simp [execOp,h1,h2,go_sem]
end
section
variable {P : Program} {E : Pn} {tm : List (Nat × TV)} {ow : Nat -> Option DOwn} {nx : Nat} {look : Operand -> Option D} (HL : ∀ x d,look x = some d -> Opd tm x d.tv)
 {dst : Option Tmp} {ty : TypeId} {pos : String} {aft : Array Edge} {gd : Option (Nat × Bool)}
include HL
theorem evUn_ok (op : UnOp) (t : TypeId) (x : Operand) : (evUn op (look x)).Ok P E ⟨dst,.unOp op t x,ty,pos,aft,gd⟩ tm ow nx := by
 unfold evUn;split
 ·rename_i b hx;intro _;exact u_not (HL x _ hx)
 ·rename_i k n hx;intro _;exact u_neg (HL x _ hx)
 ·rename_i k n hx;intro _;exact u_compl (HL x _ hx)
 ·trivial
theorem evExtract_ok (x : Operand) (i : Nat) : (cT (look x) i).Ok P E ⟨dst,.extract x i,ty,pos,aft,gd⟩ tm ow nx := by
 unfold cT;split
 ·rename_i l hx;split
  ·rename_i d hd;split
   ·rename_i hf;intro _;rw [gG] at hd;exact (u_extract (l := D.pvs l) (d := d.pv) (HL x _ hx) (cD hd)).weaken fun w s g v hv => D.ofPV hf hv
   ·trivial
  ·trivial
 ·rename_i l hx;split
  ·rename_i d hd;intro _;rw [gG] at hd;have hx := HL x _ hx;rw [D.tv] at hx;exact u_extractT hx (by rw [jC];simp [hd])
  ·trivial
 ·trivial
theorem uG {x : Option Operand} {d n : Int} (h : pV look x d = some n) : Bnd tm x d n := by
 unfold pV at h
 cases x with
 | none => simp at h;exact h.symm
 | some o =>
  simp only at h;split at h
  ·rename_i k m hm
   cases h;exact ⟨k,HL o _ hm⟩
  ·cases h
end
section
variable {P : Program} {E : Pn} {T : List (Nat × TI)} (hT : wS P T = true) {tm : List (Nat × TV)} {ow : Nat -> Option DOwn} {nx : Nat} {look : Operand -> Option D} (HL : ∀ x d,look x = some d -> Opd tm x d.tv)
 {dst : Option Tmp} {ty : TypeId} {pos : String} {aft : Array Edge} {gd : Option (Nat × Bool)}
include hT HL
theorem evLoad_ok (t : TypeId) (x : Operand) : (tC0 T ow t (look x)).Ok P E ⟨dst,.load t x,ty,pos,aft,gd⟩ tm ow nx := by
 unfold tC0;split
 ·rename_i mm row hx;have hx := HL x _ hx;split
  ·rename_i n hc;split
   ·rename_i r hr;obtain ⟨h1,h2,h3⟩ := uN hr;intro _;refine (u_loadPR (n := n) (row := D.pvs row) (vA hT hc).2 hx (by rw [jV];exact h1)).weaken fun w s g v hv => ?_;subst h3;rw [<- qJ0] at hv;exact D.ofPV (d := .agg (row.take n)) (by rw [D.flat];exact cO h2) hv
   ·trivial
  ·rename_i hc;split
   ·rename_i d _ _;split
    ·rename_i hd;intro _;exact (u_loadP1 (d := d.pv) (gN hT hc) hx (by rw [D.pvs];rfl)).weaken fun w s g v hv => D.ofPV hd hv
    ·trivial
   ·trivial
  ·trivial
 ·rename_i k off hx;have hx := HL x _ hx;split
  ·rename_i bt cs hk;split
   ·rename_i n hc;split
    ·rename_i r hr;obtain ⟨h1,_,h3⟩ := uN hr;rw [vL] at h1 h3;simp only [Bm] at h1;intro _;refine ⟨_,hk,?_⟩;subst h3;have := u_loadBR (P := P) (tm := tm) (dst := dst) (ty := ty) (pos := pos) (aft := aft) (gd := gd) (x := x) (bt := bt) (cs := D.tvl cs) (vA hT hc).2 hx (by have := (vA hT hc).1;rw [jJ];omega);simpa [DOwn.o,D.tv,jC,Dz,Ea] using this
    ·trivial
   ·rename_i hc;split
    ·rename_i d hd;rw [gG] at hd;intro _;exact ⟨_,hk,u_loadB1 (gN hT hc) hx (by rw [jC];simp [hd])⟩
    ·trivial
   ·trivial
  ·trivial
 ·rename_i k n i sz o hx;have hx := HL x _ hx;rw [D.tv] at hx;split
  ·rename_i e z M hk;split
   ·rename_i hz;have hz := Ac hz;subst hz;split
    ·rename_i row hrow;have hlen : (D.pvss M.rows).length = M.len := by rw [yO,MR.len_rows]
     have hat : i < M.len -> (∀ p ∈ M.okL i,p) -> (D.pvss M.rows)[i]? = some (D.pvs row) := fun hi hok => by rw [yR,Cc,MR.at_rows hrow hi hok];rfl
     split
     ·rename_i q hc;split
      ·rename_i r hr;obtain ⟨h1,h2,h3⟩ := uN hr;rw [vL] at h1 h3;simp only [Bm] at h1;rintro ⟨⟨hn,hi⟩,hok⟩;refine ⟨_,hk,?_⟩;refine (u_loadMpR (m := q) (rows := D.pvss M.rows) (row := D.pvs row) (vA hT hc).2 hx (by rw [hlen];exact hn) (hat hi (dH hok)) (by have := (vA hT hc).1;rw [jV];omega)).weaken fun w s g v hv => ?_;subst h3;rw [<- pH,<- qJ0] at hv;exact D.ofPV (d := .agg ((row.drop o).take q)) (by rw [D.flat];exact cO h2) hv
      ·trivial
     ·rename_i hc;split
      ·rename_i d hd;rw [gG] at hd;split
       ·rename_i hf;rintro ⟨⟨hn,hi⟩,hok⟩;refine ⟨_,hk,?_⟩;exact (u_loadMp1 (d := d.pv) (rows := D.pvss M.rows) (row := D.pvs row) (gN hT hc) hx (by rw [hlen];exact hn) (hat hi (dH hok)) (cD hd)).weaken fun w s g v hv => D.ofPV hf hv
       ·trivial
      ·trivial
     ·trivial
    ·trivial
   ·trivial
  ·trivial
 ·trivial
omit hT HL in
mutual
theorem D.str_pure (d : D) (h : d.str = true) : d.pure = true := by
 match d,h with
 | .v _,_ => rfl
 | .agg l,h => rw [D.str] at h;rw [D.pure];exact D.strL_pures l h
 | .clo _ l,h => rw [D.str] at h;rw [D.pure];exact D.strL_pures l h
 | .tup _,_ => rfl
 | .sl _ _ _ _ _,_ => rfl
 | .slr _ _ _,_ => rfl
 | .pt _ _,_ => rfl
 | .own _ _ _,_ => rfl
 | .op _,_ => rfl
 | .gd _ (.bp _ _),h => rw [D.str,D.str] at h;cases h
 | .gd _ (.mo _ _),h => rw [D.str,D.str] at h;cases h
 | .gd _ (.mp _ _ _ _ _),h => rw [D.str,D.str] at h;cases h
 | .gd _ (.mk _),h => rw [D.str,D.str] at h;cases h
 | .gd _ (.v _),_ => rfl
 | .gd _ (.agg _),_ => rfl
 | .gd _ (.tup _),_ => rfl
 | .gd _ (.sl _ _ _ _ _),_ => rfl
 | .gd _ (.slr _ _ _),_ => rfl
 | .gd _ (.pt _ _),_ => rfl
 | .gd _ (.own _ _ _),_ => rfl
 | .gd _ (.op _),_ => rfl
 | .gd _ (.gd _ _),_ => rfl
 | .gd _ (.clo _ _),_ => rfl
 | .gd _ (.tpo _),_ => rfl
 | .bp _ _,h => rw [D.str] at h;cases h
 | .mo _ _,h => rw [D.str] at h;cases h
 | .mp _ _ _ _ _,h => rw [D.str] at h;cases h
 | .mk _,h => rw [D.str] at h;cases h
 | .mw _ _ _ _ _,h => rw [D.str] at h;cases h
 | .tpo _,h => rw [D.str] at h;cases h
theorem D.strL_pures (l : List D) (h : D.strL l = true) : D.pures l = true := by
 match l,h with
 | [],_ => rfl
 | d :: l,h =>
  rw [D.strL] at h;rw [D.pures]
  cases hd : d.str with
  | false => rw [hd] at h;cases h
  | true => rw [hd] at h;rw [D.str_pure d hd];exact D.strL_pures l h
end
omit hT HL in
theorem dT0 : ∀ {l : List D},wK l = true -> D.strL l = true -> ∀ d ∈ D.pvs l,d.one = true
 | [],_,_,d,hd => by rw [D.pvs] at hd;cases hd
 | e :: l,h,hs,d,hd => by
  unfold wK at h;rw [D.strL] at hs
  cases he : e.one with
  | false => rw [he] at h;cases h
  | true =>
   rw [he] at h
   cases hs' : e.str with
   | false => rw [hs'] at hs;cases hs
   | true =>
    rw [hs'] at hs;rw [D.pvs] at hd;rcases Bq.1 hd with rfl | hd
    ·exact D.pv_one he (D.str_pure e hs')
    ·exact dT0 h hs d hd
omit hT HL in
theorem mE0 {t : TypeId} {x y : Operand} {k n i z o : Nat} {e : TypeId} {M : MR} {ds r : List D} (hsz : (P.info? t).map (·.size) = some ds.length) (hx : Opd tm x (.mp k n (i * z + o))) (hn : n = M.len) (hi : i < M.len) (hok : ∀ p ∈ stP M i o z ds,p) (hr : qS0 M i o z ds = some r) (h1 : wK ds = true) (hs : D.strL ds = true)
  (hy : ∀ w s g a,jM w s g tm a -> AllV w s (D.pvs ds) (a.eval y).cells.toList) :
  UOp P ⟨dst,.store t x y,ty,pos,aft,gd⟩ tm [(k,(DOwn.mrow e z M).o)] (D.v undef).tv [(k,(DOwn.mrow e z (.upd M i r)).o)] := by
 have hlen : (D.pvss M.rows).length = M.len := by rw [yO,MR.len_rows]
 have hset : ∀ r : List D,(DOwn.mrow e z (.upd M i r)).o = .mrow e z ((D.pvss M.rows).set i (D.pvs r)) := fun r => by
  show Own.mrow e z (D.pvss (M.rows.set i r)) = _;rw [yR,yR,List.map_set]
 have hpl : (D.pvs ds).length = ds.length := jV ds;obtain ⟨row,hrow⟩ : ∃ row,(D.pvss M.rows)[i]? = some row := ⟨_,Ah (by rw [hlen];exact hi)⟩;rw [hset];intro w s g a K Q ht hg hK;obtain ⟨hno,v0,hv0,hcase⟩ := hg.one;have hz : row.length = z /\ o + ds.length <= z /\ row.take o ++ D.pvs ds ++ row.drop (o + (D.pvs ds).length) = D.pvs r := by
  have hrz : row.length = z := by
   rcases hcase with ⟨_,h0⟩ | ⟨G,cap,vs,rest,_,_,_,_,_,_,h6,_⟩
   ·rw [h0] at hrow;simp at hrow
   ·exact h6.1 row (Bh hrow)
  refine ⟨hrz,?_⟩;unfold qS0 at hr;unfold stP at hok
  cases hf : Nat.beq o 0 && Nat.beq ds.length z with
  | true =>
   rw [hf] at hr;simp only [Ai] at hf;have h3 := Ac hf.1;have h4 := Ac hf.2;have h5 : ds = r := Option.some.inj hr;subst h5;subst h3;refine ⟨by omega,?_⟩;rw [hpl,Cg,List.take_zero,Da,Ax om,Cn]
  | false =>
   rw [hf] at hr hok;simp only at hr hok
   cases ha : M.at i with
   | none => rw [ha] at hr;cases hr
   | some row' =>
    rw [ha] at hr;simp only at hr
    cases hb : Nat.beq row'.length z with
    | false => rw [hb] at hr;cases hr
    | true =>
     rw [hb] at hr;obtain ⟨g1,g2⟩ := xJ hr;have hb := Ac hb;have : row = D.pvs row' := by
      have h2 : (D.pvss M.rows)[i]? = some (D.pvs row') := by rw [yR,Cc,MR.at_rows ha hi hok];rfl
      rw [hrow] at h2;exact Option.some.inj h2
     refine ⟨by omega,?_⟩;rw [g2,yA0,yA0,qJ0,pH,this,hpl]
 obtain ⟨hrz,hlo,heq⟩ := hz;have := storeM_core (P := P) (tm := tm) (dst := dst) (ty := ty) (pos := pos) (aft := aft) (gd := gd) (x := x) (y := y) (e := e) (ds := D.pvs ds) (by rw [hpl];exact hsz) hx (by rw [hlen];exact hn) hrow (by rw [hpl,hrz];exact hlo) (dT0 h1 hs) (D.strL_pv ds hs) hy;rw [heq] at this;exact this w s g a K Q ht hg hK
theorem evStore_ok (t : TypeId) (x y : Operand) : (xP0 T ow t (look x) (look y)).Ok P E ⟨dst,.store t x y,ty,pos,aft,gd⟩ tm ow nx := by
 unfold xP0;split
 ·rename_i k off hx;have hx := HL x _ hx;split
  ·rename_i bt cs hk;split
   ·rename_i n hc;split
    ·rename_i l hy;have hy := HL y _ hy;split
     ·rename_i hb;simp only [Ai] at hb;split
      ·rename_i r hr;obtain ⟨h1,h2⟩ := xJ hr;intro _;refine ⟨_,hk,?_⟩;have hn := Ac hb.1;have hy' : Opd tm y (.agg (D.tvl l)) := by rw [D.tv] at hy;exact hy
       have := uG0 (P := P) (tm := tm) (dst := dst) (ty := ty) (pos := pos) (aft := aft) (gd := gd) (x := x) (y := y) (bt := bt) (cs := D.tvl cs) (vA hT hc).2 hx hy' (by rw [jJ];exact hn) (by rw [jJ];omega) (dA0 hb.2);subst h2;subst hn;simpa [DOwn.o,D.tv,D.pv,jC,Dz,Ea] using this
      ·trivial
     ·trivial
    ·trivial
   ·rename_i hc;split
    ·rename_i d hy;have hy := HL y _ hy;split
     ·rename_i hd;split
      ·rename_i r hr;obtain ⟨h1,h2⟩ := xJ hr;intro _;refine ⟨_,hk,?_⟩;have := u_storeB1 (P := P) (tm := tm) (dst := dst) (ty := ty) (pos := pos) (aft := aft) (gd := gd) (x := x) (y := y) (bt := bt) (cs := D.tvl cs) (gN hT hc) hx hy (by rw [jJ];simpa using h1) (D.tv_one hd);subst h2;simpa [DOwn.o,D.tv,D.pv,jC,Dz,Ea] using this
      ·trivial
     ·trivial
    ·trivial
   ·split
    ·rename_i hf;split
     ·rename_i hy;have hy := HL y _ hy;split
      ·rename_i hb;intro _;refine ⟨_,hk,?_⟩;have hn := Ar hb;have hy' : Opd tm y (.agg []) := by rw [D.tv] at hy;exact hy
       have := uG0 (P := P) (tm := tm) (dst := dst) (ty := ty) (pos := pos) (aft := aft) (gd := gd) (x := x) (y := y) (bt := bt) (cs := D.tvl cs) (qA0 (yG hT hf)).2.1 hx hy' rfl (by rw [jJ];omega) (fun _ h => by cases h);simpa [DOwn.o,D.tv,D.pv,jC,Dz,Ea] using this
      ·trivial
     ·trivial
    ·trivial
  ·trivial
 ·rename_i k n i sz o hx;have hx := HL x _ hx;rw [D.tv] at hx;split
  ·rename_i e z M hk;split
   ·rename_i hz;have hz := Ac hz;subst hz;have hlen : (D.pvss M.rows).length = M.len := by rw [yO,MR.len_rows]
    split
    ·rename_i q hc;split
     ·rename_i l hy;have hy := HL y _ hy;split
      ·rename_i hb;simp only [Ai] at hb;obtain ⟨⟨⟨hb1,hb2⟩,hb3⟩,hb4⟩ := hb;have hq := Ac hb1;split
       ·rename_i r hr;rintro ⟨⟨hn,hi⟩,hok⟩;refine ⟨_,hk,mE0 (ds := l) (by rw [hq];exact (vA hT hc).2.size) hx hn hi (dH hok) hr hb2 hb4 fun w s g a ht => ?_⟩;rw [D.tv] at hy;have := Opd.eval ht hy;rw [TV.P] at this;obtain ⟨vs,h1,h2⟩ := this;rw [h1];exact AllT.weakS (D.toPVs hb3) h2
       ·trivial
      ·trivial
     ·trivial
    ·rename_i hc;split
     ·rename_i d hy;have hy := HL y _ hy;split
      ·rename_i hb;simp only [Ai] at hb;obtain ⟨⟨hb1,hb2⟩,hb3⟩ := hb;split
       ·rename_i r hr;rintro ⟨⟨hn,hi⟩,hok⟩;refine ⟨_,hk,mE0 (ds := [d]) (gN hT hc).size hx hn hi (dH hok) hr (by unfold wK;rw [hb1];rfl) (by rw [D.strL,hb3];rfl) fun w s g a ht => ?_⟩;have h := TV.weak (D.toPV hb2) (Opd.eval ht hy);rw [kR (d.pv.cell (D.pv_one hb1 hb2) _ _ _ h)];rw [D.pvs];exact ⟨h,by rw [D.pvs];trivial⟩
       ·trivial
      ·trivial
     ·trivial
    ·trivial
   ·trivial
  ·trivial
 ·trivial
theorem evFieldAddr_ok (t : TypeId) (x : Operand) (i : Nat) : (mS T t (look x) i).Ok P E ⟨dst,.fieldAddr t x i,ty,pos,aft,gd⟩ tm ow nx := by
 unfold mS;split
 ·rename_i n zs pl hf;split
  ·rename_i off sz hp;rw [qL0] at hp;have hF := (qA0 (yG hT hf)).2.2.2.1 i _ hp;split
   ·rename_i m row hx;intro _;have := u_fieldAddrP (P := P) (tm := tm) (dst := dst) (ty := ty) (pos := pos) (aft := aft) (gd := gd) (row := D.pvs row) hF (HL x _ hx);have e : (D.pt m (mU off row)).tv = .pv (PV.pt m ((D.pvs row).drop off)) := by
     rw [vL,<- pH];rfl
    show UOp _ _ _ _ (D.pt m (mU off row)).tv _;rw [e];exact this
   ·rename_i k o hx;intro _;exact u_fieldAddrB hF (HL x _ hx)
   ·rename_i k n j sz o hx;intro _;have hx := HL x _ hx;rw [D.tv] at hx;have := u_fieldMp (P := P) (dst := dst) (ty := ty) (pos := pos) (aft := aft) (gd := gd) hF hx;rw [Dx] at this;exact this
   ·trivial
  ·trivial
 ·trivial
theorem evIndexAddr_ok (t : TypeId) (x y : Operand) : (mR T t (look x) (look y)).Ok P E ⟨dst,.indexAddr t x y,ty,pos,aft,gd⟩ tm ow nx := by
 unfold mR;split
 ·rename_i e sz hf;have hS := (kC (yG hT hf)).2.2.slT;split
  ·rename_i k n hy;have hy := HL y _ hy;split
   ·rename_i m z α l f d hx;have hx := HL x _ hx;split
    ·rename_i hz;have hz := Ac hz;subst hz;rintro ⟨⟨h0,h1⟩,_⟩;refine xT (rows := l.map fun a => D.pvs (f a)) hS hx rfl hy h0 ?_;rw [Cc,Ah h1,An,Ah h1];rfl
    ·trivial
   ·rename_i m z rows hx;have hx := HL x _ hx;split
    ·rename_i hz;have hz := Ac hz;subst hz;rintro ⟨⟨h0,h1⟩,_⟩;refine xT (rows := D.pvss rows) hS hx rfl hy h0 ?_;rw [yR,Cc,Ah h1,An,Ah h1];rfl
    ·trivial
   ·rename_i k z rows hx;have hx := HL x _ hx;split
    ·rename_i hz;have hz := Ac hz;subst hz;rintro ⟨⟨h0,h1⟩,_⟩;refine xT (rows := D.pvss rows) hS hx (by rw [D.tv,TV.toPV]) hy h0 ?_;rw [yR,Cc,Ah h1,An,Ah h1];rfl
    ·trivial
   ·rename_i k q hx;rintro ⟨⟨h0,h1⟩,_⟩;exact u_indexMo hS (HL x _ hx) hy h0 h1
   ·rename_i k q i z m hx;split
    ·rename_i hz;have hz := Ac hz;subst hz;rintro ⟨⟨h0,h1⟩,_⟩;exact u_indexMw hS (HL x _ hx) hy h0 h1
    ·trivial
   ·trivial
  ·trivial
 ·rename_i n0 c q e zs hf;have hA := (wS0 (yG hT hf)).2.2.2.1;split
  ·rename_i k n hy;have hy := HL y _ hy;split
   ·rename_i k off hx;rintro ⟨⟨h0,h1⟩,_⟩;have hx := HL x _ hx;rw [D.tv] at hx;exact u_idxAddrB hA hx hy h0 h1
   ·rename_i m row hx;rintro ⟨⟨h0,h1⟩,_⟩;have := u_idxAddrP (P := P) (dst := dst) (ty := ty) (pos := pos) (aft := aft) (gd := gd) hA (HL x _ hx) hy h0 h1;rw [vL];show UOp P _ tm [] (.pv (PV.pt m (D.pvs (row.drop _)))) [];rw [pH];exact this
   ·trivial
  ·trivial
 ·trivial
theorem evIndexX_ok (t : TypeId) (x y : Operand) : (jH0 T t (look x) (look y)).Ok P E ⟨dst,.indexAddr t x y,ty,pos,aft,gd⟩ tm ow nx := by
 unfold jH0;split
 ·rename_i e sz hf;have hS := (kC (yG hT hf)).2.2.slT;split
  ·rename_i k n hy;have hy := HL y _ hy;split
   ·rename_i k z rows hx;have hx := HL x _ hx;split
    ·rename_i hz;have hz := Ac hz;subst hz;rintro row ⟨h0,h1,rfl⟩;refine xT (rows := D.pvss rows) hS hx (by rw [D.tv,TV.toPV]) hy h0 ?_;rw [yR,Cc,Ah h1,An,Ah h1];rfl
    ·trivial
   ·trivial
  ·trivial
 ·trivial
theorem evIndex_ok (t : TypeId) (x y : Operand) : (xV0 T t (look x) (look y)).Ok P E ⟨dst,.index t x y,ty,pos,aft,gd⟩ tm ow nx := by
 unfold xV0;split
 ·rename_i hf;split
  ·rename_i p k n hx hy;rintro ⟨⟨h0,h1⟩,_⟩;have hc : p[n.toNat]? = some p[n.toNat] := getElem?_pos p n.toNat h1;have := u_indexStr (P := P) (tm := tm) (dst := dst) (ty := ty) (pos := pos) (aft := aft) (gd := gd) (xG (yG hT hf)).2.1 (HL x _ hx) (HL y _ hy) h0 hc;have e : bAt p n.toNat = p[n.toNat].toNat := by unfold bAt;rw [hc]
   rw [e];exact this
  ·trivial
 ·rename_i n0 c q e zs hf;have hA := (wS0 (yG hT hf)).2.2.2.1;split
  ·rename_i l k n hx hy;have hx := HL x _ hx;have hy := HL y _ hy;rw [D.tv] at hx;split
   ·rename_i m hc;split
    ·rename_i r hr;rintro ⟨⟨h0,h1⟩,_⟩;obtain ⟨g1,_,g3⟩ := uN hr;rw [vL] at g1 g3
     have := u_idxAR (P := P) (dst := dst) (ty := ty) (pos := pos) (aft := aft) (gd := gd) (n := m) hA (vA hT hc).2 hx hy h0 h1 (by
      rw [jJ];have h9 := (vA hT hc).1;rw [Bm] at g1;omega)
     rw [jC,<- Ea,<- Dz,<- g3,<- jC] at this;exact this
    ·trivial
   ·rename_i hc;split
    ·rename_i d hd;rintro ⟨⟨h0,h1⟩,_⟩;rw [gG] at hd;exact u_idxA1 hA (gN hT hc) hx hy h0 h1 (by rw [jC];simp [hd])
    ·trivial
   ·trivial
  ·trivial
 ·trivial
theorem evLen_ok (t : TypeId) (x : Operand) : (qP1 T t (look x)).Ok P E ⟨dst,.call { callee := .builtin .len,args := #[x],argTypes := #[t] },ty,pos,aft,gd⟩ tm ow nx := by
 unfold qP1;split
 ·rename_i e sz hf;have hS := (kC (yG hT hf)).2.2.slT;split
  ·rename_i m z α l f d hx;split
   ·rename_i hz;have hz := Ac hz;subst hz;intro _;have := wQ0 (P := P) (tm := tm) (dst := dst) (ty := ty) (pos := pos) (aft := aft) (gd := gd) (rows := l.map fun a => D.pvs (f a)) hS (HL x _ hx) rfl;rw [Bb] at this;exact this
   ·trivial
  ·rename_i k n hx;intro _;exact u_lenMo hS (HL x _ hx)
  ·rename_i k q i z n hx;intro _;exact u_lenMw hS (HL x _ hx)
  ·rename_i m z rows hx;split
   ·rename_i hz;have hz := Ac hz;subst hz;intro _;have := wQ0 (P := P) (tm := tm) (dst := dst) (ty := ty) (pos := pos) (aft := aft) (gd := gd) (rows := D.pvss rows) hS (HL x _ hx) rfl;rw [yO] at this;exact this
   ·trivial
  ·rename_i k z rows hx;split
   ·rename_i hz;have hz := Ac hz;subst hz;intro _;have := wQ0 (P := P) (tm := tm) (dst := dst) (ty := ty) (pos := pos) (aft := aft) (gd := gd) (rows := D.pvss rows) hS (HL x _ hx) (by rw [D.tv,TV.toPV]);rw [yO] at this;exact this
   ·trivial
  ·rename_i ad n c hx;intro _;exact u_lenNil hS (HL x _ hx)
  ·trivial
 ·rename_i hf;split
  ·rename_i p hx;intro _;exact u_lenStr (xG (yG hT hf)).2.1 (HL x _ hx)
  ·trivial
 ·trivial
theorem evBin_ok (op : BinOp) (t u : TypeId) (x y : Operand) : (qS1 T op t (look x) (look y)).Ok P E ⟨dst,.binOp op t x y u,ty,pos,aft,gd⟩ tm ow nx := by
 unfold qS1;split
 ·rename_i k n k' m hx hy;have hx := HL x _ hx;have hy := HL y _ hy;split
  ·rename_i hk;have hk := wF hk;subst hk;unfold yB1
   cases op
   case lss => exact fun _ => u_lss hx hy
   case leq => exact fun _ => u_leq hx hy
   case gtr => exact fun _ => u_gtr hx hy
   case geq => exact fun _ => u_geq hx hy
   case eql => exact fun _ => u_eql hx hy
   case neq => exact fun _ => u_neq hx hy
   case add => exact tT0 (cZ0 hx hy)
   case sub => exact tT0 (cX0 hx hy)
   case mul => exact tT0 (cY0 hx hy)
   case quo => exact quI_ok fun h => u_quo hx hy h
   case rem => exact fun h => u_rem hx hy h.1
   case shr => exact fun h => qW1 hx hy h.1
   case shl => exact fun h => qX1 hx hy h.1
   case and => exact fun _ => u_and hx hy
   case or => exact fun _ => u_or hx hy
   case xor => exact fun _ => u_xor hx hy
   case andNot => exact fun _ => u_andNot hx hy
  ·split
   ·intro h;exact qW1 hx hy h.1
   ·intro h;exact qX1 hx hy h.1
   ·trivial
 ·rename_i n m hx hy;have hx := HL x _ hx;have hy := HL y _ hy;split
  ·rename_i hf;have hb := (qB0 (yG hT hf)).2.1;split
   ·intro _;exact u_eqlB hb hx hy
   ·intro _;exact u_neqB hb hx hy
   ·trivial
  ·trivial
 ·rename_i p q hx hy;have hx := HL x _ hx;have hy := HL y _ hy;split
  ·intro _;exact u_eqlS hx hy
  ·intro _;exact u_neqS hx hy
  ·intro h;exact u_addStr hx hy h.1
  ·intro _;exact u_lssS hx hy
  ·intro _;exact u_geqS hx hy
  ·trivial
 ·trivial
theorem evField_ok (t : TypeId) (x : Operand) (i : Nat) : (xX0 T t (look x) i).Ok P E ⟨dst,.field t x i,ty,pos,aft,gd⟩ tm ow nx := by
 unfold xX0;split
 ·rename_i ts hf;split
  ·rename_i ft off hi;rw [mB0] at hi;have hP := tabFl hT hf hi;split
   ·rename_i l hx;have hx := HL x _ hx;rw [D.tv] at hx;split
    ·rename_i n hc;split
     ·rename_i r hr;intro _;obtain ⟨g1,_,g3⟩ := uN hr;rw [vL] at g1 g3
      have := u_fieldR (P := P) (dst := dst) (ty := ty) (pos := pos) (aft := aft) (gd := gd) (n := n) hP (vA hT hc).2 hx (by
       rw [jJ];have h0 := (vA hT hc).1;simp at g1;simp only [] at g1 ⊢;omega)
      rw [jC,<- Ea,<- Dz,<- g3,<- jC] at this;exact this
     ·trivial
    ·rename_i hc;split
     ·rename_i d hd;intro _;rw [gG] at hd;exact u_field1 hP (gN hT hc) hx (by rw [jC];simp [hd])
     ·trivial
    ·trivial
   ·trivial
  ·trivial
 ·trivial
theorem evConvert_ok (src dt : TypeId) (x : Operand) : (cU T src dt (look x)).Ok P E ⟨dst,.convert src dt x,ty,pos,aft,gd⟩ tm ow nx := by
 unfold cU;split
 ·rename_i ks k' k n hs hd hx;obtain ⟨i,u,_,hu⟩ := xU (yG hT hs);intro _;exact u_conv hu (mY (yG hT hd)).2.1 (HL x _ hx)
 ·rename_i e sz p hs hd hx;split
  ·rename_i k he;split
   ·rename_i hk;have hk := wF hk;subst hk;rintro ⟨hp,_⟩;obtain ⟨ie,z,hde,_⟩ := (kC (yG hT hd)).2.2.h;exact u_bytes (xG (yG hT hs)).2.1 hde (mY (yG hT he)).2.1 hp (HL x _ hx)
   ·split
    ·rename_i hk;have hk := wF hk;subst hk;rintro ⟨hp,_⟩;obtain ⟨ie,z,hde,_⟩ := (kC (yG hT hd)).2.2.h;exact u_runes (xG (yG hT hs)).2.1 hde (mY (yG hT he)).2.1 hp (HL x _ hx)
    ·trivial
  ·trivial
 ·trivial
theorem evSlice_ok (t : TypeId) (x : Operand) (lo hi : Option Operand) : (xQ0 T look t x lo hi).Ok P E ⟨dst,.slice t x lo hi none,ty,pos,aft,gd⟩ tm ow nx := by
 unfold xQ0;split
 ·rename_i e sz hf;have hS := (kC (yG hT hf)).2.2.slT;split
  ·rename_i m z α l f d hx;split
   ·rename_i hz;have hz := Ac hz;subst hz;split
    ·rename_i a b ha hb;rintro ⟨⟨h0,h1,h2⟩,_⟩;have := wP0 (P := P) (dst := dst) (ty := ty) (pos := pos) (aft := aft) (gd := gd) (rows := l.map fun a => D.pvs (f a)) hS (HL x _ hx) rfl (uG HL ha) (by rw [Bb];exact uG HL hb) h0 h1 (by rw [Bb];exact h2);rw [<- Ea,<- Dz] at this;exact this
    ·trivial
   ·trivial
  ·rename_i m z rows hx;split
   ·rename_i hz;have hz := Ac hz;subst hz;split
    ·rename_i a b ha hb;rintro ⟨⟨h0,h1,h2⟩,_⟩;have := wP0 (P := P) (dst := dst) (ty := ty) (pos := pos) (aft := aft) (gd := gd) (rows := D.pvss rows) hS (HL x _ hx) rfl (uG HL ha) (by rw [yO];exact uG HL hb) h0 h1 (by rw [yO];exact h2);rw [yR,<- Ea,<- Dz,<- yR] at this;exact this
    ·trivial
   ·trivial
  ·rename_i k z rows hx;split
   ·rename_i hz;have hz := Ac hz;subst hz;split
    ·rename_i a b ha hb;rintro ⟨⟨h0,h1,h2⟩,_⟩;have := wP0 (P := P) (dst := dst) (ty := ty) (pos := pos) (aft := aft) (gd := gd) (rows := D.pvss rows) hS (HL x _ hx) (by rw [D.tv,TV.toPV]) (uG HL ha) (by rw [yO];exact uG HL hb) h0 h1 (by rw [yO];exact h2);rw [yR,<- Ea,<- Dz,<- yR] at this;exact this
    ·trivial
   ·trivial
  ·rename_i k q hx;split
   ·rename_i a b ha hb;rintro ⟨⟨h0,h1,h2,h3⟩,_⟩;exact u_sliceMo hS (HL x _ hx) (uG HL ha) (uG HL hb) h0 h1 h2 h3
   ·trivial
  ·rename_i k q i z n hx;split
   ·rename_i hz;have hz := Ac hz;subst hz;split
    ·rename_i a b ha hb;rintro ⟨⟨h0,h1,h2,h3⟩,_⟩;exact u_sliceMw hS (HL x _ hx) (uG HL ha) (uG HL hb) h0 h1 h2 h3
    ·trivial
   ·trivial
  ·trivial
 ·rename_i hf;split
  ·rename_i p hx;split
   ·rename_i a b ha hb;rintro ⟨⟨h0,h1,h2⟩,_⟩;exact u_sliceStr (xG (yG hT hf)).2.1 (HL x _ hx) (uG HL ha) (uG HL hb) h0 h1 h2
   ·trivial
  ·trivial
 ·trivial
end
end Go.Proofs.YtinegkcbkefeiaaGreatDoor
