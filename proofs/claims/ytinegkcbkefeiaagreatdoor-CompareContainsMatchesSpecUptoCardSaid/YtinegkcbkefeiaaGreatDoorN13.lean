/- Part 13 of the proof. -/
import Derived.Test.YtinegkcbkefeiaaGreatDoorN12
import Derived.Shelf.Unicode.ValidAny
import Derived.Shelf.Strings.Split
import Derived.Shelf.Strings.Fields
import Derived.Shelf.Strings.Cut
namespace Go.Proofs.YtinegkcbkefeiaaGreatDoor
open Go.RowKit
theorem nz {p : Prop} (h : p := by repeat (first | exact trivial | exact u6 _ | exact u12 rfl | refine ⟨?_,?_⟩)) : p := h
variable {md me : Bool}
def smI (b1 : Bool) (l1 : List Nat) (b2 : Bool) (l2 : List Nat) : Bool := (b1 == b2) && decide (l1 = l2)
theorem wY0 {b1 b2 : Bool} {l1 l2 : List Nat} : smI b1 l1 b2 l2 = true ↔ b1 = b2 /\ l1 = l2 := by simp [smI]
def smV (a b : Vl) : Bool := (((decide (a.k = b.k) && decide (a.r = b.r)) && decide (a.s = b.s)) && smI a.nn a.nl b.nn b.nl) && smI a.dn a.dl b.dn b.dl
theorem dK0 {a b : Vl} : smV a b = true ↔ a = b := by
 cases a;cases b;simp only [smV,Ai,Ak,wY0,Vl.mk.injEq];constructor
 ·rintro ⟨⟨⟨⟨rfl,rfl⟩,rfl⟩,rfl,rfl⟩,rfl,rfl⟩;simp
 ·rintro ⟨rfl,rfl,rfl,rfl,rfl,rfl,rfl⟩;simp
instance : DecidableEq Vl := fun _ _ => decidable_of_iff _ dK0
theorem zD1 (a b : Vl) : smV a b = decide (a = b) := by
 rw [Df,Ak];exact dK0
def smO (a b : Ob) : Bool := ((((((((((decide (a.kind = b.kind) && decide (a.name = b.name)) && decide (a.cls = b.cls)) && decide (a.code = b.code)) && decide (a.state = b.state)) && decide (a.refs = b.refs)) && decide (a.order = b.order)) && decide (a.names = b.names)) && decide (a.items = b.items)) && decide (a.keys = b.keys)))
theorem dL0 {a b : Ob} : smO a b = true ↔ a = b := by
 cases a;cases b;simp only [smO,Ai,Ak,Ob.mk.injEq];constructor
 ·rintro ⟨⟨⟨⟨⟨⟨⟨⟨⟨rfl,rfl⟩,rfl⟩,rfl⟩,rfl⟩,rfl⟩,rfl⟩,rfl⟩,rfl⟩,rfl⟩;simp
 ·rintro ⟨rfl,rfl,rfl,rfl,rfl,rfl,rfl,rfl,rfl,rfl⟩;simp
instance : DecidableEq Ob := fun _ _ => decidable_of_iff _ dL0
theorem smO_eq (a b : Ob) : smO a b = decide (a = b) := by
 rw [Df,Ak];exact dL0
structure Al {α : Type} (l : List α) (p : α -> Bool) where
 k : Nat
 le : k <= l.length
 all : ∀ j x,j < k -> l[j]? = some x -> p x = true
def Al.next {α : Type} {l : List α} {p : α -> Bool} {e : α} (x : Al l p) (h1 : x.k < l.length) (h2 : p (l.getD (x.k : Int).toNat e) = true) : Al l p := ⟨x.k + 1,by omega,fun j y hj hy => by
 rcases Nat.lt_succ_iff_lt_or_eq.1 hj with h | rfl
 ·exact x.all j y h hy
 ·rw [cL h1 e] at hy;cases hy;exact h2⟩
theorem Al.yes {α : Type} {l : List α} {p : α -> Bool} (x : Al l p) (h1 : ¬ x.k < l.length) : l.all p = true := by
 rw [Bf];intro y hy;obtain ⟨j,hj,e⟩ := List.mem_iff_getElem.1 hy;exact x.all j y om (by rw [Ah hj,e])
theorem Al.no {α : Type} {l : List α} {p : α -> Bool} {k : Nat} {e : α} (h1 : k < l.length) (h2 : p (l.getD (k : Int).toNat e) = false) : l.all p = false := by
 rw [<- Bool.not_eq_true,Bf];intro h;have := h (l.getD (k : Int).toNat e) (by rw [qN h1];exact Be _);rw [h2] at this;cases this
def inH (h : List Ob) (n : Int) : Prop := 0 <= n /\ n.toNat < h.length
theorem yV {h : List Ob} {n : Int} (hi : yY h n = true) : inH h n := kS0 hi
abbrev yJ (h : List Ob) (n : Int) : Ob := h.getD n.toNat ob0
def tR0 (h : List Ob) (v : Vl) : Bool := decide (v.k = 7) || decide ((zY h v).kind = 7)
def excS (h : List Ob) (v : Vl) : Bool := (decide ((zY h v).kind = 10) && yY h (zY h v).cls) && hasB (yJ h (zY h v).cls).order 28
def rngP (v : Vl) : Bool := decide (v.k = 2) && decide (v.nl.length <= 40)
def rngS (o : Ob) : Bool := o.items.all rngP && decide (0 < (o.items.getD 2 vl0).nl.length)
def mJ (k : Int) : Int := if k = 7 then 1 else if k = 17 then 3 else if k = 19 then 3 else if k = 16 \/ k = 9 then 1099511627776 else if k = 18 then 5000 else 0
theorem mF (b1 b2 : Bool) (l1 l2 : List Nat) : Fn Tryz.prog 95 [.agg [.v (.bool b1),usD l1],.agg [.v (.bool b2),usD l2]] (.v (.bool (smI b1 l1 b2 l2))) := by
 refine yD zL Tryz.func95 rfl rfl rfl rfl rfl rfl ?_;intros;refine zJ 100 ?_;refine zB (zE zL [] 200 rfl ?_);refine zF ?_;refine yK _ (fun hg10 => wN0 _ _) rfl ?_;refine zf (zA (zK ?_));exact u4 rfl (u6 _)
theorem uR (a b : Vl) : Fn Tryz.prog 36 [.agg (vlD a),.agg (vlD b)] (.v (.bool (decide (a = b)))) := by
 refine yD zL Tryz.func36 rfl rfl rfl rfl rfl rfl ?_;intros;refine zJ 100 ?_;refine zB (zE zL [] 200 rfl ?_);refine zF ?_;refine yK _ (fun hg24 => mF _ _ _ _) rfl ?_;refine zF ?_;refine yK _ (fun hg31 => mF _ _ _ _) rfl ?_;refine zf (zA (zK ?_));exact u4 rfl (u7 (zD1 a b))
theorem gP (l m : List Vl) : Fn Tryz.prog 43 [vsD l,vsD m] (.v (.bool (decide (l = m)))) := by
 refine yD zL Tryz.func43 rfl rfl rfl rfl rfl rfl ?_;intros;refine wX 0 rfl fun hl0 => ?_;refine zJ 100 ?_;refine zB (zJ 200 ?_);refine zT rfl (fun c1 => ?_) (fun c1 => ?_)
 ·simp at c1;refine zJ 300 ?_;refine zK (zN ?_);exact u4 rfl (u7 (by simp;rintro rfl;exact c1 rfl))
 ·simp at c1;have c1 := Int.ofNat_inj.1 c1;refine zM (zA (zB (zJ 400 ?_)));refine zR ?_;refine yC (ι := Eq2 l m) [0,1,12] [] 450 (fun x => [(13,.v (.int .i64 x.k))]) (fun _ => []) (fun x => l.length - x.k) ⟨0,Ap _,rfl⟩ ?_;refine ⟨⟨yM,yH,rfl,rfl⟩,fun x => ?_⟩;have hk := x.le;refine zJ 500 ?_;refine zB (zW (fun c4 => ?_) (fun c4 => ?_))
  ·
   refine zM (zA (zB (zR (zJ 600 ?_))));refine zB (zZ zL [] [[],[],[0,1],[0,1,2],[],[],[4,5],[4,5,6],(rgN 8),(rgN 9)] 700 yQ kr rfl ?_);refine zF ?_;refine zO _ (uR _ _) rfl ?_;refine zF ?_;refine zC (zA (zT rfl (fun c6 => ?_) (fun c6 => ?_)))
   ·simp only [Bp,Av] at c6;refine zJ 800 ?_;refine zK (zQ (zN (yL (zQ (zN ?_)))));exact u4 rfl (u7 (by simpa using cQ0 c6))
   ·simp only [Bw,Ak] at c6;refine zM (zP (zA (yN zL [] 900 ?_)));exact zS (x.next c1 c4 c6) ⟨yM,yH,rfl,rfl⟩ (by show l.length - (x.k + 1) < l.length - x.k;omega)
  ·
   refine yE (yA (yB (zX (zA (zJ 1000 ?_)))));refine zK ?_;exact u4 rfl (u7 (by simpa using x.all c1 c4))
theorem SameObject_ok (a b : Ob) : Fn Tryz.prog 49 [.agg (obD a),.agg (obD b)] (.v (.bool (decide (a = b)))) := by
 refine yD zL Tryz.func49 rfl rfl rfl rfl rfl rfl ?_;intros;refine zJ 100 ?_;refine zB (zE zL [] 200 rfl ?_);refine zF ?_;refine yK _ (fun hg38 => gK0 _ _) rfl ?_;refine zF ?_;refine yK _ (fun hg45 => gK0 _ _) rfl ?_;refine zF ?_;refine yK _ (fun hg52 => bL _ _) rfl ?_;refine zF ?_;refine yK _ (fun hg59 => gP _ _) rfl ?_;refine zF ?_;refine yK _ (fun hg66 => gP _ _) rfl ?_;refine zf (zA (zK ?_));exact u4 rfl (u7 (smO_eq a b))
theorem mV (h : List Ob) (v : Vl) : Fn Tryz.prog 145 [hpD md h,.agg (vlD v)] (.v (.bool (tR0 h v))) := by
 refine yD zL Tryz.func145 rfl rfl rfl rfl rfl rfl ?_;intros;refine zJ 100 ?_;refine zB (zE zL [] 200 rfl ?_);refine zF ?_;refine yK _ (fun hg6 => uA _ _) rfl ?_;refine zf (zA (zK ?_));exact u4 rfl (u6 _)
theorem yG0 (h : List Ob) (n : Int) (hn : inH h n) : Fn Tryz.prog 146 [hpD md h,.v (.int .i64 n)] (.v (.bool (decide ((yJ h n).kind = 9)))) := by
 refine yD zL Tryz.func146 rfl rfl rfl rfl rfl rfl ?_;intros;refine zB (zE zL [] 100 rfl ?_);repeat (first | refine zH ?_ | refine zU (by exact hn) ?_)
 refine zC (zA ?_);refine zB (zE zL [] 200 rfl ?_);repeat (first | refine zH ?_ | refine zU (by exact hn) ?_)
 refine zC (zA (zK ?_));exact u4 rfl (u6 _)
theorem wZ (h : List Ob) (v : Vl) : Fn Tryz.prog 199 [hpD md h,.agg (vlD v)] (.v (.bool (excS h v))) := by
 refine yD zL Tryz.func199 rfl rfl rfl rfl rfl rfl ?_;intros;refine zJ 100 ?_;refine zB (zE zL [] 200 rfl ?_);refine zF ?_;refine zO _ (uA _ _) rfl ?_;refine zf (zA ?_);refine zB (zE zL [] 300 rfl ?_);repeat (first | refine zH ?_ | refine zU (by intro hh;simp at hh;exact yV hh.2) ?_)
 refine yK _ (fun hg7 => uM _ _) rfl ?_;repeat (first | refine zH ?_ | refine zU (by intro hh;simp at hh;exact yV hh.2) ?_)
 refine yK _ (fun hg17 => uT _ _) rfl ?_;repeat (first | refine zH ?_ | refine zU (by intro hh;simp at hh;exact yV hh.2) ?_)
 refine zC (zA (zK ?_));exact u4 rfl (u6 _)
theorem RangeOk_ok (o : Ob) (ho : 2 < o.items.length) (hl : o.items.length <= 2000000) : Fn Tryz.prog 144 [.agg (obD o)] (.v (.bool (rngS o))) := by
 refine yD zL Tryz.func144 rfl rfl rfl rfl rfl rfl ?_;intros;refine zJ 100 ?_;refine zB (zJ 200 ?_);refine zR ?_;refine yC (ι := Al o.items rngP) [1,6,7] [0] 250 (fun x => [(8,.v (.int .i64 x.k))]) (fun _ => []) (fun x => o.items.length - x.k) ⟨0,Ap _,fun j x hj => by omega⟩ ?_;refine ⟨⟨yM,yH,rfl,rfl⟩,fun x => ?_⟩;have hk := x.le;refine zJ 300 ?_;refine zB (zW (fun c2 => ?_) (fun c2 => ?_))
 ·
  refine zM (zA (zB (zR (zJ 400 ?_))));refine zJ 500 ?_;refine zW (fun c4 => ?_) (fun c4 => ?_)
  ·
   refine zJ 600 ?_;refine zK (zQ (zN (yL (zQ (zN ?_)))))
   exact u4 rfl (u7 (by rw [rngS,Al.no (e := vl0) c2 (by
     rw [<- Bool.not_eq_true];simp only [rngP,Ai,Ak];rcases c4 with c4 | c4
     ·exact fun h => c4 h.1
     ·exact fun h => by have := h.2;omega)];rfl))
  ·
   refine zM (zP (zA (yN zL [] 700 ?_)));exact zS (x.next (e := vl0) c2 (by rw [rngP,Aw c4.1,Aw om];rfl)) ⟨yM,yH,rfl,rfl⟩ (by show o.items.length - (x.k + 1) < o.items.length - x.k;omega)
 ·
  refine yE (yA (yB (zX (zA ?_))));refine zB (zE zL [] 800 rfl ?_);repeat (first | refine zH ?_ | refine zU (by exact ⟨by decide,ho⟩) ?_)
  refine zC (zA (zK ?_));exact u4 rfl (u7 (by rw [rngS,x.yes c2];simp))
theorem wH (k : Int) : Fn Tryz.prog 140 [.v (.int .i64 k)] (.v (.int .i64 (mJ k))) := by
 refine yD zL Tryz.func140 rfl rfl rfl rfl rfl rfl ?_;intros;refine zJ 100 ?_;refine zB (zJ 200 ?_);refine zR (zJ 300 ?_);refine zW (fun c2 => ?_) (fun c2 => ?_)
 ·
  refine zJ 400 ?_;refine zK (zQ (zN ?_));exact u4 rfl (u10 (by simp_all [mJ]))
 ·
  refine zJ 500 ?_;refine zW (fun c4 => ?_) (fun c4 => ?_)
  ·
   refine zJ 600 ?_;refine zK (zQ (zN ?_));exact u4 rfl (u10 (by simp_all [mJ]))
  ·
   refine zJ 700 ?_;refine zW (fun c6 => ?_) (fun c6 => ?_)
   ·
    refine zJ 800 ?_;refine zK (zQ (zN ?_));exact u4 rfl (u10 (by simp_all [mJ]))
   ·
    refine zB (zJ 900 ?_);refine zW (fun c8 => ?_) (fun c8 => ?_)
    ·
     refine zM (zA (zW (fun c8x => ?_) (fun c8x => ?_)))
     ·
      refine zJ 1100 ?_;refine zK (zQ (zN ?_));exact u4 rfl (u10 (by simp_all [mJ]))
     ·
      simp_all
    ·
     refine yN zL [] 1000 ?_;refine zA (zW (fun c9 => ?_) (fun c9 => ?_))
     ·
      refine zJ 1100 ?_;refine zK (zQ (zN ?_));exact u4 rfl (u10 (by simp_all [mJ]))
     ·
      refine zJ 1200 ?_;refine zW (fun c11 => ?_) (fun c11 => ?_)
      ·
       refine zJ 1300 ?_;refine zK (zQ (zN ?_));exact u4 rfl (u10 (by simp_all [mJ]))
      ·
       refine zM (zP (zA (zJ 1400 ?_)));refine zK ?_;exact u4 rfl (u10 (by simp_all [mJ]))
end Go.Proofs.YtinegkcbkefeiaaGreatDoor
/-
  DERIVED: THE SHELF's CONTRACTS AT THIS DUMP,IN PLAIN WORDS (tools/lay-plain.mjs out of 'YtinegkcbkefeiaaGreatDoorShelf.lean',which tools/lay-shelf.mjs wrote): THE SAME DECLARATIONS UNDER THE SAME NAMES: 'import','namespace','open','def','theorem' AND NOTHING ELSE: no command of the shelf's: FOR A HAND-IN. Each laying: the table of numbers ('.._ren') and one theorem,a field a fact of the dump's own or the kernel's comparison;each contract: ONE APPLICATION.
-/
namespace Go.Proofs
open Go.Shelf
def Tryz.laysValid_ren : Go.Shelf.Ren := ⟨fun | 196 => 153 | 259 => 203 | n => n,fun | 9 => 9 | 4 => 4 | 3 => 3 | 5 => 5 | 12 => 12 | 119 => 205 | 0 => 0 | 46 => 174 | 139 => 216 | 138 => 215 | 53 => 218 | n => n,fun | 3 => 1 | 4 => 2 | n => n⟩
theorem qH {α : Type} {a b : α} (h : a = b := by kernel_rfl) : some a = some b := congrArg some h
theorem Tryz.laysValid : Go.Proofs.Lays.n196 Tryz.prog Tryz.laysValid_ren := {
 mixed := by kernel_rfl
 f196 := Tryz.func153.trans qH
 f259 := Tryz.func203.trans qH
 t0 := Tryz.underlying0
 a0 := Tryz.isAgg0
 z0 := Tryz.sizeOf0
 v0 := Tryz.zeroValue0
 t3 := Tryz.underlying3
 a3 := Tryz.isAgg3
 z3 := Tryz.sizeOf3
 v3 := Tryz.zeroValue3
 t4 := Tryz.underlying4
 a4 := Tryz.isAgg4
 z4 := Tryz.sizeOf4
 v4 := Tryz.zeroValue4
 t5 := Tryz.underlying5
 a5 := Tryz.isAgg5
 z5 := Tryz.sizeOf5
 v5 := Tryz.zeroValue5
 t9 := Tryz.underlying9
 a9 := Tryz.isAgg9
 z9 := Tryz.sizeOf9
 v9 := Tryz.zeroValue9
 t12 := Tryz.underlying12
 a12 := Tryz.isAgg12
 z12 := Tryz.sizeOf12
 v12 := Tryz.zeroValue12
 t46 := Tryz.underlying174
 a46 := Tryz.isAgg174
 z46 := Tryz.sizeOf174
 v46 := Tryz.zeroValue174
 t53 := Tryz.underlying218
 a53 := Tryz.isAgg218
 z53 := Tryz.sizeOf218
 v53 := Tryz.zeroValue218
 t119 := Tryz.underlying205
 a119 := Tryz.isAgg205
 z119 := Tryz.sizeOf205
 t138 := Tryz.underlying215
 a138 := Tryz.isAgg215
 z138 := Tryz.sizeOf215
 v138 := Tryz.zeroValue215
 t139 := Tryz.underlying216
 a139 := Tryz.isAgg216
 z139 := Tryz.sizeOf216
 v139 := Tryz.zeroValue216
 g3 := by kernel_rfl
 g4 := by kernel_rfl }
def Tryz.laysSplit_ren : Go.Shelf.Ren := ⟨fun | 146 => 196 | 221 => 234 | 268 => 252 | 138 => 253 | 143 => 114 | 195 => 258 | 197 => 259 | 218 => 260 | 219 => 178 | 260 => 266 | 217 => 216 | 225 => 217 | 224 => 218 | 267 => 219 | 266 => 243 | 314 => 244 | n => n,fun | 9 => 9 | 31 => 39 | 3 => 3 | 4 => 4 | 0 => 0 | 105 => 269 | 21 => 21 | 5 => 5 | 46 => 174 | 119 => 205 | 139 => 216 | 138 => 215 | 146 => 246 | 51 => 126 | n => n,fun | 1 => 3 | 3 => 1 | 4 => 2 | n => n⟩
theorem Tryz.laysSplit : Go.Proofs.Lays.n146 Tryz.prog Tryz.laysSplit_ren := {
 mixed := by kernel_rfl
 f138 := Tryz.func253.trans qH
 f143 := Tryz.func114.trans qH
 f146 := Tryz.func196.trans qH
 f195 := Tryz.func258.trans qH
 f197 := Tryz.func259.trans qH
 f217 := Tryz.func216.trans qH
 f218 := Tryz.func260.trans qH
 f219 := Tryz.func178.trans qH
 f221 := Tryz.func234.trans qH
 f224 := Tryz.func218.trans qH
 f225 := Tryz.func217.trans qH
 f260 := Tryz.func266.trans qH
 f266 := Tryz.func243.trans qH
 f267 := Tryz.func219.trans qH
 f268 := Tryz.func252.trans qH
 f314 := Tryz.func244.trans qH
 t0 := Tryz.underlying0
 a0 := Tryz.isAgg0
 z0 := Tryz.sizeOf0
 v0 := Tryz.zeroValue0
 t3 := Tryz.underlying3
 a3 := Tryz.isAgg3
 z3 := Tryz.sizeOf3
 v3 := Tryz.zeroValue3
 t4 := Tryz.underlying4
 a4 := Tryz.isAgg4
 z4 := Tryz.sizeOf4
 v4 := Tryz.zeroValue4
 t5 := Tryz.underlying5
 a5 := Tryz.isAgg5
 z5 := Tryz.sizeOf5
 v5 := Tryz.zeroValue5
 t9 := Tryz.underlying9
 a9 := Tryz.isAgg9
 z9 := Tryz.sizeOf9
 v9 := Tryz.zeroValue9
 t21 := Tryz.underlying21
 a21 := Tryz.isAgg21
 z21 := Tryz.sizeOf21
 v21 := Tryz.zeroValue21
 t31 := Tryz.underlying39
 a31 := Tryz.isAgg39
 z31 := Tryz.sizeOf39
 v31 := Tryz.zeroValue39
 t46 := Tryz.underlying174
 a46 := Tryz.isAgg174
 z46 := Tryz.sizeOf174
 v46 := Tryz.zeroValue174
 t51 := Tryz.underlying126
 a51 := Tryz.isAgg126
 z51 := Tryz.sizeOf126
 v51 := Tryz.zeroValue126
 t105 := Tryz.underlying269
 a105 := Tryz.isAgg269
 z105 := Tryz.sizeOf269
 v105 := Tryz.zeroValue269
 t119 := Tryz.underlying205
 a119 := Tryz.isAgg205
 z119 := Tryz.sizeOf205
 t138 := Tryz.underlying215
 a138 := Tryz.isAgg215
 z138 := Tryz.sizeOf215
 v138 := Tryz.zeroValue215
 t139 := Tryz.underlying216
 a139 := Tryz.isAgg216
 z139 := Tryz.sizeOf216
 v139 := Tryz.zeroValue216
 t146 := Tryz.underlying246
 a146 := Tryz.isAgg246
 z146 := Tryz.sizeOf246
 v146 := Tryz.zeroValue246
 g1 := by kernel_rfl
 g3 := by kernel_rfl
 g4 := by kernel_rfl }
def Tryz.laysFields_ren : Go.Shelf.Ren := ⟨fun | 157 => 136 | 229 => 193 | 199 => 194 | 261 => 233 | 311 => 250 | 312 => 251 | n => n,fun | 9 => 9 | 31 => 39 | 3 => 3 | 5 => 5 | 4 => 4 | 119 => 205 | 0 => 0 | 40 => 207 | 152 => 235 | 21 => 21 | 154 => 237 | 51 => 126 | 141 => 239 | 196 => 254 | 193 => 251 | 198 => 257 | 49 => 255 | 194 => 252 | 201 => 260 | 226 => 266 | 46 => 174 | 227 => 267 | n => n,fun | 0 => 0 | 6 => 4 | n => n⟩
theorem Tryz.laysFields : Go.Proofs.Lays.n157 Tryz.prog Tryz.laysFields_ren := {
 mixed := by kernel_rfl
 f157 := Tryz.func136.trans qH
 f199 := Tryz.func194.trans qH
 f229 := Tryz.func193.trans qH
 f261 := Tryz.func233.trans qH
 f311 := Tryz.func250.trans qH
 f312 := Tryz.func251.trans qH
 t0 := Tryz.underlying0
 a0 := Tryz.isAgg0
 z0 := Tryz.sizeOf0
 v0 := Tryz.zeroValue0
 t3 := Tryz.underlying3
 a3 := Tryz.isAgg3
 z3 := Tryz.sizeOf3
 v3 := Tryz.zeroValue3
 t4 := Tryz.underlying4
 a4 := Tryz.isAgg4
 z4 := Tryz.sizeOf4
 v4 := Tryz.zeroValue4
 t5 := Tryz.underlying5
 a5 := Tryz.isAgg5
 z5 := Tryz.sizeOf5
 v5 := Tryz.zeroValue5
 t9 := Tryz.underlying9
 a9 := Tryz.isAgg9
 z9 := Tryz.sizeOf9
 v9 := Tryz.zeroValue9
 t21 := Tryz.underlying21
 a21 := Tryz.isAgg21
 z21 := Tryz.sizeOf21
 v21 := Tryz.zeroValue21
 t31 := Tryz.underlying39
 a31 := Tryz.isAgg39
 z31 := Tryz.sizeOf39
 v31 := Tryz.zeroValue39
 t40 := Tryz.underlying207
 a40 := Tryz.isAgg207
 z40 := Tryz.sizeOf207
 v40 := Tryz.zeroValue207
 t46 := Tryz.underlying174
 a46 := Tryz.isAgg174
 z46 := Tryz.sizeOf174
 v46 := Tryz.zeroValue174
 t49 := Tryz.underlying255
 a49 := Tryz.isAgg255
 z49 := Tryz.sizeOf255
 v49 := Tryz.zeroValue255
 t51 := Tryz.underlying126
 a51 := Tryz.isAgg126
 z51 := Tryz.sizeOf126
 v51 := Tryz.zeroValue126
 t119 := Tryz.underlying205
 a119 := Tryz.isAgg205
 z119 := Tryz.sizeOf205
 t141 := Tryz.underlying239
 a141 := Tryz.isAgg239
 z141 := Tryz.sizeOf239
 v141 := Tryz.zeroValue239
 t152 := Tryz.underlying235
 a152 := Tryz.isAgg235
 z152 := Tryz.sizeOf235
 v152 := Tryz.zeroValue235
 t154 := Tryz.underlying237
 a154 := Tryz.isAgg237
 z154 := Tryz.sizeOf237
 v154 := Tryz.zeroValue237
 t193 := Tryz.underlying251
 a193 := Tryz.isAgg251
 z193 := Tryz.sizeOf251
 v193 := Tryz.zeroValue251
 t194 := Tryz.underlying252
 a194 := Tryz.isAgg252
 z194 := Tryz.sizeOf252
 v194 := Tryz.zeroValue252
 t196 := Tryz.underlying254
 a196 := Tryz.isAgg254
 z196 := Tryz.sizeOf254
 v196 := Tryz.zeroValue254
 t198 := Tryz.underlying257
 a198 := Tryz.isAgg257
 z198 := Tryz.sizeOf257
 v198 := Tryz.zeroValue257
 t201 := Tryz.underlying260
 a201 := Tryz.isAgg260
 z201 := Tryz.sizeOf260
 v201 := Tryz.zeroValue260
 t226 := Tryz.underlying266
 a226 := Tryz.isAgg266
 z226 := Tryz.sizeOf266
 v226 := Tryz.zeroValue266
 t227 := Tryz.underlying267
 a227 := Tryz.isAgg267
 z227 := Tryz.sizeOf267
 v227 := Tryz.zeroValue267
 g0 := by kernel_rfl
 g6 := by kernel_rfl }
def Tryz.laysCut_ren : Go.Shelf.Ren := ⟨fun | 145 => 137 | 220 => 195 | 219 => 178 | 217 => 216 | 225 => 217 | 224 => 218 | 267 => 219 | 266 => 243 | 314 => 244 | n => n,fun | 9 => 9 | 4 => 4 | 59 => 161 | 3 => 3 | 5 => 5 | 46 => 174 | 146 => 246 | 51 => 126 | n => n,fun | 1 => 3 | n => n⟩
theorem Tryz.laysCut : Go.Proofs.Lays.n145 Tryz.prog Tryz.laysCut_ren := {
 mixed := by kernel_rfl
 f145 := Tryz.func137.trans qH
 f217 := Tryz.func216.trans qH
 f219 := Tryz.func178.trans qH
 f220 := Tryz.func195.trans qH
 f224 := Tryz.func218.trans qH
 f225 := Tryz.func217.trans qH
 f266 := Tryz.func243.trans qH
 f267 := Tryz.func219.trans qH
 f314 := Tryz.func244.trans qH
 t3 := Tryz.underlying3
 a3 := Tryz.isAgg3
 z3 := Tryz.sizeOf3
 v3 := Tryz.zeroValue3
 t4 := Tryz.underlying4
 a4 := Tryz.isAgg4
 z4 := Tryz.sizeOf4
 v4 := Tryz.zeroValue4
 t5 := Tryz.underlying5
 a5 := Tryz.isAgg5
 z5 := Tryz.sizeOf5
 v5 := Tryz.zeroValue5
 t9 := Tryz.underlying9
 a9 := Tryz.isAgg9
 z9 := Tryz.sizeOf9
 v9 := Tryz.zeroValue9
 t46 := Tryz.underlying174
 a46 := Tryz.isAgg174
 z46 := Tryz.sizeOf174
 v46 := Tryz.zeroValue174
 t51 := Tryz.underlying126
 a51 := Tryz.isAgg126
 z51 := Tryz.sizeOf126
 v51 := Tryz.zeroValue126
 t59 := Tryz.underlying161
 a59 := Tryz.isAgg161
 z59 := Tryz.sizeOf161
 v59 := Tryz.zeroValue161
 t146 := Tryz.underlying246
 a146 := Tryz.isAgg246
 z146 := Tryz.sizeOf246
 v146 := Tryz.zeroValue246
 g1 := by kernel_rfl }
def Tryz.laysContains_ren : Go.Shelf.Ren := ⟨fun | 144 => 59 | 143 => 114 | 219 => 178 | 217 => 216 | 225 => 217 | 224 => 218 | 267 => 219 | 266 => 243 | 314 => 244 | n => n,fun | 9 => 9 | 4 => 4 | 3 => 3 | 5 => 5 | 46 => 174 | 146 => 246 | 51 => 126 | n => n,fun | 1 => 3 | n => n⟩
theorem Tryz.laysContains : Go.Proofs.Lays.n144 Tryz.prog Tryz.laysContains_ren := {
 mixed := by kernel_rfl
 f143 := Tryz.func114.trans qH
 f144 := Tryz.func59.trans qH
 f217 := Tryz.func216.trans qH
 f219 := Tryz.func178.trans qH
 f224 := Tryz.func218.trans qH
 f225 := Tryz.func217.trans qH
 f266 := Tryz.func243.trans qH
 f267 := Tryz.func219.trans qH
 f314 := Tryz.func244.trans qH
 t3 := Tryz.underlying3
 a3 := Tryz.isAgg3
 z3 := Tryz.sizeOf3
 v3 := Tryz.zeroValue3
 t4 := Tryz.underlying4
 a4 := Tryz.isAgg4
 z4 := Tryz.sizeOf4
 v4 := Tryz.zeroValue4
 t5 := Tryz.underlying5
 a5 := Tryz.isAgg5
 z5 := Tryz.sizeOf5
 v5 := Tryz.zeroValue5
 t9 := Tryz.underlying9
 a9 := Tryz.isAgg9
 z9 := Tryz.sizeOf9
 v9 := Tryz.zeroValue9
 t46 := Tryz.underlying174
 a46 := Tryz.isAgg174
 z46 := Tryz.sizeOf174
 v46 := Tryz.zeroValue174
 t51 := Tryz.underlying126
 a51 := Tryz.isAgg126
 z51 := Tryz.sizeOf126
 v51 := Tryz.zeroValue126
 t146 := Tryz.underlying246
 a146 := Tryz.isAgg246
 z146 := Tryz.sizeOf246
 v146 := Tryz.zeroValue246
 g1 := by kernel_rfl }
end Go.Proofs
namespace Go.Proofs.YtinegkcbkefeiaaGreatDoor
open Go.RowKit
def qY0 (x : Int) : List Int -> Nat -> Int
 | [],_ => -1
 | y :: l,k => if x == y then k else qY0 x l (k + 1)
def before (l : List Int) (a b : Int) : Bool := decide (0 <= qY0 a l 0) && decide (qY0 a l 0 < qY0 b l 0)
def V : List Nat -> Nat
 | [] => 0
 | d :: l => d + 65536 * V l
def Dg (l : List Nat) : Prop := ∀ d ∈ l,d < 65536
def dig (n : Nat) : List Nat := if n = 0 then [] else (n % 65536) :: dig (n / 65536)
decreasing_by omega
theorem jY : dig 0 = [] := by rw [dig];simp
theorem gI {n : Nat} (h : n ≠ 0) : dig n = (n % 65536) :: dig (n / 65536) := by rw [dig];simp [h]
theorem pQ0 : V [] = 0 := rfl
theorem kT (d : Nat) (l : List Nat) : V (d :: l) = d + 65536 * V l := rfl
theorem jY0 (a b : List Nat) : V (a ++ b) = V a + 65536 ^ a.length * V b := by
 induction a with
 | nil => simp [pQ0]
 | cons d a ih => rw [List.cons_append,kT,ih,kT,Aq,Bv,Br];rw [Dx];congr 2;rw [<- Bo];congr 1;exact At _ _
theorem zH0 (a : List Nat) (d : Nat) : V (a ++ [d]) = V a + 65536 ^ a.length * d := by rw [jY0,kT,pQ0];simp
theorem Dg.nil : Dg [] := fun _ h => by cases h
theorem Dg.snoc {a : List Nat} (h : Dg a) {d : Nat} (h1 : d < 65536) : Dg (a ++ [d]) := fun x hx => by
 rcases Az.1 hx with hx | hx
 ·exact h x hx
 ·rw [Ee.1 hx];exact h1
theorem Dg.take {a : List Nat} (h : Dg a) (n : Nat) : Dg (a.take n) := fun x hx => h x (Dc hx)
theorem Dg.at {a : List Nat} (h : Dg a) {i : Nat} (hi : i < a.length) : a[i] < 65536 := h _ (Be hi)
theorem Dg.set {a : List Nat} (h : Dg a) (i : Nat) {d : Nat} (h1 : d < 65536) : Dg (a.set i d) := fun x hx => by
 rcases List.mem_or_eq_of_mem_set hx with hx | rfl
 ·exact h x hx
 ·exact h1
theorem V_lt {l : List Nat} (h : Dg l) : V l < 65536 ^ l.length := by
 induction l with
 | nil => simp [pQ0]
 | cons d l ih =>
  have h1 := h d (Ck ..);have h2 := ih (fun x hx => h x (Bx _ hx));rw [kT,Aq,Bv];omega
theorem wL {l : List Nat} {m : Nat} (h : m < l.length) : V (l.take (m + 1)) = V (l.take m) + 65536 ^ m * l[m] := by
 rw [Dq h,zH0,As,Db (Cx h)]
theorem V_take_drop (l : List Nat) (m : Nat) (h : m <= l.length) : V l = V (l.take m) + 65536 ^ m * V (l.drop m) := by
 have e := jY0 (l.take m) (l.drop m);rw [Ec,As,Db h] at e;exact e
theorem V_zeros (n : Nat) : V (List.replicate n 0) = 0 := by
 induction n with
 | zero => rfl
 | succ n ih => rw [List.replicate_succ,kT,ih]
theorem Dg_zeros (n : Nat) : Dg (List.replicate n 0) := fun x hx => by rw [List.eq_of_mem_replicate hx];decide
theorem cZ (n : Nat) : Dg (dig n) := by
 induction n using Nat.strongRecOn with
 | _ n ih =>
  by_cases h : n = 0
  ·subst h;rw [jY];exact Dg.nil
  ·rw [gI h];intro x hx;rcases Bq.1 hx with rfl | hx
   ·omega
   ·exact ih (n / 65536) om x hx
theorem kB (n : Nat) : V (dig n) = n := by
 induction n using Nat.strongRecOn with
 | _ n ih =>
  by_cases h : n = 0
  ·subst h;rw [jY];rfl
  ·rw [gI h,kT,ih (n / 65536) om];omega
def yL1 (l : List Nat) : Prop := ∀ h : l ≠ [],l.getLast h ≠ 0
theorem dig_V {l : List Nat} (h : Dg l) (hn : yL1 l) : dig (V l) = l := by
 induction l with
 | nil => exact jY
 | cons d l ih =>
  have h1 := h d (Ck ..);have hl : Dg l := fun x hx => h x (Bx _ hx);have hnl : yL1 l := fun hne => by
   have := hn (by simp);rw [List.getLast_cons hne] at this;exact this
  have h0 : V (d :: l) ≠ 0 := by
   rw [kT];intro e;have hd : d = 0 := by omega
   have hv : V l = 0 := by omega
   cases l with
   | nil => exact hn (by simp) (by simpa using hd)
   | cons x l =>
    have := ih hl hnl;rw [hv,jY] at this
    cases this
  rw [gI h0,kT];have e1 : (d + 65536 * V l) % 65536 = d := by omega
  have e2 : (d + 65536 * V l) / 65536 = V l := by omega
  rw [e1,e2,ih hl hnl]
theorem jF {n k : Nat} (h : n < 65536 ^ k) : (dig n).length <= k := by
 induction k generalizing n with
 | zero =>
  have : n = 0 := by simpa using h
  subst this;rw [jY];simp
 | succ k ih =>
  by_cases h0 : n = 0
  ·subst h0;rw [jY];simp
  ·rw [gI h0,Aq];have := ih (n := n / 65536) (by rw [Bv] at h;omega);omega
theorem bT (n : Nat) : n < 65536 ^ (dig n).length := by
 have := V_lt (cZ n)
 rwa [kB] at this
theorem dig_ge {n : Nat} (h : n ≠ 0) : 65536 ^ ((dig n).length - 1) <= n := by
 rcases Bs n (65536 ^ ((dig n).length - 1)) with h1 | h1
 ·have h2 := jF h1;have : (dig n).length ≠ 0 := by rw [gI h];simp
  omega
 ·exact h1
theorem bG {x y : Nat} (h : (dig x).length < (dig y).length) : x < y := by
 have h0 : y ≠ 0 := by intro e;subst e;rw [jY] at h;simp at h
 have h1 := bT x;have h2 := dig_ge h0;exact Bl h1 (Au (Bd om om) h2)
theorem yS {x y : Nat} (h : x <= y) : (dig x).length <= (dig y).length := by
 rcases Bs (dig y).length (dig x).length with h1 | h1
 ·have := bG h1;omega
 ·exact h1
theorem dig_eq_nil {n : Nat} : dig n = [] ↔ n = 0 := by
 constructor
 ·intro h;by_cases h0 : n = 0
  ·exact h0
  ·rw [gI h0] at h;cases h
 ·rintro rfl;exact jY
theorem vF {l : List Nat} {i : Nat} (h : i < l.length) : l.getD i 0 = l[i] := by rw [An,Ah h];rfl
theorem wI {l : List Nat} {i : Nat} (h : l.length <= i) : l.getD i 0 = 0 := by rw [An,Ds h];rfl
theorem uQ (l : List Nat) (i : Nat) : V (l.take (i + 1)) = V (l.take i) + 65536 ^ i * (l.getD i 0) := by
 by_cases hl : i < l.length
 ·rw [wL hl,vF hl]
 ·rw [Am om,Am om,wI om];simp
theorem plus_step {la lb o : List Nat} {i c x : Nat} (h : V o + c * 65536 ^ i = V (la.take i) + V (lb.take i)) (ho : o.length = i)
  (hx : x = c + (la.getD i 0) + (lb.getD i 0)) :
  V (o ++ [(x % 65536)]) + x / 65536 * 65536 ^ (i + 1) = V (la.take (i + 1)) + V (lb.take (i + 1)) := by
 rw [zH0,ho,uQ la,uQ lb,Bv];generalize 65536 ^ i = B at *;have e : x = 65536 * (x / 65536) + x % 65536 := (Co x 65536).symm;have e2 : B * x = B * (65536 * (x / 65536)) + B * (x % 65536) := by rw [<- Br,<- e]
 have e3 : B * x = B * c + B * (la.getD i 0) + B * (lb.getD i 0) := by rw [hx,Br,Br]
 have e4 : x / 65536 * (B * 65536) = B * (65536 * (x / 65536)) := by rw [At,Bo]
 have e5 : c * B = B * c := At _ _;omega
theorem minus_step {la lb o : List Nat} {i c x c' : Nat} (h : V o + V (lb.take i) = V (la.take i) + c * 65536 ^ i) (ho : o.length = i) (hi : i < la.length) (hx : x + (lb.getD i 0) + c = la[i] + 65536 * c') :
  V (o ++ [x]) + V (lb.take (i + 1)) = V (la.take (i + 1)) + c' * 65536 ^ (i + 1) := by
 rw [zH0,ho,uQ lb,wL hi,Bv];generalize 65536 ^ i = B at *;have e1 : B * x + B * (lb.getD i 0) + B * c = B * la[i] + B * (65536 * c') := by rw [<- Br,<- Br,<- Br,hx]
 have e2 : c' * (B * 65536) = B * (65536 * c') := by rw [At,Bo]
 have e3 : c * B = B * c := At _ _;omega
def cmpN (x y : Nat) : Int := if x < y then -1 else if y < x then 1 else 0
theorem jX0 {l : List Nat} {i : Nat} (h : i < l.length) : V l = V (l.take i) + 65536 ^ i * (l[i] + 65536 * V (l.drop (i + 1))) := by
 rw [V_take_drop l i (Cx h),By h,kT]
theorem lt_at {la lb : List Nat} {i : Nat} (ha : Dg la) (hl : la.length = lb.length) (hi : i < la.length) (hd : la.drop (i + 1) = lb.drop (i + 1)) (h : la[i] < lb[i]) : V la < V lb := by
 rw [jX0 hi,jX0 (l := lb) (i := i) om,hd];have h1 := V_lt (ha.take i);rw [As,Db (Cx hi)] at h1;generalize 65536 * V (lb.drop (i + 1)) = D;have h4 : 65536 ^ i * (la[i] + D) + 65536 ^ i <= 65536 ^ i * (lb[i] + D) := by
  rw [<- Nat.mul_succ];exact Ci _ om
 omega
theorem double_step {la o : List Nat} {i c one x : Nat} (h : V o + c * 65536 ^ i = 2 * V (la.take i) + one) (ho : o.length = i) (hi : i < la.length) (hx : x = 2 * la[i] + c) :
  V (o ++ [(x % 65536)]) + x / 65536 * 65536 ^ (i + 1) = 2 * V (la.take (i + 1)) + one := by
 rw [zH0,ho,wL hi,Bv];generalize 65536 ^ i = B at *;have e : x = 65536 * (x / 65536) + x % 65536 := (Co x 65536).symm;have e2 : B * x = B * (65536 * (x / 65536)) + B * (x % 65536) := by rw [<- Br,<- e]
 have e3 : B * x = B * (2 * la[i]) + B * c := by rw [hx,Br]
 have e4 : x / 65536 * (B * 65536) = B * (65536 * (x / 65536)) := by rw [At,Bo]
 have e5 : c * B = B * c := At _ _;have e6 : B * (2 * la[i]) = 2 * (B * la[i]) := by rw [Nat.mul_left_comm]
 omega
def VB : List Bool -> Nat
 | [] => 0
 | b :: l => b.toNat + 2 * VB l
theorem xF (b : Bool) (l : List Bool) : VB (b :: l) = b.toNat + 2 * VB l := rfl
theorem wJ0 (a b : List Bool) : VB (a ++ b) = VB a + 2 ^ a.length * VB b := by
 induction a with
 | nil => simp [VB]
 | cons d a ih => rw [List.cons_append,xF,ih,xF,Aq,Bv,Br,Dx];congr 2;rw [<- Bo];congr 1;exact At _ _
theorem tX0 (a : List Bool) (b : Bool) : VB (a ++ [b]) = VB a + 2 ^ a.length * b.toNat := by rw [wJ0,xF];simp [VB]
theorem VB_lt (l : List Bool) : VB l < 2 ^ l.length := by
 induction l with
 | nil => simp [VB]
 | cons b l ih => rw [xF,Aq,Bv];cases b <;> simp <;> omega
theorem VB_take_succ {l : List Bool} {m : Nat} (h : m < l.length) : VB (l.take (m + 1)) = VB (l.take m) + 2 ^ m * l[m].toNat := by
 rw [Dq h,tX0,As,Db (Cx h)]
def cA0 (l : List Bool) : Prop := ∀ h : l ≠ [],l.getLast h = true
def vW (n : Nat) : List Bool := if n = 0 then [] else (n % 2 == 1) :: vW (n / 2)
decreasing_by omega
theorem xP : vW 0 = [] := by rw [vW];simp
theorem zE0 {n : Nat} (h : n ≠ 0) : vW n = (n % 2 == 1) :: vW (n / 2) := by rw [vW];simp [h]
theorem VB_bitsN (n : Nat) : VB (vW n) = n := by
 induction n using Nat.strongRecOn with
 | _ n ih =>
  by_cases h : n = 0
  ·subst h;rw [xP];rfl
  ·rw [zE0 h,xF,ih (n / 2) om];rcases Nat.mod_two_eq_zero_or_one n with h2 | h2 <;> simp [h2] <;> omega
theorem bitsN_VB {l : List Bool} (hn : cA0 l) : vW (VB l) = l := by
 induction l with
 | nil => exact xP
 | cons d l ih =>
  have hnl : cA0 l := fun hne => by
   have := hn (by simp);rw [List.getLast_cons hne] at this;exact this
  have h0 : VB (d :: l) ≠ 0 := by
   rw [xF];intro e;have hv : VB l = 0 := by omega
   cases l with
   | nil =>
    have h1 : d = true := by simpa using hn (by simp)
    subst h1;simp at e
   | cons x l =>
    have := ih hnl;rw [hv,xP] at this
    cases this
  rw [zE0 h0,xF];have e1 : (d.toNat + 2 * VB l) % 2 = d.toNat := by cases d <;> simp <;> omega
  have e2 : (d.toNat + 2 * VB l) / 2 = VB l := by cases d <;> simp <;> omega
  rw [e1,e2,ih hnl]
  cases d <;> rfl
theorem bitsN_length_le {n k : Nat} (h : n < 2 ^ k) : (vW n).length <= k := by
 induction k generalizing n with
 | zero =>
  have : n = 0 := by simpa using h
  subst this;rw [xP];simp
 | succ k ih =>
  by_cases h0 : n = 0
  ·subst h0;rw [xP];simp
  ·rw [zE0 h0,Aq];have := ih (n := n / 2) (by rw [Bv] at h;omega);omega
theorem uZ0 {o : List Bool} {j x X : Nat} (h : VB o + x * 2 ^ j = X) (ho : o.length = j) : VB (o ++ [x % 2 == 1]) + x / 2 * 2 ^ (j + 1) = X := by
 rw [tX0,ho,Bv,<- h];have e : x = 2 * (x / 2) + x % 2 := (Co x 2).symm;have e2 : x * 2 ^ j = x / 2 * (2 ^ j * 2) + 2 ^ j * (x % 2) := by
  conv => lhs;rw [e,Bg]
  rw [At (x % 2),At 2 (x / 2),Bo,At 2 (2 ^ j)]
 have e3 : (x % 2 == 1).toNat = x % 2 := by rcases Nat.mod_two_eq_zero_or_one x with h2 | h2 <;> simp [h2]
 rw [e3];omega
theorem V_set {o : List Nat} {j : Nat} {d : Nat} (h : j < o.length) : V (o.set j d) + 65536 ^ j * o[j] = V o + 65536 ^ j * d := by
 have e1 := jX0 (l := o.set j d) (i := j) (by simpa using h);have e2 := jX0 (l := o) (i := j) h;rw [List.getElem_set_self,List.take_set_of_le (Ao _),List.drop_set_of_lt om] at e1;rw [e1,e2];generalize V (o.drop (j + 1)) = D;generalize V (o.take j) = T;generalize 65536 ^ j = B;rw [Br,Br];omega
theorem times_step {o lb : List Nat} {i k c a x S : Nat} (h : V o + c * 65536 ^ (i + k) = S + a * 65536 ^ i * V (lb.take k)) (hj : i + k < o.length) (hx : x = o[i + k] + c + a * (lb.getD k 0)) :
  V (o.set (i + k) (x % 65536)) + x / 65536 * 65536 ^ (i + (k + 1)) = S + a * 65536 ^ i * V (lb.take (k + 1)) := by
 have e1 := V_set (o := o) (j := i + k) (d := (x % 65536)) hj;rw [uQ,show i + (k + 1) = i + k + 1 by omega,Br (a * 65536 ^ i),<- Dx S,<- h,Bv 65536 (i + k)];have e0 : a * 65536 ^ i * (65536 ^ k * (lb.getD k 0)) = 65536 ^ (i + k) * (a * (lb.getD k 0)) := by
  rw [Ef,Bo,Nat.mul_left_comm a,Nat.mul_left_comm a (65536 ^ k),Bo]
 rw [e0];generalize 65536 ^ (i + k) = B at *;have e : x = 65536 * (x / 65536) + x % 65536 := (Co x 65536).symm;have e2 : B * x = B * (65536 * (x / 65536)) + B * (x % 65536) := by rw [<- Br,<- e]
 have e3 : B * x = B * o[i + k] + B * c + B * (a * (lb.getD k 0)) := by rw [hx,Br,Br]
 have e4 : x / 65536 * (B * 65536) = B * (65536 * (x / 65536)) := by rw [At,Bo]
 have e5 : c * B = B * c := At _ _;omega
theorem times_in {o la lb : List Nat} {i k c : Nat} (ha : Dg la) (hb : Dg lb) (hi : i < la.length) (hc : 0 < c)
  (h : V o + c * 65536 ^ (i + k) = V (la.take i) * V lb + la[i] * 65536 ^ i * V lb) : k <= lb.length := by
 have e1 : V (la.take i) * V lb + la[i] * 65536 ^ i * V lb = V (la.take (i + 1)) * V lb := by
  rw [wL hi,Bg,At (65536 ^ i)]
 have h1 := V_lt (ha.take (i + 1));rw [As,Db hi] at h1;have h2 := V_lt hb;have h3 : V (la.take (i + 1)) * V lb < 65536 ^ (i + 1) * 65536 ^ lb.length := Nat.mul_lt_mul_of_lt_of_le h1 (Cx h2) (Nat.pow_pos om);rw [<- Ef] at h3;have h4 : 65536 ^ (i + k) <= c * 65536 ^ (i + k) := Nat.le_mul_of_pos_left _ hc;rcases Bs lb.length k with h5 | h5
 ·have h6 : 65536 ^ (i + 1 + lb.length) <= 65536 ^ (i + k) := Bd om om;omega
 ·exact h5
theorem times_row {la : List Nat} {i y : Nat} (hi : i < la.length) : V (la.take i) * y + la[i] * 65536 ^ i * y = V (la.take (i + 1)) * y := by
 rw [wL hi,Bg,At (65536 ^ i)]
def kA (l : List Bool) (i k : Nat) : Nat := VB ((l.drop (i + k)).take (16 - k))
theorem chunk_top (l : List Bool) (i : Nat) : kA l i 16 = 0 := by unfold kA;simp [VB]
theorem chunk_step {l : List Bool} {i k : Nat} (hk : k < 16) : kA l i k = 2 * kA l i (k + 1) + (if h : i + k < l.length then (l[i + k]).toNat else 0) := by
 unfold kA;by_cases h : i + k < l.length
 ·rw [dif_pos h,By h,show 16 - k = 16 - (k + 1) + 1 by omega,List.take_succ_cons,xF,show i + (k + 1) = i + k + 1 by omega];omega
 ·rw [dif_neg h,Ax om,Ax om];simp [VB]
theorem mQ0 (l : List Bool) (i k : Nat) : kA l i k < 65536 := by
 have h1 := VB_lt ((l.drop (i + k)).take (16 - k));have h2 : 2 ^ ((l.drop (i + k)).take (16 - k)).length <= 2 ^ 16 := Bd om (by simp;omega);unfold kA;omega
theorem binary_step {l : List Bool} {o : List Nat} {j : Nat} (h : V o = VB (l.take (16 * j))) (ho : o.length = j) (hj : 16 * j < l.length) : V (o ++ [(kA l (16 * j) 0)]) = VB (l.take (16 * (j + 1))) := by
 rw [zH0,h,ho];have e : l.take (16 * (j + 1)) = l.take (16 * j) ++ (l.drop (16 * j)).take 16 := by rw [show 16 * (j + 1) = 16 * j + 16 by omega,List.take_add]
 rw [e,wJ0,As,Db (Cx hj),Nat.pow_mul];rfl
theorem divide_end {x b Q R : Nat} (h : x = Q * b + R) (hR : R < b) : Q = x / b /\ R = x % b := by
 subst h;constructor
 ·rw [At,Nat.mul_add_div om,Eg hR];simp
 ·rw [At,Nat.mul_add_mod,Du hR]
theorem gcd_even2 {a b : Nat} (ha : a % 2 = 0) (hb : b % 2 = 0) : Nat.gcd a b = 2 * Nat.gcd (a / 2) (b / 2) := by
 rw [<- Nat.gcd_mul_left,show 2 * (a / 2) = a by omega,show 2 * (b / 2) = b by omega]
theorem vR0 {a b : Nat} (ha : a % 2 = 0) (hb : b % 2 = 1) : Nat.gcd a b = Nat.gcd (a / 2) b := by
 have h : Nat.Coprime 2 b := by
  have h1 : Nat.gcd 2 b ∣ 2 := Nat.gcd_dvd_left 2 b;have h2 := Nat.gcd_dvd_right 2 b;have h3 := Nat.le_of_dvd om h1;have h0 : Nat.gcd 2 b ≠ 0 := fun e => by rw [e] at h1;simp at h1
  rcases (show Nat.gcd 2 b = 1 \/ Nat.gcd 2 b = 2 by omega) with h4 | h4
  ·exact h4
  ·rw [h4] at h2;omega
 have e : a = 2 * (a / 2) := by omega
 conv => lhs;rw [e]
 exact Nat.Coprime.gcd_mul_left_cancel _ h
theorem kW0 {a b : Nat} (h : b <= a) : Nat.gcd a b = Nat.gcd (a - b) b := by
 conv => lhs;rw [show a = (a - b) + b by omega]
 exact Nat.gcd_add_self_left ..
theorem plus_in {la lb o : List Nat} {k c : Nat} (ha : Dg la) (hb : Dg lb) (h : V o + c * 65536 ^ k = V (la.take k) + V (lb.take k)) (hc : 0 < c) : k <= la.length + lb.length := by
 rcases Bs (la.length + lb.length) k with h1 | h1
 ·rw [Am om,Am om] at h;have h2 := V_lt ha;have h3 := V_lt hb;have h4 : 65536 ^ la.length <= 65536 ^ (la.length + lb.length) := Bd om om;have h5 : 65536 ^ lb.length <= 65536 ^ (la.length + lb.length) := Bd om om;have h6 : 65536 ^ (la.length + lb.length + 1) <= 65536 ^ k := Bd om om;have h7 : 65536 ^ k <= c * 65536 ^ k := Nat.le_mul_of_pos_left _ hc;rw [Bv] at h6;omega
 ·exact h1
theorem plus_done {la lb o : List Nat} {k : Nat} (h : V o + 0 * 65536 ^ k = V (la.take k) + V (lb.take k)) (h1 : la.length <= k) (h2 : lb.length <= k) : V o = V la + V lb := by
 rw [Am h1,Am h2] at h;omega
theorem minus_done {la lb o : List Nat} {c : Nat} (ho : Dg o) (hl : o.length = la.length) (h : V o + V (lb.take la.length) = V (la.take la.length) + c * 65536 ^ la.length) (hle : V lb <= V la) (hbl : lb.length <= la.length) : V o = V la - V lb := by
 rw [Am hbl,Am (Ao _)] at h;have h1 := V_lt ho;rw [hl] at h1;rcases Bu c with rfl | hc
 ·omega
 ·have h7 : 65536 ^ la.length <= c * 65536 ^ la.length := Nat.le_mul_of_pos_left _ hc;omega
def VL : List Nat -> Nat
 | [] => 0
 | d :: l => d + 4294967296 * VL l
def Lg (l : List Nat) : Prop := ∀ d ∈ l,d < 4294967296
def lim (n : Nat) : List Nat := if n = 0 then [] else (n % 4294967296) :: lim (n / 4294967296)
decreasing_by omega
theorem qI : lim 0 = [] := by rw [lim];simp
theorem xZ {n : Nat} (h : n ≠ 0) : lim n = (n % 4294967296) :: lim (n / 4294967296) := by rw [lim];simp [h]
theorem wM0 : VL [] = 0 := rfl
theorem uS (d : Nat) (l : List Nat) : VL (d :: l) = d + 4294967296 * VL l := rfl
theorem uB0 (a b : List Nat) : VL (a ++ b) = VL a + 4294967296 ^ a.length * VL b := by
 induction a with
 | nil => simp [wM0]
 | cons d a ih => rw [List.cons_append,uS,ih,uS,Aq,Bv,Br];rw [Dx];congr 2;rw [<- Bo];congr 1;exact At _ _
theorem dD (a : List Nat) (d : Nat) : VL (a ++ [d]) = VL a + 4294967296 ^ a.length * d := by rw [uB0,uS,wM0];simp
theorem Lg.nil : Lg [] := fun _ h => by cases h
theorem Lg.snoc {a : List Nat} (h : Lg a) {d : Nat} (h1 : d < 4294967296) : Lg (a ++ [d]) := fun x hx => by
 rcases Az.1 hx with hx | hx
 ·exact h x hx
 ·rw [Ee.1 hx];exact h1
theorem Lg.take {a : List Nat} (h : Lg a) (n : Nat) : Lg (a.take n) := fun x hx => h x (Dc hx)
theorem Lg.at {a : List Nat} (h : Lg a) {i : Nat} (hi : i < a.length) : a[i] < 4294967296 := h _ (Be hi)
theorem Lg.set {a : List Nat} (h : Lg a) (i : Nat) {d : Nat} (h1 : d < 4294967296) : Lg (a.set i d) := fun x hx => by
 rcases List.mem_or_eq_of_mem_set hx with hx | rfl
 ·exact h x hx
 ·exact h1
theorem L_lt {l : List Nat} (h : Lg l) : VL l < 4294967296 ^ l.length := by
 induction l with
 | nil => simp [wM0]
 | cons d l ih =>
  have h1 := h d (Ck ..);have h2 := ih (fun x hx => h x (Bx _ hx));rw [uS,Aq,Bv];omega
theorem wN {l : List Nat} {m : Nat} (h : m < l.length) : VL (l.take (m + 1)) = VL (l.take m) + 4294967296 ^ m * l[m] := by
 rw [Dq h,dD,As,Db (Cx h)]
theorem wO (l : List Nat) (m : Nat) (h : m <= l.length) : VL l = VL (l.take m) + 4294967296 ^ m * VL (l.drop m) := by
 have e := uB0 (l.take m) (l.drop m);rw [Ec,As,Db h] at e;exact e
theorem gI0 (n : Nat) : VL (List.replicate n 0) = 0 := by
 induction n with
 | zero => rfl
 | succ n ih => rw [List.replicate_succ,uS,ih]
theorem tR (n : Nat) : Lg (List.replicate n 0) := fun x hx => by rw [List.eq_of_mem_replicate hx];decide
theorem yU (n : Nat) : Lg (lim n) := by
 induction n using Nat.strongRecOn with
 | _ n ih =>
  by_cases h : n = 0
  ·subst h;rw [qI];exact Lg.nil
  ·rw [xZ h];intro x hx;rcases Bq.1 hx with rfl | hx
   ·omega
   ·exact ih (n / 4294967296) om x hx
theorem vI (n : Nat) : VL (lim n) = n := by
 induction n using Nat.strongRecOn with
 | _ n ih =>
  by_cases h : n = 0
  ·subst h;rw [qI];rfl
  ·rw [xZ h,uS,ih (n / 4294967296) om];omega
def uA0 (l : List Nat) : Prop := ∀ h : l ≠ [],l.getLast h ≠ 0
theorem lim_noLead (n : Nat) : uA0 (lim n) := by
 induction n using Nat.strongRecOn with
 | _ n ih =>
  by_cases h : n = 0
  ·subst h;rw [qI];exact fun h => absurd rfl h
  ·rw [xZ h];intro hne;by_cases h2 : n / 4294967296 = 0
   ·simp only [h2,qI,List.getLast_singleton];omega
   ·have h3 : lim (n / 4294967296) ≠ [] := by rw [xZ h2];simp
    rw [List.getLast_cons h3];exact ih (n / 4294967296) om h3
theorem qF1 {l : List Nat} (h : Lg l) (hn : uA0 l) : lim (VL l) = l := by
 induction l with
 | nil => exact qI
 | cons d l ih =>
  have h1 := h d (Ck ..);have hl : Lg l := fun x hx => h x (Bx _ hx);have hnl : uA0 l := fun hne => by
   have := hn (by simp);rw [List.getLast_cons hne] at this;exact this
  have h0 : VL (d :: l) ≠ 0 := by
   rw [uS];intro e;have hd : d = 0 := by omega
   have hv : VL l = 0 := by omega
   cases l with
   | nil => exact hn (by simp) (by simpa using hd)
   | cons x l =>
    have := ih hl hnl;rw [hv,qI] at this
    cases this
  rw [xZ h0,uS];have e1 : (d + 4294967296 * VL l) % 4294967296 = d := by omega
  have e2 : (d + 4294967296 * VL l) / 4294967296 = VL l := by omega
  rw [e1,e2,ih hl hnl]
theorem jR {n k : Nat} (h : n < 4294967296 ^ k) : (lim n).length <= k := by
 induction k generalizing n with
 | zero =>
  have : n = 0 := by simpa using h
  subst this;rw [qI];simp
 | succ k ih =>
  by_cases h0 : n = 0
  ·subst h0;rw [qI];simp
  ·rw [xZ h0,Aq];have := ih (n := n / 4294967296) (by rw [Bv] at h;omega);omega
theorem pK (n : Nat) : n < 4294967296 ^ (lim n).length := by
 have := L_lt (yU n)
 rwa [vI] at this
theorem lim_ge {n : Nat} (h : n ≠ 0) : 4294967296 ^ ((lim n).length - 1) <= n := by
 rcases Bs n (4294967296 ^ ((lim n).length - 1)) with h1 | h1
 ·have h2 := jR h1;have : (lim n).length ≠ 0 := by rw [xZ h];simp
  omega
 ·exact h1
theorem qU {l : List Nat} {i : Nat} (h : i < l.length) : l.getD i 0 = l[i] := by rw [An,Ah h];rfl
theorem of_step {l o : List Nat} {i : Nat} (h : V o = VL (l.take i)) (ho : o.length = 2 * i) (hi : i < l.length) : V (o ++ [l[i] % 65536,l[i] / 65536]) = VL (l.take (i + 1)) := by
 rw [jY0,h,ho,wN hi,kT,kT,pQ0];have e : l[i] % 65536 + 65536 * (l[i] / 65536 + 65536 * 0) = l[i] := by omega
 rw [e,Nat.pow_mul]
theorem of_Dg {o : List Nat} (h : Dg o) {x : Nat} (hx : x < 4294967296) : Dg (o ++ [x % 65536,x / 65536]) := fun y hy => by
 rcases Az.1 hy with hy | hy
 ·exact h y hy
 ·simp only [Bq,List.not_mem_nil,or_false] at hy;rcases hy with rfl | rfl <;> omega
def cmpZ (x y : Int) : Int := if x < y then -1 else if y < x then 1 else 0
def ZI (b : Bool) (n : Nat) : Int := if b then -(n : Int) else n
theorem yI1 (b : Bool) (n : Nat) : ZI (!b && decide (0 < n)) n = - ZI b n := by
 cases b <;> unfold ZI <;> simp
 intro h;omega
theorem pZ (b : Bool) (n : Nat) : (ZI b n).natAbs = n := by cases b <;> unfold ZI <;> simp
section
variable {P : Program} {b : Ba}
def exJ {ι : Type} (I : ι -> DS) (K : Exit -> DS -> Prop) (ex : Exit) (S : DS) : Prop := match ex with
 | .normal => ∃ i,LeD S (I i)
 | e => K e S
theorem yM0 {ι : Type} {I : ι -> DS} {K : Exit -> DS -> Prop} {S : DS} (i : ι) (h : LeD S (I i)) : exJ I K .normal S := ⟨i,h⟩
theorem ev_joinK {ι : Type} (ks os : List Nat) (N : Nat) (chg : ι -> List (Nat × D)) (ochg : ι -> List (Nat × DOwn)) {x y : Code} {tm : List (Nat × D)} {ow : List (Nat × DOwn)} {nx : Nat} {K : Exit -> DS -> Prop}
  (h : pL0 ks tm fun base => pK0 os ow fun ob => Ev P b x ⟨tm,ow,nx⟩ (exJ (fun i => ⟨chg i ++ base,ochg i ++ ob,N⟩) K) /\ ∀ i,Ev P b y ⟨chg i ++ base,ochg i ++ ob,N⟩ K) : Ev P b (.seq x y) ⟨tm,ow,nx⟩ K := by
 obtain ⟨base,h1⟩ := pN h;obtain ⟨ob,h2,h3⟩ := pM h1;refine zB ?_;intro w s g a Q hr hK;refine h2 w s g a Q hr fun ex w' s' g' a' S' h4 h5 => hK ex w' s' g' a' S' h4 ?_
 cases ex with
 | normal =>
  obtain ⟨i,hi⟩ := h5;exact jV1 _ hi (h3 i)
 | _ => exact h5
end
def thwD (k : Nat) : D -> D
 | .own k' sz rows => match Nat.beq k' k with
  | true => match rows with
   | [] => .mo k' 0
   | r :: l => .own k' sz (r :: l)
  | false => .own k' sz rows
 | d => d
def thwL (k : Nat) : List D -> List D
 | [] => []
 | d :: l => thwD k d :: thwL k l
def thwT (k : Nat) : List (Nat × D) -> List (Nat × D)
 | [] => []
 | (t,d) :: l => (t,thwD k d) :: thwT k l
def thwO (k : Nat) (e : TypeId) (sz : Nat) : List (Nat × DOwn) -> List (Nat × DOwn)
 | [] => []
 | (j,c) :: l => (match Nat.beq j k with
  | true => (j,.mrow e sz (.lst []))
  | false => match c with
   | .box t cs => (j,.box t (thwL k cs))
   | c => (j,c)) :: thwO k e sz l
theorem gP0 {k : Nat} : ∀ {l : List (Nat × D)} {t : Nat},yT t (thwT k l) = (yT t l).map (thwD k)
 | [],_ => rfl
 | (u,d) :: l,t => by
  show yT t ((u,thwD k d) :: thwT k l) = _;rw [yP,yP];by_cases h : u = t
  ·simp [h]
  ·rw [Aa h,Aa h];exact gP0
theorem dD0 {w : World} {s : Sb} {g : Gh} {k : Nat} (hmo : ∀ v,g.gn k 0 = some v -> (TV.mo k 0).P w s g v) {d : D} {v : Value} (hv : d.tv.P w s g v) : (thwD k d).tv.P w s g v := by
 cases d with
 | own k' sz rows =>
  show (match Nat.beq k' k with | true => (match rows with | [] => D.mo k' 0 | r :: l => D.own k' sz (r :: l)) | false => D.own k' sz rows).tv.P w s g v
  cases hb : Nat.beq k' k with
  | false => exact hv
  | true =>
   have e := Ac hb;subst e
   cases rows with
   | nil =>
    rw [D.tv,TV.P] at hv;show (D.mo k' 0).tv.P w s g v;rw [D.tv];exact hmo v hv.2
   | cons r l => exact hv
 | _ => exact hv
theorem dC0 {w : World} {s : Sb} {g : Gh} {k : Nat} (hmo : ∀ v,g.gn k 0 = some v -> (TV.mo k 0).P w s g v) : ∀ {l : List D} {vs : List Value},AllT w s g (D.tvl l) vs -> AllT w s g (D.tvl (thwL k l)) vs
 | [],vs,hv => by cases vs with | nil => rw [thwL,D.tvl];trivial | cons _ _ => exact hv.elim
 | d :: l,[],hv => by rw [D.tvl] at hv;exact hv.elim
 | d :: l,v :: vs,hv => by
  rw [D.tvl] at hv;rw [thwL,D.tvl];exact ⟨dD0 hmo hv.1,dC0 hmo hv.2⟩
theorem gR0 {k : Nat} : ∀ {l : List D},(∀ d ∈ D.tvl l,d.one = true) -> ∀ d ∈ D.tvl (thwL k l),d.one = true
 | [],_,d,hd => by rw [thwL,D.tvl] at hd;cases hd
 | x :: l,h,d,hd => by
  rw [thwL,D.tvl] at hd;rw [D.tvl] at h;rcases Bq.1 hd with rfl | hd
  ·have h1 := h x.tv (by simp)
   cases x with
   | own k' sz rows =>
    show (match Nat.beq k' k with | true => (match rows with | [] => D.mo k' 0 | r :: l => D.own k' sz (r :: l)) | false => D.own k' sz rows).tv.one = true
    cases Nat.beq k' k with
    | false => rfl
    | true => cases rows <;> rfl
   | _ => exact h1
  ·exact gR0 (fun y hy => h y (by simp [hy])) d hd
theorem gQ0 {k : Nat} {e : TypeId} {sz : Nat} : ∀ {l : List (Nat × DOwn)} {j : Nat} {c : DOwn},yT j (thwO k e sz l) = some c -> ∃ c0,yT j l = some c0 /\ ((j = k /\ c = .mrow e sz (.lst [])) \/ (j ≠ k /\ ((∃ t cs,c0 = .box t cs /\ c = .box t (thwL k cs)) \/ (c = c0 /\ ∀ t cs,c0 ≠ .box t cs))))
 | [],_,_,h => by cases h
 | (i,c0) :: l,j,c,h => by
  unfold thwO at h;have step : ∀ x : DOwn,yT j ((i,x) :: thwO k e sz l) = some c -> (i = j /\ x = c) \/ (i ≠ j /\ yT j (thwO k e sz l) = some c) := fun x hx => by
   rw [yP] at hx;by_cases hi : i = j
   ·rw [Ab hi] at hx;exact .inl ⟨hi,Option.some.inj hx⟩
   ·rw [Aa hi] at hx;exact .inr ⟨hi,hx⟩
  have rest : i ≠ j -> yT j (thwO k e sz l) = some c -> ∃ c0',yT j ((i,c0) :: l) = some c0' /\ ((j = k /\ c = .mrow e sz (.lst [])) \/ (j ≠ k /\ ((∃ t cs,c0' = .box t cs /\ c = .box t (thwL k cs)) \/ (c = c0' /\ ∀ t cs,c0' ≠ .box t cs)))) := fun hi hx => by
   obtain ⟨c1,h1,h2⟩ := gQ0 hx;exact ⟨c1,by rw [yP,Aa hi];exact h1,h2⟩
  cases hb : Nat.beq i k with
  | true =>
   rw [hb] at h;have hik := Ac hb;rcases step _ h with ⟨rfl,rfl⟩ | ⟨hi,hx⟩
   ·exact ⟨c0,by rw [yP];simp,.inl ⟨hik,rfl⟩⟩
   ·exact rest hi hx
  | false =>
   rw [hb] at h;have hik : i ≠ k := by rintro rfl;rw [Nat.beq_refl] at hb;cases hb
   cases c0 with
   | box t cs =>
    rcases step _ h with ⟨rfl,rfl⟩ | ⟨hi,hx⟩
    ·exact ⟨_,by rw [yP];simp,.inr ⟨hik,.inl ⟨t,cs,rfl,rfl⟩⟩⟩
    ·exact rest hi hx
   | _ =>
    rcases step _ h with ⟨rfl,rfl⟩ | ⟨hi,hx⟩
    ·exact ⟨_,by rw [yP];simp,.inr ⟨hik,.inr ⟨rfl,fun _ _ h => by cases h⟩⟩⟩
    ·exact rest hi hx
section
variable {P : Program} {b : Ba}
theorem ev_thaw (k : Nat) {e : TypeId} {sz : Nat} {c : Code} {tm : List (Nat × D)} {ow : List (Nat × DOwn)} {nx : Nat} {K : Exit -> DS -> Prop} (hk : yT k ow = some (.row e sz 0))
  (h : Ev P b c ⟨thwT k tm,thwO k e sz ow,nx⟩ K) : Ev P b c ⟨tm,ow,nx⟩ K := by
 intro w s g a Q hr hK;have hk0 : fnd k (ows ow) = some (.row e sz 0) := by rw [qK,hk];rfl
 obtain ⟨hok,hblk⟩ := hr.ow k _ hk0;obtain ⟨hmr,hmo⟩ := hok.thaw;have howf : ∀ {j : Nat} {c : Own},fnd j (ows (thwO k e sz ow)) = some c -> ∃ c0,fnd j (ows ow) = some c0 /\ Ok1 w s g j c /\ blk g j c = blk g j c0 := fun {j c} hj => by
  rw [qK] at hj
  cases hq : yT j (thwO k e sz ow) with
  | none => rw [hq] at hj;cases hj
  | some d =>
   rw [hq] at hj
   cases hj;obtain ⟨c0,h1,h2⟩ := gQ0 hq;have h1' : fnd j (ows ow) = some c0.o := by rw [qK,h1];rfl
   refine ⟨c0.o,h1',?_⟩;rcases h2 with ⟨rfl,rfl⟩ | ⟨hne,⟨t,cs,rfl,rfl⟩ | ⟨rfl,_⟩⟩
   ·rw [hk] at h1
    cases h1;exact ⟨hmr,rfl⟩
   ·obtain ⟨N,vs,g1,g2,g3,g4,g5⟩ := (hr.ow j _ h1').1;exact ⟨⟨N,vs,g1,g2,dC0 hmo g3,gR0 g4,g5⟩,rfl⟩
   ·exact ⟨(hr.ow j _ h1').1,rfl⟩
 refine h w s g a Q ⟨hr.kp,hr.lt,hr.sz,fun t d hd => ?_,fun j c hj => ?_,fun j j' c c' N h1 h2 hne hb => ?_,hr.fr,hr.df,hr.gb⟩ hK
 ·have hd' : fnd t (tvs (thwT k tm)) = some d := hd;rw [qD,gP0] at hd'
  cases hq : yT t tm with
  | none => rw [hq] at hd';cases hd'
  | some x =>
   rw [hq] at hd'
   cases hd';obtain ⟨v,h1,h2⟩ := hr.tm t x.tv (by show fnd t (tvs tm) = _;rw [qD,hq];rfl);exact ⟨v,h1,dD0 hmo h2⟩
 ·obtain ⟨c0,h1,h2,h3⟩ := howf hj;exact ⟨h2,fun N hb => (hr.ow j c0 h1).2 N (by rw [<- h3];exact hb)⟩
 ·obtain ⟨c0,e1,_,e3⟩ := howf h1;obtain ⟨d0,f1,_,f3⟩ := howf h2;rw [f3];exact hr.sep j j' c0 d0 N e1 f1 hne (by rw [<- e3];exact hb)
end
theorem Sub.mo {k n m : Nat} (h : n = m) : Sub (.mo k n) (.mo k m) := by subst h;exact u0 _
theorem Sub.mw {k q i sz n q' i' n' : Nat} (h1 : q = q') (h2 : i = i') (h3 : n = n') : Sub (.mw k q i sz n) (.mw k q' i' sz n') := by subst h1;subst h2;subst h3;exact u0 _
theorem Sub.moMw {k n q i sz m : Nat} (h0 : 0 < n) (h1 : n = q) (h2 : 0 = i) (h3 : n = m) : Sub (.mo k n) (.mw k q i sz m) := by subst h1;subst h2;subst h3;exact fun w s g v hv => mo_mw h0 hv
theorem SubO.mr {ty : TypeId} {sz : Nat} {m m' : MR} (h : m.rows = m'.rows) : SubO (.mrow ty sz m) (.mrow ty sz m') := ⟨rfl,rfl,congrArg D.pvss h⟩
end Go.Proofs.YtinegkcbkefeiaaGreatDoor
