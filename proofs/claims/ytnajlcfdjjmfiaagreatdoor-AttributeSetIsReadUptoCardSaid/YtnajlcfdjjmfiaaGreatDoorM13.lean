/- Part 13 of the proof. -/
import Derived.Test.YtnajlcfdjjmfiaaGreatDoorProg
import Derived.Ground.NamesProg
import Derived.Shelf.Unicode.ValidAny
import Derived.Shelf.Strings.Split
import Derived.Shelf.Strings.Fields
import Derived.Shelf.Strings.Cut
import Derived.Shelf.Strings.Search3
import Derived.WalkKit
import Derived.WalkSpells
import Derived.WalkLawsBesides
import Derived.Lib.Hide
import Derived.Lib.SliceRun
import Derived.Laws.AppendOwnNone
import Derived.Test.YtnajlcfdjjmfiaaGreatDoorChecked
import Derived.BigQuiet
import Derived.Deep.LoopGhost
import Derived.OwnWalk
import Derived.Deep.DeepCutAuto
import Derived.Deep.CutBlock
import Derived.Deep.QuietTactic
import Derived.OrdersHeld
/-
  DERIVED: THE SHELF's CONTRACTS AT THIS DUMP,IN PLAIN WORDS (tools/lay-plain.mjs out of 'YtnajlcfdjjmfiaaGreatDoorShelf.lean',which tools/lay-shelf.mjs wrote): THE SAME DECLARATIONS UNDER THE SAME NAMES: 'import','namespace','open','def','theorem' AND NOTHING ELSE: no command of the shelf's: FOR A HAND-IN. Each laying: the table of numbers ('.._ren') and one theorem,a field a fact of the dump's own or the kernel's comparison;each contract: ONE APPLICATION.
-/
namespace Go.Proofs
open Go.Shelf
def Tryz.laysValid_ren : Go.Shelf.Ren := ⟨fun | 196 => 96 | 259 => 119 | n => n,fun | 9 => 9 | 4 => 4 | 3 => 3 | 5 => 5 | 12 => 12 | 119 => 127 | 0 => 0 | 46 => 117 | 139 => 146 | 138 => 145 | 53 => 159 | n => n,fun | 3 => 1 | 4 => 2 | n => n⟩
theorem qE {α : Type} {a b : α} (h : a = b := by kernel_rfl) : some a = some b := congrArg some h
theorem Tryz.laysValid : Go.Proofs.Lays.n196 Tryz.prog Tryz.laysValid_ren := {
 mixed := by kernel_rfl
 f196 := Tryz.func96.trans qE
 f259 := Tryz.func119.trans qE
 t0 := Tryz.underlying0
 a0 := Tryz.isAgg0
 z0 := Tryz.sizeOf0
 v0 := Tryz.zeroValue0
 t3 := Tryz.underlying3
 a3 := Tryz.isAgg3
 z3 := Tryz.sizeOf3
 v3 := Tryz.zeroValue3
 t4 := Tryz.underlying4
 a4 := Tryz.isAgg4
 z4 := Tryz.sizeOf4
 v4 := Tryz.zeroValue4
 t5 := Tryz.underlying5
 a5 := Tryz.isAgg5
 z5 := Tryz.sizeOf5
 v5 := Tryz.zeroValue5
 t9 := Tryz.underlying9
 a9 := Tryz.isAgg9
 z9 := Tryz.sizeOf9
 v9 := Tryz.zeroValue9
 t12 := Tryz.underlying12
 a12 := Tryz.isAgg12
 z12 := Tryz.sizeOf12
 v12 := Tryz.zeroValue12
 t46 := Tryz.underlying117
 a46 := Tryz.isAgg117
 z46 := Tryz.sizeOf117
 v46 := Tryz.zeroValue117
 t53 := Tryz.underlying159
 a53 := Tryz.isAgg159
 z53 := Tryz.sizeOf159
 v53 := Tryz.zeroValue159
 t119 := Tryz.underlying127
 a119 := Tryz.isAgg127
 z119 := Tryz.sizeOf127
 t138 := Tryz.underlying145
 a138 := Tryz.isAgg145
 z138 := Tryz.sizeOf145
 v138 := Tryz.zeroValue145
 t139 := Tryz.underlying146
 a139 := Tryz.isAgg146
 z139 := Tryz.sizeOf146
 v139 := Tryz.zeroValue146
 g3 := by kernel_rfl
 g4 := by kernel_rfl }
def Tryz.laysSplit_ren : Go.Shelf.Ren := ⟨fun | 146 => 108 | 221 => 125 | 268 => 140 | 138 => 141 | 143 => 109 | 195 => 144 | 197 => 145 | 218 => 146 | 219 => 124 | 260 => 147 | 217 => 136 | 225 => 137 | 224 => 138 | 267 => 139 | 266 => 142 | 314 => 143 | n => n,fun | 9 => 9 | 31 => 33 | 3 => 3 | 4 => 4 | 0 => 0 | 105 => 179 | 21 => 21 | 5 => 5 | 46 => 117 | 119 => 127 | 139 => 146 | 138 => 145 | 146 => 176 | 51 => 83 | n => n,fun | 1 => 4 | 3 => 1 | 4 => 2 | n => n⟩
theorem Tryz.laysSplit : Go.Proofs.Lays.n146 Tryz.prog Tryz.laysSplit_ren := {
 mixed := by kernel_rfl
 f138 := Tryz.func141.trans qE
 f143 := Tryz.func109.trans qE
 f146 := Tryz.func108.trans qE
 f195 := Tryz.func144.trans qE
 f197 := Tryz.func145.trans qE
 f217 := Tryz.func136.trans qE
 f218 := Tryz.func146.trans qE
 f219 := Tryz.func124.trans qE
 f221 := Tryz.func125.trans qE
 f224 := Tryz.func138.trans qE
 f225 := Tryz.func137.trans qE
 f260 := Tryz.func147.trans qE
 f266 := Tryz.func142.trans qE
 f267 := Tryz.func139.trans qE
 f268 := Tryz.func140.trans qE
 f314 := Tryz.func143.trans qE
 t0 := Tryz.underlying0
 a0 := Tryz.isAgg0
 z0 := Tryz.sizeOf0
 v0 := Tryz.zeroValue0
 t3 := Tryz.underlying3
 a3 := Tryz.isAgg3
 z3 := Tryz.sizeOf3
 v3 := Tryz.zeroValue3
 t4 := Tryz.underlying4
 a4 := Tryz.isAgg4
 z4 := Tryz.sizeOf4
 v4 := Tryz.zeroValue4
 t5 := Tryz.underlying5
 a5 := Tryz.isAgg5
 z5 := Tryz.sizeOf5
 v5 := Tryz.zeroValue5
 t9 := Tryz.underlying9
 a9 := Tryz.isAgg9
 z9 := Tryz.sizeOf9
 v9 := Tryz.zeroValue9
 t21 := Tryz.underlying21
 a21 := Tryz.isAgg21
 z21 := Tryz.sizeOf21
 v21 := Tryz.zeroValue21
 t31 := Tryz.underlying33
 a31 := Tryz.isAgg33
 z31 := Tryz.sizeOf33
 v31 := Tryz.zeroValue33
 t46 := Tryz.underlying117
 a46 := Tryz.isAgg117
 z46 := Tryz.sizeOf117
 v46 := Tryz.zeroValue117
 t51 := Tryz.underlying83
 a51 := Tryz.isAgg83
 z51 := Tryz.sizeOf83
 v51 := Tryz.zeroValue83
 t105 := Tryz.underlying179
 a105 := Tryz.isAgg179
 z105 := Tryz.sizeOf179
 v105 := Tryz.zeroValue179
 t119 := Tryz.underlying127
 a119 := Tryz.isAgg127
 z119 := Tryz.sizeOf127
 t138 := Tryz.underlying145
 a138 := Tryz.isAgg145
 z138 := Tryz.sizeOf145
 v138 := Tryz.zeroValue145
 t139 := Tryz.underlying146
 a139 := Tryz.isAgg146
 z139 := Tryz.sizeOf146
 v139 := Tryz.zeroValue146
 t146 := Tryz.underlying176
 a146 := Tryz.isAgg176
 z146 := Tryz.sizeOf176
 v146 := Tryz.zeroValue176
 g1 := by kernel_rfl
 g3 := by kernel_rfl
 g4 := by kernel_rfl }
def Tryz.laysFields_ren : Go.Shelf.Ren := ⟨fun | 157 => 75 | 229 => 103 | 199 => 104 | 261 => 123 | 311 => 134 | 312 => 135 | n => n,fun | 9 => 9 | 31 => 33 | 3 => 3 | 5 => 5 | 4 => 4 | 119 => 127 | 0 => 0 | 40 => 129 | 152 => 148 | 21 => 21 | 154 => 150 | 51 => 83 | 141 => 152 | 196 => 164 | 193 => 161 | 198 => 167 | 49 => 165 | 194 => 162 | 201 => 170 | 226 => 174 | 46 => 117 | 227 => 175 | n => n,fun | 0 => 0 | 6 => 3 | n => n⟩
theorem Tryz.laysFields : Go.Proofs.Lays.n157 Tryz.prog Tryz.laysFields_ren := {
 mixed := by kernel_rfl
 f157 := Tryz.func75.trans qE
 f199 := Tryz.func104.trans qE
 f229 := Tryz.func103.trans qE
 f261 := Tryz.func123.trans qE
 f311 := Tryz.func134.trans qE
 f312 := Tryz.func135.trans qE
 t0 := Tryz.underlying0
 a0 := Tryz.isAgg0
 z0 := Tryz.sizeOf0
 v0 := Tryz.zeroValue0
 t3 := Tryz.underlying3
 a3 := Tryz.isAgg3
 z3 := Tryz.sizeOf3
 v3 := Tryz.zeroValue3
 t4 := Tryz.underlying4
 a4 := Tryz.isAgg4
 z4 := Tryz.sizeOf4
 v4 := Tryz.zeroValue4
 t5 := Tryz.underlying5
 a5 := Tryz.isAgg5
 z5 := Tryz.sizeOf5
 v5 := Tryz.zeroValue5
 t9 := Tryz.underlying9
 a9 := Tryz.isAgg9
 z9 := Tryz.sizeOf9
 v9 := Tryz.zeroValue9
 t21 := Tryz.underlying21
 a21 := Tryz.isAgg21
 z21 := Tryz.sizeOf21
 v21 := Tryz.zeroValue21
 t31 := Tryz.underlying33
 a31 := Tryz.isAgg33
 z31 := Tryz.sizeOf33
 v31 := Tryz.zeroValue33
 t40 := Tryz.underlying129
 a40 := Tryz.isAgg129
 z40 := Tryz.sizeOf129
 v40 := Tryz.zeroValue129
 t46 := Tryz.underlying117
 a46 := Tryz.isAgg117
 z46 := Tryz.sizeOf117
 v46 := Tryz.zeroValue117
 t49 := Tryz.underlying165
 a49 := Tryz.isAgg165
 z49 := Tryz.sizeOf165
 v49 := Tryz.zeroValue165
 t51 := Tryz.underlying83
 a51 := Tryz.isAgg83
 z51 := Tryz.sizeOf83
 v51 := Tryz.zeroValue83
 t119 := Tryz.underlying127
 a119 := Tryz.isAgg127
 z119 := Tryz.sizeOf127
 t141 := Tryz.underlying152
 a141 := Tryz.isAgg152
 z141 := Tryz.sizeOf152
 v141 := Tryz.zeroValue152
 t152 := Tryz.underlying148
 a152 := Tryz.isAgg148
 z152 := Tryz.sizeOf148
 v152 := Tryz.zeroValue148
 t154 := Tryz.underlying150
 a154 := Tryz.isAgg150
 z154 := Tryz.sizeOf150
 v154 := Tryz.zeroValue150
 t193 := Tryz.underlying161
 a193 := Tryz.isAgg161
 z193 := Tryz.sizeOf161
 v193 := Tryz.zeroValue161
 t194 := Tryz.underlying162
 a194 := Tryz.isAgg162
 z194 := Tryz.sizeOf162
 v194 := Tryz.zeroValue162
 t196 := Tryz.underlying164
 a196 := Tryz.isAgg164
 z196 := Tryz.sizeOf164
 v196 := Tryz.zeroValue164
 t198 := Tryz.underlying167
 a198 := Tryz.isAgg167
 z198 := Tryz.sizeOf167
 v198 := Tryz.zeroValue167
 t201 := Tryz.underlying170
 a201 := Tryz.isAgg170
 z201 := Tryz.sizeOf170
 v201 := Tryz.zeroValue170
 t226 := Tryz.underlying174
 a226 := Tryz.isAgg174
 z226 := Tryz.sizeOf174
 v226 := Tryz.zeroValue174
 t227 := Tryz.underlying175
 a227 := Tryz.isAgg175
 z227 := Tryz.sizeOf175
 v227 := Tryz.zeroValue175
 g0 := by kernel_rfl
 g6 := by kernel_rfl }
def Tryz.laysCut_ren : Go.Shelf.Ren := ⟨fun | 145 => 76 | 220 => 105 | 219 => 124 | 217 => 136 | 225 => 137 | 224 => 138 | 267 => 139 | 266 => 142 | 314 => 143 | n => n,fun | 9 => 9 | 4 => 4 | 59 => 102 | 3 => 3 | 5 => 5 | 46 => 117 | 146 => 176 | 51 => 83 | n => n,fun | 1 => 4 | n => n⟩
theorem Tryz.laysCut : Go.Proofs.Lays.n145 Tryz.prog Tryz.laysCut_ren := {
 mixed := by kernel_rfl
 f145 := Tryz.func76.trans qE
 f217 := Tryz.func136.trans qE
 f219 := Tryz.func124.trans qE
 f220 := Tryz.func105.trans qE
 f224 := Tryz.func138.trans qE
 f225 := Tryz.func137.trans qE
 f266 := Tryz.func142.trans qE
 f267 := Tryz.func139.trans qE
 f314 := Tryz.func143.trans qE
 t3 := Tryz.underlying3
 a3 := Tryz.isAgg3
 z3 := Tryz.sizeOf3
 v3 := Tryz.zeroValue3
 t4 := Tryz.underlying4
 a4 := Tryz.isAgg4
 z4 := Tryz.sizeOf4
 v4 := Tryz.zeroValue4
 t5 := Tryz.underlying5
 a5 := Tryz.isAgg5
 z5 := Tryz.sizeOf5
 v5 := Tryz.zeroValue5
 t9 := Tryz.underlying9
 a9 := Tryz.isAgg9
 z9 := Tryz.sizeOf9
 v9 := Tryz.zeroValue9
 t46 := Tryz.underlying117
 a46 := Tryz.isAgg117
 z46 := Tryz.sizeOf117
 v46 := Tryz.zeroValue117
 t51 := Tryz.underlying83
 a51 := Tryz.isAgg83
 z51 := Tryz.sizeOf83
 v51 := Tryz.zeroValue83
 t59 := Tryz.underlying102
 a59 := Tryz.isAgg102
 z59 := Tryz.sizeOf102
 v59 := Tryz.zeroValue102
 t146 := Tryz.underlying176
 a146 := Tryz.isAgg176
 z146 := Tryz.sizeOf176
 v146 := Tryz.zeroValue176
 g1 := by kernel_rfl }
def Tryz.laysContains_ren : Go.Shelf.Ren := ⟨fun | 144 => 81 | 143 => 109 | 219 => 124 | 217 => 136 | 225 => 137 | 224 => 138 | 267 => 139 | 266 => 142 | 314 => 143 | n => n,fun | 9 => 9 | 4 => 4 | 3 => 3 | 5 => 5 | 46 => 117 | 146 => 176 | 51 => 83 | n => n,fun | 1 => 4 | n => n⟩
theorem Tryz.laysContains : Go.Proofs.Lays.n144 Tryz.prog Tryz.laysContains_ren := {
 mixed := by kernel_rfl
 f143 := Tryz.func109.trans qE
 f144 := Tryz.func81.trans qE
 f217 := Tryz.func136.trans qE
 f219 := Tryz.func124.trans qE
 f224 := Tryz.func138.trans qE
 f225 := Tryz.func137.trans qE
 f266 := Tryz.func142.trans qE
 f267 := Tryz.func139.trans qE
 f314 := Tryz.func143.trans qE
 t3 := Tryz.underlying3
 a3 := Tryz.isAgg3
 z3 := Tryz.sizeOf3
 v3 := Tryz.zeroValue3
 t4 := Tryz.underlying4
 a4 := Tryz.isAgg4
 z4 := Tryz.sizeOf4
 v4 := Tryz.zeroValue4
 t5 := Tryz.underlying5
 a5 := Tryz.isAgg5
 z5 := Tryz.sizeOf5
 v5 := Tryz.zeroValue5
 t9 := Tryz.underlying9
 a9 := Tryz.isAgg9
 z9 := Tryz.sizeOf9
 v9 := Tryz.zeroValue9
 t46 := Tryz.underlying117
 a46 := Tryz.isAgg117
 z46 := Tryz.sizeOf117
 v46 := Tryz.zeroValue117
 t51 := Tryz.underlying83
 a51 := Tryz.isAgg83
 z51 := Tryz.sizeOf83
 v51 := Tryz.zeroValue83
 t146 := Tryz.underlying176
 a146 := Tryz.isAgg176
 z146 := Tryz.sizeOf176
 v146 := Tryz.zeroValue176
 g1 := by kernel_rfl }
end Go.Proofs
namespace Go.Proofs.YtnajlcfdjjmfiaaGreatDoor
open Go.RowKit
theorem dO {k : IntKind} {a b : Int} (h : a = b) : Ending.returned (.int k a) = .returned (.int k b) := by rw [h]
theorem kJ {a b : Bool} (h : a = b) : Ending.returned (.bool a) = .returned (.bool b) := by rw [h]
theorem qH {w w1 w2 : World} (h1 : Below w.heap.size w w1) (h2 : Below w1.heap.size w1 w2) : Below w.heap.size w w2 := h1.trans (h2.mono h1.size)
theorem qT0 (w : World) (o : Obj) : Below w.heap.size w (w.alloc o) := (Below.refl _ _).alloc (Nat.le_refl _) o
theorem zH0 (w : World) (o : Obj) : (w.alloc o).heap[w.heap.size]? = some o := by show (w.heap.push o)[w.heap.size]? = _;simp
def RowOf {α : Type} (f : α → Value) (w : World) (v : Value) (l : List α) : Prop :=
 ∃ a cap,v = .slice a l.length cap ∧ l.length ≤ cap ∧ cap ≤ 9223372036854775807 ∧
  ∀ i (h : i < l.length),∃ b off,a = some ⟨b,off,none⟩ ∧ w.cell? ⟨b,off + i,none⟩ = some (f l[i])
theorem RowOf.below {α : Type} {f : α → Value} {w w' : World} {v : Value} {l : List α} (h : RowOf f w v l) (hb : Below w.heap.size w w') : RowOf f w' v l := by
 obtain ⟨a,cap,rfl,hl,hm,hc⟩ := h;refine ⟨a,cap,rfl,hl,hm,fun i hi => ?_⟩;obtain ⟨b,off,rfl,hcell⟩ := hc i hi;exact ⟨b,off,rfl,by rw [hb.cell (World.block_lt_of_cell? _ _ hcell)];exact hcell⟩
abbrev Row (w : World) (v : Value) (cs : List Value) : Prop := RowOf (fun x => x) w v cs
def zF0 (x : Int) : List Int → Nat → Int
 | [],_ => -1
 | y :: l,k => if x == y then k else zF0 x l (k + 1)
def before (l : List Int) (a b : Int) : Bool := decide (0 ≤ zF0 a l 0) && decide (zF0 a l 0 < zF0 b l 0)
def V : List Nat → Nat
 | [] => 0
 | d :: l => d + 65536 * V l
def Dg (l : List Nat) : Prop := ∀ d ∈ l,d < 65536
def dig (n : Nat) : List Nat := if n = 0 then [] else (n % 65536) :: dig (n / 65536)
decreasing_by omega
theorem vH : dig 0 = [] := by rw [dig];simp
theorem xU {n : Nat} (h : n ≠ 0) : dig n = (n % 65536) :: dig (n / 65536) := by rw [dig];simp [h]
theorem xM0 : V [] = 0 := rfl
theorem xG (d : Nat) (l : List Nat) : V (d :: l) = d + 65536 * V l := rfl
theorem yC0 (a b : List Nat) : V (a ++ b) = V a + 65536 ^ a.length * V b := by
 induction a with
 | nil => simp [xM0]
 | cons d a ih => rw [List.cons_append,xG,ih,xG,List.length_cons,Nat.pow_succ,Nat.mul_add];rw [Nat.add_assoc];congr 2;rw [← Nat.mul_assoc];congr 1;exact Nat.mul_comm _ _
theorem jG0 (a : List Nat) (d : Nat) : V (a ++ [d]) = V a + 65536 ^ a.length * d := by rw [yC0,xG,xM0];simp
theorem Dg.nil : Dg [] := fun _ h => by cases h
theorem Dg.snoc {a : List Nat} (h : Dg a) {d : Nat} (h1 : d < 65536) : Dg (a ++ [d]) := fun x hx => by
 rcases List.mem_append.1 hx with hx | hx
 ·exact h x hx
 ·rw [List.mem_singleton.1 hx];exact h1
theorem Dg.take {a : List Nat} (h : Dg a) (n : Nat) : Dg (a.take n) := fun x hx => h x (List.mem_of_mem_take hx)
theorem Dg.at {a : List Nat} (h : Dg a) {i : Nat} (hi : i < a.length) : a[i] < 65536 := h _ (List.getElem_mem hi)
theorem Dg.set {a : List Nat} (h : Dg a) (i : Nat) {d : Nat} (h1 : d < 65536) : Dg (a.set i d) := fun x hx => by
 rcases List.mem_or_eq_of_mem_set hx with hx | rfl
 ·exact h x hx
 ·exact h1
theorem V_lt {l : List Nat} (h : Dg l) : V l < 65536 ^ l.length := by
 induction l with
 | nil => simp [xM0]
 | cons d l ih =>
  have h1 := h d (List.mem_cons_self ..);have h2 := ih (fun x hx => h x (List.mem_cons_of_mem _ hx));rw [xG,List.length_cons,Nat.pow_succ];omega
theorem xE {l : List Nat} {m : Nat} (h : m < l.length) : V (l.take (m + 1)) = V (l.take m) + 65536 ^ m * l[m] := by
 rw [List.take_succ_eq_append_getElem h,jG0,List.length_take,Nat.min_eq_left (Nat.le_of_lt h)]
theorem V_take_drop (l : List Nat) (m : Nat) (h : m ≤ l.length) : V l = V (l.take m) + 65536 ^ m * V (l.drop m) := by
 have e := yC0 (l.take m) (l.drop m);rw [List.take_append_drop,List.length_take,Nat.min_eq_left h] at e;exact e
theorem Dg_zeros (n : Nat) : Dg (List.replicate n 0) := fun x hx => by rw [List.eq_of_mem_replicate hx];decide
theorem mC (n : Nat) : Dg (dig n) := by
 induction n using Nat.strongRecOn with
 | _ n ih =>
  by_cases h : n = 0
  ·subst h;rw [vH];exact Dg.nil
  ·rw [xU h];intro x hx;rcases List.mem_cons.1 hx with rfl | hx
   ·omega
   ·exact ih (n / 65536) (by omega) x hx
theorem yB0 (n : Nat) : V (dig n) = n := by
 induction n using Nat.strongRecOn with
 | _ n ih =>
  by_cases h : n = 0
  ·subst h;rw [vH];rfl
  ·rw [xU h,xG,ih (n / 65536) (by omega)];omega
def dN0 (l : List Nat) : Prop := ∀ h : l ≠ [],l.getLast h ≠ 0
theorem dig_V {l : List Nat} (h : Dg l) (hn : dN0 l) : dig (V l) = l := by
 induction l with
 | nil => exact vH
 | cons d l ih =>
  have h1 := h d (List.mem_cons_self ..);have hl : Dg l := fun x hx => h x (List.mem_cons_of_mem _ hx);have hnl : dN0 l := fun hne => by
   have := hn (by simp);rw [List.getLast_cons hne] at this;exact this
  have h0 : V (d :: l) ≠ 0 := by
   rw [xG];intro e;have hd : d = 0 := by omega
   have hv : V l = 0 := by omega
   cases l with
   | nil => exact hn (by simp) (by simpa using hd)
   | cons x l =>
    have := ih hl hnl;rw [hv,vH] at this
    cases this
  rw [xU h0,xG];have e1 : (d + 65536 * V l) % 65536 = d := by omega
  have e2 : (d + 65536 * V l) / 65536 = V l := by omega
  rw [e1,e2,ih hl hnl]
theorem xB {n k : Nat} (h : n < 65536 ^ k) : (dig n).length ≤ k := by
 induction k generalizing n with
 | zero =>
  have : n = 0 := by simpa using h
  subst this;rw [vH];simp
 | succ k ih =>
  by_cases h0 : n = 0
  ·subst h0;rw [vH];simp
  ·rw [xU h0,List.length_cons];have := ih (n := n / 65536) (by rw [Nat.pow_succ] at h;omega);omega
theorem dG0 (n : Nat) : n < 65536 ^ (dig n).length := by
 have := V_lt (mC n)
 rwa [yB0] at this
theorem dig_ge {n : Nat} (h : n ≠ 0) : 65536 ^ ((dig n).length - 1) ≤ n := by
 rcases Nat.lt_or_ge n (65536 ^ ((dig n).length - 1)) with h1 | h1
 ·have h2 := xB h1;have : (dig n).length ≠ 0 := by rw [xU h];simp
  omega
 ·exact h1
theorem pG {x y : Nat} (h : (dig x).length < (dig y).length) : x < y := by
 have h0 : y ≠ 0 := by intro e;subst e;rw [vH] at h;simp at h
 have h1 := dG0 x;have h2 := dig_ge h0;exact Nat.lt_of_lt_of_le h1 (Nat.le_trans (Nat.pow_le_pow_right (by omega) (by omega)) h2)
theorem pR {x y : Nat} (h : x ≤ y) : (dig x).length ≤ (dig y).length := by
 rcases Nat.lt_or_ge (dig y).length (dig x).length with h1 | h1
 ·have := pG h1;omega
 ·exact h1
theorem trim_step {l : List Nat} {m : Nat} (h : m < l.length) (h0 : l[m] = 0) : V (l.take (m + 1)) = V (l.take m) := by
 rw [xE h,h0];simp
theorem trim_end {l : List Nat} (hd : Dg l) {m : Nat} (h : m ≤ l.length) (h0 : ∀ hm : 0 < m,l[m - 1] ≠ 0) : dig (V (l.take m)) = l.take m := by
 refine dig_V (hd.take m) (fun hne => ?_);have hm : 0 < m := by
  rcases Nat.eq_zero_or_pos m with rfl | h1
  ·simp at hne
  ·exact h1
 rw [List.getLast_eq_getElem];simp only [List.length_take,Nat.min_eq_left h,List.getElem_take];exact h0 hm
theorem pD {l : List Nat} {i : Nat} (h : i < l.length) : l.getD i 0 = l[i] := by rw [List.getD_eq_getElem?_getD,List.getElem?_eq_getElem h];rfl
theorem bG {l : List Nat} {i : Nat} (h : l.length ≤ i) : l.getD i 0 = 0 := by rw [List.getD_eq_getElem?_getD,List.getElem?_eq_none h];rfl
theorem xZ (l : List Nat) (i : Nat) : V (l.take (i + 1)) = V (l.take i) + 65536 ^ i * (l.getD i 0) := by
 by_cases hl : i < l.length
 ·rw [xE hl,pD hl]
 ·rw [List.take_of_length_le (by omega),List.take_of_length_le (by omega),bG (by omega)];simp
theorem kO {la lb o : List Nat} {i c x : Nat} (h : V o + c * 65536 ^ i = V (la.take i) + V (lb.take i)) (ho : o.length = i)
  (hx : x = c + (la.getD i 0) + (lb.getD i 0)) :
  V (o ++ [(x % 65536)]) + x / 65536 * 65536 ^ (i + 1) = V (la.take (i + 1)) + V (lb.take (i + 1)) := by
 rw [jG0,ho,xZ la,xZ lb,Nat.pow_succ];generalize 65536 ^ i = B at *;have e : x = 65536 * (x / 65536) + x % 65536 := (Nat.div_add_mod x 65536).symm;have e2 : B * x = B * (65536 * (x / 65536)) + B * (x % 65536) := by rw [← Nat.mul_add,← e]
 have e3 : B * x = B * c + B * (la.getD i 0) + B * (lb.getD i 0) := by rw [hx,Nat.mul_add,Nat.mul_add]
 have e4 : x / 65536 * (B * 65536) = B * (65536 * (x / 65536)) := by rw [Nat.mul_comm,Nat.mul_assoc]
 have e5 : c * B = B * c := Nat.mul_comm _ _;omega
theorem minus_step {la lb o : List Nat} {i c x c' : Nat} (h : V o + V (lb.take i) = V (la.take i) + c * 65536 ^ i) (ho : o.length = i) (hi : i < la.length) (hx : x + (lb.getD i 0) + c = la[i] + 65536 * c') :
  V (o ++ [x]) + V (lb.take (i + 1)) = V (la.take (i + 1)) + c' * 65536 ^ (i + 1) := by
 rw [jG0,ho,xZ lb,xE hi,Nat.pow_succ];generalize 65536 ^ i = B at *;have e1 : B * x + B * (lb.getD i 0) + B * c = B * la[i] + B * (65536 * c') := by rw [← Nat.mul_add,← Nat.mul_add,← Nat.mul_add,hx]
 have e2 : c' * (B * 65536) = B * (65536 * c') := by rw [Nat.mul_comm,Nat.mul_assoc]
 have e3 : c * B = B * c := Nat.mul_comm _ _;omega
def cmpN (x y : Nat) : Int := if x < y then -1 else if y < x then 1 else 0
theorem mH0 {l : List Nat} {i : Nat} (h : i < l.length) : V l = V (l.take i) + 65536 ^ i * (l[i] + 65536 * V (l.drop (i + 1))) := by
 rw [V_take_drop l i (Nat.le_of_lt h),List.drop_eq_getElem_cons h,xG]
theorem tI0 {la lb : List Nat} {i : Nat} (ha : Dg la) (hl : la.length = lb.length) (hi : i < la.length) (hd : la.drop (i + 1) = lb.drop (i + 1)) (h : la[i] < lb[i]) : V la < V lb := by
 rw [mH0 hi,mH0 (l := lb) (i := i) (by omega),hd];have h1 := V_lt (ha.take i);rw [List.length_take,Nat.min_eq_left (Nat.le_of_lt hi)] at h1;generalize 65536 * V (lb.drop (i + 1)) = D;have h4 : 65536 ^ i * (la[i] + D) + 65536 ^ i ≤ 65536 ^ i * (lb[i] + D) := by
  rw [← Nat.mul_succ];exact Nat.mul_le_mul_left _ (by omega)
 omega
theorem double_step {la o : List Nat} {i c one x : Nat} (h : V o + c * 65536 ^ i = 2 * V (la.take i) + one) (ho : o.length = i) (hi : i < la.length) (hx : x = 2 * la[i] + c) :
  V (o ++ [(x % 65536)]) + x / 65536 * 65536 ^ (i + 1) = 2 * V (la.take (i + 1)) + one := by
 rw [jG0,ho,xE hi,Nat.pow_succ];generalize 65536 ^ i = B at *;have e : x = 65536 * (x / 65536) + x % 65536 := (Nat.div_add_mod x 65536).symm;have e2 : B * x = B * (65536 * (x / 65536)) + B * (x % 65536) := by rw [← Nat.mul_add,← e]
 have e3 : B * x = B * (2 * la[i]) + B * c := by rw [hx,Nat.mul_add]
 have e4 : x / 65536 * (B * 65536) = B * (65536 * (x / 65536)) := by rw [Nat.mul_comm,Nat.mul_assoc]
 have e5 : c * B = B * c := Nat.mul_comm _ _;have e6 : B * (2 * la[i]) = 2 * (B * la[i]) := by rw [Nat.mul_left_comm]
 omega
theorem halve_step {la out : List Nat} {i d rest y : Nat} (h : V (la.drop (i + 1)) = d * V (out.drop (i + 1)) + rest) (hi : i < la.length) (hl : out.length = la.length) (hy : y = rest * 65536 + la[i]) :
  V (la.drop i) = d * V ((out.set i (y / d)).drop i) + y % d := by
 rw [List.drop_eq_getElem_cons hi,xG,h,List.drop_eq_getElem_cons (l := out.set i _) (i := i) (by simp;omega),xG,List.getElem_set_self,List.drop_set_of_lt (by omega)];have e := Nat.div_add_mod y d;generalize V (out.drop (i + 1)) = Q;have e1 : d * (y / d + 65536 * Q) = d * (y / d) + 65536 * (d * Q) := by rw [Nat.mul_add,Nat.mul_left_comm]
 rw [e1];omega
theorem divide_end {x b Q R : Nat} (h : x = Q * b + R) (hR : R < b) : Q = x / b ∧ R = x % b := by
 subst h;constructor
 ·rw [Nat.mul_comm,Nat.mul_add_div (by omega),Nat.div_eq_of_lt hR];simp
 ·rw [Nat.mul_comm,Nat.mul_add_mod,Nat.mod_eq_of_lt hR]
theorem gcd_even2 {a b : Nat} (ha : a % 2 = 0) (hb : b % 2 = 0) : Nat.gcd a b = 2 * Nat.gcd (a / 2) (b / 2) := by
 rw [← Nat.gcd_mul_left,show 2 * (a / 2) = a by omega,show 2 * (b / 2) = b by omega]
theorem qJ0 {a b : Nat} (ha : a % 2 = 0) (hb : b % 2 = 1) : Nat.gcd a b = Nat.gcd (a / 2) b := by
 have h : Nat.Coprime 2 b := by
  have h1 : Nat.gcd 2 b ∣ 2 := Nat.gcd_dvd_left 2 b;have h2 := Nat.gcd_dvd_right 2 b;have h3 := Nat.le_of_dvd (by omega) h1;have h0 : Nat.gcd 2 b ≠ 0 := fun e => by rw [e] at h1;simp at h1
  rcases (show Nat.gcd 2 b = 1 ∨ Nat.gcd 2 b = 2 by omega) with h4 | h4
  ·exact h4
  ·rw [h4] at h2;omega
 have e : a = 2 * (a / 2) := by omega
 conv => lhs;rw [e]
 exact Nat.Coprime.gcd_mul_left_cancel _ h
theorem wF0 {a b : Nat} (h : b ≤ a) : Nat.gcd a b = Nat.gcd (a - b) b := by
 conv => lhs;rw [show a = (a - b) + b by omega]
 exact Nat.gcd_add_self_left ..
theorem plus_in {la lb o : List Nat} {k c : Nat} (ha : Dg la) (hb : Dg lb) (h : V o + c * 65536 ^ k = V (la.take k) + V (lb.take k)) (hc : 0 < c) : k ≤ la.length + lb.length := by
 rcases Nat.lt_or_ge (la.length + lb.length) k with h1 | h1
 ·rw [List.take_of_length_le (by omega),List.take_of_length_le (by omega)] at h;have h2 := V_lt ha;have h3 := V_lt hb;have h4 : 65536 ^ la.length ≤ 65536 ^ (la.length + lb.length) := Nat.pow_le_pow_right (by omega) (by omega);have h5 : 65536 ^ lb.length ≤ 65536 ^ (la.length + lb.length) := Nat.pow_le_pow_right (by omega) (by omega);have h6 : 65536 ^ (la.length + lb.length + 1) ≤ 65536 ^ k := Nat.pow_le_pow_right (by omega) (by omega);have h7 : 65536 ^ k ≤ c * 65536 ^ k := Nat.le_mul_of_pos_left _ hc;rw [Nat.pow_succ] at h6;omega
 ·exact h1
theorem plus_done {la lb o : List Nat} {k : Nat} (h : V o + 0 * 65536 ^ k = V (la.take k) + V (lb.take k)) (h1 : la.length ≤ k) (h2 : lb.length ≤ k) : V o = V la + V lb := by
 rw [List.take_of_length_le h1,List.take_of_length_le h2] at h;omega
theorem minus_done {la lb o : List Nat} {c : Nat} (ho : Dg o) (hl : o.length = la.length) (h : V o + V (lb.take la.length) = V (la.take la.length) + c * 65536 ^ la.length) (hle : V lb ≤ V la) (hbl : lb.length ≤ la.length) : V o = V la - V lb := by
 rw [List.take_of_length_le hbl,List.take_of_length_le (Nat.le_refl _)] at h;have h1 := V_lt ho;rw [hl] at h1;rcases Nat.eq_zero_or_pos c with rfl | hc
 ·omega
 ·have h7 : 65536 ^ la.length ≤ c * 65536 ^ la.length := Nat.le_mul_of_pos_left _ hc;omega
def VL : List Nat → Nat
 | [] => 0
 | d :: l => d + 4294967296 * VL l
def Lg (l : List Nat) : Prop := ∀ d ∈ l,d < 4294967296
theorem bS0 : VL [] = 0 := rfl
theorem xA0 (d : Nat) (l : List Nat) : VL (d :: l) = d + 4294967296 * VL l := rfl
theorem L_append (a b : List Nat) : VL (a ++ b) = VL a + 4294967296 ^ a.length * VL b := by
 induction a with
 | nil => simp [bS0]
 | cons d a ih => rw [List.cons_append,xA0,ih,xA0,List.length_cons,Nat.pow_succ,Nat.mul_add];rw [Nat.add_assoc];congr 2;rw [← Nat.mul_assoc];congr 1;exact Nat.mul_comm _ _
theorem L_snoc (a : List Nat) (d : Nat) : VL (a ++ [d]) = VL a + 4294967296 ^ a.length * d := by rw [L_append,xA0,bS0];simp
theorem L_lt {l : List Nat} (h : Lg l) : VL l < 4294967296 ^ l.length := by
 induction l with
 | nil => simp [bS0]
 | cons d l ih =>
  have h1 := h d (List.mem_cons_self ..);have h2 := ih (fun x hx => h x (List.mem_cons_of_mem _ hx));rw [xA0,List.length_cons,Nat.pow_succ];omega
theorem L_take_succ {l : List Nat} {m : Nat} (h : m < l.length) : VL (l.take (m + 1)) = VL (l.take m) + 4294967296 ^ m * l[m] := by
 rw [List.take_succ_eq_append_getElem h,L_snoc,List.length_take,Nat.min_eq_left (Nat.le_of_lt h)]
theorem of_step {l o : List Nat} {i : Nat} (h : V o = VL (l.take i)) (ho : o.length = 2 * i) (hi : i < l.length) : V (o ++ [l[i] % 65536,l[i] / 65536]) = VL (l.take (i + 1)) := by
 rw [yC0,h,ho,L_take_succ hi,xG,xG,xM0];have e : l[i] % 65536 + 65536 * (l[i] / 65536 + 65536 * 0) = l[i] := by omega
 rw [e,Nat.pow_mul]
theorem of_Dg {o : List Nat} (h : Dg o) {x : Nat} (hx : x < 4294967296) : Dg (o ++ [x % 65536,x / 65536]) := fun y hy => by
 rcases List.mem_append.1 hy with hy | hy
 ·exact h y hy
 ·simp only [List.mem_cons,List.not_mem_nil,or_false] at hy;rcases hy with rfl | rfl <;> omega
theorem qS : maxLen = 9223372036854775807 := by decide
theorem Row_of_own {w : World} {base : Nat} {e : TypeId} {v : Value} {cs : List Value} (h : w.ownsRow base e 1 v cs.length cs) : Row w v cs := by
 obtain ⟨_,h⟩ := h;rcases h with ⟨rfl,h0⟩ | ⟨g,cap,cur,rfl,hb,hg,hn,hm,hs,ht⟩
 ·exact ⟨none,0,by rw [h0],by omega,by omega,fun i hi => by omega⟩
 ·rw [qS] at hm;refine ⟨some ⟨g,0,none⟩,cap,rfl,hn,hm,fun i hi => ⟨g,0,rfl,?_⟩⟩;have : cur.toList.take cs.length = cs := by simpa using ht
  have h1 : cur[i]? = some cs[i] := by
   have h2 : (cur.toList.take cs.length)[i]? = cs[i]? := by rw [this]
   rw [List.getElem?_take,if_pos hi] at h2;simpa [hi] using h2
  simp [World.cell?,hg,h1]
theorem below_of_grown {w w1 : World} {row : Option Nat} {B : Nat} (h : w.grownBy w1 row) (hB : B ≤ w.heap.size) (hr : ∀ k,row = some k → B ≤ k) : Below B w w1 :=
 (Below.refl B w).grown h hB hr
theorem own_isSlice {w : World} {b : Nat} {e : TypeId} {z : Nat} {v : Value} {n : Nat} {xs : List Value} (h : w.ownsRow b e z v n xs) : ∃ a c,v = .slice a n c := by
 rcases h.2 with ⟨rfl,rfl⟩ | ⟨g,cap,cur,rfl,_⟩
 ·exact ⟨_,_,rfl⟩
 ·exact ⟨_,_,rfl⟩
theorem own_drew {w : World} {b : Nat} {e : TypeId} {z : Nat} {v : Value} {n : Nat} {xs : List Value} (h : w.ownsRow b e z v n xs) : w.drew.ownsRow b e z v n xs := h
theorem kR {w : World} {b : Nat} {e : TypeId} {z : Nat} {v : Value} {n n' : Nat} {xs xs' : List Value} (h : w.ownsRow b e z v n xs) (hn : n = n') (hx : xs = xs') : w.ownsRow b e z v n' xs' := by subst hn;subst hx;exact h
abbrev RowN (w : World) (v : Value) (l : List Nat) : Prop := RowOf (fun d : Nat => Value.int .i64 (d : Int)) w v l
def NatAt (w : World) (v : Value) (n : Nat) : Prop := RowN w v (dig n)
theorem NatAt.below {w w' : World} {v : Value} {n : Nat} (h : NatAt w v n) (hb : Below w.heap.size w w') : NatAt w' v n := by unfold NatAt at h ⊢;exact RowOf.below h hb
theorem qF0 : (Tryz.prog.info? 3).map (fun i => (i.zero,i.size,i.bytes)) = some (some (.int .i64 0),1,8) := by kernel_rfl
theorem uZ0 (x b : Nat) : Int.tmod (x : Int) (b : Int) = ((x % b : Nat) : Int) := (Int.ofNat_tmod x b).symm
theorem vD0 (x b : Nat) : Int.tdiv (x : Int) (b : Int) = ((x / b : Nat) : Int) := (Int.ofNat_tdiv x b).symm
theorem cut_end {t e : TypeId} (ht : Tryz.prog.underlying t = some (.slice e)) (hsz : ∀ W,(sizeOf e).run Tryz.prog W = .ok 1 W) (b off n m c : Nat) (h1 : m ≤ n) (h2 : n ≤ c) :
  ∀ W,(Instr.slice t (.slice (some ⟨b,off,none⟩) n c) none (some (.int .i64 m)) none).run Tryz.prog W = .ok (.slice (some ⟨b,off,none⟩) m c) W := by
 intro W;have he : Tryz.prog.elem t = e := by simp [Program.elem,ht]
 have ht' : Tryz.prog.underlying t = some (.slice (Tryz.prog.elem t)) := by rw [he];exact ht
 have hz : ∀ W,(sizeOf (Tryz.prog.elem t)).run Tryz.prog W = .ok 1 W := by intro W;rw [he];exact hsz W
 rw [run_slice_h W t _ n c ht' _ _ (by omega) (by omega),hz];simp only [Result.andThen,sliced];by_cases hc : c = 0
 ·simp [hc]
 ·simp [hc,Addr.add]
theorem gD (v : Value) (l : List Nat) (w : World) (hv : RowN w v l) (hd : Dg l) :
  Calls Tryz.prog 132 #[v] w fun e w' => ∃ v',e = .returned v' ∧ NatAt w v' (V l) ∧ w = w' := by
 obtain ⟨a,c,rfl,hl,hm,hc⟩ := hv;have HC := Lib.hid hc;have HD := Lib.hid hd;clear hc hd
 go_enter Tryz.func132,Tryz.ntmps132
 go_wp2
 go_loopg [0] l.length (fun q s0 wr => ∃ m : Nat,m ≤ l.length ∧ m ≤ q ∧ s0 = .slice a m c ∧ Hid (V (l.take m) = V l) ∧ wr = w)
 case atStart => exact ⟨l.length,Nat.le_refl _,Nat.le_refl _,rfl,by unfold Hid;rw [List.take_of_length_le (Nat.le_refl _)],rfl⟩
 case round =>
  obtain ⟨m,hml,hq,rfl,hV,rfl⟩ := hrel
  cases m with
  | zero =>
   go_wp2
   go_ret
   have h0 : V l = 0 := by rw [← hV.out];rfl
   refine ⟨_,rfl,?_,rfl⟩;unfold NatAt;rw [h0,vH];exact ⟨a,c,rfl,by simp,hm,fun i h => by simp at h⟩
  | succ m =>
   obtain ⟨b,off,rfl,hcell⟩ := HC.out m (by omega);have i1 : (((m + 1 : Nat) : Int)) > 0 := by omega
   have i2 : (((m + 1 : Nat) : Int)) - 1 = (m : Int) := by omega
   have HN := HC.out;by_cases h0 : l[m] = 0
   ·have HV2 := Lib.hid ((trim_step (by omega) h0).symm.trans hV.out);rw [h0] at hcell;have hsl := cut_end Tryz.underlying139 (by intro W;have := qF0;obtain ⟨i0,hi,-,hs,-⟩ := info_parts qF0;simp [sizeOf,typeInfo,hi,hs]) b off (m + 1) m c (by omega) (by omega);clear h0 HN
    go_wp2
    go_roundg m
    case measure => omega
    case rel => exact ⟨m,by omega,Nat.le_refl _,rfl,HV2,rfl⟩
   ·have hfin : NatAt wr (.slice (some ⟨b,off,none⟩) (m + 1) c) (V l) := by
     unfold NatAt;rw [← hV.out,trim_end HD.out hml (fun _ => h0)];refine ⟨some ⟨b,off,none⟩,c,by simp;omega,by simp;omega,hm,fun i hi => ?_⟩;obtain ⟨b',off',e,h1⟩ := HN i (by simp at hi;omega);exact ⟨b',off',e,by rw [h1,List.getElem_take]⟩
    have HF := Lib.hid hfin;have b0 : (((l[m] : Nat) : Int) == 0) = false := by simpa using h0
    clear h0 hfin HN;generalize l[m] = x at *
    go_wp2
    go_ret
    exact ⟨_,rfl,HF.out,rfl⟩
def wJ (d : Nat) : Value := .int .i64 (d : Int)
theorem wB {w : World} {base : Nat} {e : TypeId} {v : Value} {l : List Nat} (h : w.ownsRow base e 1 v l.length (l.map wJ)) : RowN w v l := by
 have h' : w.ownsRow base e 1 v (l.map wJ).length (l.map wJ) := by simpa using h
 obtain ⟨a,cap,rfl,hl,hm,hc⟩ := Row_of_own h';refine ⟨a,cap,by simp,by simpa using hl,hm,fun i hi => ?_⟩;obtain ⟨b,off,rfl,hcell⟩ := hc i (by simpa using hi);exact ⟨b,off,rfl,by simpa [wJ] using hcell⟩
theorem uU {w : World} {base : Nat} {e : TypeId} {v : Value} {o : List Nat} {x : Nat} {n : Nat} {y : Int} (h : w.ownsRow base e 1 v n (o.map wJ ++ [.int .i64 y])) (hn : n = o.length + 1) (hy : y = (x : Int)) : w.ownsRow base e 1 v (o ++ [x]).length ((o ++ [x]).map wJ) :=
 kR h (by simp [hn]) (by simp [wJ,hy])
set_option maxRecDepth 100000 in
set_option maxHeartbeats 1000000 in
theorem Small_any (n : Int) (w : World) (hn : n ≤ 9223372036854775807) :
  Calls Tryz.prog 118 #[.int .i64 n] w fun e w' => ∃ v',e = .returned v' ∧ NatAt w' v' n.toNat ∧ Below w.heap.size w w' := by
 have hN4 : (dig n.toNat).length ≤ 4 := xB (by omega);have HN4 := Lib.hid hN4;obtain ⟨i0,hii,hz0,hz1,hz2⟩ := info_parts qF0;clear hN4
 go_enter Tryz.func118,Tryz.ntmps118
 go_wp2
 go_loopg [0,3] n.toNat (fun q s0 s3 wr => ∃ (s : Int) (o : List Nat),s0 = .int .i64 s ∧ s ≤ n ∧ s.toNat ≤ q ∧ wr.ownsRow w.heap.size 3 1 s3 o.length (o.map wJ) ∧ Hid (dig n.toNat = o ++ dig s.toNat) ∧ Below w.heap.size w wr)
 case atStart => exact ⟨n,[],rfl,Int.le_refl _,Nat.le_refl _,World.ownsRow_nil _ _ _ _,rfl,Below.refl _ _⟩
 case round =>
   obtain ⟨s,o,rfl,hsn,hq,hown,hd,hb⟩ := hrel;by_cases hs : s ≤ 0
   ·have e0 : s.toNat = 0 := by omega
    have HF := Lib.hid (show NatAt wr u3 n.toNat by unfold NatAt;rw [hd.out,e0,vH,List.append_nil];exact wB hown);have i1 : ¬ (s > 0) := by omega
    clear e0 hs
    go_wp2
    go_ret
    exact ⟨_,rfl,HF.out,hb⟩
   ·obtain ⟨r,rfl⟩ : ∃ r : Nat,s = (r : Int) := ⟨s.toNat,by omega⟩;rw [Int.toNat_natCast] at hd hq;have hr : r ≠ 0 := by omega
    clear hs;have T1 := Lib.hid (uZ0 r 65536);have T2 := Lib.hid (vD0 r 65536);have hlen : o.length + 1 ≤ 4 := by
     have h1 := HN4.out;rw [hd.out,xU hr,List.length_append,List.length_cons] at h1;omega
    have HD2 := Lib.hid (show dig n.toNat = (o ++ [r % 65536]) ++ dig (r / 65536) by rw [hd.out,xU hr];simp);have i1 : ((r : Int) > 0) := by omega
    have hlt : r / 65536 < r := by omega
    clear hr hd
    go_wp2_with (at_builtin;refine wpList_append_own _ rfl _ _ 139 rfl w.heap.size 3 i0 (.int .i64 0) 1 8 Tryz.underlying139 hii hz0 hz1 hz2 rfl (by decide) _ _ _ rfl (hown.alloc _) ⟨wr.heap.size,0,none⟩ 1 1 [.int .i64 ((r : Int).tmod 65536)] rfl rfl ?c1a ?c2a ?c3a ?c4a ?c5a ?_)
    try (case c1a => exact cell_one_new _ _ _)
    try (case c2a => simp [Value.oneCell'])
    case c3a => rw [qS];omega
    case c4a => omega
    case c5a => have := hb.size;simp;omega
    intro v' w2 hown2 hgr2 _;have hb2 : Below w.heap.size w w2 := (hb.alloc hb.size _).grown hgr2 (by have := hb.size;simp;omega) (fun q hq => (hown.lt q hq).1);have hown3 := uU (x := r % 65536) hown2 rfl T1.out;clear hown hown2 hgr2
    go_wp2
    go_roundg (r / 65536)
    case measure => omega
    case rel => exact ⟨((r / 65536 : Nat) : Int),_,by rw [← T2.out];rfl,by omega,by rw [Int.toNat_natCast];exact Nat.le_refl _,hown3,by rw [Int.toNat_natCast];exact HD2,hb2⟩
set_option maxRecDepth 100000 in
set_option maxHeartbeats 2000000 in
theorem PlusL_any (av bv : Value) (la lb : List Nat) (w : World) (ha : RowN w av la) (hb : RowN w bv lb) (da : Dg la) (db : Dg lb) (na : la.length ≤ 1000000) (nb : lb.length ≤ 1000000) :
  Calls Tryz.prog 130 #[av,bv] w fun e w' => ∃ v',e = .returned v' ∧ NatAt w' v' (V la + V lb) ∧ Below w.heap.size w w' := by
 have HA := Lib.hid ha;have HB := Lib.hid hb;have DA := Lib.hid da;have DB := Lib.hid db;obtain ⟨aa,ac,rfl,-⟩ := ha;obtain ⟨ba,bc,rfl,-⟩ := hb;obtain ⟨i0,hii,hz0,hz1,hz2⟩ := info_parts qF0;clear da db
 go_enter Tryz.func130,Tryz.ntmps130
 go_wp2
 go_loopg [5,6,7] (2 * (la.length + lb.length + 1)) (fun q s5 s6 s7 wr => ∃ (k c : Nat) (o : List Nat),s7 = .int .i64 k ∧ s6 = .int .i64 c ∧ c ≤ 1 ∧ 2 * (la.length + lb.length + 1 - k) + c ≤ q ∧ wr.ownsRow w.heap.size 3 1 s5 o.length (o.map wJ) ∧ o.length = k ∧
  Hid (V o + c * 65536 ^ k = V (la.take k) + V (lb.take k)) ∧ Hid (Dg o) ∧ Below w.heap.size w wr)
 case atStart => exact ⟨0,0,[],rfl,rfl,by omega,by omega,World.ownsRow_nil _ _ _ _,rfl,rfl,Dg.nil,Below.refl _ _⟩
 case round =>
  obtain ⟨k,c,o,rfl,rfl,hc1,hq,hown,hol,hV,hD,hb⟩ := hrel;have HOL := Lib.hid hol;have hkin : 0 < c → k ≤ la.length + lb.length := plus_in DA.out DB.out hV.out;by_cases hA : k < la.length
  ·have i1 : ((k : Int) < (la.length : Int)) := by omega
   obtain ⟨a',c',he,_,_,hc⟩ := HA.out.below hb;simp only [Value.slice.injEq,true_and] at he;obtain ⟨rfl,rfl⟩ := he;obtain ⟨b1,o1,rfl,z1⟩ := hc k hA;have hp := DA.out.at hA;have HP := Lib.hid (pD hA);clear hc;generalize la[k] = p at *;by_cases hB : k < lb.length
   ·have i2 : ((k : Int) < (lb.length : Int)) := by omega
    obtain ⟨a',c',he,_,_,hc⟩ := HB.out.below hb;simp only [Value.slice.injEq,true_and] at he;obtain ⟨rfl,rfl⟩ := he;obtain ⟨b2,o2,rfl,z2⟩ := hc k hB;have hr := DB.out.at hB;have HR := Lib.hid (pD hB);clear hc;generalize lb[k] = r at *;have hx : (((c : Int) + (p : Int)) + (r : Int)) = ((c + p + r : Nat) : Int) := by omega
    have T1 := Lib.hid (show (((c : Int) + (p : Int)) + (r : Int)) % 65536 = (((c + p + r) % 65536 : Nat) : Int) by rw [hx];rfl);have T2 := Lib.hid (show (((c : Int) + (p : Int)) + (r : Int)) / 65536 = (((c + p + r) / 65536 : Nat) : Int) by rw [hx];rfl);have HS := Lib.hid (kO (la := la) (lb := lb) (o := o) (x := c + p + r) hV.out hol (by rw [HP.out,HR.out]));have HD2 := Lib.hid (hD.out.snoc (d := (c + p + r) % 65536) (Nat.mod_lt _ (by omega)));have hx2 : (c + p + r) / 65536 ≤ 1 := by omega
    have hkl : k ≤ la.length + lb.length := by omega
    have hol2 : o.length ≤ la.length + lb.length := by omega
    clear hx hkin hol
    go_wp2_with (at_builtin;refine wpList_append_own _ rfl _ _ 139 rfl w.heap.size 3 i0 (.int .i64 0) 1 8 Tryz.underlying139 hii hz0 hz1 hz2 rfl (by decide) _ _ _ rfl (hown.alloc _) ⟨wr.heap.size,0,none⟩ 1 1 [.int .i64 ((((c : Int) + (p : Int)) + (r : Int)) % 65536)] rfl rfl ?c1b11 ?c2b11 ?c3b11 ?c4b11 ?c5b11 ?_)
    try (case c1b11 => exact cell_one_new _ _ _)
    try (case c2b11 => simp [Value.oneCell'])
    case c3b11 => rw [qS];omega
    case c4b11 => omega
    case c5b11 => have := hb.size;simp;omega
    intro v' w2 hown2 hgr2 _;have hb2 : Below w.heap.size w w2 := (hb.alloc hb.size _).grown hgr2 (by have := hb.size;simp;omega) (fun q hq => (hown.lt q hq).1);have hown3 := uU (x := (c + p + r) % 65536) hown2 rfl T1.out;clear hown hown2 hgr2
    go_wp2
    go_roundg (2 * (la.length + lb.length + 1 - (k + 1)) + (c + p + r) / 65536)
    case measure => omega
    case rel => exact ⟨k + 1,(c + p + r) / 65536,_,by go_num,by rw [← T2.out],hx2,Nat.le_refl _,hown3,by simp [HOL.out],HS,HD2,hb2⟩
   ·have i2 : ¬ ((k : Int) < (lb.length : Int)) := by omega
    have HR := Lib.hid (bG (l := lb) (i := k) (by omega));have hx : ((c : Int) + (p : Int)) = ((c + p + 0 : Nat) : Int) := by omega
    have T1 := Lib.hid (show ((c : Int) + (p : Int)) % 65536 = (((c + p + 0) % 65536 : Nat) : Int) by rw [hx];rfl);have T2 := Lib.hid (show ((c : Int) + (p : Int)) / 65536 = (((c + p + 0) / 65536 : Nat) : Int) by rw [hx];rfl);have HS := Lib.hid (kO (la := la) (lb := lb) (o := o) (x := c + p + 0) hV.out hol (by rw [HP.out,HR.out]));have HD2 := Lib.hid (hD.out.snoc (d := (c + p + 0) % 65536) (Nat.mod_lt _ (by omega)));have hx2 : (c + p + 0) / 65536 ≤ 1 := by omega
    have hkl : k ≤ la.length + lb.length := by omega
    have hol2 : o.length ≤ la.length + lb.length := by omega
    clear hx hkin hol
    go_wp2_with (at_builtin;refine wpList_append_own _ rfl _ _ 139 rfl w.heap.size 3 i0 (.int .i64 0) 1 8 Tryz.underlying139 hii hz0 hz1 hz2 rfl (by decide) _ _ _ rfl (hown.alloc _) ⟨wr.heap.size,0,none⟩ 1 1 [.int .i64 (((c : Int) + (p : Int)) % 65536)] rfl rfl ?c1b10 ?c2b10 ?c3b10 ?c4b10 ?c5b10 ?_)
    try (case c1b10 => exact cell_one_new _ _ _)
    try (case c2b10 => simp [Value.oneCell'])
    case c3b10 => rw [qS];omega
    case c4b10 => omega
    case c5b10 => have := hb.size;simp;omega
    intro v' w2 hown2 hgr2 _;have hb2 : Below w.heap.size w w2 := (hb.alloc hb.size _).grown hgr2 (by have := hb.size;simp;omega) (fun q hq => (hown.lt q hq).1);have hown3 := uU (x := (c + p + 0) % 65536) hown2 rfl T1.out;clear hown hown2 hgr2
    go_wp2
    go_roundg (2 * (la.length + lb.length + 1 - (k + 1)) + (c + p + 0) / 65536)
    case measure => omega
    case rel => exact ⟨k + 1,(c + p + 0) / 65536,_,by go_num,by rw [← T2.out],hx2,Nat.le_refl _,hown3,by simp [HOL.out],HS,HD2,hb2⟩
  ·have i1 : ¬ ((k : Int) < (la.length : Int)) := by omega
   have HP := Lib.hid (bG (l := la) (i := k) (by omega));by_cases hB : k < lb.length
   ·have i2 : ((k : Int) < (lb.length : Int)) := by omega
    obtain ⟨a',c',he,_,_,hc⟩ := HB.out.below hb;simp only [Value.slice.injEq,true_and] at he;obtain ⟨rfl,rfl⟩ := he;obtain ⟨b2,o2,rfl,z2⟩ := hc k hB;have hr := DB.out.at hB;have HR := Lib.hid (pD hB);clear hc;generalize lb[k] = r at *;have hx : ((c : Int) + (r : Int)) = ((c + 0 + r : Nat) : Int) := by omega
    have T1 := Lib.hid (show ((c : Int) + (r : Int)) % 65536 = (((c + 0 + r) % 65536 : Nat) : Int) by rw [hx];rfl);have T2 := Lib.hid (show ((c : Int) + (r : Int)) / 65536 = (((c + 0 + r) / 65536 : Nat) : Int) by rw [hx];rfl);have HS := Lib.hid (kO (la := la) (lb := lb) (o := o) (x := c + 0 + r) hV.out hol (by rw [HP.out,HR.out]));have HD2 := Lib.hid (hD.out.snoc (d := (c + 0 + r) % 65536) (Nat.mod_lt _ (by omega)));have hx2 : (c + 0 + r) / 65536 ≤ 1 := by omega
    have hkl : k ≤ la.length + lb.length := by omega
    have hol2 : o.length ≤ la.length + lb.length := by omega
    clear hx hkin hol
    go_wp2_with (at_builtin;refine wpList_append_own _ rfl _ _ 139 rfl w.heap.size 3 i0 (.int .i64 0) 1 8 Tryz.underlying139 hii hz0 hz1 hz2 rfl (by decide) _ _ _ rfl (hown.alloc _) ⟨wr.heap.size,0,none⟩ 1 1 [.int .i64 (((c : Int) + (r : Int)) % 65536)] rfl rfl ?c1b01 ?c2b01 ?c3b01 ?c4b01 ?c5b01 ?_)
    try (case c1b01 => exact cell_one_new _ _ _)
    try (case c2b01 => simp [Value.oneCell'])
    case c3b01 => rw [qS];omega
    case c4b01 => omega
    case c5b01 => have := hb.size;simp;omega
    intro v' w2 hown2 hgr2 _;have hb2 : Below w.heap.size w w2 := (hb.alloc hb.size _).grown hgr2 (by have := hb.size;simp;omega) (fun q hq => (hown.lt q hq).1);have hown3 := uU (x := (c + 0 + r) % 65536) hown2 rfl T1.out;clear hown hown2 hgr2
    go_wp2
    go_roundg (2 * (la.length + lb.length + 1 - (k + 1)) + (c + 0 + r) / 65536)
    case measure => omega
    case rel => exact ⟨k + 1,(c + 0 + r) / 65536,_,by go_num,by rw [← T2.out],hx2,Nat.le_refl _,hown3,by simp [HOL.out],HS,HD2,hb2⟩
   ·have i2 : ¬ ((k : Int) < (lb.length : Int)) := by omega
    have HR := Lib.hid (bG (l := lb) (i := k) (by omega));by_cases hc0 : c = 0
    ·subst hc0;have hdone := plus_done hV.out (by omega) (by omega);have hT := gD u5 o wr (wB hown) hD.out;rw [hdone] at hT;have HT := Lib.hid hT;clear hT hdone hV hkin
     go_wp2_with (go_at_call 132;refine HT.out.mono ?_;rintro e w3 ⟨v',rfl,hN,rfl⟩)
     go_ret
     exact ⟨_,rfl,hN,hb⟩
    ·have i3 : ((c : Int) > 0) := by omega
     have hkk := hkin (by omega);clear hc0;have hx : (c : Int) = ((c + 0 + 0 : Nat) : Int) := by omega
     have T1 := Lib.hid (show (c : Int) % 65536 = (((c + 0 + 0) % 65536 : Nat) : Int) by rw [hx];rfl);have T2 := Lib.hid (show (c : Int) / 65536 = (((c + 0 + 0) / 65536 : Nat) : Int) by rw [hx];rfl);have HS := Lib.hid (kO (la := la) (lb := lb) (o := o) (x := c + 0 + 0) hV.out hol (by rw [HP.out,HR.out]));have HD2 := Lib.hid (hD.out.snoc (d := (c + 0 + 0) % 65536) (Nat.mod_lt _ (by omega)));have hx2 : (c + 0 + 0) / 65536 ≤ 1 := by omega
     have hkl : k ≤ la.length + lb.length := by omega
     have hol2 : o.length ≤ la.length + lb.length := by omega
     clear hx hkin hol
     go_wp2_with (at_builtin;refine wpList_append_own _ rfl _ _ 139 rfl w.heap.size 3 i0 (.int .i64 0) 1 8 Tryz.underlying139 hii hz0 hz1 hz2 rfl (by decide) _ _ _ rfl (hown.alloc _) ⟨wr.heap.size,0,none⟩ 1 1 [.int .i64 ((c : Int) % 65536)] rfl rfl ?c1b00 ?c2b00 ?c3b00 ?c4b00 ?c5b00 ?_)
     try (case c1b00 => exact cell_one_new _ _ _)
     try (case c2b00 => simp [Value.oneCell'])
     case c3b00 => rw [qS];omega
     case c4b00 => omega
     case c5b00 => have := hb.size;simp;omega
     intro v' w2 hown2 hgr2 _;have hb2 : Below w.heap.size w w2 := (hb.alloc hb.size _).grown hgr2 (by have := hb.size;simp;omega) (fun q hq => (hown.lt q hq).1);have hown3 := uU (x := (c + 0 + 0) % 65536) hown2 rfl T1.out;clear hown hown2 hgr2
     go_wp2
     go_roundg (2 * (la.length + lb.length + 1 - (k + 1)) + (c + 0 + 0) / 65536)
     case measure => omega
     case rel => exact ⟨k + 1,(c + 0 + 0) / 65536,_,by go_num,by rw [← T2.out],hx2,Nat.le_refl _,hown3,by simp [HOL.out],HS,HD2,hb2⟩
theorem Plus_any (av bv : Value) (x y : Nat) (w : World) (ha : NatAt w av x) (hb : NatAt w bv y) (na : (dig x).length ≤ 1000000) (nb : (dig y).length ≤ 1000000) :
  Calls Tryz.prog 130 #[av,bv] w fun e w' => ∃ v',e = .returned v' ∧ NatAt w' v' (x + y) ∧ Below w.heap.size w w' := by
 have h := PlusL_any av bv (dig x) (dig y) w ha hb (mC x) (mC y) na nb;rw [yB0,yB0] at h;exact h
set_option maxRecDepth 100000 in
set_option maxHeartbeats 2000000 in
theorem jI0 (av bv : Value) (x y : Nat) (w : World) (ha : NatAt w av x) (hb : NatAt w bv y) (hle : y ≤ x) (na : (dig x).length ≤ 1000000) :
  Calls Tryz.prog 129 #[av,bv] w fun e w' => ∃ v',e = .returned v' ∧ NatAt w' v' (x - y) ∧ Below w.heap.size w w' := by
 have hlen := pR hle;have DA := Lib.hid (mC x);have DB := Lib.hid (mC y);have HX := Lib.hid (yB0 x);have HY := Lib.hid (yB0 y);unfold NatAt at ha hb;generalize dig x = la at *;generalize dig y = lb at *;have HA := Lib.hid ha;have HB := Lib.hid hb;obtain ⟨aa,ac,rfl,-⟩ := ha;obtain ⟨ba,bc,rfl,-⟩ := hb;obtain ⟨i0,hii,hz0,hz1,hz2⟩ := info_parts qF0
 go_enter Tryz.func129,Tryz.ntmps129
 go_wp2
 go_loopg [5,6,7] la.length (fun q s5 s6 s7 wr => ∃ (k c : Nat) (o : List Nat),s7 = .int .i64 k ∧ s6 = .int .i64 c ∧ c ≤ 1 ∧ k ≤ la.length ∧ la.length - k ≤ q ∧ wr.ownsRow w.heap.size 3 1 s5 o.length (o.map wJ) ∧ o.length = k ∧
  Hid (V o + V (lb.take k) = V (la.take k) + c * 65536 ^ k) ∧ Hid (Dg o) ∧ Below w.heap.size w wr)
 case atStart => exact ⟨0,0,[],rfl,rfl,by omega,by omega,by omega,World.ownsRow_nil _ _ _ _,rfl,rfl,Dg.nil,Below.refl _ _⟩
 case round =>
  obtain ⟨k,c,o,rfl,rfl,hc1,hkl,hq,hown,hol,hV,hD,hb⟩ := hrel;have HOL := Lib.hid hol;by_cases hA : k < la.length
  ·have i1 : ((k : Int) < (la.length : Int)) := by omega
   obtain ⟨a',c',he,_,_,hc⟩ := HA.out.below hb;simp only [Value.slice.injEq,true_and] at he;obtain ⟨rfl,rfl⟩ := he;obtain ⟨b1,o1,rfl,z1⟩ := hc k hA;have hp := DA.out.at hA;have HMS := Lib.hid (fun (x c' : Nat) (hx : x + lb.getD k 0 + c = la[k] + 65536 * c') => minus_step (x := x) (c' := c') hV.out hol hA hx);clear hc hV;generalize la[k] = p at *;by_cases hB : k < lb.length
   ·have i2 : ((k : Int) < (lb.length : Int)) := by omega
    obtain ⟨a',c',he,_,_,hc⟩ := HB.out.below hb;simp only [Value.slice.injEq,true_and] at he;obtain ⟨rfl,rfl⟩ := he;obtain ⟨b2,o2,rfl,z2⟩ := hc k hB;have hr := DB.out.at hB;have HR := Lib.hid (pD hB);clear hc;generalize lb[k] = r at *;by_cases hs : (p : Int) - (c : Int) - (r : Int) < 0
    ·have i3 := hs;have T1 := Lib.hid (show ((((p : Int) - (c : Int)) - (r : Int)) + 65536) = ((p + 65536 - c - r : Nat) : Int) by omega);have HS := Lib.hid (HMS.out (p + 65536 - c - r) 1 (by rw [HR.out];omega));have HD2 := Lib.hid (hD.out.snoc (d := p + 65536 - c - r) (by omega));have hol2 : o.length ≤ la.length := by omega
     clear hs hol HMS
     go_wp2_with (at_builtin;refine wpList_append_own _ rfl _ _ 139 rfl w.heap.size 3 i0 (.int .i64 0) 1 8 Tryz.underlying139 hii hz0 hz1 hz2 rfl (by decide) _ _ _ rfl (hown.alloc _) ⟨wr.heap.size,0,none⟩ 1 1 [.int .i64 ((((p : Int) - (c : Int)) - (r : Int)) + 65536)] rfl rfl ?c1m11 ?c2m11 ?c3m11 ?c4m11 ?c5m11 ?_)
     try (case c1m11 => exact cell_one_new _ _ _)
     try (case c2m11 => simp [Value.oneCell'])
     case c3m11 => rw [qS];omega
     case c4m11 => omega
     case c5m11 => have := hb.size;simp;omega
     intro v' w2 hown2 hgr2 _;have hb2 : Below w.heap.size w w2 := (hb.alloc hb.size _).grown hgr2 (by have := hb.size;simp;omega) (fun q hq => (hown.lt q hq).1);have hown3 := uU (x := p + 65536 - c - r) hown2 rfl T1.out;clear hown hown2 hgr2
     go_wp2
     go_roundg (la.length - (k + 1))
     case measure => omega
     case rel => exact ⟨k + 1,1,_,by go_num,rfl,by omega,by omega,Nat.le_refl _,hown3,by simp [HOL.out],HS,HD2,hb2⟩
    ·have i3 : ¬ ((((p : Int) - (c : Int)) - (r : Int)) < 0) := hs;have T1 := Lib.hid (show (((p : Int) - (c : Int)) - (r : Int)) = ((p - c - r : Nat) : Int) by omega);have HS := Lib.hid (HMS.out (p - c - r) 0 (by rw [HR.out];omega));have HD2 := Lib.hid (hD.out.snoc (d := p - c - r) (by omega));have hol2 : o.length ≤ la.length := by omega
     clear hs hol HMS
     go_wp2_with (at_builtin;refine wpList_append_own _ rfl _ _ 139 rfl w.heap.size 3 i0 (.int .i64 0) 1 8 Tryz.underlying139 hii hz0 hz1 hz2 rfl (by decide) _ _ _ rfl (hown.alloc _) ⟨wr.heap.size,0,none⟩ 1 1 [.int .i64 (((p : Int) - (c : Int)) - (r : Int))] rfl rfl ?c1m10 ?c2m10 ?c3m10 ?c4m10 ?c5m10 ?_)
     try (case c1m10 => exact cell_one_new _ _ _)
     try (case c2m10 => simp [Value.oneCell'])
     case c3m10 => rw [qS];omega
     case c4m10 => omega
     case c5m10 => have := hb.size;simp;omega
     intro v' w2 hown2 hgr2 _;have hb2 : Below w.heap.size w w2 := (hb.alloc hb.size _).grown hgr2 (by have := hb.size;simp;omega) (fun q hq => (hown.lt q hq).1);have hown3 := uU (x := p - c - r) hown2 rfl T1.out;clear hown hown2 hgr2
     go_wp2
     go_roundg (la.length - (k + 1))
     case measure => omega
     case rel => exact ⟨k + 1,0,_,by go_num,rfl,by omega,by omega,Nat.le_refl _,hown3,by simp [HOL.out],HS,HD2,hb2⟩
   ·have i2 : ¬ ((k : Int) < (lb.length : Int)) := by omega
    have HR := Lib.hid (bG (l := lb) (i := k) (by omega));by_cases hs : (p : Int) - (c : Int) < 0
    ·have i3 := hs;have T1 := Lib.hid (show (((p : Int) - (c : Int)) + 65536) = ((p + 65536 - c : Nat) : Int) by omega);have HS := Lib.hid (HMS.out (p + 65536 - c) 1 (by rw [HR.out];omega));have HD2 := Lib.hid (hD.out.snoc (d := p + 65536 - c) (by omega));have hol2 : o.length ≤ la.length := by omega
     clear hs hol HMS
     go_wp2_with (at_builtin;refine wpList_append_own _ rfl _ _ 139 rfl w.heap.size 3 i0 (.int .i64 0) 1 8 Tryz.underlying139 hii hz0 hz1 hz2 rfl (by decide) _ _ _ rfl (hown.alloc _) ⟨wr.heap.size,0,none⟩ 1 1 [.int .i64 (((p : Int) - (c : Int)) + 65536)] rfl rfl ?c1m01 ?c2m01 ?c3m01 ?c4m01 ?c5m01 ?_)
     try (case c1m01 => exact cell_one_new _ _ _)
     try (case c2m01 => simp [Value.oneCell'])
     case c3m01 => rw [qS];omega
     case c4m01 => omega
     case c5m01 => have := hb.size;simp;omega
     intro v' w2 hown2 hgr2 _;have hb2 : Below w.heap.size w w2 := (hb.alloc hb.size _).grown hgr2 (by have := hb.size;simp;omega) (fun q hq => (hown.lt q hq).1);have hown3 := uU (x := p + 65536 - c) hown2 rfl T1.out;clear hown hown2 hgr2
     go_wp2
     go_roundg (la.length - (k + 1))
     case measure => omega
     case rel => exact ⟨k + 1,1,_,by go_num,rfl,by omega,by omega,Nat.le_refl _,hown3,by simp [HOL.out],HS,HD2,hb2⟩
    ·have i3 : ¬ (((p : Int) - (c : Int)) < 0) := hs;have T1 := Lib.hid (show ((p : Int) - (c : Int)) = ((p - c : Nat) : Int) by omega);have HS := Lib.hid (HMS.out (p - c) 0 (by rw [HR.out];omega));have HD2 := Lib.hid (hD.out.snoc (d := p - c) (by omega));have hol2 : o.length ≤ la.length := by omega
     clear hs hol HMS
     go_wp2_with (at_builtin;refine wpList_append_own _ rfl _ _ 139 rfl w.heap.size 3 i0 (.int .i64 0) 1 8 Tryz.underlying139 hii hz0 hz1 hz2 rfl (by decide) _ _ _ rfl (hown.alloc _) ⟨wr.heap.size,0,none⟩ 1 1 [.int .i64 ((p : Int) - (c : Int))] rfl rfl ?c1m00 ?c2m00 ?c3m00 ?c4m00 ?c5m00 ?_)
     try (case c1m00 => exact cell_one_new _ _ _)
     try (case c2m00 => simp [Value.oneCell'])
     case c3m00 => rw [qS];omega
     case c4m00 => omega
     case c5m00 => have := hb.size;simp;omega
     intro v' w2 hown2 hgr2 _;have hb2 : Below w.heap.size w w2 := (hb.alloc hb.size _).grown hgr2 (by have := hb.size;simp;omega) (fun q hq => (hown.lt q hq).1);have hown3 := uU (x := p - c) hown2 rfl T1.out;clear hown hown2 hgr2
     go_wp2
     go_roundg (la.length - (k + 1))
     case measure => omega
     case rel => exact ⟨k + 1,0,_,by go_num,rfl,by omega,by omega,Nat.le_refl _,hown3,by simp [HOL.out],HS,HD2,hb2⟩
  ·have hk' : k = la.length := by omega
   have hV2 := hV.out;rw [hk'] at hV2;have hdone := minus_done hD.out (hol.trans hk') hV2 (by rw [HX.out,HY.out];exact hle) hlen;rw [HX.out,HY.out] at hdone;have hT := gD u5 o wr (wB hown) hD.out;rw [hdone] at hT;have HT := Lib.hid hT;have i1 : ¬ ((k : Int) < (la.length : Int)) := by omega
   clear hT hdone hV hV2 hk'
   go_wp2_with (go_at_call 132;refine HT.out.mono ?_;rintro e w3 ⟨v',rfl,hN,rfl⟩)
   go_ret
   exact ⟨_,rfl,hN,hb⟩
set_option maxRecDepth 100000 in
set_option maxHeartbeats 1000000 in
theorem tC (av bv : Value) (x y : Nat) (w : World) (ha : NatAt w av x) (hb : NatAt w bv y) :
  Calls Tryz.prog 115 #[av,bv] w fun e w' => e = .returned (.int .i64 (cmpN x y)) ∧ Below w.heap.size w w' := by
 have DA := Lib.hid (mC x);have DB := Lib.hid (mC y);have HX := Lib.hid (yB0 x);have HY := Lib.hid (yB0 y);have HL1 := Lib.hid (pG (x := x) (y := y));have HL2 := Lib.hid (pG (x := y) (y := x));unfold NatAt at ha hb;generalize dig x = la at *;generalize dig y = lb at *;have HA := Lib.hid ha;have HB := Lib.hid hb;obtain ⟨aa,ac,rfl,hal,ham,-⟩ := ha;obtain ⟨ba,bc,rfl,-⟩ := hb;by_cases hlt : la.length < lb.length
 ·have HR := Lib.hid (show cmpN x y = -1 by unfold cmpN;rw [if_pos (HL1.out hlt)]);have i0 : (((la.length : Nat) : Int) != ((lb.length : Nat) : Int)) = true := by simp;omega
  have i1 : ((la.length : Int) < (lb.length : Int)) := by omega
  go_enter Tryz.func115,Tryz.ntmps115
  go_wp2
  go_ret
  exact ⟨dO HR.out.symm,Below.refl _ _⟩
 by_cases hgt : lb.length < la.length
 ·have HR := Lib.hid (show cmpN x y = 1 by unfold cmpN;have := HL2.out hgt;rw [if_neg (by omega),if_pos this]);have i0 : (((la.length : Nat) : Int) != ((lb.length : Nat) : Int)) = true := by simp;omega
  have i1 : ¬ ((la.length : Int) < (lb.length : Int)) := by omega
  go_enter Tryz.func115,Tryz.ntmps115
  go_wp2
  go_ret
  exact ⟨dO HR.out.symm,Below.refl _ _⟩
 have hle : la.length ≤ lb.length := by omega
 have hle2 : lb.length ≤ la.length := by omega
 have HLE := Lib.hid (show la.length = lb.length by omega);have i0 : (((la.length : Nat) : Int) != ((lb.length : Nat) : Int)) = false := by rw [HLE.out];simp
 clear hlt hgt
 go_enter Tryz.func115,Tryz.ntmps115
 go_wp2
 go_loopg [5] la.length (fun q s5 wr => ∃ (z : Int) (k : Nat),s5 = .int .i64 z ∧ z + 1 = (k : Int) ∧ k ≤ la.length ∧ k ≤ q ∧ Hid (la.drop k = lb.drop k) ∧ Below w.heap.size w wr)
 case atStart => exact ⟨_,la.length,rfl,by omega,Nat.le_refl _,Nat.le_refl _,by unfold Hid;rw [List.drop_of_length_le (Nat.le_refl _),List.drop_of_length_le hle2],Below.refl _ _⟩
 case round =>
  obtain ⟨z,k,rfl,hz,hk,hq,hD,hb⟩ := hrel
  cases k with
  | zero =>
   obtain rfl : z = -1 := by omega
   have HR := Lib.hid (show cmpN x y = 0 by
    have e : la = lb := hD.out;have : x = y := by rw [← HX.out,← HY.out,e]
    unfold cmpN;rw [if_neg (by omega),if_neg (by omega)])
   go_wp2
   go_ret
   exact ⟨dO HR.out.symm,hb⟩
  | succ j =>
   obtain rfl : z = (j : Int) := by omega
   have hA : j < la.length := by omega
   have hB : j < lb.length := by omega
   obtain ⟨a',c',he,_,_,hc⟩ := HA.out.below hb;simp only [Value.slice.injEq,true_and] at he;obtain ⟨rfl,rfl⟩ := he;obtain ⟨b1,o1,rfl,z1⟩ := hc j hA;clear hc;obtain ⟨a',c',he,_,_,hc⟩ := HB.out.below hb;simp only [Value.slice.injEq,true_and] at he;obtain ⟨rfl,rfl⟩ := he;obtain ⟨b2,o2,rfl,z2⟩ := hc j hB;clear hc;have HLT := Lib.hid (fun h : la[j] < lb[j] => tI0 DA.out HLE.out hA hD.out h);have HGT := Lib.hid (fun h : lb[j] < la[j] => tI0 DB.out HLE.out.symm hB hD.out.symm h);have HEQ := Lib.hid (fun h : la[j] = lb[j] => show la.drop j = lb.drop j by rw [List.drop_eq_getElem_cons hA,List.drop_eq_getElem_cons hB,h,hD.out]);clear hz;generalize la[j] = p at *;generalize lb[j] = r at *;by_cases h1 : p < r
   ·have HR := Lib.hid (show cmpN x y = -1 by
     have := HLT.out h1;rw [HX.out,HY.out] at this;unfold cmpN;rw [if_pos this])
    have i1 : ((p : Int) < (r : Int)) := by omega
    clear h1
    go_wp2
    go_region
    go_wp2
    go_ret
    exact ⟨dO HR.out.symm,hb.drew⟩
   ·have i1 : ¬ ((p : Int) < (r : Int)) := by omega
    by_cases h2 : r < p
    ·have HR := Lib.hid (show cmpN x y = 1 by
      have := HGT.out h2;rw [HX.out,HY.out] at this;unfold cmpN;rw [if_neg (by omega),if_pos this])
     have i2 : ((p : Int) > (r : Int)) := by omega
     clear h1 h2
     go_wp2
     go_region
     go_wp2
     go_region
     go_wp2
     go_ret
     exact ⟨dO HR.out.symm,hb.drew.drew⟩
    ·have HE := Lib.hid (HEQ.out (by omega));have i2 : ¬ ((p : Int) > (r : Int)) := by omega
     clear h1 h2
     go_wp2
     go_region
     go_wp2
     go_region
     go_wp2
     go_roundg j
     case measure => omega
     case rel => exact ⟨_,j,rfl,by omega,by omega,Nat.le_refl _,HE,hb.drew.drew⟩
theorem own_cellN {W : World} {base g c n : Nat} {e : TypeId} {l : List Nat} (h : W.ownsRow base e 1 (.slice (some ⟨g,0,none⟩) n c) n (l.map wJ)) (hl : l.length = n) {j : Nat} (hj : j < l.length) : W.cell? ⟨g,j,none⟩ = some (.int .i64 ((l[j] : Nat) : Int)) := by
 subst hl;obtain ⟨a,cap,he,_,_,hc⟩ := wB h;simp only [Value.slice.injEq,true_and] at he;obtain ⟨rfl,rfl⟩ := he;obtain ⟨b,off,e,h1⟩ := hc j hj;simp only [Option.some.injEq,Addr.mk.injEq,and_true] at e;obtain ⟨rfl,rfl⟩ := e;simpa using h1
set_option maxRecDepth 100000 in
set_option maxHeartbeats 2000000 in
theorem Double_any (av : Value) (x : Nat) (one : Bool) (w : World) (ha : NatAt w av x) (na : (dig x).length ≤ 1000000) :
  Calls Tryz.prog 131 #[av,.bool one] w fun e w' => ∃ v',e = .returned v' ∧ NatAt w' v' (2 * x + one.toNat) ∧ Below w.heap.size w w' := by
 have DA := Lib.hid (mC x);have HX := Lib.hid (yB0 x);unfold NatAt at ha;generalize dig x = la at *;have HA := Lib.hid ha;obtain ⟨aa,ac,rfl,hal,ham,-⟩ := ha;obtain ⟨i0,hii,hz0,hz1,hz2⟩ := info_parts qF0
 go_enter Tryz.func131,Tryz.ntmps131
 go_upto_if 9 with fail
 go_cut [5] (fun s5 wx => s5 = .int .i64 (one.toNat : Nat) ∧ w = wx)
 case first =>
  cases one with
  | true =>
   go_wp2
   go_meet
   exact ⟨rfl,rfl⟩
  | false =>
   go_wp2
   go_meet
   exact ⟨rfl,rfl⟩
 case rest =>
 obtain ⟨rfl,rfl⟩ := hcut;have hone : one.toNat ≤ 1 := by cases one <;> simp
 generalize hon : one.toNat = on at *;have HON := Lib.hid hon;clear hon
 go_wp2
 go_loopg [5,6,7] la.length (fun q s5 s6 s7 wr => ∃ (k c : Nat) (o : List Nat),s7 = .int .i64 k ∧ s5 = .int .i64 c ∧ c ≤ 1 ∧ k ≤ la.length ∧ la.length - k ≤ q ∧ wr.ownsRow w.heap.size 3 1 s6 o.length (o.map wJ) ∧ o.length = k ∧
  Hid (V o + c * 65536 ^ k = 2 * V (la.take k) + on) ∧ Hid (Dg o) ∧ Below w.heap.size w wr)
 case atStart => exact ⟨0,on,[],rfl,rfl,hone,by omega,by omega,World.ownsRow_nil _ _ _ _,rfl,by unfold Hid;simp [xM0],Dg.nil,Below.refl _ _⟩
 case round =>
  obtain ⟨k,c,o,rfl,rfl,hc1,hkl,hq,hown,hol,hV,hD,hb⟩ := hrel;have HOL := Lib.hid hol;by_cases hA : k < la.length
  ·have i1 : ((k : Int) < (la.length : Int)) := by omega
   obtain ⟨a',c',he,_,_,hc⟩ := HA.out.below hb;simp only [Value.slice.injEq,true_and] at he;obtain ⟨rfl,rfl⟩ := he;obtain ⟨b1,o1,rfl,z1⟩ := hc k hA;have hp := DA.out.at hA;have HS := Lib.hid (double_step hV.out hol hA rfl);clear hc hV;generalize la[k] = p at *;have hx : 2 * (p : Int) + (c : Int) = ((2 * p + c : Nat) : Int) := by omega
   have T1 := Lib.hid (show (2 * (p : Int) + (c : Int)) % 65536 = (((2 * p + c) % 65536 : Nat) : Int) by rw [hx];rfl);have T2 := Lib.hid (show (2 * (p : Int) + (c : Int)) / 65536 = (((2 * p + c) / 65536 : Nat) : Int) by rw [hx];rfl);have HD2 := Lib.hid (hD.out.snoc (d := (2 * p + c) % 65536) (Nat.mod_lt _ (by omega)));have hx2 : (2 * p + c) / 65536 ≤ 1 := by omega
   have hol2 : o.length ≤ la.length := by omega
   clear hx hol
   go_wp2_with (at_builtin;refine wpList_append_own _ rfl _ _ 139 rfl w.heap.size 3 i0 (.int .i64 0) 1 8 Tryz.underlying139 hii hz0 hz1 hz2 rfl (by decide) _ _ _ rfl (hown.alloc _) ⟨wr.heap.size,0,none⟩ 1 1 [.int .i64 ((2 * (p : Int) + (c : Int)) % 65536)] rfl rfl ?c1d1 ?c2d1 ?c3d1 ?c4d1 ?c5d1 ?_)
   try (case c1d1 => exact cell_one_new _ _ _)
   try (case c2d1 => simp [Value.oneCell'])
   case c3d1 => rw [qS];omega
   case c4d1 => omega
   case c5d1 => have := hb.size;simp;omega
   intro v' w2 hown2 hgr2 _;have hb2 : Below w.heap.size w w2 := (hb.alloc hb.size _).grown hgr2 (by have := hb.size;simp;omega) (fun q hq => (hown.lt q hq).1);have hown3 := uU (x := (2 * p + c) % 65536) hown2 rfl T1.out;clear hown hown2 hgr2
   go_wp2
   go_roundg (la.length - (k + 1))
   case measure => omega
   case rel => exact ⟨k + 1,(2 * p + c) / 65536,_,by go_num,by rw [← T2.out],hx2,by omega,Nat.le_refl _,hown3,by simp [HOL.out],HS,HD2,hb2⟩
  ·have hk' : k = la.length := by omega
   have hV2 := hV.out;rw [hk',List.take_of_length_le (Nat.le_refl _),HX.out] at hV2;have i1 : ¬ ((k : Int) < (la.length : Int)) := by omega
   by_cases hc0 : c = 0
   ·subst hc0;have hT := gD u6 o wr (wB hown) hD.out;rw [show V o = 2 * x + on by omega] at hT;have HT := Lib.hid hT;clear hT hV hV2 hk' hol
    go_wp2_with (go_at_call 132;refine HT.out.mono ?_;rintro e w3 ⟨v',rfl,hN,rfl⟩)
    go_ret
    exact ⟨_,rfl,by rw [HON.out];exact hN,hb⟩
   ·have i2 : ((c : Int) > 0) := by omega
    have HV3 := Lib.hid (show V (o ++ [c]) = 2 * x + on by rw [jG0,hol,hk',Nat.mul_comm];exact hV2);have HD3 := Lib.hid (hD.out.snoc (d := c) (by omega));have hol2 : o.length ≤ la.length := by omega
    clear hV hV2 hk' hol hc0
    go_wp2_with (at_builtin;refine wpList_append_own _ rfl _ _ 139 rfl w.heap.size 3 i0 (.int .i64 0) 1 8 Tryz.underlying139 hii hz0 hz1 hz2 rfl (by decide) _ _ _ rfl (hown.alloc _) ⟨wr.heap.size,0,none⟩ 1 1 [.int .i64 (c : Int)] rfl rfl ?c1d2 ?c2d2 ?c3d2 ?c4d2 ?c5d2 ?_)
    try (case c1d2 => exact cell_one_new _ _ _)
    try (case c2d2 => simp [Value.oneCell'])
    case c3d2 => rw [qS];omega
    case c4d2 => omega
    case c5d2 => have := hb.size;simp;omega
    intro v' w2 hown2 hgr2 _;have hb2 : Below w.heap.size w w2 := (hb.alloc hb.size _).grown hgr2 (by have := hb.size;simp;omega) (fun q hq => (hown.lt q hq).1);have hown3 := uU (x := c) hown2 rfl rfl;have hT := gD v' (o ++ [c]) w2 (wB hown3) HD3.out;rw [HV3.out] at hT;have HT := Lib.hid hT;clear hown hown2 hgr2 hT
    go_wp2_with (go_at_call 132;refine HT.out.mono ?_;rintro e w3 ⟨v'',rfl,hN,rfl⟩)
    go_ret
    exact ⟨_,rfl,by rw [HON.out];exact hN,hb2⟩
set_option maxRecDepth 100000 in
set_option maxHeartbeats 2000000 in
theorem bZ (av : Value) (x d : Nat) (w : World) (ha : NatAt w av x) (na : (dig x).length ≤ 1000000) (hd0 : 0 < d) (hd1 : d ≤ 65536) :
  Calls Tryz.prog 128 #[av,.int .i64 d] w fun e w' => ∃ v',e = .returned (.tuple #[v',.int .i64 ((x % d : Nat) : Int)]) ∧ NatAt w' v' (x / d) ∧ Below w.heap.size w w' := by
 have DA := Lib.hid (mC x);have HX := Lib.hid (yB0 x);unfold NatAt at ha;generalize dig x = la at *;have HA := Lib.hid ha;obtain ⟨aa,ac,rfl,hal,ham,-⟩ := ha;obtain ⟨i0,hii,hz0,hz1,hz2⟩ := info_parts qF0;have hdz : ¬ ((d : Int) = 0) := by omega
 go_enter Tryz.func128,Tryz.ntmps128
 go_wp2_with (at_make;refine wpList_make_full _ rfl _ _ 139 rfl w.heap.size 3 i0 (.int .i64 0) 1 Tryz.underlying139 hii hz0 hz1 .i64 .i64 _ _ la.length rfl rfl rfl rfl (by rw [hz2];omega) (by unfold maxLen;omega) (Nat.le_refl _) ?_;intro w0 hown0 hgrow0)
 have hownz : w0.ownsRow w.heap.size 3 1 (.slice (some ⟨w.heap.size,0,none⟩) la.length la.length) la.length ((List.replicate la.length 0).map wJ) := by
  refine kR hown0 rfl ?_;rw [Nat.mul_one];show (madeCells #[.int .i64 0] la.length).toList = _;rw [toList_madeCells_one];simp [wJ]
 have hb0 : Below w.heap.size w w0 := below_of_grown hgrow0 (Nat.le_refl _) (fun k h => by cases h);clear hown0 hgrow0
 go_loopg [7,8] la.length (fun q s7 s8 wr => ∃ (z : Int) (k R : Nat) (out : List Nat),s8 = .int .i64 z ∧ z + 1 = (k : Int) ∧ k ≤ la.length ∧ k ≤ q ∧ s7 = .int .i64 R ∧ R < d ∧ wr.ownsRow w.heap.size 3 1 (.slice (some ⟨w.heap.size,0,none⟩) la.length la.length) la.length (out.map wJ) ∧ Hid (out.length = la.length) ∧
  Hid (V (la.drop k) = d * V (out.drop k) + R) ∧ Hid (Dg out) ∧ Below w.heap.size w wr)
 case atStart => exact ⟨_,la.length,0,List.replicate la.length 0,rfl,by omega,Nat.le_refl _,Nat.le_refl _,rfl,hd0,hownz,by unfold Hid;simp,by unfold Hid;rw [List.drop_of_length_le (Nat.le_refl _),List.drop_of_length_le (by simp)];simp [xM0],Dg_zeros _,hb0⟩
 case round =>
  clear hownz hb0;obtain ⟨z,k,R,out,rfl,hz,hk,hq,rfl,hR,hown,hol,hV,hD,hb⟩ := hrel
  cases k with
  | zero =>
   obtain rfl : z = -1 := by omega
   have hend := divide_end (show x = V out * d + R by have := hV.out;rw [List.drop_zero,List.drop_zero,HX.out] at this;rw [this,Nat.mul_comm]) hR;have hT := gD (.slice (some ⟨w.heap.size,0,none⟩) la.length la.length) out wr (wB (kR hown hol.out.symm rfl)) hD.out;rw [hend.1] at hT;have HT := Lib.hid hT;have HE := Lib.hid hend.2;clear hT hend
   go_wp2_with (go_at_call 132;refine HT.out.mono ?_;rintro e w3 ⟨v',rfl,hN,rfl⟩)
   refine bodyPost_ret (v := .tuple #[v',.int .i64 (R : Int)]) (by simp [results,Tryz.results128,go_sem]) rfl ?_;exact ⟨_,by rw [HE.out],hN,hb⟩
  | succ j =>
   obtain rfl : z = (j : Int) := by omega
   have hA : j < la.length := by omega
   obtain ⟨a',c',he,_,_,hc⟩ := HA.out.below hb;simp only [Value.slice.injEq,true_and] at he;obtain ⟨rfl,rfl⟩ := he;obtain ⟨b1,o1,rfl,z1⟩ := hc j hA;have hp := DA.out.at hA;have HS := Lib.hid (halve_step (i := j) (y := R * 65536 + la[j]) hV.out hA hol.out rfl);have f0 := hown.frozenAt j;have hoj : j < out.length := by rw [hol.out];exact hA
   have z2 := own_cellN hown hol.out hoj;clear hc hV hz;generalize la[j] = p at *;have hyd : (R * 65536 + p) / d < 65536 := by
    rw [Nat.div_lt_iff_lt_mul hd0];have : R * 65536 + 65536 ≤ d * 65536 := by omega
    rw [Nat.mul_comm 65536 d];omega
   have HD2 := Lib.hid (hD.out.set j hyd);have HOL := Lib.hid (show (out.set j ((R * 65536 + p) / d)).length = la.length by simp [hol.out]);have hR2 : (R * 65536 + p) % d < d := Nat.mod_lt _ hd0;have T0 : ((R : Int) * 65536 + (p : Int)) = ((R * 65536 + p : Nat) : Int) := by omega
   have T1 : ((R : Int) * 65536 + (p : Int)) / (d : Int) = (((R * 65536 + p) / d : Nat) : Int) := by rw [T0];rfl
   have T2 := Lib.hid (show ((R : Int) * 65536 + (p : Int)) % (d : Int) = (((R * 65536 + p) % d : Nat) : Int) by rw [T0];rfl);have hset := hown.stored j (.int .i64 (((R : Int) * 65536 + (p : Int)) / (d : Int)));have HSET := Lib.hid (kR hset.1 rfl (show (out.map wJ).set j (.int .i64 (((R : Int) * 65536 + (p : Int)) / (d : Int))) = (out.set j ((R * 65536 + p) / d)).map wJ by rw [List.map_set,T1];rfl));have hbS := hb.setCell (p := ⟨w.heap.size,j,none⟩) (Nat.le_refl _) (.int .i64 (((R : Int) * 65536 + (p : Int)) / (d : Int)));clear hset T0 T1 hyd
   go_wp2
   go_roundg j
   case measure => omega
   case rel => exact ⟨_,j,(R * 65536 + p) % d,out.set j ((R * 65536 + p) / d),rfl,by omega,by omega,Nat.le_refl _,by rw [← T2.out],hR2,HSET.out,HOL,HS,HD2,hbS⟩
theorem NatAt.zero {w : World} {v : Value} (h : NatAt w v 0) : ∃ a c,v = .slice a 0 c := by
 unfold NatAt at h;rw [vH] at h;obtain ⟨a,c,rfl,_⟩ := h;exact ⟨a,c,rfl⟩
theorem NatAt.first {w : World} {v : Value} {n : Nat} (h : NatAt w v n) (h0 : n ≠ 0) : ∃ b off m c,v = .slice (some ⟨b,off,none⟩) (m + 1) c ∧ m + 1 ≤ c ∧ c ≤ 9223372036854775807 ∧ w.cell? ⟨b,off,none⟩ = some (.int .i64 ((n % 65536 : Nat) : Int)) := by
 unfold NatAt at h;rw [xU h0] at h;obtain ⟨a,c,rfl,hl,hm,hc⟩ := h;obtain ⟨b,off,rfl,h1⟩ := hc 0 (by simp);exact ⟨b,off,(dig (n / 65536)).length,c,rfl,hl,hm,by simpa using h1⟩
theorem qP {x y n : Nat} (h : x ≤ y) (hn : (dig y).length ≤ n) : (dig x).length ≤ n := Nat.le_trans (pR h) hn
theorem twos_bound {x t a n : Nat} (h : 2 ^ t * a ≤ x) (ha : 0 < a) (hn : (dig x).length ≤ n) : t < 16 * n := by
 have h1 := dG0 x;have h2 : 65536 ^ (dig x).length ≤ 65536 ^ n := Nat.pow_le_pow_right (by omega) hn;have h3 : 2 ^ t ≤ 2 ^ t * a := Nat.le_mul_of_pos_right _ ha;have h4 : 65536 ^ n = 2 ^ (16 * n) := by rw [Nat.pow_mul]
 rcases Nat.lt_or_ge t (16 * n) with h5 | h5
 ·exact h5
 ·have h6 : 2 ^ (16 * n) ≤ 2 ^ t := Nat.pow_le_pow_right (by omega) h5;omega
theorem half_le (a : Nat) : a / 2 ≤ a := Nat.div_le_self _ _
theorem gcd_two {X a b t : Nat} (h : X = Nat.gcd a b * 2 ^ t) (ha : a % 2 = 0) (hb : b % 2 = 0) : X = Nat.gcd (a / 2) (b / 2) * 2 ^ (t + 1) := by
 rw [h,gcd_even2 ha hb,Nat.pow_succ,Nat.mul_comm 2,Nat.mul_assoc,Nat.mul_comm 2]
theorem gcd_len {x y n : Nat} (na : (dig x).length ≤ n) (nb : (dig y).length ≤ n) : (dig (Nat.gcd x y)).length ≤ n := by
 rcases Nat.eq_zero_or_pos x with rfl | hx
 ·rw [Nat.gcd_zero_left];exact nb
 ·exact qP (Nat.gcd_le_left y hx) na
set_option maxRecDepth 100000 in
set_option maxHeartbeats 4000000 in
theorem Common_any (av bv : Value) (x y : Nat) (w : World) (ha : NatAt w av x) (hb : NatAt w bv y) (na : (dig x).length ≤ 100000) (nb : (dig y).length ≤ 100000) :
  Calls Tryz.prog 116 #[av,bv] w fun e w' => ∃ v',e = .returned v' ∧ NatAt w' v' (Nat.gcd x y) ∧ Below w.heap.size w w' := by
 have HA := Lib.hid ha;have HB := Lib.hid hb;have NA := Lib.hid na;have NB := Lib.hid nb;clear ha hb na nb
 go_enter Tryz.func116,Tryz.ntmps116
 go_upto_block 0 with fail
 go_cut [0,1,5] (fun s0 s1 s5 wx => ∃ a b t : Nat,NatAt wx s0 a ∧ NatAt wx s1 b ∧ s5 = .int .i64 t ∧ Hid (Nat.gcd x y = (a + b) * 2 ^ t) ∧ a ≤ x ∧ b ≤ y ∧ t ≤ 1600000 ∧ Below w.heap.size w wx)
 case first => as_aux_lemma =>
  go_wp2
  go_loopg [0,1,5] (x + y) (fun q s0 s1 s5 wr => ∃ a b t : Nat,NatAt wr s0 a ∧ NatAt wr s1 b ∧ s5 = .int .i64 t ∧ a + b ≤ q ∧ Hid (Nat.gcd x y = Nat.gcd a b * 2 ^ t) ∧ a ≤ x ∧ b ≤ y ∧ Hid (2 ^ t * a ≤ x) ∧ t ≤ 1600000 ∧ Below w.heap.size w wr)
  case atStart => exact ⟨x,y,0,HA.out,HB.out,rfl,Nat.le_refl _,by unfold Hid;simp,Nat.le_refl _,Nat.le_refl _,by unfold Hid;simp,by omega,Below.refl _ _⟩
  case round =>
   obtain ⟨a,b,t,hA,hB,rfl,hq,hG,hax,hby,h2,ht,hbw⟩ := hrel;by_cases ha0 : a = 0
   ·subst ha0;obtain ⟨va,vc,hva⟩ := hA.zero;have HA2 := Lib.hid hA;have HG2 := Lib.hid (show Nat.gcd x y = (0 + b) * 2 ^ t by rw [hG.out,Nat.gcd_zero_left,Nat.zero_add]);subst hva;clear hA hG
    go_wp2
    go_meet
    exact ⟨0,b,t,HA2.out,hB,rfl,HG2,hax,hby,ht,hbw⟩
   by_cases hb0 : b = 0
   ·subst hb0;obtain ⟨b1,o1,m1,c1,hva,hm1,hc1,z1⟩ := hA.first ha0;obtain ⟨vb,vc,hvb⟩ := hB.zero;have HA2 := Lib.hid hA;have HB2 := Lib.hid hB;have HG2 := Lib.hid (show Nat.gcd x y = (a + 0) * 2 ^ t by rw [hG.out,Nat.gcd_zero_right,Nat.add_zero]);subst hva;subst hvb;have i1 : (((m1 + 1 : Nat) : Int) > 0) := by omega
    clear hA hB hG
    go_wp2
    go_meet
    exact ⟨a,0,t,HA2.out,HB2.out,rfl,HG2,hax,hby,ht,hbw⟩
   obtain ⟨b1,o1,m1,c1,hva,hm1,hc1,z1⟩ := hA.first ha0;obtain ⟨b2,o2,m2,c2,hvb,hm2,hc2,z2⟩ := hB.first hb0;have HA2 := Lib.hid hA;have HB2 := Lib.hid hB;subst hva;subst hvb;have i1 : (((m1 + 1 : Nat) : Int) > 0) := by omega
   have i2 : (((m2 + 1 : Nat) : Int) > 0) := by omega
   have HPa := Lib.hid (show (a % 65536) % 2 = a % 2 by omega);have HPb := Lib.hid (show (b % 65536) % 2 = b % 2 by omega);clear hA hB;generalize a % 65536 = p at *;generalize b % 65536 = r at *;by_cases hea : a % 2 = 0
   ·have e1 : (((p : Int) % 2) == 0) = true := by have := HPa.out;simp;omega
    have hCa := Lib.hid (fun W (h : Below wr.heap.size wr W) => bZ _ a 2 W (HA2.out.below h) (Nat.le_trans (qP hax NA.out) (by omega)) (by omega) (by omega));by_cases heb : b % 2 = 0
    ·have e2 : (((r : Int) % 2) == 0) = true := by have := HPb.out;simp;omega
     have hCb := Lib.hid (fun W (h : Below wr.heap.size wr W) => bZ _ b 2 W (HB2.out.below h) (Nat.le_trans (qP hby NB.out) (by omega)) (by omega) (by omega));have HG2 := Lib.hid (gcd_two hG.out hea heb);have H22 := Lib.hid (show 2 ^ (t + 1) * (a / 2) ≤ x by rw [Nat.pow_succ,Nat.mul_assoc,show 2 * (a / 2) = a by omega];exact h2.out);have ht2 : t + 1 < 16 * 100000 := twos_bound H22.out (by omega) NA.out;have hd : a / 2 + b / 2 < a + b := by omega
     have hax2 : a / 2 ≤ x := by omega
     have hby2 : b / 2 ≤ y := by omega
     clear hea heb hG h2 ha0 hb0
     go_wp2_with fail
     refine (hCa.out wr (Below.refl _ _)).mono ?_;rintro e wh ⟨v',rfl,hN1,hbh⟩
     go_wp2_with fail
     refine (hCb.out wh hbh).mono ?_;rintro e wi ⟨v'',rfl,hN2,hbi⟩;have hN1' := hN1.below hbi;have hbb := qH hbw (qH hbh hbi);clear hCa hCb hN1 hbh hbi
     go_wp2
     go_roundg (a / 2 + b / 2)
     case measure => omega
     case rel => exact ⟨a / 2,b / 2,t + 1,hN1',hN2,by go_num,Nat.le_refl _,HG2,hax2,hby2,H22,by omega,hbb⟩
    ·have e2 : (((r : Int) % 2) == 0) = false := by have := HPb.out;simp;omega
     have HG2 := Lib.hid (show Nat.gcd x y = Nat.gcd (a / 2) b * 2 ^ t by rw [hG.out,qJ0 hea (by omega)]);have H22 := Lib.hid (Nat.le_trans (Nat.mul_le_mul_left (2 ^ t) (half_le a)) h2.out);have hd : a / 2 + b < a + b := by omega
     have hax2 : a / 2 ≤ x := by omega
     clear hea heb hG h2 ha0 hb0
     go_wp2_with fail
     refine (hCa.out wr (Below.refl _ _)).mono ?_;rintro e wh ⟨v',rfl,hN1,hbh⟩;have hN2 := HB2.out.below hbh;have hbb := qH hbw hbh;clear hCa hbh
     go_wp2
     go_roundg (a / 2 + b)
     case measure => omega
     case rel => exact ⟨a / 2,b,t,hN1,hN2,rfl,Nat.le_refl _,HG2,hax2,hby,H22,ht,hbb⟩
   ·have e1 : (((p : Int) % 2) == 0) = false := by have := HPa.out;simp;omega
    by_cases heb : b % 2 = 0
    ·have e2 : (((r : Int) % 2) == 0) = true := by have := HPb.out;simp;omega
     have hCb := Lib.hid (fun W (h : Below wr.heap.size wr W) => bZ _ b 2 W (HB2.out.below h) (Nat.le_trans (qP hby NB.out) (by omega)) (by omega) (by omega));have HG2 := Lib.hid (show Nat.gcd x y = Nat.gcd a (b / 2) * 2 ^ t by rw [hG.out,Nat.gcd_comm,qJ0 heb (by omega),Nat.gcd_comm]);have hd : a + b / 2 < a + b := by omega
     have hby2 : b / 2 ≤ y := by omega
     clear hea heb hG ha0 hb0
     go_wp2_with fail
     refine (hCb.out wr (Below.refl _ _)).mono ?_;rintro e wh ⟨v',rfl,hN2,hbh⟩;have hN1 := HA2.out.below hbh;have hbb := qH hbw hbh;clear hCb hbh
     go_wp2
     go_roundg (a + b / 2)
     case measure => omega
     case rel => exact ⟨a,b / 2,t,hN1,hN2,rfl,Nat.le_refl _,HG2,hax,hby2,h2,ht,hbb⟩
    ·have e2 : (((r : Int) % 2) == 0) = false := by have := HPb.out;simp;omega
     have hCc := Lib.hid (tC _ _ a b wr HA2.out HB2.out);by_cases hge : b ≤ a
     ·have hcm : cmpN a b ≥ 0 := by unfold cmpN;rw [if_neg (by omega)];split <;> omega
      have hCm := Lib.hid (fun W (h : Below wr.heap.size wr W) => jI0 _ _ a b W (HA2.out.below h) (HB2.out.below h) hge (Nat.le_trans (qP hax NA.out) (by omega)));have HG2 := Lib.hid (show Nat.gcd x y = Nat.gcd (a - b) b * 2 ^ t by rw [hG.out,wF0 hge]);have H22 := Lib.hid (Nat.le_trans (Nat.mul_le_mul_left (2 ^ t) (Nat.sub_le a b)) h2.out);have hd : a - b + b < a + b := by omega
      have hax2 : a - b ≤ x := by omega
      clear hea heb hG h2 ha0 hb0 hge;generalize cmpN a b = cm at *
      go_wp2_with fail
      refine hCc.out.mono ?_;rintro e wh ⟨rfl,hbh⟩
      go_wp2_with fail
      refine (hCm.out wh hbh).mono ?_;rintro e wi ⟨v',rfl,hN1,hbi⟩;have hbj := qH hbh hbi;have hN2 := HB2.out.below hbj;have hbb := qH hbw hbj;clear hCc hCm hbh hbi hbj
      go_wp2
      go_roundg (a - b + b)
      case measure => omega
      case rel => exact ⟨a - b,b,t,hN1,hN2,rfl,Nat.le_refl _,HG2,hax2,hby,H22,ht,hbb⟩
     ·have hcm : ¬ (cmpN a b ≥ 0) := by unfold cmpN;rw [if_pos (by omega)];omega
      have hCm := Lib.hid (fun W (h : Below wr.heap.size wr W) => jI0 _ _ b a W (HB2.out.below h) (HA2.out.below h) (by omega) (Nat.le_trans (qP hby NB.out) (by omega)));have HG2 := Lib.hid (show Nat.gcd x y = Nat.gcd a (b - a) * 2 ^ t by rw [hG.out,Nat.gcd_comm,wF0 (show a ≤ b by omega),Nat.gcd_comm]);have hd : a + (b - a) < a + b := by omega
      have hby2 : b - a ≤ y := by omega
      clear hea heb hG ha0 hb0 hge;generalize cmpN a b = cm at *
      go_wp2_with fail
      refine hCc.out.mono ?_;rintro e wh ⟨rfl,hbh⟩
      go_wp2_with fail
      refine (hCm.out wh hbh).mono ?_;rintro e wi ⟨v',rfl,hN2,hbi⟩;have hbj := qH hbh hbi;have hN1 := HA2.out.below hbj;have hbb := qH hbw hbj;clear hCc hCm hbh hbi hbj
      go_wp2
      go_roundg (a + (b - a))
      case measure => omega
      case rel => exact ⟨a,b - a,t,hN1,hN2,rfl,Nat.le_refl _,HG2,hax,hby2,h2,ht,hbb⟩
 case rest =>
  obtain ⟨a,b,t,hA,hB,rfl,hG,hax,hby,ht,hbw⟩ := hcut;have HGL := Lib.hid (gcd_len NA.out NB.out);have hP := Lib.hid (Plus_any _ _ a b wc hA hB (Nat.le_trans (qP hax NA.out) (by omega)) (Nat.le_trans (qP hby NB.out) (by omega)));clear hA hB
  go_wp2_with fail
  refine hP.out.mono ?_;rintro e w1 ⟨v',rfl,hN,hb1⟩;have hbb := qH hbw hb1;have HN := Lib.hid hN;clear hP hN hbw hb1 hax hby;generalize a + b = ab at *
  go_wp2
  go_loopg [5,6] t (fun q s5 s6 wr => ∃ s o : Nat,s5 = .int .i64 s ∧ s ≤ q ∧ s ≤ 1600000 ∧ NatAt wr s6 o ∧ Hid (Nat.gcd x y = o * 2 ^ s) ∧ Below w.heap.size w wr)
  case atStart => exact ⟨t,ab,rfl,Nat.le_refl _,ht,HN.out,hG,hbb⟩
  case round =>
   clear hbb HN hG;obtain ⟨s,o,rfl,hq,hs,hN,hG,hb⟩ := hrel;by_cases hs0 : s = 0
   ·subst hs0;have HF := Lib.hid (show NatAt wr _ (Nat.gcd x y) by rw [hG.out,Nat.pow_zero,Nat.mul_one];exact hN);clear hG hN
    go_wp2
    go_ret
    exact ⟨_,rfl,HF.out,hb⟩
   ·have i1 : ((s : Int) > 0) := by omega
    have hol : o ≤ Nat.gcd x y := by rw [hG.out];exact Nat.le_mul_of_pos_right _ (Nat.pow_pos (by omega))
    have hD := Lib.hid (Double_any _ o false wr hN (Nat.le_trans (qP hol HGL.out) (by omega)));have HG2 := Lib.hid (show Nat.gcd x y = (2 * o + false.toNat) * 2 ^ (s - 1) by
     rw [hG.out];obtain ⟨r,rfl⟩ : ∃ r,s = r + 1 := ⟨s - 1,by omega⟩;rw [Nat.pow_succ,Nat.add_sub_cancel];show o * (2 ^ r * 2) = (2 * o + 0) * 2 ^ r;rw [Nat.add_zero,Nat.mul_comm (2 ^ r) 2,← Nat.mul_assoc,Nat.mul_comm o 2])
    clear hG hol hN
    go_wp2_with fail
    refine hD.out.mono ?_;rintro e w2 ⟨v'',rfl,hN2,hb2⟩;clear hD
    go_wp2
    go_roundg (s - 1)
    case measure => omega
    case rel => exact ⟨s - 1,_,by go_num,Nat.le_refl _,by omega,hN2,HG2,qH hb hb2⟩
section
variable {P : Program} {ops : Array Oper} {Q : Exit → Act → World → Prop} {md : Region.Mode} {S : Array Bool → World → Prop}
def vO (P : Program) (md : Region.Mode) (ops : Array Oper) (Q : Exit → Act → World → Prop) (S : Array Bool → World → Prop) : Nat → Array Bool → Act → World → Prop
 | 0,L,a,w => Region.ready md ops L = [] ∧ Q .normal a w
 | n + 1,L,a,w => (Region.ready md ops L = [] → Q .normal a w) ∧
   ∀ i ∈ Region.ready md ops L,wpOp P ops Q i (fun a' w' => S (L.setIfInBounds i true) w' ∧ vO P md ops Q S n (L.setIfInBounds i true) a' w') a w
theorem tI : ∀ (n : Nat) (L : Array Bool) (a : Act) (w : World),vO P md ops Q S n L a w → wpAny P md ops Q n L a w
 | 0,_,_,_,h => h
 | n + 1,_,_,_,h => ⟨h.1,fun i hi => wpOp_mono (fun a' w' h' => tI n _ a' w' h'.2) (h.2 i hi)⟩
def Closed (md : Region.Mode) (ops : Array Oper) (L : Array Bool) : Prop :=
 ∀ (j : Nat) (o : Oper),ops[j]? = some o → L.getD j false = true → ∀ e ∈ o.after,Region.binds md e = true → L.getD e.on false = true
theorem xQ (L : Array Bool) (i y : Nat) (d : Bool) (h : L.getD y d = true) : (L.setIfInBounds i true).getD y d = true := by
 rw [Array.getD_eq_getD_getElem?,Array.getElem?_setIfInBounds];rw [Array.getD_eq_getD_getElem?] at h;by_cases hy : i = y
 ·subst hy;by_cases h2 : i < L.size
  ·simp [h2]
  ·rw [Array.getElem?_eq_none (by omega)] at h;simpa [h2] using h
 ·simpa [hy] using h
theorem Closed.step {L : Array Bool} {j : Nat} (h : Closed md ops L) (hj : j ∈ Region.ready md ops L) : Closed md ops (L.setIfInBounds j true) := by
 obtain ⟨hjun,oj,hoj,hall⟩ := mem_ready.1 hj;intro k o hk hl e he hb;by_cases hkj : k = j
 ·subst hkj;rw [hoj] at hk
  cases hk;exact xQ _ _ _ _ (hall e he hb)
 ·rw [getD_set_ne false (Ne.symm hkj)] at hl;exact xQ _ _ _ _ (h k o hk hl e he hb)
def xL0 (md : Region.Mode) (ops : Array Oper) (k i : Nat) : Bool := ((ops[k]?).map fun o => o.after.any fun e => Region.binds md e && e.on == i).getD false
theorem Closed.edge {L : Array Bool} {k i : Nat} (h : Closed md ops L) (he : xL0 md ops k i = true) (hk : L.getD k false = true) : L.getD i false = true := by
 unfold xL0 at he
 cases ho : ops[k]? with
 | none => rw [ho] at he;cases he
 | some o =>
  rw [ho] at he;simp only [Option.map_some,Option.getD_some] at he;obtain ⟨x,hx,hb⟩ := Array.any_eq_true.1 he;obtain ⟨e,hm⟩ : ∃ e,e = o.after[x] := ⟨_,rfl⟩;rw [← hm] at hb;have hm : e ∈ o.after := hm ▸ Array.getElem_mem hx;rw [Bool.and_eq_true,beq_iff_eq] at hb;have := h k o ho hk e hm hb.1;rw [hb.2] at this;exact this
def uU0 (md : Region.Mode) (ops : Array Oper) (L : Array Bool) : Bool :=
 (List.range ops.size).all fun j => ((ops[j]?).map fun o => !(L.getD j false) || o.after.all fun e => !(Region.binds md e) || L.getD e.on false).getD true
theorem Closed.of_B {L : Array Bool} (h : uU0 md ops L = true) : Closed md ops L := by
 intro j o hj hl e he hb;unfold uU0 at h;rw [List.all_eq_true] at h;have hjl : j < ops.size := by
  rcases Nat.lt_or_ge j ops.size with h' | h'
  ·exact h'
  ·rw [Array.getElem?_eq_none h'] at hj;cases hj
 have h1 := h j (List.mem_range.2 hjl);rw [hj] at h1;simp only [Option.map_some,Option.getD_some,hl,Bool.not_true,Bool.false_or] at h1;obtain ⟨x,hx,rfl⟩ := Array.getElem_of_mem he;have h2 := Array.all_eq_true.1 h1 x hx;rw [hb] at h2;simpa using h2
theorem tW {L : Array Bool} {i : Nat} (h : L.getD i true = false) : L.getD i false = false := by
 rw [Array.getD_eq_getD_getElem?] at h ⊢
 cases hg : L[i]? with
 | none => rfl
 | some b => rw [hg] at h;simpa using h
theorem wpAnyL_first {T : World → Prop} {i : Nat} {oi : Oper} {v : Value} (hi : ops[i]? = some oi) (hsel : ∀ (j : Nat) (o : Oper) cs b,ops[j]? = some o → o.op ≠ .select cs b)
  (hQ : ∀ c a w,Q (.panic c) (a.put oi.dst v) w → Q (.panic c) a w) (hSi : ∀ L w,S (L.setIfInBounds i true) w ↔ S L w) (hT : ∀ L w,Closed md ops L → L.getD i true = false → S L w → T w) :
  ∀ (n : Nat) (L : Array Bool) (a : Act) (w : World),Closed md ops L →
   (∀ j oj,ops[j]? = some oj → j ≠ i → L.getD j true = false → (∀ e ∈ oj.after,Region.binds md e = true → e.on ≠ i) → oi.apart ops oj = true) →
   i ∈ Region.ready md ops L → YieldsIf P ops T oi v a → S L w →
   vO P md ops Q S n (L.setIfInBounds i true) (a.put oi.dst v) w → vO P md ops Q S (n + 1) L a w := by
 intro n;induction n with
 | zero =>
  intro L a w hcl _ hr hy hS H;refine ⟨fun h => (by rw [h] at hr;cases hr),fun j hj => ?_⟩;by_cases hji : j = i
  ·subst hji;exact hy.wpOp hi (hT L w hcl (mem_ready.1 hr).1 hS) ⟨(hSi L w).2 hS,H⟩
  ·have := ready_mono hj hji;rw [H.1] at this
   cases this
 | succ n ih =>
  intro L a w hcl hfree hr hy hS H;refine ⟨fun h => (by rw [h] at hr;cases hr),fun j hj => ?_⟩;by_cases hji : j = i
  ·subst hji;exact hy.wpOp hi (hT L w hcl (mem_ready.1 hr).1 hS) ⟨(hSi L w).2 hS,H⟩
  ·have h1 := H.2 j (ready_mono hj hji);obtain ⟨hjun,oj,hoj,hall⟩ := mem_ready.1 hj;have hnot : ∀ e ∈ oj.after,Region.binds md e = true → e.on ≠ i := fun e he hb heq => by
    have h1 := hall e he hb;have h0 := (mem_ready.1 hr).1;rw [heq] at h1;rcases Nat.lt_or_ge i L.size with h' | h'
    ·simp [h'] at h0 h1;rw [h0] at h1;cases h1
    ·simp [Array.getElem?_eq_none h'] at h1
   have h2 := wpOp_putIf hoj (hfree j oj hoj hji hjun hnot) (fun cs b => hsel i oi cs b hi) (fun cs b => hsel j oj cs b hoj) hQ hy h1
   have hfree' : ∀ k ok,ops[k]? = some ok → k ≠ i → (L.setIfInBounds j true).getD k true = false →
     (∀ e ∈ ok.after,Region.binds md e = true → e.on ≠ i) → oi.apart ops ok = true := fun k ok hk hki hun hno => by
    refine hfree k ok hk hki ?_ hno;by_cases hjk : j = k
    ·subst hjk;exact hjun
    ·rw [getD_set_ne true hjk] at hun;exact hun
   refine wpOp_mono (fun a' w' h3 => ?_) h2;have hS' : S (L.setIfInBounds j true) w' := by
    have h4 := h3.2.1;rw [Array.setIfInBounds_comm _ _ (Ne.symm hji)] at h4;exact (hSi _ _).1 h4
   refine ⟨hS',ih (L.setIfInBounds j true) a' w' (hcl.step hj) hfree' (ready_mono hr (Ne.symm hji)) h3.1 hS' ?_⟩;rw [Array.setIfInBounds_comm _ _ hji];exact h3.2.2
theorem yZ {T : World → Prop} {i : Nat} {oi : Oper} {v : Value} {n : Nat} {L : Array Bool} {a : Act} {w : World} (hi : ops[i]? = some oi)
  (hs : Region.noSelect ops = true) (hf : Region.free md ops L i = true) (hr : (Region.ready md ops L).contains i = true)
  (hQ : ∀ c a w,Q (.panic c) (a.put oi.dst v) w → Q (.panic c) a w) (hSi : ∀ L w,S (L.setIfInBounds i true) w ↔ S L w) (hT : ∀ L w,Closed md ops L → L.getD i true = false → S L w → T w) (hcl : Closed md ops L)
  (hy : YieldsIf P ops T oi v a) (hS : S L w) (h : vO P md ops Q S n (L.setIfInBounds i true) (a.put oi.dst v) w) : vO P md ops Q S (n + 1) L a w :=
 wpAnyL_first hi (Region.noSelect_spec hs) hQ hSi hT n L a w hcl (Region.free_spec hi hf) (by simpa using hr) hy hS h
theorem wpAnyL_all {rs : List Nat} {n : Nat} {L : Array Bool} {a : Act} {w : World} (hr : Region.ready md ops L = rs) (hne : rs ≠ [])
  (h : ∀ i ∈ rs,wpOp P ops Q i (fun a' w' => S (L.setIfInBounds i true) w' ∧ vO P md ops Q S n (L.setIfInBounds i true) a' w') a w) : vO P md ops Q S (n + 1) L a w :=
 ⟨fun h0 => absurd (hr ▸ h0) hne,hr ▸ h⟩
def AllL (P : Program) (md : Region.Mode) (ops : Array Oper) (Q : Exit → Act → World → Prop) (S : Array Bool → World → Prop) (n : Nat) (L : Array Bool) (a : Act) (w : World) (rs : List Nat) : Prop :=
 ∀ i ∈ rs,wpOp P ops Q i (fun a' w' => S (L.setIfInBounds i true) w' ∧ vO P md ops Q S n (L.setIfInBounds i true) a' w') a w
theorem AllL.nil {n : Nat} {L : Array Bool} {a : Act} {w : World} : AllL P md ops Q S n L a w [] := fun _ h => by cases h
theorem AllL.cons {n : Nat} {L : Array Bool} {a : Act} {w : World} {i : Nat} {o : Oper} {rs : List Nat} (ho : ops[i]? = some o) (hw : Region.wanted o (yielded ops a.tmps) = true)
  (h : ∀ K' : Act → World → Prop,(∀ a' w',S (L.setIfInBounds i true) w' ∧ vO P md ops Q S n (L.setIfInBounds i true) a' w' → K' a' w') → Oper.wp P o a w K' Q)
  (hs : AllL P md ops Q S n L a w rs) : AllL P md ops Q S n L a w (i :: rs) := fun j hj => by
 rcases List.mem_cons.1 hj with rfl | hj
 ·unfold wpOp;simp only [ho,hw,if_true];exact .inl (h _ fun _ _ h => h)
 ·exact hs j hj
theorem xJ {rs : List Nat} {n : Nat} {L : Array Bool} {a : Act} {w : World} (hr : Region.ready md ops L = rs) (hne : rs ≠ []) (h : AllL P md ops Q S n L a w rs) : vO P md ops Q S (n + 1) L a w := wpAnyL_all hr hne h
theorem wpAnyL_done {L : Array Bool} {a : Act} {w : World} (hr : Region.ready md ops L = []) (h : Q .normal a w) : ∀ n,vO P md ops Q S n L a w
 | 0 => ⟨hr,h⟩
 | _ + 1 => ⟨fun _ => h,by rw [hr];simp⟩
theorem dF {id : Nat} {a : Act} {w : World} (hm : P.follows .mixedOrders = true)
  (h : vO P .any ops Q S ops.size (Array.replicate ops.size false) a { w with drawn := w.drawn + 1 }) : (Code.region id ops true).wp P Q a w :=
 wp_region_any hm (tI _ _ _ _ h)
end
end Go.Proofs.YtnajlcfdjjmfiaaGreatDoor
