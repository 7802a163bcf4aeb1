/- Part 13 of the proof. -/
import Derived.Shelf.Unicode.ValidAny
import Derived.Shelf.Strings.Split
import Derived.Shelf.Strings.Fields
import Derived.Shelf.Strings.Cut
import Derived.Test.YtifgelimmddkpaaGreatDoorM12
/-
  DERIVED: THE SHELF's CONTRACTS AT THIS DUMP,IN PLAIN WORDS (tools/lay-plain.mjs out of 'YtifgelimmddkpaaGreatDoorShelf.lean',which tools/lay-shelf.mjs wrote): THE SAME DECLARATIONS UNDER THE SAME NAMES: 'import','namespace','open','def','theorem' AND NOTHING ELSE: no command of the shelf's: FOR A HAND-IN. Each laying: the table of numbers ('.._ren') and one theorem,a field a fact of the dump's own or the kernel's comparison;each contract: ONE APPLICATION.
-/
namespace Go.Proofs
open Go.Shelf
def Tryz.laysValid_ren : Go.Shelf.Ren := ⟨fun | 196 => 130 | 259 => 157 | n => n,fun | 9 => 9 | 4 => 4 | 3 => 3 | 5 => 5 | 12 => 12 | 119 => 150 | 0 => 0 | 46 => 140 | 139 => 176 | 138 => 175 | 53 => 197 | n => n,fun | 3 => 1 | 4 => 2 | n => n⟩
theorem qF {α : Type} {a b : α} (h : a = b := by kernel_rfl) : some a = some b := congrArg some h
theorem Tryz.laysValid : Go.Proofs.Lays.n196 Tryz.prog Tryz.laysValid_ren := {
 mixed := by kernel_rfl
 f196 := Tryz.func130.trans qF
 f259 := Tryz.func157.trans qF
 t0 := Tryz.underlying0
 a0 := Tryz.isAgg0
 z0 := Tryz.sizeOf0
 v0 := Tryz.zeroValue0
 t3 := Tryz.underlying3
 a3 := Tryz.isAgg3
 z3 := Tryz.sizeOf3
 v3 := Tryz.zeroValue3
 t4 := Tryz.underlying4
 a4 := Tryz.isAgg4
 z4 := Tryz.sizeOf4
 v4 := Tryz.zeroValue4
 t5 := Tryz.underlying5
 a5 := Tryz.isAgg5
 z5 := Tryz.sizeOf5
 v5 := Tryz.zeroValue5
 t9 := Tryz.underlying9
 a9 := Tryz.isAgg9
 z9 := Tryz.sizeOf9
 v9 := Tryz.zeroValue9
 t12 := Tryz.underlying12
 a12 := Tryz.isAgg12
 z12 := Tryz.sizeOf12
 v12 := Tryz.zeroValue12
 t46 := Tryz.underlying140
 a46 := Tryz.isAgg140
 z46 := Tryz.sizeOf140
 v46 := Tryz.zeroValue140
 t53 := Tryz.underlying197
 a53 := Tryz.isAgg197
 z53 := Tryz.sizeOf197
 v53 := Tryz.zeroValue197
 t119 := Tryz.underlying150
 a119 := Tryz.isAgg150
 z119 := Tryz.sizeOf150
 t138 := Tryz.underlying175
 a138 := Tryz.isAgg175
 z138 := Tryz.sizeOf175
 v138 := Tryz.zeroValue175
 t139 := Tryz.underlying176
 a139 := Tryz.isAgg176
 z139 := Tryz.sizeOf176
 v139 := Tryz.zeroValue176
 g3 := by kernel_rfl
 g4 := by kernel_rfl }
def Tryz.laysSplit_ren : Go.Shelf.Ren := ⟨fun | 146 => 146 | 221 => 169 | 268 => 189 | 138 => 190 | 143 => 147 | 195 => 196 | 197 => 197 | 218 => 198 | 219 => 168 | 260 => 201 | 217 => 185 | 225 => 186 | 224 => 187 | 267 => 188 | 266 => 194 | 314 => 195 | n => n,fun | 9 => 9 | 31 => 33 | 3 => 3 | 4 => 4 | 0 => 0 | 105 => 223 | 21 => 21 | 5 => 5 | 46 => 140 | 119 => 150 | 139 => 176 | 138 => 175 | 146 => 220 | 51 => 110 | n => n,fun | 1 => 4 | 3 => 1 | 4 => 2 | n => n⟩
theorem Tryz.laysSplit : Go.Proofs.Lays.n146 Tryz.prog Tryz.laysSplit_ren := {
 mixed := by kernel_rfl
 f138 := Tryz.func190.trans qF
 f143 := Tryz.func147.trans qF
 f146 := Tryz.func146.trans qF
 f195 := Tryz.func196.trans qF
 f197 := Tryz.func197.trans qF
 f217 := Tryz.func185.trans qF
 f218 := Tryz.func198.trans qF
 f219 := Tryz.func168.trans qF
 f221 := Tryz.func169.trans qF
 f224 := Tryz.func187.trans qF
 f225 := Tryz.func186.trans qF
 f260 := Tryz.func201.trans qF
 f266 := Tryz.func194.trans qF
 f267 := Tryz.func188.trans qF
 f268 := Tryz.func189.trans qF
 f314 := Tryz.func195.trans qF
 t0 := Tryz.underlying0
 a0 := Tryz.isAgg0
 z0 := Tryz.sizeOf0
 v0 := Tryz.zeroValue0
 t3 := Tryz.underlying3
 a3 := Tryz.isAgg3
 z3 := Tryz.sizeOf3
 v3 := Tryz.zeroValue3
 t4 := Tryz.underlying4
 a4 := Tryz.isAgg4
 z4 := Tryz.sizeOf4
 v4 := Tryz.zeroValue4
 t5 := Tryz.underlying5
 a5 := Tryz.isAgg5
 z5 := Tryz.sizeOf5
 v5 := Tryz.zeroValue5
 t9 := Tryz.underlying9
 a9 := Tryz.isAgg9
 z9 := Tryz.sizeOf9
 v9 := Tryz.zeroValue9
 t21 := Tryz.underlying21
 a21 := Tryz.isAgg21
 z21 := Tryz.sizeOf21
 v21 := Tryz.zeroValue21
 t31 := Tryz.underlying33
 a31 := Tryz.isAgg33
 z31 := Tryz.sizeOf33
 v31 := Tryz.zeroValue33
 t46 := Tryz.underlying140
 a46 := Tryz.isAgg140
 z46 := Tryz.sizeOf140
 v46 := Tryz.zeroValue140
 t51 := Tryz.underlying110
 a51 := Tryz.isAgg110
 z51 := Tryz.sizeOf110
 v51 := Tryz.zeroValue110
 t105 := Tryz.underlying223
 a105 := Tryz.isAgg223
 z105 := Tryz.sizeOf223
 v105 := Tryz.zeroValue223
 t119 := Tryz.underlying150
 a119 := Tryz.isAgg150
 z119 := Tryz.sizeOf150
 t138 := Tryz.underlying175
 a138 := Tryz.isAgg175
 z138 := Tryz.sizeOf175
 v138 := Tryz.zeroValue175
 t139 := Tryz.underlying176
 a139 := Tryz.isAgg176
 z139 := Tryz.sizeOf176
 v139 := Tryz.zeroValue176
 t146 := Tryz.underlying220
 a146 := Tryz.isAgg220
 z146 := Tryz.sizeOf220
 v146 := Tryz.zeroValue220
 g1 := by kernel_rfl
 g3 := by kernel_rfl
 g4 := by kernel_rfl }
def Tryz.laysFields_ren : Go.Shelf.Ren := ⟨fun | 157 => 109 | 229 => 138 | 199 => 139 | 261 => 160 | 311 => 177 | 312 => 178 | n => n,fun | 9 => 9 | 31 => 33 | 3 => 3 | 5 => 5 | 4 => 4 | 119 => 150 | 0 => 0 | 40 => 152 | 152 => 178 | 21 => 21 | 154 => 180 | 51 => 110 | 141 => 182 | 196 => 201 | 193 => 198 | 198 => 204 | 49 => 202 | 194 => 199 | 201 => 207 | 226 => 216 | 46 => 140 | 227 => 217 | n => n,fun | 0 => 0 | 6 => 3 | n => n⟩
theorem Tryz.laysFields : Go.Proofs.Lays.n157 Tryz.prog Tryz.laysFields_ren := {
 mixed := by kernel_rfl
 f157 := Tryz.func109.trans qF
 f199 := Tryz.func139.trans qF
 f229 := Tryz.func138.trans qF
 f261 := Tryz.func160.trans qF
 f311 := Tryz.func177.trans qF
 f312 := Tryz.func178.trans qF
 t0 := Tryz.underlying0
 a0 := Tryz.isAgg0
 z0 := Tryz.sizeOf0
 v0 := Tryz.zeroValue0
 t3 := Tryz.underlying3
 a3 := Tryz.isAgg3
 z3 := Tryz.sizeOf3
 v3 := Tryz.zeroValue3
 t4 := Tryz.underlying4
 a4 := Tryz.isAgg4
 z4 := Tryz.sizeOf4
 v4 := Tryz.zeroValue4
 t5 := Tryz.underlying5
 a5 := Tryz.isAgg5
 z5 := Tryz.sizeOf5
 v5 := Tryz.zeroValue5
 t9 := Tryz.underlying9
 a9 := Tryz.isAgg9
 z9 := Tryz.sizeOf9
 v9 := Tryz.zeroValue9
 t21 := Tryz.underlying21
 a21 := Tryz.isAgg21
 z21 := Tryz.sizeOf21
 v21 := Tryz.zeroValue21
 t31 := Tryz.underlying33
 a31 := Tryz.isAgg33
 z31 := Tryz.sizeOf33
 v31 := Tryz.zeroValue33
 t40 := Tryz.underlying152
 a40 := Tryz.isAgg152
 z40 := Tryz.sizeOf152
 v40 := Tryz.zeroValue152
 t46 := Tryz.underlying140
 a46 := Tryz.isAgg140
 z46 := Tryz.sizeOf140
 v46 := Tryz.zeroValue140
 t49 := Tryz.underlying202
 a49 := Tryz.isAgg202
 z49 := Tryz.sizeOf202
 v49 := Tryz.zeroValue202
 t51 := Tryz.underlying110
 a51 := Tryz.isAgg110
 z51 := Tryz.sizeOf110
 v51 := Tryz.zeroValue110
 t119 := Tryz.underlying150
 a119 := Tryz.isAgg150
 z119 := Tryz.sizeOf150
 t141 := Tryz.underlying182
 a141 := Tryz.isAgg182
 z141 := Tryz.sizeOf182
 v141 := Tryz.zeroValue182
 t152 := Tryz.underlying178
 a152 := Tryz.isAgg178
 z152 := Tryz.sizeOf178
 v152 := Tryz.zeroValue178
 t154 := Tryz.underlying180
 a154 := Tryz.isAgg180
 z154 := Tryz.sizeOf180
 v154 := Tryz.zeroValue180
 t193 := Tryz.underlying198
 a193 := Tryz.isAgg198
 z193 := Tryz.sizeOf198
 v193 := Tryz.zeroValue198
 t194 := Tryz.underlying199
 a194 := Tryz.isAgg199
 z194 := Tryz.sizeOf199
 v194 := Tryz.zeroValue199
 t196 := Tryz.underlying201
 a196 := Tryz.isAgg201
 z196 := Tryz.sizeOf201
 v196 := Tryz.zeroValue201
 t198 := Tryz.underlying204
 a198 := Tryz.isAgg204
 z198 := Tryz.sizeOf204
 v198 := Tryz.zeroValue204
 t201 := Tryz.underlying207
 a201 := Tryz.isAgg207
 z201 := Tryz.sizeOf207
 v201 := Tryz.zeroValue207
 t226 := Tryz.underlying216
 a226 := Tryz.isAgg216
 z226 := Tryz.sizeOf216
 v226 := Tryz.zeroValue216
 t227 := Tryz.underlying217
 a227 := Tryz.isAgg217
 z227 := Tryz.sizeOf217
 v227 := Tryz.zeroValue217
 g0 := by kernel_rfl
 g6 := by kernel_rfl }
def Tryz.laysCut_ren : Go.Shelf.Ren := ⟨fun | 145 => 113 | 220 => 144 | 219 => 168 | 217 => 185 | 225 => 186 | 224 => 187 | 267 => 188 | 266 => 194 | 314 => 195 | n => n,fun | 9 => 9 | 4 => 4 | 59 => 127 | 3 => 3 | 5 => 5 | 46 => 140 | 146 => 220 | 51 => 110 | n => n,fun | 1 => 4 | n => n⟩
theorem Tryz.laysCut : Go.Proofs.Lays.n145 Tryz.prog Tryz.laysCut_ren := {
 mixed := by kernel_rfl
 f145 := Tryz.func113.trans qF
 f217 := Tryz.func185.trans qF
 f219 := Tryz.func168.trans qF
 f220 := Tryz.func144.trans qF
 f224 := Tryz.func187.trans qF
 f225 := Tryz.func186.trans qF
 f266 := Tryz.func194.trans qF
 f267 := Tryz.func188.trans qF
 f314 := Tryz.func195.trans qF
 t3 := Tryz.underlying3
 a3 := Tryz.isAgg3
 z3 := Tryz.sizeOf3
 v3 := Tryz.zeroValue3
 t4 := Tryz.underlying4
 a4 := Tryz.isAgg4
 z4 := Tryz.sizeOf4
 v4 := Tryz.zeroValue4
 t5 := Tryz.underlying5
 a5 := Tryz.isAgg5
 z5 := Tryz.sizeOf5
 v5 := Tryz.zeroValue5
 t9 := Tryz.underlying9
 a9 := Tryz.isAgg9
 z9 := Tryz.sizeOf9
 v9 := Tryz.zeroValue9
 t46 := Tryz.underlying140
 a46 := Tryz.isAgg140
 z46 := Tryz.sizeOf140
 v46 := Tryz.zeroValue140
 t51 := Tryz.underlying110
 a51 := Tryz.isAgg110
 z51 := Tryz.sizeOf110
 v51 := Tryz.zeroValue110
 t59 := Tryz.underlying127
 a59 := Tryz.isAgg127
 z59 := Tryz.sizeOf127
 v59 := Tryz.zeroValue127
 t146 := Tryz.underlying220
 a146 := Tryz.isAgg220
 z146 := Tryz.sizeOf220
 v146 := Tryz.zeroValue220
 g1 := by kernel_rfl }
def Tryz.laysContains_ren : Go.Shelf.Ren := ⟨fun | 144 => 117 | 143 => 147 | 219 => 168 | 217 => 185 | 225 => 186 | 224 => 187 | 267 => 188 | 266 => 194 | 314 => 195 | n => n,fun | 9 => 9 | 4 => 4 | 3 => 3 | 5 => 5 | 46 => 140 | 146 => 220 | 51 => 110 | n => n,fun | 1 => 4 | n => n⟩
theorem Tryz.laysContains : Go.Proofs.Lays.n144 Tryz.prog Tryz.laysContains_ren := {
 mixed := by kernel_rfl
 f143 := Tryz.func147.trans qF
 f144 := Tryz.func117.trans qF
 f217 := Tryz.func185.trans qF
 f219 := Tryz.func168.trans qF
 f224 := Tryz.func187.trans qF
 f225 := Tryz.func186.trans qF
 f266 := Tryz.func194.trans qF
 f267 := Tryz.func188.trans qF
 f314 := Tryz.func195.trans qF
 t3 := Tryz.underlying3
 a3 := Tryz.isAgg3
 z3 := Tryz.sizeOf3
 v3 := Tryz.zeroValue3
 t4 := Tryz.underlying4
 a4 := Tryz.isAgg4
 z4 := Tryz.sizeOf4
 v4 := Tryz.zeroValue4
 t5 := Tryz.underlying5
 a5 := Tryz.isAgg5
 z5 := Tryz.sizeOf5
 v5 := Tryz.zeroValue5
 t9 := Tryz.underlying9
 a9 := Tryz.isAgg9
 z9 := Tryz.sizeOf9
 v9 := Tryz.zeroValue9
 t46 := Tryz.underlying140
 a46 := Tryz.isAgg140
 z46 := Tryz.sizeOf140
 v46 := Tryz.zeroValue140
 t51 := Tryz.underlying110
 a51 := Tryz.isAgg110
 z51 := Tryz.sizeOf110
 v51 := Tryz.zeroValue110
 t146 := Tryz.underlying220
 a146 := Tryz.isAgg220
 z146 := Tryz.sizeOf220
 v146 := Tryz.zeroValue220
 g1 := by kernel_rfl }
end Go.Proofs
namespace Go.Proofs.YtifgelimmddkpaaGreatDoor
open Go.RowKit
def Fits (x : Int) : Prop := -9223372036854775808 ≤ x ∧ x ≤ 9223372036854775807
def zW0 (x : Int) : List Int → Nat → Int
 | [],_ => -1
 | y :: l,k => if x == y then k else zW0 x l (k + 1)
def before (l : List Int) (a b : Int) : Bool := decide (0 ≤ zW0 a l 0) && decide (zW0 a l 0 < zW0 b l 0)
def V : List Nat → Nat
 | [] => 0
 | d :: l => d + 65536 * V l
def Dg (l : List Nat) : Prop := ∀ d ∈ l,d < 65536
def dig (n : Nat) : List Nat := if n = 0 then [] else (n % 65536) :: dig (n / 65536)
decreasing_by omega
theorem uE : dig 0 = [] := by rw [dig];simp
theorem xG {n : Nat} (h : n ≠ 0) : dig n = (n % 65536) :: dig (n / 65536) := by rw [dig];simp [h]
theorem bK0 : V [] = 0 := rfl
theorem kA (d : Nat) (l : List Nat) : V (d :: l) = d + 65536 * V l := rfl
theorem yS0 (a b : List Nat) : V (a ++ b) = V a + 65536 ^ a.length * V b := by
 induction a with
 | nil => simp [bK0]
 | cons d a ih => rw [List.cons_append,kA,ih,kA,Ak,Db,Nat.mul_add];rw [Nat.add_assoc];congr 2;rw [← Nat.mul_assoc];congr 1;exact Cs _ _
theorem tG (a : List Nat) (d : Nat) : V (a ++ [d]) = V a + 65536 ^ a.length * d := by rw [yS0,kA,bK0];simp
theorem Dg.nil : Dg [] := fun _ h => by cases h
theorem Dg.snoc {a : List Nat} (h : Dg a) {d : Nat} (h1 : d < 65536) : Dg (a ++ [d]) := fun x hx => by
 rcases Ax.1 hx with hx | hx
 ·exact h x hx
 ·rw [By.1 hx];exact h1
theorem Dg.take {a : List Nat} (h : Dg a) (n : Nat) : Dg (a.take n) := fun x hx => h x (Ci hx)
theorem Dg.at {a : List Nat} (h : Dg a) {i : Nat} (hi : i < a.length) : a[i] < 65536 := h _ (Ca hi)
theorem V_lt {l : List Nat} (h : Dg l) : V l < 65536 ^ l.length := by
 induction l with
 | nil => simp [bK0]
 | cons d l ih =>
  have h1 := h d (Ay ..);have h2 := ih (fun x hx => h x (Az _ hx));rw [kA,Ak,Db];omega
theorem kS {l : List Nat} {m : Nat} (h : m < l.length) : V (l.take (m + 1)) = V (l.take m) + 65536 ^ m * l[m] := by
 rw [Cp h,tG,Au,Nat.min_eq_left (Nat.le_of_lt h)]
theorem V_take_drop (l : List Nat) (m : Nat) (h : m ≤ l.length) : V l = V (l.take m) + 65536 ^ m * V (l.drop m) := by
 have e := yS0 (l.take m) (l.drop m);rw [List.take_append_drop,Au,Nat.min_eq_left h] at e;exact e
theorem cQ (n : Nat) : Dg (dig n) := by
 induction n using Nat.strongRecOn with
 | _ n ih =>
  by_cases h : n = 0
  ·subst h;rw [uE];exact Dg.nil
  ·rw [xG h];intro x hx;rcases Be.1 hx with rfl | hx
   ·omega
   ·exact ih (n / 65536) (by omega) x hx
theorem gD (n : Nat) : V (dig n) = n := by
 induction n using Nat.strongRecOn with
 | _ n ih =>
  by_cases h : n = 0
  ·subst h;rw [uE];rfl
  ·rw [xG h,kA,ih (n / 65536) (by omega)];omega
def cG0 (l : List Nat) : Prop := ∀ h : l ≠ [],l.getLast h ≠ 0
theorem dig_V {l : List Nat} (h : Dg l) (hn : cG0 l) : dig (V l) = l := by
 induction l with
 | nil => exact uE
 | cons d l ih =>
  have h1 := h d (Ay ..);have hl : Dg l := fun x hx => h x (Az _ hx);have hnl : cG0 l := fun hne => by
   have := hn (by simp);rw [List.getLast_cons hne] at this;exact this
  have h0 : V (d :: l) ≠ 0 := by
   rw [kA];intro e;have hd : d = 0 := by omega
   have hv : V l = 0 := by omega
   cases l with
   | nil => exact hn (by simp) (by simpa using hd)
   | cons x l =>
    have := ih hl hnl;rw [hv,uE] at this
    cases this
  rw [xG h0,kA];have e1 : (d + 65536 * V l) % 65536 = d := by omega
  have e2 : (d + 65536 * V l) / 65536 = V l := by omega
  rw [e1,e2,ih hl hnl]
theorem vM {n k : Nat} (h : n < 65536 ^ k) : (dig n).length ≤ k := by
 induction k generalizing n with
 | zero =>
  have : n = 0 := by simpa using h
  subst this;rw [uE];simp
 | succ k ih =>
  by_cases h0 : n = 0
  ·subst h0;rw [uE];simp
  ·rw [xG h0,Ak];have := ih (n := n / 65536) (by rw [Db] at h;omega);omega
theorem tY0 (n : Nat) : n < 65536 ^ (dig n).length := by
 have := V_lt (cQ n)
 rwa [gD] at this
theorem tZ0 {n : Nat} (h : n ≠ 0) : 65536 ^ ((dig n).length - 1) ≤ n := by
 rcases Cc n (65536 ^ ((dig n).length - 1)) with h1 | h1
 ·have h2 := vM h1;have : (dig n).length ≠ 0 := by rw [xG h];simp
  omega
 ·exact h1
theorem pP {x y : Nat} (h : (dig x).length < (dig y).length) : x < y := by
 have h0 : y ≠ 0 := by intro e;subst e;rw [uE] at h;simp at h
 have h1 := tY0 x;have h2 := tZ0 h0;exact Nat.lt_of_lt_of_le h1 (Bq (Dj (by omega) (by omega)) h2)
theorem qA {x y : Nat} (h : x ≤ y) : (dig x).length ≤ (dig y).length := by
 rcases Cc (dig y).length (dig x).length with h1 | h1
 ·have := pP h1;omega
 ·exact h1
theorem dig_eq_nil {n : Nat} : dig n = [] ↔ n = 0 := by
 constructor
 ·intro h;by_cases h0 : n = 0
  ·exact h0
  ·rw [xG h0] at h;cases h
 ·rintro rfl;exact uE
theorem xC {l : List Nat} {i : Nat} (h : i < l.length) : l.getD i 0 = l[i] := by rw [Ai,Ac h];rfl
theorem xD {l : List Nat} {i : Nat} (h : l.length ≤ i) : l.getD i 0 = 0 := by rw [Ai,Dd h];rfl
theorem uL (l : List Nat) (i : Nat) : V (l.take (i + 1)) = V (l.take i) + 65536 ^ i * (l.getD i 0) := by
 by_cases hl : i < l.length
 ·rw [kS hl,xC hl]
 ·rw [An (by omega),An (by omega),xD (by omega)];simp
theorem plus_step {la lb o : List Nat} {i c x : Nat} (h : V o + c * 65536 ^ i = V (la.take i) + V (lb.take i)) (ho : o.length = i)
  (hx : x = c + (la.getD i 0) + (lb.getD i 0)) :
  V (o ++ [(x % 65536)]) + x / 65536 * 65536 ^ (i + 1) = V (la.take (i + 1)) + V (lb.take (i + 1)) := by
 rw [tG,ho,uL la,uL lb,Db];generalize 65536 ^ i = B at *;have e : x = 65536 * (x / 65536) + x % 65536 := (Nat.div_add_mod x 65536).symm;have e2 : B * x = B * (65536 * (x / 65536)) + B * (x % 65536) := by rw [← Nat.mul_add,← e]
 have e3 : B * x = B * c + B * (la.getD i 0) + B * (lb.getD i 0) := by rw [hx,Nat.mul_add,Nat.mul_add]
 have e4 : x / 65536 * (B * 65536) = B * (65536 * (x / 65536)) := by rw [Cs,Nat.mul_assoc]
 have e5 : c * B = B * c := Cs _ _;omega
theorem minus_step {la lb o : List Nat} {i c x c' : Nat} (h : V o + V (lb.take i) = V (la.take i) + c * 65536 ^ i) (ho : o.length = i) (hi : i < la.length) (hx : x + (lb.getD i 0) + c = la[i] + 65536 * c') :
  V (o ++ [x]) + V (lb.take (i + 1)) = V (la.take (i + 1)) + c' * 65536 ^ (i + 1) := by
 rw [tG,ho,uL lb,kS hi,Db];generalize 65536 ^ i = B at *;have e1 : B * x + B * (lb.getD i 0) + B * c = B * la[i] + B * (65536 * c') := by rw [← Nat.mul_add,← Nat.mul_add,← Nat.mul_add,hx]
 have e2 : c' * (B * 65536) = B * (65536 * c') := by rw [Cs,Nat.mul_assoc]
 have e3 : c * B = B * c := Cs _ _;omega
def cmpN (x y : Nat) : Int := if x < y then -1 else if y < x then 1 else 0
theorem dO0 {l : List Nat} {i : Nat} (h : i < l.length) : V l = V (l.take i) + 65536 ^ i * (l[i] + 65536 * V (l.drop (i + 1))) := by
 rw [V_take_drop l i (Nat.le_of_lt h),Dk h,kA]
theorem lt_at {la lb : List Nat} {i : Nat} (ha : Dg la) (hl : la.length = lb.length) (hi : i < la.length) (hd : la.drop (i + 1) = lb.drop (i + 1)) (h : la[i] < lb[i]) : V la < V lb := by
 rw [dO0 hi,dO0 (l := lb) (i := i) (by omega),hd];have h1 := V_lt (ha.take i);rw [Au,Nat.min_eq_left (Nat.le_of_lt hi)] at h1;generalize 65536 * V (lb.drop (i + 1)) = D;have h4 : 65536 ^ i * (la[i] + D) + 65536 ^ i ≤ 65536 ^ i * (lb[i] + D) := by
  rw [← Nat.mul_succ];exact Do _ (by omega)
 omega
theorem double_step {la o : List Nat} {i c one x : Nat} (h : V o + c * 65536 ^ i = 2 * V (la.take i) + one) (ho : o.length = i) (hi : i < la.length) (hx : x = 2 * la[i] + c) :
  V (o ++ [(x % 65536)]) + x / 65536 * 65536 ^ (i + 1) = 2 * V (la.take (i + 1)) + one := by
 rw [tG,ho,kS hi,Db];generalize 65536 ^ i = B at *;have e : x = 65536 * (x / 65536) + x % 65536 := (Nat.div_add_mod x 65536).symm;have e2 : B * x = B * (65536 * (x / 65536)) + B * (x % 65536) := by rw [← Nat.mul_add,← e]
 have e3 : B * x = B * (2 * la[i]) + B * c := by rw [hx,Nat.mul_add]
 have e4 : x / 65536 * (B * 65536) = B * (65536 * (x / 65536)) := by rw [Cs,Nat.mul_assoc]
 have e5 : c * B = B * c := Cs _ _;have e6 : B * (2 * la[i]) = 2 * (B * la[i]) := by rw [Nat.mul_left_comm]
 omega
def VB : List Bool → Nat
 | [] => 0
 | b :: l => b.toNat + 2 * VB l
theorem tH (b : Bool) (l : List Bool) : VB (b :: l) = b.toNat + 2 * VB l := rfl
theorem jX0 (a b : List Bool) : VB (a ++ b) = VB a + 2 ^ a.length * VB b := by
 induction a with
 | nil => simp [VB]
 | cons d a ih => rw [List.cons_append,tH,ih,tH,Ak,Db,Nat.mul_add,Nat.add_assoc];congr 2;rw [← Nat.mul_assoc];congr 1;exact Cs _ _
theorem VB_snoc (a : List Bool) (b : Bool) : VB (a ++ [b]) = VB a + 2 ^ a.length * b.toNat := by rw [jX0,tH];simp [VB]
theorem VB_lt (l : List Bool) : VB l < 2 ^ l.length := by
 induction l with
 | nil => simp [VB]
 | cons b l ih => rw [tH,Ak,Db];cases b <;> simp <;> omega
theorem ones_step {o : List Bool} {j x X : Nat} (h : VB o + x * 2 ^ j = X) (ho : o.length = j) : VB (o ++ [x % 2 == 1]) + x / 2 * 2 ^ (j + 1) = X := by
 rw [VB_snoc,ho,Db,← h];have e : x = 2 * (x / 2) + x % 2 := (Nat.div_add_mod x 2).symm;have e2 : x * 2 ^ j = x / 2 * (2 ^ j * 2) + 2 ^ j * (x % 2) := by
  conv => lhs;rw [e,Bt]
  rw [Cs (x % 2),Cs 2 (x / 2),Nat.mul_assoc,Cs 2 (2 ^ j)]
 have e3 : (x % 2 == 1).toNat = x % 2 := by rcases Nat.mod_two_eq_zero_or_one x with h2 | h2 <;> simp [h2]
 rw [e3];omega
def xL (l : List Bool) (i k : Nat) : Nat := VB ((l.drop (i + k)).take (16 - k))
theorem chunk_top (l : List Bool) (i : Nat) : xL l i 16 = 0 := by unfold xL;simp [VB]
theorem chunk_step {l : List Bool} {i k : Nat} (hk : k < 16) : xL l i k = 2 * xL l i (k + 1) + (if h : i + k < l.length then (l[i + k]).toNat else 0) := by
 unfold xL;by_cases h : i + k < l.length
 ·rw [dif_pos h,Dk h,show 16 - k = 16 - (k + 1) + 1 by omega,List.take_succ_cons,tH,show i + (k + 1) = i + k + 1 by omega];omega
 ·rw [dif_neg h,Bx (by omega),Bx (by omega)];simp [VB]
theorem xY0 (l : List Bool) (i k : Nat) : xL l i k < 65536 := by
 have h1 := VB_lt ((l.drop (i + k)).take (16 - k));have h2 : 2 ^ ((l.drop (i + k)).take (16 - k)).length ≤ 2 ^ 16 := Dj (by omega) (by simp;omega);unfold xL;omega
theorem binary_step {l : List Bool} {o : List Nat} {j : Nat} (h : V o = VB (l.take (16 * j))) (ho : o.length = j) (hj : 16 * j < l.length) : V (o ++ [(xL l (16 * j) 0)]) = VB (l.take (16 * (j + 1))) := by
 rw [tG,h,ho];have e : l.take (16 * (j + 1)) = l.take (16 * j) ++ (l.drop (16 * j)).take 16 := by rw [show 16 * (j + 1) = 16 * j + 16 by omega,List.take_add]
 rw [e,jX0,Au,Nat.min_eq_left (Nat.le_of_lt hj),Nat.pow_mul];rfl
theorem gcd_even2 {a b : Nat} (ha : a % 2 = 0) (hb : b % 2 = 0) : Nat.gcd a b = 2 * Nat.gcd (a / 2) (b / 2) := by
 rw [← Nat.gcd_mul_left,show 2 * (a / 2) = a by omega,show 2 * (b / 2) = b by omega]
theorem jE0 {a b : Nat} (ha : a % 2 = 0) (hb : b % 2 = 1) : Nat.gcd a b = Nat.gcd (a / 2) b := by
 have h : Nat.Coprime 2 b := by
  have h1 : Nat.gcd 2 b ∣ 2 := Nat.gcd_dvd_left 2 b;have h2 := Nat.gcd_dvd_right 2 b;have h3 := Nat.le_of_dvd (by omega) h1;have h0 : Nat.gcd 2 b ≠ 0 := fun e => by rw [e] at h1;simp at h1
  rcases (show Nat.gcd 2 b = 1 ∨ Nat.gcd 2 b = 2 by omega) with h4 | h4
  ·exact h4
  ·rw [h4] at h2;omega
 have e : a = 2 * (a / 2) := by omega
 conv => lhs;rw [e]
 exact Nat.Coprime.gcd_mul_left_cancel _ h
theorem xN0 {a b : Nat} (h : b ≤ a) : Nat.gcd a b = Nat.gcd (a - b) b := by
 conv => lhs;rw [show a = (a - b) + b by omega]
 exact Nat.gcd_add_self_left ..
theorem plus_in {la lb o : List Nat} {k c : Nat} (ha : Dg la) (hb : Dg lb) (h : V o + c * 65536 ^ k = V (la.take k) + V (lb.take k)) (hc : 0 < c) : k ≤ la.length + lb.length := by
 rcases Cc (la.length + lb.length) k with h1 | h1
 ·rw [An (by omega),An (by omega)] at h;have h2 := V_lt ha;have h3 := V_lt hb;have h4 : 65536 ^ la.length ≤ 65536 ^ (la.length + lb.length) := Dj (by omega) (by omega);have h5 : 65536 ^ lb.length ≤ 65536 ^ (la.length + lb.length) := Dj (by omega) (by omega);have h6 : 65536 ^ (la.length + lb.length + 1) ≤ 65536 ^ k := Dj (by omega) (by omega);have h7 : 65536 ^ k ≤ c * 65536 ^ k := Nat.le_mul_of_pos_left _ hc;rw [Db] at h6;omega
 ·exact h1
theorem plus_done {la lb o : List Nat} {k : Nat} (h : V o + 0 * 65536 ^ k = V (la.take k) + V (lb.take k)) (h1 : la.length ≤ k) (h2 : lb.length ≤ k) : V o = V la + V lb := by
 rw [An h1,An h2] at h;omega
theorem minus_done {la lb o : List Nat} {c : Nat} (ho : Dg o) (hl : o.length = la.length) (h : V o + V (lb.take la.length) = V (la.take la.length) + c * 65536 ^ la.length) (hle : V lb ≤ V la) (hbl : lb.length ≤ la.length) : V o = V la - V lb := by
 rw [An hbl,An (Ar _)] at h;have h1 := V_lt ho;rw [hl] at h1;rcases Cu c with rfl | hc
 ·omega
 ·have h7 : 65536 ^ la.length ≤ c * 65536 ^ la.length := Nat.le_mul_of_pos_left _ hc;omega
def VL : List Nat → Nat
 | [] => 0
 | d :: l => d + 4294967296 * VL l
def Lg (l : List Nat) : Prop := ∀ d ∈ l,d < 4294967296
def lim (n : Nat) : List Nat := if n = 0 then [] else (n % 4294967296) :: lim (n / 4294967296)
decreasing_by omega
theorem mE : lim 0 = [] := by rw [lim];simp
theorem uX0 {n : Nat} (h : n ≠ 0) : lim n = (n % 4294967296) :: lim (n / 4294967296) := by rw [lim];simp [h]
theorem zQ1 : VL [] = 0 := rfl
theorem zA0 (d : Nat) (l : List Nat) : VL (d :: l) = d + 4294967296 * VL l := rfl
theorem L_append (a b : List Nat) : VL (a ++ b) = VL a + 4294967296 ^ a.length * VL b := by
 induction a with
 | nil => simp [zQ1]
 | cons d a ih => rw [List.cons_append,zA0,ih,zA0,Ak,Db,Nat.mul_add];rw [Nat.add_assoc];congr 2;rw [← Nat.mul_assoc];congr 1;exact Cs _ _
theorem cH0 (a : List Nat) (d : Nat) : VL (a ++ [d]) = VL a + 4294967296 ^ a.length * d := by rw [L_append,zA0,zQ1];simp
theorem Lg.nil : Lg [] := fun _ h => by cases h
theorem Lg.snoc {a : List Nat} (h : Lg a) {d : Nat} (h1 : d < 4294967296) : Lg (a ++ [d]) := fun x hx => by
 rcases Ax.1 hx with hx | hx
 ·exact h x hx
 ·rw [By.1 hx];exact h1
theorem Lg.take {a : List Nat} (h : Lg a) (n : Nat) : Lg (a.take n) := fun x hx => h x (Ci hx)
theorem Lg.at {a : List Nat} (h : Lg a) {i : Nat} (hi : i < a.length) : a[i] < 4294967296 := h _ (Ca hi)
theorem L_lt {l : List Nat} (h : Lg l) : VL l < 4294967296 ^ l.length := by
 induction l with
 | nil => simp [zQ1]
 | cons d l ih =>
  have h1 := h d (Ay ..);have h2 := ih (fun x hx => h x (Az _ hx));rw [zA0,Ak,Db];omega
theorem tI {l : List Nat} {m : Nat} (h : m < l.length) : VL (l.take (m + 1)) = VL (l.take m) + 4294967296 ^ m * l[m] := by
 rw [Cp h,cH0,Au,Nat.min_eq_left (Nat.le_of_lt h)]
theorem lim_Dg (n : Nat) : Lg (lim n) := by
 induction n using Nat.strongRecOn with
 | _ n ih =>
  by_cases h : n = 0
  ·subst h;rw [mE];exact Lg.nil
  ·rw [uX0 h];intro x hx;rcases Be.1 hx with rfl | hx
   ·omega
   ·exact ih (n / 4294967296) (by omega) x hx
def vT0 (l : List Nat) : Prop := ∀ h : l ≠ [],l.getLast h ≠ 0
theorem lim_V {l : List Nat} (h : Lg l) (hn : vT0 l) : lim (VL l) = l := by
 induction l with
 | nil => exact mE
 | cons d l ih =>
  have h1 := h d (Ay ..);have hl : Lg l := fun x hx => h x (Az _ hx);have hnl : vT0 l := fun hne => by
   have := hn (by simp);rw [List.getLast_cons hne] at this;exact this
  have h0 : VL (d :: l) ≠ 0 := by
   rw [zA0];intro e;have hd : d = 0 := by omega
   have hv : VL l = 0 := by omega
   cases l with
   | nil => exact hn (by simp) (by simpa using hd)
   | cons x l =>
    have := ih hl hnl;rw [hv,mE] at this
    cases this
  rw [uX0 h0,zA0];have e1 : (d + 4294967296 * VL l) % 4294967296 = d := by omega
  have e2 : (d + 4294967296 * VL l) / 4294967296 = VL l := by omega
  rw [e1,e2,ih hl hnl]
theorem lim_length_le {n k : Nat} (h : n < 4294967296 ^ k) : (lim n).length ≤ k := by
 induction k generalizing n with
 | zero =>
  have : n = 0 := by simpa using h
  subst this;rw [mE];simp
 | succ k ih =>
  by_cases h0 : n = 0
  ·subst h0;rw [mE];simp
  ·rw [uX0 h0,Ak];have := ih (n := n / 4294967296) (by rw [Db] at h;omega);omega
theorem tJ {l : List Nat} {i : Nat} (h : i < l.length) : l.getD i 0 = l[i] := by rw [Ai,Ac h];rfl
theorem of_step {l o : List Nat} {i : Nat} (h : V o = VL (l.take i)) (ho : o.length = 2 * i) (hi : i < l.length) : V (o ++ [l[i] % 65536,l[i] / 65536]) = VL (l.take (i + 1)) := by
 rw [yS0,h,ho,tI hi,kA,kA,bK0];have e : l[i] % 65536 + 65536 * (l[i] / 65536 + 65536 * 0) = l[i] := by omega
 rw [e,Nat.pow_mul]
theorem of_Dg {o : List Nat} (h : Dg o) {x : Nat} (hx : x < 4294967296) : Dg (o ++ [x % 65536,x / 65536]) := fun y hy => by
 rcases Ax.1 hy with hy | hy
 ·exact h y hy
 ·simp only [Be,Du,or_false] at hy;rcases hy with rfl | rfl <;> omega
theorem limbs_step {a o : List Nat} {j : Nat} (h : VL o = V (a.take (2 * j))) (ho : o.length = j) : VL (o ++ [a.getD (2 * j) 0 + a.getD (2 * j + 1) 0 * 65536]) = V (a.take (2 * (j + 1))) := by
 rw [cH0,h,ho,show 2 * (j + 1) = 2 * j + 1 + 1 by omega,uL,uL,Db,Nat.mul_add,Nat.pow_mul,Nat.add_assoc];congr 2;show 4294967296 ^ j * _ = _;rw [Cs (a.getD (2 * j + 1) 0),← Nat.mul_assoc]
theorem limbs_end {n : Nat} {o : List Nat} (h : VL o = V ((dig n).take (2 * o.length))) (hl : (dig n).length ≤ 2 * o.length) (hl2 : 2 * o.length < (dig n).length + 2) (hg : Lg o) : o = lim n := by
 rw [An hl,gD] at h;have hn : vT0 o := fun hne => by
  intro e;have hpos : 0 < o.length := List.length_pos_iff.2 hne;rw [List.getLast_eq_getElem] at e;have h1 := tI (l := o) (m := o.length - 1) (by omega);rw [e,show o.length - 1 + 1 = o.length by omega,An (Ar _),h] at h1;have h2 := L_lt (hg.take (o.length - 1));rw [Au,Nat.min_eq_left (by omega)] at h2;have h0 : n ≠ 0 := by
   intro e0;subst e0;rw [uE] at hl2;simp at hl2;omega
  have h3 := tZ0 h0;have h4 : 4294967296 ^ (o.length - 1) = 65536 ^ (2 * (o.length - 1)) := by rw [Nat.pow_mul]
  have h5 : 65536 ^ (2 * (o.length - 1)) ≤ 65536 ^ ((dig n).length - 1) := Dj (by omega) (by omega);omega
 rw [← lim_V hg hn,h]
section
variable {P : Program} {b : Ba}
def exJ {ι : Type} (I : ι → DS) (K : Exit → DS → Prop) (ex : Exit) (S : DS) : Prop := match ex with
 | .normal => ∃ i,LeD S (I i)
 | e => K e S
theorem qG {ι : Type} {I : ι → DS} {K : Exit → DS → Prop} {S : DS} (i : ι) (h : LeD S (I i)) : exJ I K .normal S := ⟨i,h⟩
theorem kL {ι : Type} {I : ι → DS} {K : Exit → DS → Prop} {S : DS} (h : K .ret S) : exJ I K .ret S := h
theorem xF {ι : Type} (ks os : List Nat) (N : Nat) (chg : ι → List (Nat × D)) (ochg : ι → List (Nat × DOwn)) {x y : Code} {tm : List (Nat × D)} {ow : List (Nat × DOwn)} {nx : Nat} {K : Exit → DS → Prop}
  (h : gZ0 ks tm fun base => gY0 os ow fun ob => Ev P b x ⟨tm,ow,nx⟩ (exJ (fun i => ⟨chg i ++ base,ochg i ++ ob,N⟩) K) ∧ ∀ i,Ev P b y ⟨chg i ++ base,ochg i ++ ob,N⟩ K) : Ev P b (.seq x y) ⟨tm,ow,nx⟩ K := by
 obtain ⟨base,h1⟩ := mG h;obtain ⟨ob,h2,h3⟩ := mF h1;refine zB ?_;intro w s g a Q hr hK;refine h2 w s g a Q hr fun ex w' s' g' a' S' h4 h5 => hK ex w' s' g' a' S' h4 ?_
 cases ex with
 | normal =>
  obtain ⟨i,hi⟩ := h5;exact qC1 _ hi (h3 i)
 | _ => exact h5
end
def thwD (k : Nat) : D → D
 | .own k' sz rows => match Nat.beq k' k with
  | true => match rows with
   | [] => .mo k' 0
   | r :: l => .own k' sz (r :: l)
  | false => .own k' sz rows
 | d => d
def thwL (k : Nat) : List D → List D
 | [] => []
 | d :: l => thwD k d :: thwL k l
def thwT (k : Nat) : List (Nat × D) → List (Nat × D)
 | [] => []
 | (t,d) :: l => (t,thwD k d) :: thwT k l
def thwO (k : Nat) (e : TypeId) (sz : Nat) : List (Nat × DOwn) → List (Nat × DOwn)
 | [] => []
 | (j,c) :: l => (match Nat.beq j k with
  | true => (j,.mrow e sz (.lst []))
  | false => match c with
   | .box t cs => (j,.box t (thwL k cs))
   | c => (j,c)) :: thwO k e sz l
theorem vY0 {k : Nat} : ∀ {l : List (Nat × D)} {t : Nat},yX t (thwT k l) = (yX t l).map (thwD k)
 | [],_ => rfl
 | (u,d) :: l,t => by
  show yX t ((u,thwD k d) :: thwT k l) = _;rw [yV,yV];by_cases h : u = t
  ·simp [h]
  ·rw [Aa h,Aa h];exact vY0
theorem kT0 {w : World} {s : Sb} {g : Gh} {k : Nat} (hmo : ∀ v,g.gn k 0 = some v → (TV.mo k 0).P w s g v) {d : D} {v : Value} (hv : d.tv.P w s g v) : (thwD k d).tv.P w s g v := by
 cases d with
 | own k' sz rows =>
  show (match Nat.beq k' k with | true => (match rows with | [] => D.mo k' 0 | r :: l => D.own k' sz (r :: l)) | false => D.own k' sz rows).tv.P w s g v
  cases hb : Nat.beq k' k with
  | false => exact hv
  | true =>
   have e := Ag hb;subst e
   cases rows with
   | nil =>
    rw [D.tv,TV.P] at hv;show (D.mo k' 0).tv.P w s g v;rw [D.tv];exact hmo v hv.2
   | cons r l => exact hv
 | _ => exact hv
theorem kS0 {w : World} {s : Sb} {g : Gh} {k : Nat} (hmo : ∀ v,g.gn k 0 = some v → (TV.mo k 0).P w s g v) : ∀ {l : List D} {vs : List Value},AllT w s g (D.tvl l) vs → AllT w s g (D.tvl (thwL k l)) vs
 | [],vs,hv => by cases vs with | nil => rw [thwL,D.tvl];trivial | cons _ _ => exact hv.elim
 | d :: l,[],hv => by rw [D.tvl] at hv;exact hv.elim
 | d :: l,v :: vs,hv => by
  rw [D.tvl] at hv;rw [thwL,D.tvl];exact ⟨kT0 hmo hv.1,kS0 hmo hv.2⟩
theorem wA0 {k : Nat} : ∀ {l : List D},(∀ d ∈ D.tvl l,d.one = true) → ∀ d ∈ D.tvl (thwL k l),d.one = true
 | [],_,d,hd => by rw [thwL,D.tvl] at hd;cases hd
 | x :: l,h,d,hd => by
  rw [thwL,D.tvl] at hd;rw [D.tvl] at h;rcases Be.1 hd with rfl | hd
  ·have h1 := h x.tv (by simp)
   cases x with
   | own k' sz rows =>
    show (match Nat.beq k' k with | true => (match rows with | [] => D.mo k' 0 | r :: l => D.own k' sz (r :: l)) | false => D.own k' sz rows).tv.one = true
    cases Nat.beq k' k with
    | false => rfl
    | true => cases rows <;> rfl
   | _ => exact h1
  ·exact wA0 (fun y hy => h y (by simp [hy])) d hd
theorem vZ0 {k : Nat} {e : TypeId} {sz : Nat} : ∀ {l : List (Nat × DOwn)} {j : Nat} {c : DOwn},yX j (thwO k e sz l) = some c → ∃ c0,yX j l = some c0 ∧ ((j = k ∧ c = .mrow e sz (.lst [])) ∨ (j ≠ k ∧ ((∃ t cs,c0 = .box t cs ∧ c = .box t (thwL k cs)) ∨ (c = c0 ∧ ∀ t cs,c0 ≠ .box t cs))))
 | [],_,_,h => by cases h
 | (i,c0) :: l,j,c,h => by
  unfold thwO at h;have step : ∀ x : DOwn,yX j ((i,x) :: thwO k e sz l) = some c → (i = j ∧ x = c) ∨ (i ≠ j ∧ yX j (thwO k e sz l) = some c) := fun x hx => by
   rw [yV] at hx;by_cases hi : i = j
   ·rw [Ab hi] at hx;exact .inl ⟨hi,Option.some.inj hx⟩
   ·rw [Aa hi] at hx;exact .inr ⟨hi,hx⟩
  have rest : i ≠ j → yX j (thwO k e sz l) = some c → ∃ c0',yX j ((i,c0) :: l) = some c0' ∧ ((j = k ∧ c = .mrow e sz (.lst [])) ∨ (j ≠ k ∧ ((∃ t cs,c0' = .box t cs ∧ c = .box t (thwL k cs)) ∨ (c = c0' ∧ ∀ t cs,c0' ≠ .box t cs)))) := fun hi hx => by
   obtain ⟨c1,h1,h2⟩ := vZ0 hx;exact ⟨c1,by rw [yV,Aa hi];exact h1,h2⟩
  cases hb : Nat.beq i k with
  | true =>
   rw [hb] at h;have hik := Ag hb;rcases step _ h with ⟨rfl,rfl⟩ | ⟨hi,hx⟩
   ·exact ⟨c0,by rw [yV];simp,.inl ⟨hik,rfl⟩⟩
   ·exact rest hi hx
  | false =>
   rw [hb] at h;have hik : i ≠ k := by rintro rfl;rw [Nat.beq_refl] at hb;cases hb
   cases c0 with
   | box t cs =>
    rcases step _ h with ⟨rfl,rfl⟩ | ⟨hi,hx⟩
    ·exact ⟨_,by rw [yV];simp,.inr ⟨hik,.inl ⟨t,cs,rfl,rfl⟩⟩⟩
    ·exact rest hi hx
   | _ =>
    rcases step _ h with ⟨rfl,rfl⟩ | ⟨hi,hx⟩
    ·exact ⟨_,by rw [yV];simp,.inr ⟨hik,.inr ⟨rfl,fun _ _ h => by cases h⟩⟩⟩
    ·exact rest hi hx
section
variable {P : Program} {b : Ba}
theorem kM (k : Nat) {e : TypeId} {sz : Nat} {c : Code} {tm : List (Nat × D)} {ow : List (Nat × DOwn)} {nx : Nat} {K : Exit → DS → Prop} (hk : yX k ow = some (.row e sz 0))
  (h : Ev P b c ⟨thwT k tm,thwO k e sz ow,nx⟩ K) : Ev P b c ⟨tm,ow,nx⟩ K := by
 intro w s g a Q hr hK;have hk0 : fnd k (ows ow) = some (.row e sz 0) := by rw [qP,hk];rfl
 obtain ⟨hok,hblk⟩ := hr.ow k _ hk0;obtain ⟨hmr,hmo⟩ := hok.thaw;have howf : ∀ {j : Nat} {c : Own},fnd j (ows (thwO k e sz ow)) = some c → ∃ c0,fnd j (ows ow) = some c0 ∧ Ok1 w s g j c ∧ blk g j c = blk g j c0 := fun {j c} hj => by
  rw [qP] at hj
  cases hq : yX j (thwO k e sz ow) with
  | none => rw [hq] at hj;cases hj
  | some d =>
   rw [hq] at hj
   cases hj;obtain ⟨c0,h1,h2⟩ := vZ0 hq;have h1' : fnd j (ows ow) = some c0.o := by rw [qP,h1];rfl
   refine ⟨c0.o,h1',?_⟩;rcases h2 with ⟨rfl,rfl⟩ | ⟨hne,⟨t,cs,rfl,rfl⟩ | ⟨rfl,_⟩⟩
   ·rw [hk] at h1
    cases h1;exact ⟨hmr,rfl⟩
   ·obtain ⟨N,vs,g1,g2,g3,g4,g5⟩ := (hr.ow j _ h1').1;exact ⟨⟨N,vs,g1,g2,kS0 hmo g3,wA0 g4,g5⟩,rfl⟩
   ·exact ⟨(hr.ow j _ h1').1,rfl⟩
 refine h w s g a Q ⟨hr.kp,hr.lt,hr.sz,fun t d hd => ?_,fun j c hj => ?_,fun j j' c c' N h1 h2 hne hb => ?_,hr.fr,hr.df,hr.gb⟩ hK
 ·have hd' : fnd t (tvs (thwT k tm)) = some d := hd;rw [qM,vY0] at hd'
  cases hq : yX t tm with
  | none => rw [hq] at hd';cases hd'
  | some x =>
   rw [hq] at hd'
   cases hd';obtain ⟨v,h1,h2⟩ := hr.tm t x.tv (by show fnd t (tvs tm) = _;rw [qM,hq];rfl);exact ⟨v,h1,kT0 hmo h2⟩
 ·obtain ⟨c0,h1,h2,h3⟩ := howf hj;exact ⟨h2,fun N hb => (hr.ow j c0 h1).2 N (by rw [← h3];exact hb)⟩
 ·obtain ⟨c0,e1,_,e3⟩ := howf h1;obtain ⟨d0,f1,_,f3⟩ := howf h2;rw [f3];exact hr.sep j j' c0 d0 N e1 f1 hne (by rw [← e3];exact hb)
end
theorem Sub.mo {k n m : Nat} (h : n = m) : Sub (.mo k n) (.mo k m) := by subst h;exact Sub.refl _
theorem SubO.mr {ty : TypeId} {sz : Nat} {m m' : MR} (h : m.rows = m'.rows) : SubO (.mrow ty sz m) (.mrow ty sz m') := ⟨rfl,rfl,congrArg D.pvss h⟩
theorem SubO.mp {ty : TypeId} {sz : Nat} {m m' : MR} (h : D.pvss m.rows = D.pvss m'.rows) : SubO (.mrow ty sz m) (.mrow ty sz m') := ⟨rfl,rfl,h⟩
end Go.Proofs.YtifgelimmddkpaaGreatDoor
