/- Part 22 of the proof. -/
import Derived.Test.YtnmgpaaioojafaaGreatDoorM21
import Derived.Test.YtnmgpaaioojafaaGreatDoorProg
import Derived.Ground.NamesProg
import Derived.Shelf.Spec.SlicesGrow
import Derived.Shelf.Strconv.Itoa3
import Derived.Shelf.Strconv.Quote
import Derived.Test.YtnmgpaaioojafaaGreatDoorM12
import Derived.Test.YtnmgpaaioojafaaGreatDoorM16
import Derived.Test.YtnmgpaaioojafaaGreatDoorM19
namespace Go.Proofs.YtnmgpaaioojafaaGreatDoor
open Go.RowKit
variable {md me : Bool}
theorem CloneU_ok (l : List Nat) (hl : l.length ≤ 2000000) : FnO Tryz.prog 44 [usD l] 74 1 (l.map uD) := by
 refine fnO_ev Tryz.func44 rfl rfl rfl rfl rfl rfl ?_;intro w0 s0 mx;refine zB (zE tabT [5] 100 rfl ?_);repeat (first | refine zG ?_ | refine zH ?_ | refine zQ (by exact qE hl) ?_)
 refine zC (zA ?_);refine zB ?_;refine zB ?_;refine ev_nilRegion Tryz.underlying25 rfl rfl rfl fun c hc => ?_;refine zA ?_;refine zR rfl (fun c1 => ?_) (fun c1 => ?_)
 ·
  refine zB (zE tabT [5] 300 rfl ?_);repeat (first | refine zG ?_ | refine zH ?_ | refine zQ (by exact qE hl) ?_)
  refine zC (zA (zN (zM ?_)));exact FinO.nil rfl (by rw [hc c1];rfl)
 ·
  refine zK (zA ?_);refine zB (zE tabT [5] 400 rfl ?_);repeat (first | refine zG ?_ | refine zH ?_ | refine zQ (by first | rfl | exact qE hl | (rw [List.length_nil];have := qE (f := uD) hl;omega) | (have := qE (f := uD) hl;simp at this ⊢;omega)) ?_)
  refine zC (zA (zN ?_));exact FinO.ret rfl rfl rfl rfl
variable {md me : Bool}
structure Fd {α : Type} (l : List α) (p : α → Bool) where
 k : Nat
 le : k ≤ l.length
 eq : (l.drop k).find? p = l.find? p
def Fd.next {α : Type} {l : List α} {p : α → Bool} (x : Fd l p) (e : α) (hk : x.k < l.length) (h0 : p (l.getD (x.k : Int).toNat e) = false) : Fd l p := ⟨x.k + 1,hk,by rw [← x.eq,drop_at hk e,List.find?_cons_of_neg (by rw [h0];decide)]⟩
theorem Fd.found {α : Type} {l : List α} {p : α → Bool} (x : Fd l p) (e : α) (hk : x.k < l.length) (h0 : p (l.getD (x.k : Int).toNat e) = true) : l.find? p = some (l.getD (x.k : Int).toNat e) := by rw [← x.eq,drop_at hk e,List.find?_cons_of_pos h0]
theorem Fd.none {α : Type} {l : List α} {p : α → Bool} (x : Fd l p) (hk : l.length ≤ x.k) : l.find? p = none := by rw [← x.eq,List.drop_of_length_le hk];rfl
variable {md me : Bool}
end Go.Proofs.YtnmgpaaioojafaaGreatDoor
/-
  DERIVED: THE SHELF's CONTRACTS AT THIS DUMP,IN PLAIN WORDS (tools/lay-plain.mjs out of 'YtnmgpaaioojafaaGreatDoorShelf3.lean',which tools/lay-shelf.mjs wrote): THE SAME DECLARATIONS UNDER THE SAME NAMES: 'import','namespace','open','def','theorem' AND NOTHING ELSE: no command of the shelf's: FOR A HAND-IN. Each laying: the table of numbers ('.._ren') and one theorem,a field a fact of the dump's own or the kernel's comparison;each contract: ONE APPLICATION.
-/
namespace Go.Proofs
open Go.Shelf
def Tryz.laysGrowV_ren : Go.Shelf.Ren := ⟨fun | 4 => 46 | n => n,fun | 22 => 30 | 25 => 29 | 3 => 3 | 4 => 4 | 9 => 9 | 20 => 20 | 0 => 0 | n => n,fun | n => n⟩
theorem Tryz.laysGrowV : Go.Proofs.Lays8.n4 Tryz.prog Tryz.laysGrowV_ren := {
 mixed := by kernel_rfl
 f4 := ⟨Tryz.f46.name,by decide,Tryz.func46.trans (congrArg some (by kernel_rfl))⟩
 t0 := Tryz.underlying0
 a0 := Tryz.isAgg0
 z0 := Tryz.sizeOf0
 v0 := Tryz.zeroValue0
 t3 := Tryz.underlying3
 a3 := Tryz.isAgg3
 z3 := Tryz.sizeOf3
 v3 := Tryz.zeroValue3
 t4 := Tryz.underlying4
 a4 := Tryz.isAgg4
 z4 := Tryz.sizeOf4
 v4 := Tryz.zeroValue4
 t9 := Tryz.underlying9
 a9 := Tryz.isAgg9
 z9 := Tryz.sizeOf9
 v9 := Tryz.zeroValue9
 t20 := Tryz.underlying20
 a20 := Tryz.isAgg20
 z20 := Tryz.sizeOf20
 v20 := Tryz.zeroValue20
 t22 := Tryz.underlying30
 a22 := Tryz.isAgg30
 z22 := Tryz.sizeOf30
 v22 := Tryz.zeroValue30 }
def Tryz.laysItoa_ren : Go.Shelf.Ren := ⟨fun | 171 => 126 | 243 => 139 | 246 => 146 | 283 => 149 | 284 => 150 | 285 => 151 | 286 => 152 | 129 => 158 | 317 => 157 | 318 => 159 | 319 => 160 | 320 => 161 | 337 => 165 | 338 => 166 | n => n,fun | 3 => 3 | 9 => 9 | 2 => 2 | 4 => 4 | 171 => 186 | 0 => 0 | 53 => 156 | 37 => 108 | 5 => 5 | 173 => 189 | 212 => 193 | 51 => 74 | 20 => 20 | 213 => 194 | 46 => 100 | 232 => 201 | 233 => 202 | n => n,fun | 17 => 5 | 18 => 11 | 19 => 12 | n => n⟩
theorem Tryz.laysItoa : Go.Proofs.LaysM.n171 Tryz.prog Tryz.laysItoa_ren := {
 mixed := by kernel_rfl
 f129 := Tryz.func158.trans (congrArg some (by kernel_rfl))
 f171 := Tryz.func126.trans (congrArg some (by kernel_rfl))
 f243 := Tryz.func139.trans (congrArg some (by kernel_rfl))
 f246 := Tryz.func146.trans (congrArg some (by kernel_rfl))
 f283 := Tryz.func149.trans (congrArg some (by kernel_rfl))
 f284 := Tryz.func150.trans (congrArg some (by kernel_rfl))
 f285 := Tryz.func151.trans (congrArg some (by kernel_rfl))
 f286 := Tryz.func152.trans (congrArg some (by kernel_rfl))
 f317 := Tryz.func157.trans (congrArg some (by kernel_rfl))
 f318 := Tryz.func159.trans (congrArg some (by kernel_rfl))
 f319 := Tryz.func160.trans (congrArg some (by kernel_rfl))
 f320 := Tryz.func161.trans (congrArg some (by kernel_rfl))
 f337 := Tryz.func165.trans (congrArg some (by kernel_rfl))
 f338 := Tryz.func166.trans (congrArg some (by kernel_rfl))
 t0 := Tryz.underlying0
 a0 := Tryz.isAgg0
 z0 := Tryz.sizeOf0
 v0 := Tryz.zeroValue0
 t2 := Tryz.underlying2
 a2 := Tryz.isAgg2
 z2 := Tryz.sizeOf2
 v2 := Tryz.zeroValue2
 t3 := Tryz.underlying3
 a3 := Tryz.isAgg3
 z3 := Tryz.sizeOf3
 v3 := Tryz.zeroValue3
 t4 := Tryz.underlying4
 a4 := Tryz.isAgg4
 z4 := Tryz.sizeOf4
 v4 := Tryz.zeroValue4
 t5 := Tryz.underlying5
 a5 := Tryz.isAgg5
 z5 := Tryz.sizeOf5
 v5 := Tryz.zeroValue5
 t9 := Tryz.underlying9
 a9 := Tryz.isAgg9
 z9 := Tryz.sizeOf9
 v9 := Tryz.zeroValue9
 t20 := Tryz.underlying20
 a20 := Tryz.isAgg20
 z20 := Tryz.sizeOf20
 v20 := Tryz.zeroValue20
 t37 := Tryz.underlying108
 a37 := Tryz.isAgg108
 z37 := Tryz.sizeOf108
 v37 := Tryz.zeroValue108
 t46 := Tryz.underlying100
 a46 := Tryz.isAgg100
 z46 := Tryz.sizeOf100
 v46 := Tryz.zeroValue100
 t51 := Tryz.underlying74
 a51 := Tryz.isAgg74
 z51 := Tryz.sizeOf74
 v51 := Tryz.zeroValue74
 t53 := Tryz.underlying156
 a53 := Tryz.isAgg156
 z53 := Tryz.sizeOf156
 v53 := Tryz.zeroValue156
 t171 := Tryz.underlying186
 a171 := Tryz.isAgg186
 z171 := Tryz.sizeOf186
 v171 := Tryz.zeroValue186
 t173 := Tryz.underlying189
 a173 := Tryz.isAgg189
 z173 := Tryz.sizeOf189
 v173 := Tryz.zeroValue189
 t212 := Tryz.underlying193
 a212 := Tryz.isAgg193
 z212 := Tryz.sizeOf193
 v212 := Tryz.zeroValue193
 t213 := Tryz.underlying194
 a213 := Tryz.isAgg194
 z213 := Tryz.sizeOf194
 t232 := Tryz.underlying201
 a232 := Tryz.isAgg201
 z232 := Tryz.sizeOf201
 v232 := Tryz.zeroValue201
 t233 := Tryz.underlying202
 a233 := Tryz.isAgg202
 z233 := Tryz.sizeOf202
 v233 := Tryz.zeroValue202
 g17 := by kernel_rfl
 g18 := by kernel_rfl
 g19 := by kernel_rfl
 i0 := by kernel_rfl
 i2 := by kernel_rfl
 i3 := by kernel_rfl
 i4 := by kernel_rfl
 i5 := by kernel_rfl
 i9 := by kernel_rfl
 i20 := by kernel_rfl
 i37 := by kernel_rfl
 i46 := by kernel_rfl
 i51 := by kernel_rfl
 i53 := by kernel_rfl
 i171 := by kernel_rfl
 i173 := by kernel_rfl
 i212 := by kernel_rfl
 i232 := by kernel_rfl
 i233 := by kernel_rfl
 m17 := by kernel_rfl
 m18 := by kernel_rfl
 m19 := by kernel_rfl }
def Tryz.laysQuote_ren : Go.Shelf.Ren := ⟨fun | 177 => 109 | 250 => 127 | 289 => 140 | 197 => 144 | 323 => 147 | 260 => 148 | 339 => 153 | 340 => 154 | 242 => 155 | 119 => 156 | 345 => 162 | 346 => 163 | 278 => 164 | n => n,fun | 9 => 9 | 5 => 5 | 4 => 4 | 3 => 3 | 37 => 108 | 21 => 21 | 105 => 182 | 46 => 100 | 119 => 115 | 0 => 0 | 139 => 135 | 138 => 134 | 49 => 166 | 234 => 196 | 131 => 197 | 51 => 74 | 236 => 25 | n => n,fun | 3 => 1 | 4 => 2 | 20 => 6 | 21 => 7 | 22 => 8 | 23 => 9 | 24 => 10 | n => n⟩
theorem Tryz.laysQuote : Go.Proofs.Lays.n177 Tryz.prog Tryz.laysQuote_ren := {
 mixed := by kernel_rfl
 f119 := Tryz.func156.trans (congrArg some (by kernel_rfl))
 f177 := Tryz.func109.trans (congrArg some (by kernel_rfl))
 f197 := Tryz.func144.trans (congrArg some (by kernel_rfl))
 f242 := Tryz.func155.trans (congrArg some (by kernel_rfl))
 f250 := Tryz.func127.trans (congrArg some (by kernel_rfl))
 f260 := Tryz.func148.trans (congrArg some (by kernel_rfl))
 f278 := Tryz.func164.trans (congrArg some (by kernel_rfl))
 f289 := Tryz.func140.trans (congrArg some (by kernel_rfl))
 f323 := Tryz.func147.trans (congrArg some (by kernel_rfl))
 f339 := Tryz.func153.trans (congrArg some (by kernel_rfl))
 f340 := Tryz.func154.trans (congrArg some (by kernel_rfl))
 f345 := Tryz.func162.trans (congrArg some (by kernel_rfl))
 f346 := Tryz.func163.trans (congrArg some (by kernel_rfl))
 t0 := Tryz.underlying0
 a0 := Tryz.isAgg0
 z0 := Tryz.sizeOf0
 v0 := Tryz.zeroValue0
 t3 := Tryz.underlying3
 a3 := Tryz.isAgg3
 z3 := Tryz.sizeOf3
 v3 := Tryz.zeroValue3
 t4 := Tryz.underlying4
 a4 := Tryz.isAgg4
 z4 := Tryz.sizeOf4
 v4 := Tryz.zeroValue4
 t5 := Tryz.underlying5
 a5 := Tryz.isAgg5
 z5 := Tryz.sizeOf5
 v5 := Tryz.zeroValue5
 t9 := Tryz.underlying9
 a9 := Tryz.isAgg9
 z9 := Tryz.sizeOf9
 v9 := Tryz.zeroValue9
 t21 := Tryz.underlying21
 a21 := Tryz.isAgg21
 z21 := Tryz.sizeOf21
 v21 := Tryz.zeroValue21
 t37 := Tryz.underlying108
 a37 := Tryz.isAgg108
 z37 := Tryz.sizeOf108
 v37 := Tryz.zeroValue108
 t46 := Tryz.underlying100
 a46 := Tryz.isAgg100
 z46 := Tryz.sizeOf100
 v46 := Tryz.zeroValue100
 t49 := Tryz.underlying166
 a49 := Tryz.isAgg166
 z49 := Tryz.sizeOf166
 v49 := Tryz.zeroValue166
 t51 := Tryz.underlying74
 a51 := Tryz.isAgg74
 z51 := Tryz.sizeOf74
 v51 := Tryz.zeroValue74
 t105 := Tryz.underlying182
 a105 := Tryz.isAgg182
 z105 := Tryz.sizeOf182
 v105 := Tryz.zeroValue182
 t119 := Tryz.underlying115
 a119 := Tryz.isAgg115
 z119 := Tryz.sizeOf115
 t131 := Tryz.underlying197
 a131 := Tryz.isAgg197
 z131 := Tryz.sizeOf197
 v131 := Tryz.zeroValue197
 t138 := Tryz.underlying134
 a138 := Tryz.isAgg134
 z138 := Tryz.sizeOf134
 v138 := Tryz.zeroValue134
 t139 := Tryz.underlying135
 a139 := Tryz.isAgg135
 z139 := Tryz.sizeOf135
 v139 := Tryz.zeroValue135
 t234 := Tryz.underlying196
 a234 := Tryz.isAgg196
 z234 := Tryz.sizeOf196
 v234 := Tryz.zeroValue196
 t236 := Tryz.underlying25
 a236 := Tryz.isAgg25
 z236 := Tryz.sizeOf25
 v236 := Tryz.zeroValue25
 g3 := by kernel_rfl
 g4 := by kernel_rfl
 g20 := by kernel_rfl
 g21 := by kernel_rfl
 g22 := by kernel_rfl
 g23 := by kernel_rfl
 g24 := by kernel_rfl }
end Go.Proofs
namespace Go.Proofs.YtnmgpaaioojafaaGreatDoor
open Go.RowKit Go.Shelf
theorem grow_O {P : Program} {f : FuncId} {e : TypeId} {sz : Nat} (hb : Bod P f) (n : Nat)
  (h0 : n = 0 → ∀ w,Calls P f #[.slice none 0 0,.int .i64 n] w fun r w' => r = .returned (.slice none 0 0) ∧ w' = w)
  (h1 : 0 < n → ∀ w : World,Calls P f #[.slice none 0 0,.int .i64 n] w fun r w' => ∃ (cur : Array Value) (G : Nat),r = .returned (.slice (some ⟨w.heap.size,0,none⟩) 0 G) ∧ w' = w.drew.alloc (.cells cur e) ∧ cur.size = G * sz ∧ G ≤ maxLen) :
  FnO P f [.v (.slice none 0 0),.v (.int .i64 n)] e sz [] := by
 refine ⟨hb,fun w s vs hlt _ hv => ?_⟩
 match vs,hv with
 | [a,b],⟨ha,hb',_⟩ =>
  have ha : a = .slice none 0 0 := ha;have hb' : b = .int .i64 n := hb';subst ha hb';rcases Nat.eq_zero_or_pos n with hn | hn
  ·refine (h0 hn w).mono fun r w' hq => ?_;obtain ⟨rfl,rfl⟩ := hq;refine ⟨s,⟨fun _ => none,fun k m => if k = 0 ∧ m = 0 then some (.slice none 0 0) else none⟩,0,.slice none 0 0,rfl,?_,⟨fun m hm => ?_,_,rfl,.inl ⟨rfl,rfl⟩⟩,fun N hN => ?_,⟨Ex.refl _ _,hlt,rfl,rfl,rfl,Nat.le_refl _,fun _ _ => rfl,fun _ _ h => .inl h,fun _ _ h => .inl h⟩⟩
   ·rw [TV.P];exact ⟨⟨none,0,rfl,Nat.le_refl _,by omega,(fun _ h => by cases h),fun i row h => by simp [D.pvss] at h⟩,rfl⟩
   ·have hm : 0 < m := hm;exact if_neg (by omega)
   ·cases hN
  ·refine (h1 hn w).mono fun r w' hq => ?_;obtain ⟨cur,G,rfl,rfl,hc,hG⟩ := hq;have hnew : (w.drew.alloc (.cells cur e)).heap[w.heap.size]? = some (.cells cur e (0,0)) := heap_alloc_new w.drew _;have hold : ∀ N,N < w.heap.size → (w.drew.alloc (.cells cur e)).heap[N]? = w.heap[N]? := fun N hN => heap_alloc_old w.drew _ hN;have hsz : (w.drew.alloc (.cells cur e)).heap.size = w.heap.size + 1 := by
    show (w.drew.heap.push _).size = _;rw [Array.size_push];rfl
   refine ⟨s,⟨fun _ => none,fun k m => if k = 0 ∧ m = 0 then some (.slice (some ⟨w.heap.size,0,none⟩) 0 G) else none⟩,0,.slice (some ⟨w.heap.size,0,none⟩) 0 G,rfl,?_,⟨fun m hm => ?_,_,rfl,.inr ⟨w.heap.size,G,cur,rfl,.of hnew,Nat.zero_le _,hG,hc,fun o _ h => ?_⟩⟩,fun N hN => ?_,⟨⟨fun _ _ h => h,fun b o hs => cell_block (hold b (hlt b o hs)),fun _ _ h => h⟩,fun B o h => ?_,rfl,rfl,rfl,by omega,hold,fun _ _ h => .inl h,fun _ _ h => .inl h⟩⟩
   ·rw [TV.P];exact ⟨⟨_,G,rfl,Nat.zero_le _,by unfold maxLen at hG;omega,(fun _ h => by cases h),fun i row h => by simp [D.pvss] at h⟩,rfl⟩
   ·have hm : 0 < m := hm;exact if_neg (by omega)
   ·have := hlt _ _ h;omega
   ·have hN : some w.heap.size = some N := hN
    cases hN;exact Nat.le_refl _
   ·have := hlt B o h;omega
theorem GrowV_ok (n : Nat) (hn : n ≤ 100000000) : FnO Tryz.prog 46 [.v (.slice none 0 0),.v (.int .i64 n)] 29 7 [] := by
 refine grow_O ⟨_,Tryz.func46,rfl,rfl⟩ n (fun h w => ?_) fun h w => ?_
 ·subst h;exact Any8.slices_Grow_room Tryz.laysGrowV none 0 0 0 w (by omega) (by omega) (by omega) (by omega)
 ·obtain ⟨ie,z,hu,hi,hz,hsz,hzc,hs0,hb0,hb1⟩ := (ti_sl (zY (t := 30) tabT (show fnd 30 TT = some (.sl 29 7) by rfl))).2.2.h
  have hx := Any8.slices_Grow_grow Tryz.laysGrowV ie z hi hz (by omega) none 0 0 n [] w (Nat.le_refl _) (by omega) (by
   have := Nat.mul_le_mul (show 0 + n ≤ 100000000 by omega) hb1;omega) (by omega) (by simp) (fun _ => rfl) (fun _ h => by cases h)
  refine hx.mono fun r w' hq => ?_;obtain ⟨rfl,rfl⟩ := hq;have hG : n ≤ grownCap w (0 + n) 0 (Tryz.laysGrowV_ren.t 25) := Nat.le_trans (by omega) (grownCap_ge w (0 + n) 0 _);refine ⟨_,_,rfl,rfl,?_,grownCap_le_maxLen w _ _ _ (by unfold maxLen;omega)⟩;simp only [Array.size_append,List.size_toArray,List.length_nil,size_zeroCells,hzc];omega
open Go.RowKit
variable {md me : Bool}
def st0 : St := ⟨0,vl0,0,ByteArray.empty,vl0,[]⟩
def stsD (l : List St) : D := .sl false 18 l stD st0
def vssD (l : List (List Vl)) : D := .sl false 1 l (fun x => [vsD x]) []
def ctL (L : List (List Vl)) (k : Nat) : List Vl := (L.take k).flatten
theorem ct_next {L : List (List Vl)} {k : Nat} (h : k < L.length) : ctL L (k + 1) = ctL L k ++ L.getD k [] := by
 unfold ctL;rw [List.take_add_one,List.getElem?_eq_getElem h,List.flatten_append,List.getD_eq_getElem?_getD,List.getElem?_eq_getElem h];simp
theorem ct_le (L : List (List Vl)) (k : Nat) : (ctL L k).length ≤ (ctL L L.length).length := by
 unfold ctL;rw [List.take_length]
 conv => rhs;rw [← List.take_append_drop k L,List.flatten_append,List.length_append]
 omega
theorem ct_two (a b : List Vl) : ctL [a,b] [a,b].length = a ++ b := by simp [ctL]
theorem ConcatV_ok (L : List (List Vl)) (hl : (ctL L L.length).length ≤ 100000000) (hL : L.length ≤ 1000) : FnO Tryz.prog 22 [vssD L] 29 7 ((ctL L L.length).map vlD) := by
 refine fnO_ev Tryz.func22 rfl rfl rfl rfl rfl rfl ?_;intro w0 s0 mx;refine ev_R tabT [] 100 ?_;refine ev_R tabT [] 200 ?_;refine zB ?_;refine ev_R tabT [] 300 ?_;refine zL ?_;refine zX (ι := {k : Nat // k ≤ L.length}) [0,9,10] [] 350 (fun x => [(3,.v (.int .i64 ((ctL L x.1).length : Nat))),(11,.v (.int .i64 x.1))]) (fun _ => []) (fun x => L.length - x.1) ⟨0,Nat.zero_le _⟩ ?_;refine ⟨⟨le_t,le_o,rfl,rfl⟩,fun x => ?_⟩;have hk : x.1 ≤ L.length := x.2;have hf := ct_le L (x.1 + 1);have hn : ∀ h : x.1 < L.length,(ctL L (x.1 + 1)).length = (ctL L x.1).length + (L.getD ((x.1 : Nat) : Int).toNat []).length := fun h => by rw [ct_next h,List.length_append];rfl
 have hf0 := ct_le L x.1;refine ev_R tabT [] 400 ?_;refine zB ?_;refine yD (fun c3 => ?_) (fun c3 => ?_)
 ·
  refine zK (zA ?_);refine zB ?_;refine zL ?_;refine ev_R tabT [] 500 ?_;refine zB (zE tabT [] 600 rfl ?_);repeat (first | refine zG ?_ | refine zH ?_ | refine zQ (by first | (have h9 := hn c3;exact ini (by omega) (by omega)) | first | exact trivial | omega | exact ini (by omega) (by omega) | (intro hh;simp at hh;exact ini (by omega) (by omega)) | (intro hh;simp at hh ⊢;omega) | (simp at *;omega) | (simp_all;done)) ?_)
  refine zC (zA ?_);refine ev_R tabT [] 700 ?_;refine yD (fun c6 => ?_) (fun c6 => ?_)
  ·
   omega
  ·
   refine zK (zJ (zA ?_));refine ev_Q tabT [] 900 ?_;exact zO (⟨x.1 + 1,by omega⟩) ⟨⟨Sub.int (by rw [ct_next c3,List.length_append];push_cast;rfl),Sub.int (by push_cast;rfl),le_t⟩,le_o,rfl,rfl⟩ (by show L.length - (x.1 + 1) < L.length - x.1;omega)
 ·
  refine yA (zV (zW (zS (zA ?_))));refine zB (zE tabT [24] 1000 rfl ?_);refine zF ?_;refine sat_fnO _ _ _ (GrowV_ok _ (by have := ct_le L x.1;omega)) ?_;refine zF ?_;refine zC (zA ?_);refine zB ?_;refine ev_R tabT [] 1100 ?_;refine zL ?_;refine zX (ι := {k : Nat // k ≤ L.length}) [25,26] [] 1150 (fun y => [(27,.v (.int .i64 y.1)),(6,.own 401 7 ((ctL L y.1).map vlD))]) (fun y => [(401,.row 29 7 ((ctL L y.1).map vlD).length)]) (fun y => L.length - y.1) ⟨0,Nat.zero_le _⟩ ?_;refine ⟨⟨le_t,le_o,rfl,rfl⟩,fun y => ?_⟩;have hky : y.1 ≤ L.length := y.2;have hfy := ct_le L (y.1 + 1);have hfy0 := ct_le L y.1;have hny : ∀ h : y.1 < L.length,(ctL L (y.1 + 1)).length = (ctL L y.1).length + (L.getD ((y.1 : Nat) : Int).toNat []).length := fun h => by rw [ct_next h,List.length_append];rfl
  refine ev_R tabT [] 1200 ?_;refine zB ?_;refine yD (fun c11 => ?_) (fun c11 => ?_)
  ·
   refine zK (zA ?_);refine zB ?_;refine zL ?_;refine ev_R tabT [] 1300 ?_;refine zE tabT [] 1400 rfl ?_;repeat (first | refine zG ?_ | refine zH ?_ | refine zQ (by first | (have := hny c11;simp only [List.length_map];omega) | first | exact trivial | omega | exact ini (by omega) (by omega) | (intro hh;simp at hh;exact ini (by omega) (by omega)) | (intro hh;simp at hh ⊢;omega) | (simp at *;omega) | (simp_all;done)) ?_)
   refine zC (zJ (zA ?_));refine ev_Q tabT [] 1500 ?_;exact zO (⟨y.1 + 1,by omega⟩) ⟨⟨Sub.int (by push_cast;rfl),Sub.own (by rw [ct_next c11,List.map_append];rfl),le_t⟩,⟨⟨rfl,rfl,by show _ = (List.map vlD (ctL L (y.1 + 1))).length;rw [ct_next c11];simp⟩,le_o⟩,rfl,rfl⟩ (by show L.length - (y.1 + 1) < L.length - y.1;omega)
  ·
   refine yA (zV (zW (zS (zA ?_))));refine ev_R tabT [] 1600 ?_;refine zN ?_;have e : y.1 = L.length := by omega
   exact FinO.ret rfl rfl (by rw [e]) (by rw [e])
variable {md me : Bool}
def rD (b : Bool) (n : Nat) : D := .agg [.v (.bool b),natD n]
theorem IntOf3_ok (b : Bool) (l : List Nat) (hg : Lg l) (hl : l.length ≤ 100000000) : Fn Tryz.prog 125 [.agg [.v (.bool b),usD l]] (rD b (VL l)) := by
 refine yK tabT Tryz.func125 rfl rfl rfl rfl rfl rfl ?_;intro w0 s0 mx;refine ev_R tabT [] 100 ?_;refine zB (zZ tabT [] [[],[0],[],[2],[2,3],[0,1,2,3,4],[0,1,2,3,4,5]] 200 mixT (by kernel_rfl) rfl ?_);refine zF ?_;refine zT _ (Of3_ok _ (by first | assumption | omega | (simp_all;done)) (by first | assumption | omega | (simp_all;done))) rfl ?_;refine zF ?_;refine zC (zA (zN ?_));exact FinV.ret rfl (SubP.refl _)
theorem TooLarge_ok  : Fn Tryz.prog 24 [] (.agg (stD (raS 42 tooB))) := by
 refine yK tabT Tryz.func24 rfl rfl rfl rfl rfl rfl ?_;intro w0 s0 mx;refine ev_R tabT [] 100 ?_;refine zB (zE tabT [] 200 rfl ?_);refine zF ?_;refine zT _ (Raise_ok _ _) rfl ?_;refine zF ?_;refine zC (zA (zN ?_));exact FinV.ret rfl (SubP.refl _)
theorem opValue_ok (v : Vl) : Fn Tryz.prog 23 [.agg (vlD v)] (.agg (stD (vlS v))) := by
 refine yK tabT Tryz.func23 rfl rfl rfl rfl rfl rfl ?_;intro w0 s0 mx;refine ev_R tabT [] 100 ?_;refine ev_R tabT [] 200 ?_;refine zN ?_;exact FinV.ret rfl (SubP.agg (by repeat (first | exact trivial | exact SubP.refl _ | exact SubP.nilSl rfl | refine ⟨?_,?_⟩)))
theorem opRaise_ok (c : Int) (s : ByteArray) : Fn Tryz.prog 45 [.v (.int .i64 c),.v (.string s)] (.agg (stD (raS c s))) := by
 refine yK tabT Tryz.func45 rfl rfl rfl rfl rfl rfl ?_;intro w0 s0 mx;refine ev_R tabT [] 100 ?_;refine ev_R tabT [] 200 ?_;refine zN ?_;exact FinV.ret rfl (SubP.agg (by repeat (first | exact trivial | exact SubP.refl _ | exact SubP.nilSl rfl | refine ⟨?_,?_⟩)))
theorem opLimit_ok  : Fn Tryz.prog 21 [] (.agg (stD (raS 42 tooB))) := by
 refine yK tabT Tryz.func21 rfl rfl rfl rfl rfl rfl ?_;intro w0 s0 mx;refine ev_R tabT [] 100 ?_;refine zB (zE tabT [] 200 rfl ?_);refine zF ?_;refine zT _ (opRaise_ok _ _) rfl ?_;refine zF ?_;refine zC (zA (zN ?_));exact FinV.ret rfl (SubP.refl _)
variable {md me : Bool}
theorem tk_next {α : Type} {f : α → List D} {l : List α} {k : Nat} (e : α) (h : k < l.length) : (l.take (k + 1)).map f = (l.take k).map f ++ [f (l.getD ((k : Nat) : Int).toNat e)] := by
 rw [List.take_add_one,List.getElem?_eq_getElem h,List.map_append,Int.toNat_natCast,List.getD_eq_getElem?_getD,List.getElem?_eq_getElem h];rfl
theorem tk_len {α : Type} {l : List α} {k : Nat} (h : k < l.length) : (l.take (k + 1)).length = (l.take k).length + 1 := by
 rw [List.length_take,List.length_take];omega
theorem mem_at {α : Type} {l : List α} {k : Nat} (e : α) (h : k < l.length) : l.getD ((k : Nat) : Int).toNat e ∈ l := by
 rw [Int.toNat_natCast,List.getD_eq_getElem?_getD,List.getElem?_eq_getElem h];exact List.getElem_mem _
theorem ob_own (o : Ob) (a b c d e : Nat) : D.pvs [.v (.int .i64 o.kind),.v (.string o.name),.v (.int .i64 o.cls),.own a 1 (o.refs.map iD),.own b 1 (o.order.map iD),.own c 1 (o.names.map sD),.own d 7 (o.items.map vlD),.own e 7 (o.keys.map vlD),.v (.int .i64 o.code),.v (.int .i64 o.state)] = D.pvs (obD o) := by
 simp only [obD,D.pvs,D.pv,yE,List.map_map];rfl
theorem pvss_snoc {a : List (List D)} {r : List D} : D.pvss (a ++ [r]) = D.pvss a ++ [D.pvs r] := by rw [yE,yE,List.map_append];rfl
theorem copied_ok (l : List Vl) (hl : l.length ≤ 2000000) (hv : ∀ v ∈ l,VlIn v) : FnO Tryz.prog 20 [vsD l] 29 7 (l.map vlD) := by
 refine fnO_ev Tryz.func20 rfl rfl rfl rfl rfl rfl ?_;intro w0 s0 mx;refine ev_R tabT [] 100 ?_;refine ev_R tabT [] 200 ?_;refine yM 3 29 7 rfl ?_;refine zB ?_;refine ev_R tabT [] 300 ?_;refine zL ?_;refine zX (ι := {k : Nat // k ≤ l.length}) [6,7] [] 350 (fun x => [(8,.v (.int .i64 x.1)),(3,.own 200 7 ((l.take x.1).map vlD))]) (fun x => [(200,.row 29 7 ((l.take x.1).map vlD).length)]) (fun x => l.length - x.1) ⟨0,Nat.zero_le _⟩ ?_;refine ⟨⟨le_t,le_o,rfl,rfl⟩,fun x => ?_⟩;have hk : x.1 ≤ l.length := x.2;refine ev_R tabT [] 400 ?_;refine zB ?_;refine yD (fun c3 => ?_) (fun c3 => ?_)
 ·
  refine zK (zA ?_);refine zB ?_;refine zL ?_;have hvk : VlIn (l.getD ((x.1 : Nat) : Int).toNat vl0) := hv _ (mem_at vl0 c3);refine ev_R tabT [] 500 ?_;refine zB (zZ tabT [15,19] [[],[0],[0,1],[0,1,2],[],[4],[4,5],[0,1,2,3,4,5,6],[0,1,2,3,4,5,6],[0,1,2,3,4,5,6,8],[0,1,2,3,4,5,6,7,8,9],[0,1,2,3,4,5,6,7,8,9,10],[0,1,2,3,4,5,6,7,8,9,10,11],[0,1,2,3,4,5,6,7,8,9,10,11,12]] 600 mixT (by kernel_rfl) rfl ?_);refine zF ?_;refine sat_fnO _ _ _ (CloneU_ok _ hvk.nn) ?_;refine zF ?_;refine sat_fnO _ _ _ (CloneU_ok _ hvk.dn) ?_;refine zF ?_;refine zC (zA ?_);refine zE tabT [] 700 rfl ?_;repeat (first | refine zG ?_ | refine zH ?_ | refine zQ (by first | rfl | (simp only [List.length_map,List.length_take,List.length_cons,List.length_nil];omega) | first | exact trivial | omega | exact ini (by omega) (by omega) | (intro hh;simp at hh;exact ini (by omega) (by omega)) | (intro hh;simp at hh ⊢;omega) | (simp at *;omega) | (simp_all;done)) ?_)
  refine zC (zJ (zA ?_));refine ev_Q tabT [] 800 ?_;exact zO (⟨x.1 + 1,by omega⟩) ⟨⟨Sub.int (by push_cast;rfl),Sub.ownRows (by rw [tk_next vl0 c3];exact (RowsP.refl _).append ⟨⟨SubP.refl _,SubP.refl _,SubP.ownSl rfl,SubP.refl _,SubP.ownSl rfl,SubP.refl _,SubP.refl _,trivial⟩,trivial⟩),le_t⟩,⟨⟨rfl,rfl,by simp only [List.length_append,List.length_map];rw [tk_len c3];rfl⟩,le_o⟩,rfl,rfl⟩ (by show l.length - (x.1 + 1) < l.length - x.1;omega)
 ·
  refine yA (zV (zW (zS (zA ?_))));refine ev_R tabT [] 900 ?_;refine zN ?_;have e : l.take x.1 = l := List.take_of_length_le (by omega);exact FinO.ret rfl rfl (by rw [e]) (by rw [e])
theorem Copy_G (h : List Ob) (hh : HpIn h) : FnG Tryz.prog 7 [hpD md h] [] (.agg [.mo 0 h.length]) [.mrow 48 10 (.map h obD ob0)] := by
 have hhl := hh.len;refine fnH_ev tabT Tryz.func7 rfl rfl rfl rfl rfl rfl rfl ?_;intro w0 s0 mx;refine ev_R tabT [] 100 ?_;refine ev_R tabT [] 200 ?_;refine ev_nilCell 100 0 48 10 rfl rfl ?_;refine zB ?_;refine ev_thaw 200 rfl ?_;refine ev_R tabT [] 300 ?_;refine zL ?_;refine zX (ι := {k : Nat // k ≤ h.length}) [2,3,7,8] [1] 350 (fun x => [(9,.v (.int .i64 x.1))]) (fun x => [(100,.box 24 [.mo 200 (h.take x.1).length]),(200,.mrow 48 10 (.map (h.take x.1) obD ob0))]) (fun x => h.length - x.1) ⟨0,Nat.zero_le _⟩ ?_;refine ⟨⟨le_t,⟨⟨rfl,Sub.mo rfl,rfl,trivial⟩,SubO.mr rfl,le_o⟩,rfl,rfl⟩,fun x => ?_⟩;have hk : x.1 ≤ h.length := x.2;refine ev_R tabT [] 400 ?_;refine zB ?_;refine yD (fun c3 => ?_) (fun c3 => ?_)
 ·
  refine zK (zA ?_);refine zB ?_;refine zL ?_;have hob : ObIn (h.getD ((x.1 : Nat) : Int).toNat ob0) := hh.ob _ (mem_at ob0 c3);refine ev_R tabT [] 500 ?_;refine zB (zZ tabT [15,18,21] [[],[0],[0,1],[],[3],[0,1,2,3,4],[],[6],[0,1,2,3,4,5,6,7],[0,1,2,3,4,6,7],[0,1,2,3,4,5,6,7,8,9],[0,1,2,3,4,5,6,7,8,9,10],[0,1,2,3,4,5,6,7,8,9,10,11],[0,1,2,3,4,5,6,7,8,9,10,11,12],[0,1,2,3,4,5,6,7,8,9,10,11,12,13]] 600 mixT (by kernel_rfl) rfl ?_);refine zF ?_;refine sat_fnO _ _ _ (CloneI_ok _ hob.rl) ?_;refine zF ?_;refine sat_fnO _ _ _ (CloneI_ok _ hob.ol) ?_;refine zF ?_;refine sat_fnO _ _ _ (CloneS_ok _ hob.nl) ?_;refine zF ?_;refine zC (zA ?_);refine zB (zZ tabT [27,30] [[],[0],[0,1],[],[3],[0,1,2,3,4],[0,1,2,3,4],[0,1,2,3,4,5,6],[0,1,2,3,4,5,6,7],[0,1,2,3,4,5,6,7,8]] 700 mixT (by kernel_rfl) rfl ?_);refine zF ?_;refine sat_fnO _ _ _ (copied_ok _ hob.il hob.iv) ?_;refine zF ?_;refine sat_fnO _ _ _ (copied_ok _ hob.kl hob.kv) ?_;refine zF ?_;refine zC (zA ?_);refine zE tabT [] 800 rfl ?_;repeat (first | refine zG ?_ | refine zH ?_ | refine zQ (by first | rfl | (simp only [MR.len,List.length_take,List.length_cons,List.length_nil];have := hh.len;omega) | first | exact trivial | omega | exact ini (by omega) (by omega) | (intro hh;simp at hh;exact ini (by omega) (by omega)) | (intro hh;simp at hh ⊢;omega) | (simp at *;omega) | (simp_all;done)) ?_)
  refine zC (zJ (zA ?_));refine ev_Q tabT [] 900 ?_;exact zO (⟨x.1 + 1,by omega⟩) ⟨⟨Sub.int (by push_cast;rfl),le_t⟩,⟨⟨rfl,Sub.mo (by rw [tk_len c3];rfl),rfl,trivial⟩,SubO.mp (by show D.pvss (List.map obD _ ++ [_]) = D.pvss (List.map obD _);rw [tk_next ob0 c3,pvss_snoc,pvss_snoc,ob_own]),le_o⟩,rfl,rfl⟩ (by show h.length - (x.1 + 1) < h.length - x.1;omega)
 ·
  refine yA (zV (zW (zS (zA ?_))));refine ev_R tabT [] 1000 ?_;refine zN ?_;have e : h.take x.1 = h := List.take_of_length_le (by omega);exact FinH.ret 200 rfl rfl (by rw [e];exact Sub.refl _) ⟨SubO.mr (by rw [e]),trivial⟩
variable {md me : Bool}
def hpO (h : List Ob) : List DOwn := [.box 24 [.mo 1 h.length],.mrow 48 10 (.map h obD ob0)]
theorem CloneV_G (l : List Vl) (hl : l.length ≤ 2000000) : FnG Tryz.prog 40 [vsD l] [] (.mo 0 l.length) [.mrow 29 7 (.map l vlD vl0)] := by
 refine fnH_ev tabT Tryz.func40 rfl rfl rfl rfl rfl rfl rfl ?_;intro w0 s0 mx;refine zB (zE tabT [] 100 rfl ?_);repeat (first | refine zG ?_ | refine zH ?_ | refine zQ (by exact qE hl) ?_)
 refine zC (zA ?_);refine zB ?_;refine zB ?_;refine ev_nilRegion Tryz.underlying30 rfl rfl rfl fun c hc => ?_;refine zA ?_;refine zR rfl (fun c1 => ?_) (fun c1 => ?_)
 ·
  refine zB (zE tabT [] 300 rfl ?_);repeat (first | refine zG ?_ | refine zH ?_ | refine zQ (by exact qE hl) ?_)
  refine zC (zA ?_);refine yM 2 29 7 rfl ?_;refine ev_thaw 300 rfl ?_;refine zN (zM ?_);obtain rfl := hc c1;exact FinH.ret 300 rfl rfl (Sub.refl _) ⟨SubO.mr rfl,trivial⟩
 ·
  refine zK (zA ?_);refine zB (zE tabT [1005] 400 rfl ?_);repeat (first | refine zG ?_ | refine zH ?_ | refine zQ (by first | rfl | exact qE hl | (simp only [MR.len,List.length_nil,List.length_map];omega)) ?_)
  refine zC (zA (zN ?_));exact FinH.ret 100 rfl rfl (Sub.mo (by rw [List.length_map,Nat.zero_add])) ⟨SubO.mr rfl,trivial⟩
variable {md me : Bool}
def vpD (k : Vl) : D := .pt true (vlD k)
theorem opObject_ok (h : List Ob) (v : Vl) (hv : v.k = 6 → qB h v.r = true) : Fn Tryz.prog 15 [hpD md h,.agg (vlD v)] (.agg (obD (objS h v))) := by
 refine yK tabT Tryz.func15 rfl rfl rfl rfl rfl rfl ?_;intro w0 s0 mx;refine ev_R tabT [] 100 ?_;refine zB ?_;refine ev_R tabT [] 200 ?_;refine yD (fun c1 => ?_) (fun c1 => ?_)
 ·
  refine ev_R tabT [] 300 ?_;refine zN (zM ?_);have e : objS h v = ob0 := objS_no c1;rw [e];exact FinV.ret rfl (by repeat (first | exact trivial | exact SubP.refl _ | exact SubP.nilSl rfl | refine SubP.agg ?_ | refine ⟨?_,?_⟩))
 ·
  refine zK (zA ?_);refine zB (zE tabT [] 400 rfl ?_);repeat (first | refine zG ?_ | refine zH ?_ | refine zQ (by exact yN (hv c1)) ?_)
  refine zC (zA (zN ?_));have e : objS h v = h.getD v.r.toNat ob0 := objS_at hv c1;rw [e];exact FinV.ret rfl (by repeat (first | exact trivial | exact SubP.refl _ | exact SubP.nilSl rfl | refine SubP.agg ?_ | refine ⟨?_,?_⟩))
theorem IndexFuncV_ok (h : List Ob) (l : List Vl) (k : Vl) (f : FuncId) (H : ∀ x ∈ l,Fn Tryz.prog f [.agg (vlD x),cpD md h,vpD k] (.v (.bool (smK h 1001 x k)))) : Fn Tryz.prog 76 [.sl me 7 l vlD vl0,.clo f [cpD md h,vpD k]] (.v (.int .i64 (plI h l k))) := by
 refine yK tabT Tryz.func76 rfl rfl rfl rfl rfl rfl ?_;intro w0 s0 mx;refine ev_len 0 rfl fun hl0 => ?_;refine ev_R tabT [] 100 ?_;refine zB ?_;refine ev_R tabT [] 200 ?_;refine zL ?_;refine zX (ι := Al l (fun x => !smK h 1001 x k)) [0,1,7] [] 250 (fun x => [(8,.v (.int .i64 x.k))]) (fun _ => []) (fun x => l.length - x.k) ⟨0,Nat.zero_le _,fun j x hj => by omega⟩ ?_;refine ⟨⟨le_t,le_o,rfl,rfl⟩,fun x => ?_⟩;have hk := x.le;refine ev_R tabT [] 300 ?_;refine zB ?_;refine zR rfl (fun c2 => ?_) (fun c2 => ?_)
 ·have c2 : x.k < l.length := by simpa using c2
  refine zK (zA ?_);refine zB ?_;refine zL ?_;refine ev_R tabT [] 400 ?_;refine zB (zE tabT [] 500 rfl ?_);refine zF ?_;refine zT _ (H _ (by rw [getD_l c2];exact List.getElem_mem _)) rfl ?_;refine zF ?_;refine zC (zA ?_);refine yD (fun c4 => ?_) (fun c4 => ?_)
  ·
   refine ev_R tabT [] 600 ?_;refine zN (zP (zM (yI (zP (zM ?_)))));exact FinV.ret rfl (SubP.int (plI_at x.all (getD_q c2 vl0) c4).symm)
  ·
   refine zK (zJ (zA ?_));refine ev_Q tabT [] 700 ?_;exact zO (x.next (e := vl0) c2 (by rw [c4];rfl)) ⟨le_t,le_o,rfl,rfl⟩ (by show l.length - (x.k + 1) < l.length - x.k;omega)
 ·have c2 : ¬ x.k < l.length := by simpa using c2
  refine yA (zV (zW (zS (zA ?_))));refine ev_R tabT [] 800 ?_;refine zN ?_;exact FinV.ret rfl (SubP.int (plI_none (fun y hy => by
    have := List.all_eq_true.1 (x.yes c2) y hy;simpa using this)).symm)
theorem placeC_ok (h : List Ob) (w k : Vl) (hh : HpIn h) (g : Uh h) (hk : keyedS h k = true) (hv : Vd h k) (hw : Vd h w) : Fn Tryz.prog 77 [.agg (vlD w),cpD md h,vpD k] (.v (.bool (smK h 1001 w k))) := by
 refine yK tabT Tryz.func77 rfl rfl rfl rfl rfl rfl ?_;intro w0 s0 mx;refine ev_R tabT [] 100 ?_;refine zB (zE tabT [] 200 rfl ?_);refine zF ?_;refine zT _ ((heapKey_ok hh g hk hv hw).out (SubP.bool (smK_symm h 1001 k w))) rfl ?_;refine zF ?_;refine zC (zA (zN ?_));exact FinV.ret rfl (SubP.refl _)
theorem opPlace_ok (h : List Ob) (l : List Vl) (k : Vl) (hh : HpIn h) (g : Uh h) (hk : keyedS h k = true) (hv : Vd h k) (hl : ∀ x ∈ l,Vd h x) : Fn Tryz.prog 48 [hpD md h,.sl me 7 l vlD vl0,.agg (vlD k)] (.v (.int .i64 (plI h l k))) := by
 refine yK tabT Tryz.func48 rfl rfl rfl rfl rfl rfl ?_;intro w0 s0 mx;refine ev_R tabT [] 100 ?_;refine zB (zE tabT [] 200 rfl ?_);refine zF ?_;refine sat_fnL _ (IndexFuncV_ok h l k 77 fun x hx => placeC_ok h x k hh g hk hv (hl x hx)) rfl rfl ?_;refine zF ?_;refine zC (zA (zN ?_));exact FinV.ret rfl (SubP.refl _)
theorem getD_m {l : List Vl} {i : Nat} (hi : i < l.length) : l.getD i vl0 ∈ l := by
 rw [List.getD_eq_getElem?_getD,List.getElem?_eq_getElem hi];exact List.getElem_mem _
theorem sn221 {P : Program} {K : DS → Prop} {p : Prop} {r : Out} (hr : r.sat P K) (hp : p := by first | exact qE (by simp only [List.length_append];omega) | (simp only [List.length_map,List.length_append,List.length_cons,List.length_nil];omega) | first | exact trivial | omega | exact ini (by omega) (by omega) | (intro hh;simp at hh;exact ini (by omega) (by omega)) | (intro hh;simp at hh ⊢;omega) | (simp at *;omega) | (simp_all;done)) : (Out.need p r).sat P K := ⟨hp,hr⟩
theorem algebra_ok (h : List Ob) (op : Int) (x0 y0 : Ob) (a b : List Vl) (hxa : x0.keys = a) (hyb : y0.keys = b) (hh : HpIn h) (g : Uh h) (ka : Kd h a) (kb : Kd h b) (hla : a.length ≤ 2000000) (hlb : b.length ≤ 2000000) : Fn Tryz.prog 27 [hpD md h,.v (.int .i64 op),.agg (obD x0),.agg (obD y0)] (.sl false 7 (algS h op a b) vlD vl0) := by
 subst hxa;subst hyb;obtain ⟨a,ha⟩ : ∃ a,a = x0.keys := ⟨_,rfl⟩;obtain ⟨b,hb⟩ : ∃ b,b = y0.keys := ⟨_,rfl⟩;rw [← ha] at ka hla ⊢;rw [← hb] at kb hlb ⊢;refine yK tabT Tryz.func27 rfl rfl rfl rfl rfl rfl ?_;intro w0 s0 mx;refine ev_R tabT [] 100 ?_;refine yG [1,4,6,7] [0,1,2] 110 [] [(1,.box 48 (obD {x0 with keys := a})),(2,.box 48 (obD {y0 with keys := b}))] ?_;refine ⟨⟨le_t,⟨by rw [ha];exact ⟨rfl,SubL.same rfl⟩,by rw [hb];exact ⟨rfl,SubL.same rfl⟩,le_o⟩,rfl,rfl⟩,?_⟩;refine ev_R tabT [] 200 ?_;refine yM 9 29 7 rfl ?_;refine zB ?_;refine ev_R tabT [] 300 ?_;refine zL ?_;refine zX (ι := {i : Nat // i ≤ a.length}) [1,4,6,7,15,16] [0,1,2] 350 (fun x => [(17,.v (.int .i64 x.1)),(9,.own 200 7 (((a.take x.1).filter (mxP h op b)).map vlD))]) (fun x => [(200,.row 29 7 (((a.take x.1).filter (mxP h op b)).map vlD).length)]) (fun x => a.length - x.1) ⟨0,Nat.zero_le _⟩ ?_;refine ⟨⟨⟨Sub.int rfl,Sub.own rfl,le_t⟩,⟨⟨rfl,rfl,rfl⟩,le_o⟩,rfl,rfl⟩,fun x => ?_⟩;have hk1 : x.1 ≤ a.length := x.2;refine ev_R tabT [] 400 ?_;refine zB ?_;refine zR rfl (fun c3 => ?_) (fun c3 => ?_)
 ·have hlt : x.1 < a.length := by simpa using c3
  have hka := ka.keyed _ (getD_m hlt);have hva := ka.vd _ (getD_m hlt);have hfl := filt_len a (mxP h op b) x.1;refine zK (zA ?_);refine zB ?_;refine zL ?_;refine ev_R tabT [] 500 ?_;refine yG [1,4,6,7,9,11,15,16,17] [0,1,2,200,402] 510 [] [(402,.box 29 (vlD (a.getD x.1 vl0)))] ?_;refine ⟨⟨le_t,⟨⟨rfl,SubL.same rfl⟩,le_o⟩,rfl,rfl⟩,?_⟩;refine zB (zE tabT [] 600 rfl ?_);refine zF ?_;refine yF _ (fun hg7 => opPlace_ok h b _ hh g hka hva kb.vd) rfl ?_;refine zF ?_;refine zC (zA ?_);refine yD (fun c5 => ?_) (fun c5 => ?_)
  ·
   refine zE tabT [] 700 rfl ?_;repeat (first | refine zG ?_ | refine zH ?_ | refine sn221 ?_)
   refine zC (zJ (zA ?_));refine ev_Q tabT [] 800 ?_;have hN := filt_yes (p := mxP h op b) hlt (by simpa [mxP] using c5);exact zO ⟨x.1 + 1,by omega⟩ ⟨⟨Sub.int (by push_cast;rfl),Sub.own (by rw [hN,List.map_append];rfl),le_t⟩,⟨⟨rfl,rfl,by rw [hN];simp⟩,le_o⟩,rfl,rfl⟩ (by show a.length - (x.1 + 1) < a.length - x.1;omega)
  ·
   refine zK (zJ (zA ?_));refine ev_Q tabT [] 800 ?_;have hN := filt_no (p := mxP h op b) hlt (by simpa [mxP] using c5);exact zO ⟨x.1 + 1,by omega⟩ ⟨⟨Sub.int (by push_cast;rfl),Sub.own (by rw [hN]),le_t⟩,⟨⟨rfl,rfl,by rw [hN]⟩,le_o⟩,rfl,rfl⟩ (by show a.length - (x.1 + 1) < a.length - x.1;omega)
 ·have hke : x.1 = a.length := by simp at c3;omega
  have htk : a.take x.1 = a := List.take_of_length_le (by omega);refine yA (zV (zW (zS (zA ?_))));refine zB ?_;refine ev_R tabT [] 900 ?_;refine zL ?_;refine zX (ι := {i : Nat // i ≤ b.length}) [1,4,6,40,41] [0,1] 950 (fun z => [(42,.v (.int .i64 z.1)),(9,.own 200 7 ((a.filter (mxP h op b) ++ (b.take z.1).filter (mx2 h op a)).map vlD))]) (fun z => [(200,.row 29 7 ((a.filter (mxP h op b) ++ (b.take z.1).filter (mx2 h op a)).map vlD).length)]) (fun z => b.length - z.1) ⟨0,Nat.zero_le _⟩ ?_;refine ⟨⟨⟨Sub.int rfl,Sub.own (by rw [htk];simp),le_t⟩,⟨⟨rfl,rfl,by rw [htk];simp⟩,le_o⟩,rfl,rfl⟩,fun z => ?_⟩;have hk2 : z.1 ≤ b.length := z.2;refine ev_R tabT [] 1000 ?_;refine zB ?_;refine zR rfl (fun c9 => ?_) (fun c9 => ?_)
  ·have hlt2 : z.1 < b.length := by simpa using c9
   have hkb := kb.keyed _ (getD_m hlt2);have hvb := kb.vd _ (getD_m hlt2);have hfl := filt_len b (mx2 h op a) z.1;have hfa := List.length_filter_le (mxP h op b) a;refine zK (zA ?_);refine zB ?_;refine zL ?_;refine ev_R tabT [] 1100 ?_;refine yG [1,4,6,9,13,40,41,42] [0,1,200,1002] 1110 [] [(1002,.box 29 (vlD (b.getD z.1 vl0)))] ?_;refine ⟨⟨le_t,⟨⟨rfl,SubL.same rfl⟩,le_o⟩,rfl,rfl⟩,?_⟩;refine zB (zE tabT [] 1200 rfl ?_);refine zF ?_;refine yF _ (fun hg11 => opPlace_ok h a _ hh g hkb hvb ka.vd) rfl ?_;refine zF ?_;refine zC (zA ?_);refine yD (fun c11 => ?_) (fun c11 => ?_)
   ·
    refine zE tabT [] 1300 rfl ?_;repeat (first | refine zG ?_ | refine zH ?_ | refine sn221 ?_)
    refine zC (zJ (zA ?_));refine ev_Q tabT [] 1400 ?_;have hN := filt_yes (p := mx2 h op a) hlt2 (by simpa [mx2] using c11);exact zO ⟨z.1 + 1,by omega⟩ ⟨⟨Sub.int (by push_cast;rfl),Sub.own (by rw [hN,← List.append_assoc,List.map_append (l₂ := [_])];rfl),le_t⟩,⟨⟨rfl,rfl,by rw [hN];simp [Nat.add_assoc]⟩,le_o⟩,rfl,rfl⟩ (by show b.length - (z.1 + 1) < b.length - z.1;omega)
   ·
    refine zK (zJ (zA ?_));refine ev_Q tabT [] 1400 ?_;have hN := filt_no (p := mx2 h op a) hlt2 (by simpa [mx2] using c11);exact zO ⟨z.1 + 1,by omega⟩ ⟨⟨Sub.int (by push_cast;rfl),Sub.own (by rw [hN]),le_t⟩,⟨⟨rfl,rfl,by rw [hN]⟩,le_o⟩,rfl,rfl⟩ (by show b.length - (z.1 + 1) < b.length - z.1;omega)
  ·have hke2 : z.1 = b.length := by simp at c9;omega
   refine yA (zV (zW (zS (zA ?_))));refine ev_R tabT [] 1500 ?_;refine zN ?_;exact FinV.ret rfl (SubP.ownSl (by rw [hke2,List.take_length];rfl))
theorem mixed_ok (h : List Ob) (op : Int) (a b : List Vl) (hh : HpIn h) (g : Uh h) (ka : Kd h a) (kb : Kd h b) (hla : a.length ≤ 2000000) (hlb : b.length ≤ 2000000) : Fn Tryz.prog 17 [hpD md h,.v (.int .i64 op),vsD a,vsD b] (.tup [.sl false 7 (mixS h op a b) vlD vl0,.v (.bool (((decide (op = 15) || decide (op = 14)) || decide (op = 6)) || decide (op = 16)))]) := by
 refine yK tabT Tryz.func17 rfl rfl rfl rfl rfl rfl ?_;intro w0 s0 mx;refine ev_len 2 rfl fun hl2 => ?_;refine ev_len 3 rfl fun hl3 => ?_;refine ev_R tabT [] 100 ?_;refine ev_R tabT [] 200 ?_;refine yM 10 29 7 rfl ?_;refine zB ?_;refine ev_R tabT [] 300 ?_;refine zL ?_;refine zX (ι := {i : Nat // i ≤ a.length}) [1,2,3,4,16,17] [0] 350 (fun x => [(18,.v (.int .i64 x.1)),(10,.own 200 7 (((a.take x.1).filter (mdP h op b)).map vlD))]) (fun x => [(200,.row 29 7 (((a.take x.1).filter (mdP h op b)).map vlD).length)]) (fun x => a.length - x.1) ⟨0,Nat.zero_le _⟩ ?_;refine ⟨⟨⟨Sub.int rfl,Sub.own rfl,le_t⟩,⟨⟨rfl,rfl,rfl⟩,le_o⟩,rfl,rfl⟩,fun x => ?_⟩;have hk1 : x.1 ≤ a.length := x.2;refine ev_R tabT [] 400 ?_;refine zB ?_;refine zR rfl (fun c3 => ?_) (fun c3 => ?_)
 ·have hlt : x.1 < a.length := by simpa using c3
  have hka := ka.keyed _ (getD_m hlt);have hva := ka.vd _ (getD_m hlt);have hfl := filt_len a (mdP h op b) x.1;refine zK (zA ?_);refine zB ?_;refine zL ?_;refine ev_R tabT [] 500 ?_;refine yG [1,2,3,4,10,12,16,17,18] [0,200,402] 510 [] [(402,.box 29 (vlD (a.getD x.1 vl0)))] ?_;refine ⟨⟨le_t,⟨⟨rfl,SubL.same rfl⟩,le_o⟩,rfl,rfl⟩,?_⟩;refine zB (zE tabT [] 600 rfl ?_);refine zF ?_;refine zT _ (Place_ok h b _ hh (fun y hy => keyed_dp (kb.keyed y hy))) rfl ?_;refine zF ?_;refine zC (zA ?_);refine ev_R tabT [] 700 ?_;refine yD (fun c6 => ?_) (fun c6 => ?_)
  ·
   refine zE tabT [] 800 rfl ?_;repeat (first | refine zG ?_ | refine zH ?_ | refine sn221 ?_)
   refine zC (zJ (zA ?_));refine ev_Q tabT [] 900 ?_;have hN := filt_yes (p := mdP h op b) hlt (by simpa [mdP] using c6);exact zO ⟨x.1 + 1,by omega⟩ ⟨⟨Sub.int (by push_cast;rfl),Sub.own (by rw [hN,List.map_append];rfl),le_t⟩,⟨⟨rfl,rfl,by rw [hN];simp⟩,le_o⟩,rfl,rfl⟩ (by show a.length - (x.1 + 1) < a.length - x.1;omega)
  ·
   refine zK (zJ (zA ?_));refine ev_Q tabT [] 900 ?_;have hN := filt_no (p := mdP h op b) hlt (by simpa [mdP] using c6);exact zO ⟨x.1 + 1,by omega⟩ ⟨⟨Sub.int (by push_cast;rfl),Sub.own (by rw [hN]),le_t⟩,⟨⟨rfl,rfl,by rw [hN]⟩,le_o⟩,rfl,rfl⟩ (by show a.length - (x.1 + 1) < a.length - x.1;omega)
 ·have hke : x.1 = a.length := by simp at c3;omega
  have htk : a.take x.1 = a := List.take_of_length_le (by omega);refine yA (zV (zW (zS (zA ?_))));refine zB ?_;refine ev_R tabT [] 1000 ?_;refine zL ?_;refine zX (ι := {i : Nat // i ≤ b.length}) [1,2,4,53,54] [0] 1050 (fun z => [(55,.v (.int .i64 z.1)),(10,.own 200 7 ((a.filter (mdP h op b) ++ (b.take z.1).filter (mx2 h op a)).map vlD))]) (fun z => [(200,.row 29 7 ((a.filter (mdP h op b) ++ (b.take z.1).filter (mx2 h op a)).map vlD).length)]) (fun z => b.length - z.1) ⟨0,Nat.zero_le _⟩ ?_;refine ⟨⟨⟨Sub.int rfl,Sub.own (by rw [htk];simp),le_t⟩,⟨⟨rfl,rfl,by rw [htk];simp⟩,le_o⟩,rfl,rfl⟩,fun z => ?_⟩;have hk2 : z.1 ≤ b.length := z.2;refine ev_R tabT [] 1100 ?_;refine zB ?_;refine zR rfl (fun c10 => ?_) (fun c10 => ?_)
  ·have hlt2 : z.1 < b.length := by simpa using c10
   have hkb := kb.keyed _ (getD_m hlt2);have hvb := kb.vd _ (getD_m hlt2);have hfl := filt_len b (mx2 h op a) z.1;have hfa := List.length_filter_le (mdP h op b) a;refine zK (zA ?_);refine zB ?_;refine zL ?_;refine ev_R tabT [] 1200 ?_;refine yG [1,2,4,10,15,53,54,55] [0,200,1102] 1210 [] [(1102,.box 29 (vlD (b.getD z.1 vl0)))] ?_;refine ⟨⟨le_t,⟨⟨rfl,SubL.same rfl⟩,le_o⟩,rfl,rfl⟩,?_⟩;refine zB (zE tabT [] 1300 rfl ?_);refine zF ?_;refine yF _ (fun hg10 => Place_ok h a _ hh (fun y hy => keyed_dp (ka.keyed y hy))) rfl ?_;refine zF ?_;refine zC (zA ?_);refine yD (fun c12 => ?_) (fun c12 => ?_)
   ·
    refine zE tabT [] 1400 rfl ?_;repeat (first | refine zG ?_ | refine zH ?_ | refine sn221 ?_)
    refine zC (zJ (zA ?_));refine ev_Q tabT [] 1500 ?_;have hN := filt_yes (p := mx2 h op a) hlt2 (by simpa [mx2] using c12);exact zO ⟨z.1 + 1,by omega⟩ ⟨⟨Sub.int (by push_cast;rfl),Sub.own (by rw [hN,← List.append_assoc,List.map_append (l₂ := [_])];rfl),le_t⟩,⟨⟨rfl,rfl,by rw [hN];simp [Nat.add_assoc]⟩,le_o⟩,rfl,rfl⟩ (by show b.length - (z.1 + 1) < b.length - z.1;omega)
   ·
    refine zK (zJ (zA ?_));refine ev_Q tabT [] 1500 ?_;have hN := filt_no (p := mx2 h op a) hlt2 (by simpa [mx2] using c12);exact zO ⟨z.1 + 1,by omega⟩ ⟨⟨Sub.int (by push_cast;rfl),Sub.own (by rw [hN]),le_t⟩,⟨⟨rfl,rfl,by rw [hN]⟩,le_o⟩,rfl,rfl⟩ (by show b.length - (z.1 + 1) < b.length - z.1;omega)
  ·have hke2 : z.1 = b.length := by simp at c10;omega
   refine yA (zV (zW (zS (zA ?_))));refine ev_R tabT [] 1600 ?_;refine zN ?_;exact FinV.ret rfl (SubP.tup ⟨SubP.ownSl (by rw [hke2,List.take_length];rfl),SubP.bool (by rfl),trivial⟩)
def inpS (h : List Ob) (op : Int) (a b : Vl) : Bool :=
 if (objS h a).kind = 2 then decide (op = 5) else if (objS h a).kind = 3 then decide (op = 15) && decide ((objS h b).kind = 3)
 else if (objS h a).kind = 4 then decide ((objS h b).kind = 4) && (((decide (op = 15) || decide (op = 14)) || decide (op = 6)) || decide (op = 16)) else false
theorem kd_nil (h : List Ob) : Kd h [] := ⟨(fun _ h => by cases h),(fun _ h => by cases h),fun i j hi => absurd hi (Nat.not_lt_zero _)⟩
theorem opInPlace_ok (h : List Ob) (op : Int) (a b : Vl) (ha : a.k = 6 → qB h a.r = true) (hb : b.k = 6 → qB h b.r = true) : Fn Tryz.prog 5 [hpD md h,.v (.int .i64 op),.agg (vlD a),.agg (vlD b)] (.v (.bool (inpS h op a b))) := by
 refine yK tabT Tryz.func5 rfl rfl rfl rfl rfl rfl ?_;intro w0 s0 mx;refine ev_R tabT [] 100 ?_;refine zB (zZ tabT [] [[],[],[0,1],[],[],[0,1,2,3,4],[],[],[0,1,2,3,4,5,6,7],[0,1,2,3,4,5,6,7,8]] 200 mixT (by kernel_rfl) rfl ?_);refine zF ?_;refine zT _ (opObject_ok h a ha) rfl ?_;refine zF ?_;refine zT _ (opObject_ok h b hb) rfl ?_;refine zF ?_;refine zC (zA ?_);refine zB ?_;refine ev_R tabT [] 300 ?_;refine zL ?_;refine ev_R tabT [] 400 ?_;refine yD (fun c3 => ?_) (fun c3 => ?_)
 ·
  refine ev_R tabT [] 500 ?_;refine zN (zP (zM ?_));exact FinV.ret rfl (SubP.bool (by unfold inpS;rw [if_pos c3]))
 ·
  refine ev_R tabT [] 600 ?_;refine yD (fun c5 => ?_) (fun c5 => ?_)
  ·
   refine ev_R tabT [] 700 ?_;refine zN (zP (zM ?_));exact FinV.ret rfl (SubP.bool (by unfold inpS;rw [if_neg c3,if_pos c5]))
  ·
   refine ev_R tabT [] 800 ?_;refine yD (fun c7 => ?_) (fun c7 => ?_)
   ·
    refine ev_R tabT [] 900 ?_;refine zN (zP (zM ?_));exact FinV.ret rfl (SubP.bool (by unfold inpS;rw [if_neg c3,if_neg c5,if_pos c7];try simp only [Bool.or_assoc]))
   ·
    refine zK (zJ (zA ?_));refine ev_R tabT [] 1000 ?_;refine zN ?_;exact FinV.ret rfl (SubP.bool (by unfold inpS;rw [if_neg c3,if_neg c5,if_neg c7]))
theorem InPlaceD_ok (h : List Ob) (op : Int) (a b : Vl) (hh : HpIn h) (g : Uh h) : Fn Tryz.prog 6 [hpD md h,.v (.int .i64 op),.agg (vlD a),.agg (vlD b)] (.v (.bool (inpS h op a b))) := by
 refine yK tabT Tryz.func6 rfl rfl rfl rfl rfl rfl ?_;intro w0 s0 mx;refine ev_R tabT [] 100 ?_;refine zB (zZ tabT [] [[],[],[0,1],[0,1,2],[],[],[0,1,2,4,5],[0,1,2,4,5,6],[0,1,2,3,4,5,6],[0,1,2,3,4,5,6,7,8]] 200 mixT (by kernel_rfl) rfl ?_);refine zF ?_;refine zT _ (qP _ _) rfl ?_;refine zF ?_;refine zT _ (qP _ _) rfl ?_;refine zF ?_;refine zC (zA ?_);refine zB (zE tabT [] 300 rfl ?_);refine zF ?_;refine zT _ ((mixed_ok h op [] [] hh g (kd_nil h) (kd_nil h) (by decide) (by decide)).args ⟨SubP.refl _,SubP.refl _,SubP.nilSl rfl,SubP.nilSl rfl,trivial⟩) rfl ?_;refine zF ?_;refine zC (zA ?_);refine ev_R tabT [] 400 ?_;refine zN ?_;exact FinV.ret rfl (SubP.bool (by unfold inpS;by_cases h2 : (objS h a).kind = 2 <;> by_cases h3 : (objS h a).kind = 3 <;> by_cases h4 : (objS h a).kind = 4 <;> simp_all [Bool.and_comm]))
variable {md me : Bool}
theorem un_vd {h : List Ob} {x y : Ob} (kx : Kd h x.keys) (ky : Kd h y.keys) {i : Nat} (hi : i ≤ y.keys.length) : ∀ k ∈ unK h x y i,Vd h k := fun k hk => by
 rcases List.mem_append.1 hk with hk | hk
 ·exact kx.vd k hk
 ·obtain ⟨j,hj,rfl⟩ := List.mem_map.1 hk;have hj := List.mem_range.1 (List.mem_filter.1 hj).1;exact ky.vd _ (getD_m (by omega))
def unJ (h : List Ob) (x y : Ob) (i : Nat) : List Vl := (List.range x.keys.length).map (unF h x y y.keys) ++ ((List.range i).filter (unP h x y)).map fun i => y.items.getD i vl0
theorem unJ_all (h : List Ob) (x y : Ob) : unJ h x y y.keys.length = unI h x y y.keys.length := by
 rw [unJ,unI,List.take_of_length_le (Nat.le_refl _)]
theorem unJ_len (h : List Ob) (x y : Ob) (i : Nat) : (unJ h x y i).length = (unK h x y i).length := by
 rw [unJ,unK,List.length_append,List.length_append,List.length_map,List.length_map,List.length_map,List.length_range]
theorem un_yes {h : List Ob} {x y : Ob} {i : Nat} (h0 : plI h x.keys (y.keys.getD i vl0) < 0) : unK h x y (i + 1) = unK h x y i ++ [y.keys.getD i vl0] ∧ unJ h x y (i + 1) = unJ h x y i ++ [y.items.getD i vl0] := by
 have hp : unP h x y i = true := decide_eq_true h0;rw [unK,unK,unJ,unJ,un_fil hp,List.map_append,List.map_append,← List.append_assoc,← List.append_assoc];exact ⟨rfl,rfl⟩
theorem un_no {h : List Ob} {x y : Ob} {i : Nat} (h0 : ¬ plI h x.keys (y.keys.getD i vl0) < 0) : unK h x y (i + 1) = unK h x y i ∧ unJ h x y (i + 1) = unJ h x y i := by
 have hp : ¬ unP h x y i = true := by rw [unP,decide_eq_false h0];decide
 rw [unK,unK,unJ,unJ,un_fil' hp];exact ⟨rfl,rfl⟩
theorem range_snoc (f : Nat → Vl) (i : Nat) : (List.range (i + 1)).map f = (List.range i).map f ++ [f i] := by rw [List.range_succ,List.map_append];rfl
theorem take_snoc {l : List Vl} {i : Nat} (hi : i < l.length) : l.take (i + 1) = l.take i ++ [l.getD i vl0] := by
 rw [List.take_succ_eq_append_getElem hi,List.getD_eq_getElem?_getD,List.getElem?_eq_getElem hi];rfl
theorem mapsnoc (l : List Vl) (v : Vl) : (l ++ [v]).map vlD = l.map vlD ++ [vlD v] := by rw [List.map_append];rfl
theorem unK_0 (h : List Ob) (x y : Ob) : unK h x y 0 = x.keys := by simp [unK]
theorem unJ_0 (h : List Ob) (x y : Ob) : unJ h x y 0 = (List.range x.keys.length).map (unF h x y y.keys) := by simp [unJ]
set_option maxHeartbeats 1000000 in
theorem union_ok (h : List Ob) (x y : Ob) (hh : HpIn h) (g : Uh h) (kx : Kd h x.keys) (ky : Kd h y.keys) (hxl : x.items.length = x.keys.length) (hyl : y.items.length = y.keys.length) (hx : x.keys.length ≤ 1000000) (hy : y.keys.length ≤ 1000000) : Fn Tryz.prog 26 [hpD md h,.agg (obD x),.agg (obD y)] (.tup [.agg (obD (unO h x y)),.v (.bool (decide (((unK h x y y.keys.length).length : Int) ≤ 1000)))]) := by
 refine yK tabT Tryz.func26 rfl rfl rfl rfl rfl rfl ?_;intro w0 s0 mx;refine ev_R tabT [] 100 ?_;refine zB (zZ tabT [1014,1017] [[],[0],[0,1],[],[3],[0,1,2,3,4],[0,1,2,3,4,5],[],[0,1,2,3,4,5,6,7]] 200 mixT (by kernel_rfl) rfl ?_);refine zF ?_;refine yJ _ _ (CloneV_G x.keys (by omega)) rfl ?_;refine zF ?_;refine yJ _ _ (CloneV_G x.items (by omega)) rfl ?_;refine zF ?_;refine zC (zA ?_);refine zB ?_;refine ev_R tabT [] 300 ?_;refine zL ?_;refine zX (ι := {i : Nat // i ≤ y.keys.length}) [3,5,6,8,20,21] [0,2,3] 350 (fun z => [(22,.v (.int .i64 z.1))]) (fun z => [(107,.box 48 [.v (.int .i64 3),.v (.string ByteArray.empty),.v (.int .i64 0),.v (.slice none 0 0),.v (.slice none 0 0),.v (.slice none 0 0),.mo 105 (unI h x y z.1).length,.mo 102 (unK h x y z.1).length,.v (.int .i64 0),.v (.int .i64 0)]),(102,.mrow 29 7 (.map (unK h x y z.1) vlD vl0)),(105,.mrow 29 7 (.map (unI h x y z.1) vlD vl0))]) (fun z => y.keys.length - z.1) ⟨0,Nat.zero_le _⟩ ?_;refine ⟨⟨⟨Sub.int rfl,le_t⟩,⟨⟨rfl,Sub.refl _,rfl,Sub.refl _,rfl,Sub.refl _,rfl,Sub.refl _,rfl,Sub.refl _,rfl,Sub.refl _,rfl,Sub.mo (by rw [unI_zero hxl]),rfl,Sub.mo (by rw [unK_0]),rfl,Sub.refl _,rfl,Sub.refl _,rfl,trivial⟩,SubO.mr (by rw [unK_0]),SubO.mr (by rw [unI_zero hxl]),le_o⟩,rfl,rfl⟩,fun z => ?_⟩;have hk1 : z.1 ≤ y.keys.length := z.2;refine ev_R tabT [] 400 ?_;refine zB ?_;refine zR rfl (fun c3 => ?_) (fun c3 => ?_)
 ·have hlt : z.1 < y.keys.length := by simpa using c3
  have hkb := ky.keyed _ (getD_m hlt);have hvb := ky.vd _ (getD_m hlt);have hkl := unK_len h x y z.1;have hil := unI_len h x y z.1;refine zK (zA ?_);refine zB ?_;refine zL ?_;refine ev_R tabT [] 500 ?_;refine yG [3,5,6,8,9,10,20,21,22] [0,2,3,102,105,107,403] 510 [] [(403,.box 29 (vlD (y.keys.getD z.1 vl0)))] ?_;refine ⟨⟨le_t,⟨⟨rfl,SubL.same rfl⟩,le_o⟩,rfl,rfl⟩,?_⟩;refine zB (zE tabT [] 600 rfl ?_);refine zF ?_;refine sat_fnL _ (opPlace_ok h (unK h x y z.1) (y.keys.getD z.1 vl0) hh g hkb hvb (un_vd kx ky hk1)) rfl rfl ?_;refine zF ?_;refine zC (zA ?_);refine ev_R tabT [] 700 ?_;refine yD (fun c6 => ?_) (fun c6 => ?_)
  ·
   refine zZ tabT [] [[],[0],[],[],[3],[],[3,4,5],[3,4,5,6],[0,1,2,3,4,5,6,7],[0,1,2,3,4,5,6,7,8]] 800 mixT (by kernel_rfl) rfl ?_;repeat (first | refine zG ?_ | refine zH ?_ | refine zQ (by first | rfl | (simp only [MR.len];done) | exact ⟨by omega,by omega⟩ | exact ⟨by omega,by have := plI_has (l := unK h x y z.1) (k := y.keys.getD z.1 vl0) (by omega);show _ < (unI h x y z.1).length;omega⟩ | exact ⟨rfl,by have := plI_has (l := unK h x y z.1) (k := y.keys.getD z.1 vl0) (by omega);show _ < (unI h x y z.1).length;omega⟩ | exact ⟨by simp [MR.len],by have := plI_has (l := unK h x y z.1) (k := y.keys.getD z.1 vl0) (by omega);show _ < (unI h x y z.1).length;omega⟩ | first | exact trivial | omega | exact ini (by omega) (by omega) | (intro hh;simp at hh;exact ini (by omega) (by omega)) | (intro hh;simp at hh ⊢;omega) | (simp at *;omega) | (simp_all;done)) ?_)
   refine zC (zJ (zA ?_));refine ev_Q tabT [] 1000 ?_;have hN := un_old hlt kx.dk ky.dk (by have := (un_place hlt ky.dk (x := x)).2;omega);have hP := (un_place hlt ky.dk (x := x)).1 (by have := (un_place hlt ky.dk (x := x)).2;omega);rw [← hP] at hN;exact zO ⟨z.1 + 1,by omega⟩ ⟨⟨Sub.int (by push_cast;rfl),le_t⟩,⟨⟨rfl,Sub.refl _,rfl,Sub.refl _,rfl,Sub.refl _,rfl,Sub.refl _,rfl,Sub.refl _,rfl,Sub.refl _,rfl,Sub.mo (by rw [hN.2,List.length_set]),rfl,Sub.mo (by rw [hN.1]),rfl,Sub.refl _,rfl,Sub.refl _,rfl,trivial⟩,SubO.mr (by rw [hN.1]),SubO.mr (by rw [hN.2];show _ = ((unI h x y z.1).set _ _).map vlD;rw [List.map_set];rfl),le_o⟩,rfl,rfl⟩ (by show y.keys.length - (z.1 + 1) < y.keys.length - z.1;omega)
  ·
   refine zZ tabT [] [[],[0],[],[2],[0,1,2,3],[],[5],[],[7],[],[7,8,9],[7,8,9,10],[7,8,9,10,11],[0,1,2,3,4,5,6,7,8,9,10,11,12],[0,1,2,3,4,5,6],[0,1,2,3,4,5,6,7,8,9,10,11,12,13,14],[0,1,2,3,4,5,6,7,8,9,10,11,12,13,14,15],[0,1,2,3,4,5,6,7,8,9,10,11,12,13,14,15,16]] 900 mixT (by kernel_rfl) rfl ?_;repeat (first | refine zG ?_ | refine zH ?_ | refine zQ (by first | rfl | (simp only [MR.len];done) | (simp only [MR.len,List.length_map];omega) | first | exact trivial | omega | exact ini (by omega) (by omega) | (intro hh;simp at hh;exact ini (by omega) (by omega)) | (intro hh;simp at hh ⊢;omega) | (simp at *;omega) | (simp_all;done)) ?_)
   refine zC (zJ (zA ?_));refine ev_Q tabT [] 1000 ?_;have hN := un_new hlt ky.dk (x := x) (by have := (un_place hlt ky.dk (x := x)).1;omega);exact zO ⟨z.1 + 1,by omega⟩ ⟨⟨Sub.int (by push_cast;rfl),le_t⟩,⟨⟨rfl,Sub.refl _,rfl,Sub.refl _,rfl,Sub.refl _,rfl,Sub.refl _,rfl,Sub.refl _,rfl,Sub.refl _,rfl,Sub.mo (by rw [hN.2,List.length_append];rfl),rfl,Sub.mo (by rw [hN.1,List.length_append];rfl),rfl,Sub.refl _,rfl,Sub.refl _,rfl,trivial⟩,SubO.mr (by rw [hN.1];exact (mapsnoc _ _).symm),SubO.mr (by rw [hN.2];exact (mapsnoc _ _).symm),le_o⟩,rfl,rfl⟩ (by show y.keys.length - (z.1 + 1) < y.keys.length - z.1;omega)
 ·have hke : z.1 = y.keys.length := by simp at c3;omega
  refine yA (zV (zW (zS (zA ?_))));refine qT 102 rfl (by repeat (first | exact trivial | exact rfl | exact (fun _ => rfl) | exact (fun h => absurd h (by decide)) | refine ⟨?_,?_⟩)) (by repeat (first | exact trivial | exact rfl | exact (fun _ => rfl) | exact (fun h => absurd h (by decide)) | refine ⟨?_,?_⟩)) ?_;refine qT 105 rfl (by repeat (first | exact trivial | exact rfl | exact (fun _ => rfl) | exact (fun h => absurd h (by decide)) | refine ⟨?_,?_⟩)) (by repeat (first | exact trivial | exact rfl | exact (fun _ => rfl) | exact (fun h => absurd h (by decide)) | refine ⟨?_,?_⟩)) ?_;refine zB (zZ tabT [] [[],[],[1],[1,2],[1,2,3],[0],[0,1,2,3,4,5]] 1100 mixT (by kernel_rfl) rfl ?_);refine zF ?_;refine zC (zA (zN ?_));exact FinV.ret rfl (SubP.tup ⟨SubP.agg ⟨SubP.refl _,SubP.refl _,SubP.refl _,SubP.nilSl rfl,SubP.nilSl rfl,SubP.nilSl rfl,SubP.ownSl (by rw [hke];rfl),SubP.ownSl (by rw [hke];rfl),SubP.refl _,SubP.refl _,trivial⟩,SubP.bool (by rw [hke];show decide (((List.map vlD _).length : Int) ≤ 1000) = _;rw [List.length_map]),trivial⟩)
theorem sn222 {P : Program} {K : DS → Prop} {p : Prop} {r : Out} (hr : r.sat P K) (hp : p := by first | (simp only [List.length_map,List.length_cons,List.length_nil,List.length_append,List.length_range,List.length_take];omega) | (simp only [List.length_map,List.length_cons,List.length_nil];omega) | exact ⟨by omega,by omega⟩ | first | exact trivial | omega | exact ini (by omega) (by omega) | (intro hh;simp at hh;exact ini (by omega) (by omega)) | (intro hh;simp at hh ⊢;omega) | (simp at *;omega) | (simp_all;done)) : (Out.need p r).sat P K := ⟨hp,hr⟩
set_option maxHeartbeats 1000000 in
theorem united_ok (h : List Ob) (x y : Ob) (hh : HpIn h) (g : Uh h) (kx : Kd h x.keys) (ky : Kd h y.keys) (hxl : x.items.length = x.keys.length) (hyl : y.items.length = y.keys.length) (hx : x.keys.length ≤ 1000000) (hy : y.keys.length ≤ 1000000) : Fn Tryz.prog 28 [hpD md h,.agg (obD x),.agg (obD y)] (.agg (obD (unO h x y))) := by
 refine yK tabT Tryz.func28 rfl rfl rfl rfl rfl rfl ?_;intro w0 s0 mx;refine ev_R tabT [] 100 ?_;refine ev_R tabT [] 200 ?_;refine ev_nilCell 101 7 29 7 rfl rfl ?_;refine ev_nilCell 101 6 29 7 rfl rfl ?_;refine zB ?_;refine ev_R tabT [] 300 ?_;refine zL ?_;refine zX (ι := {i : Nat // i ≤ x.keys.length}) [3,4,5,6,7,16,17] [0,1,2,3] 350 (fun a => [(18,.v (.int .i64 a.1))]) (fun a => [(101,.box 48 [.v (.int .i64 3),.v (.string ByteArray.empty),.v (.int .i64 0),.v (.slice none 0 0),.v (.slice none 0 0),.v (.slice none 0 0),.own 201 7 (((List.range a.1).map (unF h x y y.keys)).map vlD),.own 200 7 ((x.keys.take a.1).map vlD),.v (.int .i64 0),.v (.int .i64 0)]),(200,.row 29 7 ((x.keys.take a.1).map vlD).length),(201,.row 29 7 (((List.range a.1).map (unF h x y y.keys)).map vlD).length)]) (fun a => x.keys.length - a.1) ⟨0,Nat.zero_le _⟩ ?_;refine ⟨⟨⟨Sub.int rfl,le_t⟩,⟨⟨rfl,Sub.refl _,rfl,Sub.refl _,rfl,Sub.refl _,rfl,Sub.refl _,rfl,Sub.refl _,rfl,Sub.refl _,rfl,Sub.refl _,rfl,Sub.refl _,rfl,Sub.refl _,rfl,Sub.refl _,rfl,trivial⟩,⟨rfl,rfl,rfl⟩,⟨rfl,rfl,rfl⟩,le_o⟩,rfl,rfl⟩,fun a => ?_⟩;have hk1 : a.1 ≤ x.keys.length := a.2;refine ev_R tabT [] 400 ?_;refine zB ?_;refine zR rfl (fun c3 => ?_) (fun c3 => ?_)
 ·have hlt : a.1 < x.keys.length := by simpa using c3
  refine zK (zA ?_);refine zB ?_;refine zL ?_;refine ev_R tabT [] 500 ?_;refine yG [3,4,5,6,7,8,9,16,17,18] [0,1,2,3,101,200,201,403] 510 [] [(403,.box 29 (vlD (x.keys.getD a.1 vl0)))] ?_;refine ⟨⟨le_t,⟨⟨rfl,SubL.same rfl⟩,le_o⟩,rfl,rfl⟩,?_⟩;refine zB (zE tabT [] 600 rfl ?_);repeat (first | refine zG ?_ | refine zH ?_ | refine zQ (by first | exact ⟨by omega,by omega⟩ | first | exact trivial | omega | exact ini (by omega) (by omega) | (intro hh;simp at hh;exact ini (by omega) (by omega)) | (intro hh;simp at hh ⊢;omega) | (simp at *;omega) | (simp_all;done)) ?_)
  refine zC (zA ?_);refine zB ?_;refine yG [3,4,5,6,7,9,10,16,17,18] [0,1,2,3,101,200,201,403,515] 610 [] [(515,.box 29 (vlD (x.items.getD a.1 vl0)))] ?_;refine ⟨⟨le_t,⟨⟨rfl,SubL.same rfl⟩,le_o⟩,rfl,rfl⟩,?_⟩;refine zB (zE tabT [] 700 rfl ?_);refine zF ?_;refine zT _ (Place_ok h y.keys _ hh (fun k hk => keyed_dp (ky.keyed k hk))) rfl ?_;refine zF ?_;refine zC (zA ?_);refine ev_R tabT [] 800 ?_;refine yD (fun c7 => ?_) (fun c7 => ?_)
  ·
   refine zE tabT [] 900 rfl ?_;repeat (first | refine zG ?_ | refine zH ?_ | refine zQ (by first | exact ⟨by omega,by have := plI_has (l := y.keys) (k := x.keys.getD a.1 vl0) (by omega);omega⟩ | first | exact trivial | omega | exact ini (by omega) (by omega) | (intro hh;simp at hh;exact ini (by omega) (by omega)) | (intro hh;simp at hh ⊢;omega) | (simp at *;omega) | (simp_all;done)) ?_)
   refine zC (zA ?_);refine yG [3,4,5,6,7,9,10,16,17,18] [0,1,2,3,101,200,201,403,515] 910 [] [(515,.box 29 (vlD (unF h x y y.keys a.1)))] ?_;refine ⟨⟨le_t,⟨by rw [show (unF h x y y.keys a.1) = _ from if_pos c7];exact ⟨rfl,SubL.same rfl⟩,le_o⟩,rfl,rfl⟩,?_⟩;refine zZ tabT [] [[],[0],[],[2],[0,1,2,3],[],[5],[],[7],[0,1,2,3,4,5,6,7,8],[0,1,2,3,4,5,6],[0,1,2,3,4,5,6,7,8,9,10],[0,1,2,3,4,5,6,7,8,9,10,11],[0,1,2,3,4,5,6,7,8,9,10,11,12]] 1000 mixT (by kernel_rfl) rfl ?_;repeat (first | refine zG ?_ | refine zH ?_ | refine sn222 ?_)
   refine zC (zJ (zA ?_));refine ev_Q tabT [] 1100 ?_;exact zO ⟨a.1 + 1,by omega⟩ ⟨⟨Sub.int (by push_cast;rfl),le_t⟩,⟨⟨rfl,Sub.refl _,rfl,Sub.refl _,rfl,Sub.refl _,rfl,Sub.refl _,rfl,Sub.refl _,rfl,Sub.refl _,rfl,Sub.own (by rw [range_snoc];exact (mapsnoc _ _).symm),rfl,Sub.own (by rw [take_snoc hlt];exact (mapsnoc _ _).symm),rfl,Sub.refl _,rfl,Sub.refl _,rfl,trivial⟩,⟨rfl,rfl,by rw [take_snoc hlt];simp⟩,⟨rfl,rfl,by rw [range_snoc];simp⟩,le_o⟩,rfl,rfl⟩ (by show x.keys.length - (a.1 + 1) < x.keys.length - a.1;omega)
  ·
   refine zK (zA ?_);refine yG [3,4,5,6,7,9,10,16,17,18] [0,1,2,3,101,200,201,403,515] 810 [] [(515,.box 29 (vlD (unF h x y y.keys a.1)))] ?_;refine ⟨⟨le_t,⟨by rw [show (unF h x y y.keys a.1) = _ from if_neg (by simpa using c7)];exact ⟨rfl,SubL.same rfl⟩,le_o⟩,rfl,rfl⟩,?_⟩;refine zZ tabT [] [[],[0],[],[2],[0,1,2,3],[],[5],[],[7],[0,1,2,3,4,5,6,7,8],[0,1,2,3,4,5,6],[0,1,2,3,4,5,6,7,8,9,10],[0,1,2,3,4,5,6,7,8,9,10,11],[0,1,2,3,4,5,6,7,8,9,10,11,12]] 1000 mixT (by kernel_rfl) rfl ?_;repeat (first | refine zG ?_ | refine zH ?_ | refine sn222 ?_)
   refine zC (zJ (zA ?_));refine ev_Q tabT [] 1100 ?_;exact zO ⟨a.1 + 1,by omega⟩ ⟨⟨Sub.int (by push_cast;rfl),le_t⟩,⟨⟨rfl,Sub.refl _,rfl,Sub.refl _,rfl,Sub.refl _,rfl,Sub.refl _,rfl,Sub.refl _,rfl,Sub.refl _,rfl,Sub.own (by rw [range_snoc];exact (mapsnoc _ _).symm),rfl,Sub.own (by rw [take_snoc hlt];exact (mapsnoc _ _).symm),rfl,Sub.refl _,rfl,Sub.refl _,rfl,trivial⟩,⟨rfl,rfl,by rw [take_snoc hlt];simp⟩,⟨rfl,rfl,by rw [range_snoc];simp⟩,le_o⟩,rfl,rfl⟩ (by show x.keys.length - (a.1 + 1) < x.keys.length - a.1;omega)
 ·have hke : a.1 = x.keys.length := by simp at c3;omega
  refine yA (zV (zW (zS (zA ?_))));refine zB ?_;refine ev_R tabT [] 1200 ?_;refine zL ?_;refine zX (ι := {i : Nat // i ≤ y.keys.length}) [3,4,5,6,7,54,55] [0,1,2,3] 1250 (fun z => [(56,.v (.int .i64 z.1))]) (fun z => [(101,.box 48 [.v (.int .i64 3),.v (.string ByteArray.empty),.v (.int .i64 0),.v (.slice none 0 0),.v (.slice none 0 0),.v (.slice none 0 0),.own 201 7 ((unJ h x y z.1).map vlD),.own 200 7 ((unK h x y z.1).map vlD),.v (.int .i64 0),.v (.int .i64 0)]),(200,.row 29 7 ((unK h x y z.1).map vlD).length),(201,.row 29 7 ((unJ h x y z.1).map vlD).length)]) (fun z => y.keys.length - z.1) ⟨0,Nat.zero_le _⟩ ?_;refine ⟨⟨⟨Sub.int rfl,le_t⟩,⟨⟨rfl,Sub.refl _,rfl,Sub.refl _,rfl,Sub.refl _,rfl,Sub.refl _,rfl,Sub.refl _,rfl,Sub.refl _,rfl,Sub.own (by rw [unJ_0,hke]),rfl,Sub.own (by rw [unK_0,hke,List.take_length]),rfl,Sub.refl _,rfl,Sub.refl _,rfl,trivial⟩,⟨rfl,rfl,by rw [unK_0,hke,List.take_length]⟩,⟨rfl,rfl,by rw [unJ_0,hke]⟩,le_o⟩,rfl,rfl⟩,fun z => ?_⟩;have hk2 : z.1 ≤ y.keys.length := z.2;refine ev_R tabT [] 1300 ?_;refine zB ?_;refine zR rfl (fun c12 => ?_) (fun c12 => ?_)
  ·have hlt2 : z.1 < y.keys.length := by simpa using c12
   have hkl := unK_len h x y z.1;have hil := unJ_len h x y z.1;refine zK (zA ?_);refine zB ?_;refine zL ?_;refine ev_R tabT [] 1400 ?_;refine yG [3,4,5,6,7,12,13,54,55,56] [0,1,2,3,101,200,201,1303] 1410 [] [(1303,.box 29 (vlD (y.keys.getD z.1 vl0)))] ?_;refine ⟨⟨le_t,⟨⟨rfl,SubL.same rfl⟩,le_o⟩,rfl,rfl⟩,?_⟩;refine zB (zE tabT [] 1500 rfl ?_);refine zF ?_;refine zT _ (Place_ok h x.keys _ hh (fun k hk => keyed_dp (kx.keyed k hk))) rfl ?_;refine zF ?_;refine zC (zA ?_);refine yD (fun c14 => ?_) (fun c14 => ?_)
   ·
    refine zZ tabT [] [[],[0],[],[2],[0,1,2,3],[],[5],[],[7],[],[7,8,9],[7,8,9,10],[7,8,9,10,11],[0,1,2,3,4,5,6,7,8,9,10,11,12],[0,1,2,3,4,5,6],[0,1,2,3,4,5,6,7,8,9,10,11,12,13,14],[0,1,2,3,4,5,6,7,8,9,10,11,12,13,14,15],[0,1,2,3,4,5,6,7,8,9,10,11,12,13,14,15,16]] 1600 mixT (by kernel_rfl) rfl ?_;repeat (first | refine zG ?_ | refine zH ?_ | refine sn222 ?_)
    refine zC (zJ (zA ?_));refine ev_Q tabT [] 1700 ?_;have hN := un_yes (h := h) (x := x) (y := y) c14;exact zO ⟨z.1 + 1,by omega⟩ ⟨⟨Sub.int (by push_cast;rfl),le_t⟩,⟨⟨rfl,Sub.refl _,rfl,Sub.refl _,rfl,Sub.refl _,rfl,Sub.refl _,rfl,Sub.refl _,rfl,Sub.refl _,rfl,Sub.own (by rw [hN.2];exact (mapsnoc _ _).symm),rfl,Sub.own (by rw [hN.1];exact (mapsnoc _ _).symm),rfl,Sub.refl _,rfl,Sub.refl _,rfl,trivial⟩,⟨rfl,rfl,by rw [hN.1];simp⟩,⟨rfl,rfl,by rw [hN.2];simp⟩,le_o⟩,rfl,rfl⟩ (by show y.keys.length - (z.1 + 1) < y.keys.length - z.1;omega)
   ·
    refine zK (zJ (zA ?_));refine ev_Q tabT [] 1700 ?_;have hN := un_no (h := h) (x := x) (y := y) (i := z.1) (by simpa using c14);exact zO ⟨z.1 + 1,by omega⟩ ⟨⟨Sub.int (by push_cast;rfl),le_t⟩,⟨⟨rfl,Sub.refl _,rfl,Sub.refl _,rfl,Sub.refl _,rfl,Sub.refl _,rfl,Sub.refl _,rfl,Sub.refl _,rfl,Sub.own (by rw [hN.2]),rfl,Sub.own (by rw [hN.1]),rfl,Sub.refl _,rfl,Sub.refl _,rfl,trivial⟩,⟨rfl,rfl,by rw [hN.1]⟩,⟨rfl,rfl,by rw [hN.2]⟩,le_o⟩,rfl,rfl⟩ (by show y.keys.length - (z.1 + 1) < y.keys.length - z.1;omega)
  ·have hke2 : z.1 = y.keys.length := by simp at c12;omega
   refine yA (zV (zW (zS (zA ?_))));refine ev_R tabT [] 1800 ?_;refine zN ?_;exact FinV.ret rfl (SubP.agg ⟨SubP.refl _,SubP.refl _,SubP.refl _,SubP.nilSl rfl,SubP.nilSl rfl,SubP.nilSl rfl,SubP.ownSl (by rw [hke2,unJ_all];rfl),SubP.ownSl (by rw [hke2];rfl),SubP.refl _,SubP.refl _,trivial⟩)
section
variable {P : Program} {b : Ba} {ops : Array Oper}
end
def ArgS : List D → List D → Prop
 | [],[] => True
 | d :: l,d' :: l' => Sub d d' ∧ ArgS l l'
 | _,_ => False
theorem ArgS.all {w : World} {s : Sb} {g : Gh} : ∀ {l l' : List D} {vs : List Value},ArgS l l' → AllT w s g (D.tvl l) vs → AllT w s g (D.tvl l') vs
 | [],[],_,_,h => h
 | d :: l,d' :: l',[],_,h => by rw [D.tvl] at h;simp [AllT] at h
 | d :: l,d' :: l',v :: vs,h,hv => by
  rw [D.tvl,AllT.cons] at hv;rw [D.tvl,AllT.cons];exact ⟨h.1 _ _ _ _ hv.1,h.2.all hv.2⟩
 | [],_ :: _,_,h,_ => h.elim
 | _ :: _,[],_,h,_ => h.elim
theorem FnG.args {P : Program} {f : FuncId} {args args' : List D} {own own' : List DOwn} {out : D} (h : FnG P f args own out own') (hs : ArgS args' args) : FnG P f args' own out own' :=
 ⟨h.bod,fun w s g vs hg ha => h.run w s g vs hg (hs.all ha)⟩
theorem FnG.out {P : Program} {f : FuncId} {args : List D} {own own' : List DOwn} {out out' : D} (h : FnG P f args own out own') (hs : Sub out out') : FnG P f args own out' own' :=
 ⟨h.bod,fun w s g vs hg ha => (h.run w s g vs hg ha).mono fun r w' hq => by
  obtain ⟨s',g',v,h1,h2,h3⟩ := hq;exact ⟨s',g',v,h1,hs _ _ _ _ h2,h3⟩⟩
variable {md me : Bool}
def exR (h : List Ob) (v : Vl) (es : List Vl) : St := if (1000 : Int) < ((objS h v).items.length : Int) + (es.length : Int) then raS 42 tooB else vlS v
def exH (h : List Ob) (v : Vl) (es : List Vl) : List Ob := if (1000 : Int) < ((objS h v).items.length : Int) + (es.length : Int) then h else h.set v.r.toNat { objS h v with items := (objS h v).items ++ es }
def upK (h : List Ob) (op : Int) (a b : Vl) : List Vl := if (objS h a).kind = 3 then unK h (objS h a) (objS h b) (objS h b).keys.length else algS h op (objS h a).keys (objS h b).keys
def upI (h : List Ob) (a b : Vl) : List Vl := if (objS h a).kind = 3 then unI h (objS h a) (objS h b) (objS h b).keys.length else (objS h a).items
def upR (h : List Ob) (op : Int) (a b : Vl) : St := if (1000 : Int) < ((upK h op a b).length : Int) then raS 42 tooB else vlS a
def upH (h : List Ob) (op : Int) (a b : Vl) : List Ob := if (1000 : Int) < ((upK h op a b).length : Int) then h else h.set a.r.toNat { objS h a with keys := upK h op a b,items := upI h a b }
theorem upd_obI {h : List Ob} {n : Nat} {o : Ob} {row : List D} (hr : D.pvs row = D.pvs (obD o)) : D.pvss ((h.map obD).set n row) = D.pvss ((h.set n o).map obD) := by
 rw [yE,yE,List.map_set,hr,List.map_map,List.map_map,List.map_set];rfl
theorem ob_items (o : Ob) (k : Nat) (l : List Vl) : D.pvs ((obD o).take 6 ++ [.own k 7 (l.map vlD)] ++ (obD o).drop 7) = D.pvs (obD { o with items := l }) := by
 show D.pvs [_,_,_,_,_,_,D.own k 7 (l.map vlD),_,_,_] = D.pvs [_,_,_,_,_,_,D.sl false 7 l vlD vl0,_,_,_];simp only [D.pvs,D.pv,yE,List.map_map];rfl
theorem dict_len {h : List Ob} (g : Uh h) {v : Vl} (hk : (objS h v).kind = 3) : (objS h v).items.length = (objS h v).keys.length := by
 obtain ⟨h6,ho,e⟩ := objS_of (h := h) (v := v) (by omega);rw [e] at hk ⊢;have hin := yN ho;have h49 : ¬ v.r.toNat < 49 := fun hl => by
  rw [show obAt h v.r = bgO v.r.toNat from g.lo_at hl] at hk;exact absurd hk (by show ¬ (9 : Int) = 3;decide)
 have u := g.hi_at (i := v.r.toNat) (by omega) hin.2;rw [← obAt_nat hin] at u;have h1 := (sh_of u.shape).1;unfold cntS at h1;rw [hk,if_neg (by decide +kernel),if_neg (by decide +kernel),if_neg (by decide +kernel),if_pos (by decide +kernel)] at h1;omega
theorem keys_le {h : List Ob} (g : Uh h) (v : Vl) : (objS h v).keys.length ≤ 1000 ∧ (objS h v).items.length ≤ 1000 := by
 by_cases hk : (objS h v).kind = 0
 ·unfold objS at hk ⊢;split
  ·rename_i h1;have := h1.2;simp only [qB,Bool.and_eq_true,Bool.not_eq_true',decide_eq_false_iff_not] at this;rw [if_pos h1] at hk;exact absurd hk this.2
  ·exact ⟨by decide,by decide⟩
 ·obtain ⟨h6,ho,e⟩ := objS_of (h := h) (v := v) hk;rw [e];have hin := yN ho;by_cases h49 : v.r.toNat < 49
  ·rw [show obAt h v.r = bgO v.r.toNat from g.lo_at h49];exact ⟨Nat.zero_le _,Nat.zero_le _⟩
  ·have u := g.hi_at (i := v.r.toNat) (by omega) hin.2;rw [← obAt_nat hin] at u;have hz := u.sizes;unfold sizesS at hz;split at hz
   ·cases hz
   ·split at hz
    ·cases hz
    ·rename_i h2;simp only [Bool.or_eq_true,decide_eq_true_eq,not_or] at h2;obtain ⟨h3,h4⟩ := h2;unfold mx3 at h3;repeat' split at h3
     all_goals omega
theorem chk_hp (s : St) (h : List Ob) : chkG 2 (.agg (stD s)) (hpO h) = true := rfl
theorem sn223 {P : Program} {K : DS → Prop} {p : Prop} {r : Out} (hr : r.sat P K) (hp : p := by first | rfl | exact ⟨by omega,hvl.2⟩ | exact ⟨hvl.1,hvl.2⟩ | exact ⟨by simp [MR.len],by show _ < (MR.map h obD ob0).len;simpa [MR.len] using hvl.2⟩ | (simp only [MR.len];done) | first | exact trivial | omega | exact ini (by omega) (by omega) | (intro hh;simp at hh;exact ini (by omega) (by omega)) | (intro hh;simp at hh ⊢;omega) | (simp at *;omega) | (simp_all;done)) : (Out.need p r).sat P K := ⟨hp,hr⟩
theorem opExtend_G (h : List Ob) (v : Vl) (es : List Vl) (hh : HpIn h) (g : Uh h) (hv : v.k = 6 ∧ qB h v.r = true) (he : es.length ≤ 2000000) : FnG Tryz.prog 8 [.bp 0 0,.agg (vlD v),vsD es] (hpO h) (.agg (stD (exR h v es))) (hpO (exH h v es)) := by
 have hvo : v.k = 6 → qB h v.r = true := fun _ => hv.2;have hvl := isObj_lt hv.2;have eo : objS h v = h.getD v.r.toNat ob0 := objS_at hvo hv.1;have hlx := keys_le g v;have hhl := hh.len;refine fnH_ev tabT Tryz.func8 rfl rfl rfl rfl rfl rfl rfl ?_;intro w0 s0 mx;refine ev_R tabT [] 100 ?_;refine zB (zZ tabT [] [[],[0],[0,1],[],[0,1,2,3],[],[0,1,2,3,4,5]] 200 mixT (by kernel_rfl) rfl ?_);refine zF ?_;refine sat_fnL _ (opObject_ok h v hvo) rfl rfl ?_;refine zF ?_;refine zC (zA ?_);refine zB ?_;refine ev_R tabT [] 300 ?_;refine yD (fun c2 => ?_) (fun c2 => ?_)
 ·
  refine zB (zE tabT [] 400 rfl ?_);refine zF ?_;refine zT _ (opLimit_ok) rfl ?_;refine zF ?_;refine zC (zA (zN (zM ?_)));rw [show exR h v es = _ from if_pos c2,show exH h v es = _ from if_pos c2];exact FinH.ret 2 rfl rfl (Sub.ofP (SubP.agg (SubPs.refl _)) rfl rfl) ⟨⟨rfl,Sub.mo (by simp),rfl,trivial⟩,SubO.mp rfl,trivial⟩
 ·
  refine zK (zA ?_);refine zB (zZ tabT [31] [[],[0],[0,1],[0,1,2],[],[4],[],[6],[],[6,7,8],[6,7,8,9],[0,1,2,3,4,5,6,7,8,9,10],[0,1,2,3,4,5,6,7,8,9,10,11],[0,1,2,3,4,5,6,7,8,9,10,11,12]] 500 mixT (by kernel_rfl) rfl ?_);repeat (first | refine zG ?_ | refine zH ?_ | refine sn223 ?_)
  refine sat_fnO _ _ _ ((ConcatV_ok [(objS h v).items,es] (by rw [ct_two,List.length_append];omega) (by show 2 ≤ 1000;omega)).args ⟨SubP.slrSl rfl,trivial⟩) ?_;repeat (first | refine zG ?_ | refine zH ?_ | refine sn223 ?_)
  refine zC (zA ?_);refine zB (zE tabT [] 600 rfl ?_);refine zF ?_;refine zT _ (opValue_ok v) rfl ?_;refine zF ?_;refine zC (zA (zN ?_));rw [show exR h v es = _ from if_neg (Int.not_lt.2 c2),show exH h v es = _ from if_neg (Int.not_lt.2 c2)];exact FinH.ret 2 rfl rfl (Sub.ofP (SubP.agg (SubPs.refl _)) rfl rfl) ⟨⟨rfl,Sub.mo (by simp),rfl,trivial⟩,SubO.mp (upd_obI (by rw [← eo];show D.pvs ((obD (objS h v)).take 6 ++ [.own _ 7 ((ctL [(objS h v).items,es] 2).map vlD)] ++ (obD (objS h v)).drop 7) = _;rw [show ctL [(objS h v).items,es] 2 = _ from ct_two _ _];exact ob_items _ _ _)),trivial⟩
theorem sn224 {P : Program} {K : DS → Prop} {p : Prop} {r : Out} (hr : r.sat P K) (hp : p := by first | exact ⟨by omega,hvl.2⟩ | exact ⟨by simp [MR.len],by simpa [MR.len] using hvl.2⟩ | first | exact trivial | omega | exact ini (by omega) (by omega) | (intro hh;simp at hh;exact ini (by omega) (by omega)) | (intro hh;simp at hh ⊢;omega) | (simp at *;omega) | (simp_all;done)) : (Out.need p r).sat P K := ⟨hp,hr⟩
theorem Extend_G (h : List Ob) (v : Vl) (es : List Vl) (hh : HpIn h) (g : Uh h) (hv : v.k = 6 ∧ qB h v.r = true) (he : es.length ≤ 2000000) : FnG Tryz.prog 9 [.bp 0 0,.agg (vlD v),vsD es] (hpO h) (.agg (stD (exR h v es))) (hpO (exH h v es)) := by
 have hvo : v.k = 6 → qB h v.r = true := fun _ => hv.2;have hvl := isObj_lt hv.2;have eo : objS h v = h.getD v.r.toNat ob0 := objS_at hvo hv.1;have hlx := keys_le g v;have hhl := hh.len;refine fnH_ev tabT Tryz.func9 rfl rfl rfl rfl rfl rfl rfl ?_;intro w0 s0 mx;refine ev_R tabT [] 100 ?_;refine zB (zZ tabT [19] [[],[0],[0,1],[0,1,2],[],[4],[0,1,2,3,4,5],[0,1,2,3,4,5,6],[0,1,2,3,4,5,6,7],[],[0,1,2,3,4,5,6,7,8,9],[0,1,2,3,4,5,6,7,8,9,10],[0,1,2,3,4,5,6,7,8,9,10,11]] 200 mixT (by kernel_rfl) rfl ?_);repeat (first | refine zG ?_ | refine zH ?_ | refine sn224 ?_)
 refine sat_fnO _ _ _ ((ConcatV_ok [(h.getD v.r.toNat ob0).items,es] (by rw [← eo,ct_two,List.length_append];omega) (by show 2 ≤ 1000;omega)).args ⟨SubP.slrSl rfl,trivial⟩) ?_;repeat (first | refine zG ?_ | refine zH ?_ | refine sn224 ?_)
 refine zC (zA ?_);refine yG [0,4,6] [2,3] 210 [(7,.sl false 7 ((objS h v).items ++ es) vlD vl0)] [(0,.box 24 [.mo 1 h.length]),(1,.mrow 48 10 (.map h obD ob0))] ?_;refine ⟨⟨⟨Sub.ownSl (by rw [← eo];exact congrArg (List.map vlD) (ct_two _ _)),le_t⟩,⟨⟨rfl,Sub.refl _,rfl,trivial⟩,SubO.mp rfl,le_o⟩,rfl,rfl⟩,?_⟩;refine zB ?_;refine ev_R tabT [] 300 ?_;refine zR rfl (fun c2 => ?_) (fun c2 => ?_)
 ·have c2 : (1000 : Int) < ((objS h v).items.length : Int) + (es.length : Int) := by simpa using c2
  refine zB (zE tabT [] 400 rfl ?_);refine zF ?_;refine zT _ (TooLarge_ok) rfl ?_;refine zF ?_;refine zC (zA (zN (zM ?_)));rw [show exR h v es = _ from if_pos c2,show exH h v es = _ from if_pos c2];exact FinH.ret 2 rfl rfl (Sub.ofP (SubP.agg (SubPs.refl _)) rfl rfl) ⟨⟨rfl,Sub.mo (by simp),rfl,trivial⟩,SubO.mp rfl,trivial⟩
 ·have c2 : ¬ (1000 : Int) < ((objS h v).items.length : Int) + (es.length : Int) := by simpa using c2
  refine zK (zA ?_);refine zB (zZ tabT [] [[],[0],[0,1],[0,1,2],[],[4],[],[0,1,2,3,4,5,6],[0,1,2,3,4,5,6,7],[0,1,2,3,4,5,6,7,8]] 500 mixT (by kernel_rfl) rfl ?_);repeat (first | refine zG ?_ | refine zH ?_ | refine sn223 ?_)
  refine zC (zA ?_);refine zB (zE tabT [] 600 rfl ?_);refine zF ?_;refine zT _ (Result_ok v) rfl ?_;refine zF ?_;refine zC (zA (zN ?_));rw [show exR h v es = _ from if_neg c2,show exH h v es = _ from if_neg c2];exact FinH.ret 2 rfl rfl (Sub.ofP (SubP.agg (SubPs.refl _)) rfl rfl) ⟨⟨rfl,Sub.mo (by simp),rfl,trivial⟩,SubO.mp (upd_obI (by rw [← eo];rfl)),trivial⟩
theorem upd_two {h : List Ob} {n : Nat} {o : Ob} {r1 r2 : List D} (hr : D.pvs r2 = D.pvs (obD o)) : D.pvss (((h.map obD).set n r1).set n r2) = D.pvss ((h.set n o).map obD) := by
 rw [List.set_set];exact upd_obI hr
theorem isObj_of {h : List Ob} {v : Vl} (hk : (objS h v).kind = 3 ∨ (objS h v).kind = 4) : v.k = 6 ∧ qB h v.r = true := by
 obtain ⟨h6,ho,_⟩ := objS_of (h := h) (v := v) (by omega);exact ⟨h6,ho⟩
theorem sn225 {P : Program} {K : DS → Prop} {p : Prop} {r : Out} (hr : r.sat P K) (hp : p := by first | rfl | exact ⟨by omega,hvl.2⟩ | exact ⟨hvl.1,hvl.2⟩ | exact ⟨by simp [MR.len],by show _ < (MR.map h obD ob0).len;simpa [MR.len] using hvl.2⟩ | exact ⟨by simp [MR.len],by simpa [MR.len] using hvl.2⟩ | (simp only [MR.len];done) | first | exact trivial | omega | exact ini (by omega) (by omega) | (intro hh;simp at hh;exact ini (by omega) (by omega)) | (intro hh;simp at hh ⊢;omega) | (simp at *;omega) | (simp_all;done)) : (Out.need p r).sat P K := ⟨hp,hr⟩
set_option maxHeartbeats 1000000 in
theorem opUpdate_G (h : List Ob) (op : Int) (a b : Vl) (hh : HpIn h) (g : Uh h) (ha : a.k = 6 → qB h a.r = true) (hb : b.k = 6 → qB h b.r = true) (hk : ((objS h a).kind = 3 ∧ (objS h b).kind = 3) ∨ ((objS h a).kind = 4 ∧ (objS h b).kind = 4 ∧ (op = 15 ∨ op = 14 ∨ op = 6 ∨ op = 16))) : FnG Tryz.prog 10 [.bp 0 0,.v (.int .i64 op),.agg (vlD a),.agg (vlD b)] (hpO h) (.agg (stD (upR h op a b))) (hpO (upH h op a b)) := by
 have hv := isObj_of (h := h) (v := a) (by omega);have hvl := isObj_lt hv.2;have eo : objS h a = h.getD a.r.toNat ob0 := objS_at ha hv.1;have ka := kd_of g ha (by omega);have kb := kd_of g hb (by omega);have la := keys_le g a;have lb := keys_le g b;have hhl := hh.len;have hda : (objS h a).kind = 3 → (objS h a).items.length = (objS h a).keys.length := dict_len g;have hdb : (objS h b).kind = 3 → (objS h b).items.length = (objS h b).keys.length := dict_len g;refine fnH_ev tabT Tryz.func10 rfl rfl rfl rfl rfl rfl rfl ?_;intro w0 s0 mx;refine ev_R tabT [] 100 ?_;refine zB (zZ tabT [] [[],[0],[0,1],[],[0,1,2,3],[],[5],[5,6],[],[0,1,2,3,4,5,6,7,8],[],[],[0,1,2,3,4,5,6,7,8,9,10,11],[0,1,2,3,4,5,6,7,8,9,10,11,12]] 200 mixT (by kernel_rfl) rfl ?_);refine zF ?_;refine sat_fnL _ (opObject_ok h a ha) rfl rfl ?_;refine zF ?_;refine sat_fnL _ (opObject_ok h b hb) rfl rfl ?_;refine zF ?_;refine zC (zA ?_);refine zB ?_;refine ev_R tabT [] 300 ?_;refine yD (fun c2 => ?_) (fun c2 => ?_)
 ·
  refine zB (zZ tabT [] [[],[0],[0,1],[],[],[0,1,2,3,4],[0,1,2,3,4,5],[0,1,2,3,4,5,6],[0,1,2,3,4,5,6],[],[0,1,2,3,4,5,6,7,9],[0,1,2,3,4,5,6,7,8,9,10]] 400 mixT (by kernel_rfl) rfl ?_);refine zF ?_;refine sat_fnL _ (union_ok h (objS h a) (objS h b) hh g ka kb (hda c2) (hdb (by omega)) (by omega) (by omega)) rfl rfl ?_;refine zF ?_;refine zC (zA ?_);refine zB ?_;refine ev_R tabT [] 500 ?_;refine zR rfl (fun c4 => ?_) (fun c4 => ?_)
  ·have c4 : (1000 : Int) < ((unK h (objS h a) (objS h b) (objS h b).keys.length).length : Int) := by simp at c4;omega
   refine zB (zE tabT [] 600 rfl ?_);refine zF ?_;refine zT _ (opLimit_ok) rfl ?_;refine zF ?_;refine zC (zA (zN (zM (zM ?_))));have ek : upK h op a b = unK h (objS h a) (objS h b) (objS h b).keys.length := if_pos c2;have ei : upI h a b = unI h (objS h a) (objS h b) (objS h b).keys.length := if_pos c2;have hc : (1000 : Int) < ((upK h op a b).length : Int) := by rw [ek];first | exact c9 | omega
   rw [show upR h op a b = _ from if_pos hc,show upH h op a b = _ from if_pos hc];exact FinH.ret 2 rfl rfl (Sub.ofP (SubP.agg (SubPs.refl _)) rfl rfl) ⟨⟨rfl,Sub.mo (by simp),rfl,trivial⟩,SubO.mp rfl,trivial⟩
  ·have c4 : ¬ (1000 : Int) < ((unK h (objS h a) (objS h b) (objS h b).keys.length).length : Int) := by simp at c4;omega
   refine zK (zA ?_);refine zB (zZ tabT [] [[],[0],[0,1],[0,1,2],[],[4],[],[6],[6,7],[6,7,8],[],[10],[],[12],[],[14],[0,1,2,3,4,5,6,7,8,9,12,13],[0,1,2,3,4,5,6,7,8,9,12,13,16],[0,1,2,3,4,5,6,7,8,9,12,13,16,17],[0,1,2,3,4,5,6,7,8,9,10,11,12,13,14,15,16,17,18],[0,1,2,3,4,5,6,7,8,9,10,11,12,13,14,15,16,17,18,19],[0,1,2,3,4,5,6,7,8,9,10,11,12,13,14,15,16,17,18,19,20]] 700 mixT (by kernel_rfl) rfl ?_);repeat (first | refine zG ?_ | refine zH ?_ | refine sn225 ?_)
   refine zC (zA ?_);refine zB (zE tabT [] 800 rfl ?_);refine zF ?_;refine zT _ (opValue_ok a) rfl ?_;refine zF ?_;refine zC (zA (zN (zM ?_)));have ek : upK h op a b = unK h (objS h a) (objS h b) (objS h b).keys.length := if_pos c2;have ei : upI h a b = unI h (objS h a) (objS h b) (objS h b).keys.length := if_pos c2;have hc : ¬ (1000 : Int) < ((upK h op a b).length : Int) := by rw [ek];first | exact c9 | omega
   rw [show upR h op a b = _ from if_neg hc,show upH h op a b = _ from if_neg hc];exact FinH.ret 2 rfl rfl (Sub.ofP (SubP.agg (SubPs.refl _)) rfl rfl) ⟨⟨rfl,Sub.mo (by simp),rfl,trivial⟩,SubO.mp (by rw [ek,ei];exact upd_two (by rw [← eo];rfl)),trivial⟩
 ·
  refine zK (zA ?_);refine zB (zZ tabT [] [[],[0],[0,1],[],[],[],[0,1,2,3,4,5],[0,1,2,3,4,5,6]] 900 mixT (by kernel_rfl) rfl ?_);refine zF ?_;refine sat_fnL _ (algebra_ok h op (objS h a) (objS h b) _ _ rfl rfl hh g ka kb (by omega) (by omega)) rfl rfl ?_;refine zF ?_;refine zC (zA ?_);refine zB ?_;refine ev_R tabT [] 1000 ?_;refine zR rfl (fun c9 => ?_) (fun c9 => ?_)
  ·have c9 : (1000 : Int) < ((algS h op (objS h a).keys (objS h b).keys).length : Int) := by simpa using c9
   refine zB (zE tabT [] 1100 rfl ?_);refine zF ?_;refine zT _ (opLimit_ok) rfl ?_;refine zF ?_;refine zC (zA (zN (zM ?_)));have ek : upK h op a b = algS h op (objS h a).keys (objS h b).keys := if_neg c2;have ei : upI h a b = (objS h a).items := if_neg c2;have hc : (1000 : Int) < ((upK h op a b).length : Int) := by rw [ek];first | exact c9 | omega
   rw [show upR h op a b = _ from if_pos hc,show upH h op a b = _ from if_pos hc];exact FinH.ret 2 rfl rfl (Sub.ofP (SubP.agg (SubPs.refl _)) rfl rfl) ⟨⟨rfl,Sub.mo (by simp),rfl,trivial⟩,SubO.mp rfl,trivial⟩
  ·have c9 : ¬ (1000 : Int) < ((algS h op (objS h a).keys (objS h b).keys).length : Int) := by simpa using c9
   refine zK (zA ?_);refine zB (zZ tabT [] [[],[0],[0,1],[0,1,2],[],[4],[],[0,1,2,3,4,5,6],[0,1,2,3,4,5,6,7],[0,1,2,3,4,5,6,7,8]] 1200 mixT (by kernel_rfl) rfl ?_);repeat (first | refine zG ?_ | refine zH ?_ | refine sn225 ?_)
   refine zC (zA ?_);refine zB (zE tabT [] 1300 rfl ?_);refine zF ?_;refine zT _ (opValue_ok a) rfl ?_;refine zF ?_;refine zC (zA (zN ?_));have ek : upK h op a b = algS h op (objS h a).keys (objS h b).keys := if_neg c2;have ei : upI h a b = (objS h a).items := if_neg c2;have hc : ¬ (1000 : Int) < ((upK h op a b).length : Int) := by rw [ek];first | exact c9 | omega
   rw [show upR h op a b = _ from if_neg hc,show upH h op a b = _ from if_neg hc];exact FinH.ret 2 rfl rfl (Sub.ofP (SubP.agg (SubPs.refl _)) rfl rfl) ⟨⟨rfl,Sub.mo (by simp),rfl,trivial⟩,SubO.mp (by rw [ek,ei];exact upd_obI (by rw [← eo];rfl)),trivial⟩
set_option maxHeartbeats 1000000 in
theorem Update_G (h : List Ob) (op : Int) (a b : Vl) (hh : HpIn h) (g : Uh h) (ha : a.k = 6 → qB h a.r = true) (hb : b.k = 6 → qB h b.r = true) (hk : ((objS h a).kind = 3 ∧ (objS h b).kind = 3) ∨ ((objS h a).kind = 4 ∧ (objS h b).kind = 4 ∧ (op = 15 ∨ op = 14 ∨ op = 6 ∨ op = 16))) : FnG Tryz.prog 11 [.bp 0 0,.v (.int .i64 op),.agg (vlD a),.agg (vlD b)] (hpO h) (.agg (stD (upR h op a b))) (hpO (upH h op a b)) := by
 have hv := isObj_of (h := h) (v := a) (by omega);have hvl := isObj_lt hv.2;have eo : objS h a = h.getD a.r.toNat ob0 := objS_at ha hv.1;have ka := kd_of g ha (by omega);have kb := kd_of g hb (by omega);have la := keys_le g a;have lb := keys_le g b;have hhl := hh.len;have hda : (objS h a).kind = 3 → (objS h a).items.length = (objS h a).keys.length := dict_len g;have hdb : (objS h b).kind = 3 → (objS h b).items.length = (objS h b).keys.length := dict_len g;refine fnH_ev tabT Tryz.func11 rfl rfl rfl rfl rfl rfl rfl ?_;intro w0 s0 mx;refine ev_R tabT [] 100 ?_;refine zB (zZ tabT [] [[],[0],[0,1],[],[0,1,2,3],[],[5],[5,6],[],[0,1,2,3,4,5,6,7,8],[],[],[0,1,2,3,4,5,6,7,8,9,10,11],[0,1,2,3,4,5,6,7,8,9,10,11,12]] 200 mixT (by kernel_rfl) rfl ?_);refine zF ?_;refine sat_fnL _ (qP h a) rfl rfl ?_;refine zF ?_;refine sat_fnL _ (qP h b) rfl rfl ?_;refine zF ?_;refine zC (zA ?_);refine zB ?_;refine ev_R tabT [] 300 ?_;refine yD (fun c2 => ?_) (fun c2 => ?_)
 ·
  refine zZ tabT [] [[],[0],[0,1],[],[],[0,1,2,3,4],[0,1,2,3,4,5]] 400 mixT (by kernel_rfl) rfl ?_;refine zF ?_;refine sat_fnL _ (united_ok h (objS h a) (objS h b) hh g ka kb (hda c2) (hdb (by omega)) (by omega) (by omega)) rfl rfl ?_;refine zF ?_;refine zC (zA ?_);refine zB ?_;refine ev_R tabT [] 600 ?_;refine zR rfl (fun c5 => ?_) (fun c5 => ?_)
  ·have c5 :  (1000 : Int) < ((unK h (objS h a) (objS h b) (objS h b).keys.length).length : Int) := of_decide_eq_true c5;refine zB (zE tabT [] 700 rfl ?_);refine zF ?_;refine zT _ (TooLarge_ok) rfl ?_;refine zF ?_;refine zC (zA (zN (zM ?_)));have ek : upK h op a b = unK h (objS h a) (objS h b) (objS h b).keys.length := if_pos c2;have ei : upI h a b = unI h (objS h a) (objS h b) (objS h b).keys.length := if_pos c2;have hc : (1000 : Int) < ((upK h op a b).length : Int) := by rw [ek];exact c5
   rw [show upR h op a b = _ from if_pos hc,show upH h op a b = _ from if_pos hc];exact FinH.ret 2 rfl rfl (Sub.ofP (SubP.agg (SubPs.refl _)) rfl rfl) ⟨⟨rfl,Sub.mo (by simp),rfl,trivial⟩,SubO.mp rfl,trivial⟩
  ·have c5 : ¬ (1000 : Int) < ((unK h (objS h a) (objS h b) (objS h b).keys.length).length : Int) := of_decide_eq_false c5;refine zK (zA ?_);refine zB (zZ tabT [] [[],[0],[0,1],[0,1,2],[],[4],[],[6],[6,7],[6,7,8],[],[10],[],[12],[],[14],[0,1,2,3,4,5,6,7,8,9,12,13],[0,1,2,3,4,5,6,7,8,9,12,13,16],[0,1,2,3,4,5,6,7,8,9,12,13,16,17],[0,1,2,3,4,5,6,7,8,9,10,11,12,13,14,15,16,17,18],[0,1,2,3,4,5,6,7,8,9,10,11,12,13,14,15,16,17,18,19],[0,1,2,3,4,5,6,7,8,9,10,11,12,13,14,15,16,17,18,19,20]] 800 mixT (by kernel_rfl) rfl ?_);repeat (first | refine zG ?_ | refine zH ?_ | refine sn225 ?_)
   refine zC (zA ?_);refine zB (zE tabT [] 900 rfl ?_);refine zF ?_;refine zT _ (Result_ok a) rfl ?_;refine zF ?_;refine zC (zA (zN ?_));have ek : upK h op a b = unK h (objS h a) (objS h b) (objS h b).keys.length := if_pos c2;have ei : upI h a b = unI h (objS h a) (objS h b) (objS h b).keys.length := if_pos c2;have hc : ¬ (1000 : Int) < ((upK h op a b).length : Int) := by rw [ek];exact c5
   rw [show upR h op a b = _ from if_neg hc,show upH h op a b = _ from if_neg hc];exact FinH.ret 2 rfl rfl (Sub.ofP (SubP.agg (SubPs.refl _)) rfl rfl) ⟨⟨rfl,Sub.mo (by simp),rfl,trivial⟩,SubO.mp (by rw [ek,ei];exact upd_two (by rw [← eo];rfl)),trivial⟩
 ·
  refine zZ tabT [] [[],[0],[0,1],[],[],[4],[],[6],[0,1,2,3,4,5,6,7],[0,1,2,3,4,5,6,7,8],[0,1,2,3,4,5,6,7,8,9],[0,1,2,3,4,5,6,7,8,9],[0,1,2,3,4,5,6,7,8,9,10],[0,1,2,3,4,5,6,7,8,9,10,12]] 500 mixT (by kernel_rfl) rfl ?_;refine zF ?_;refine sat_fnL _ (mixed_ok h op _ _ hh g ka kb (by omega) (by omega)) rfl rfl ?_;refine zF ?_;refine zC (zA ?_);refine zB ?_;refine ev_R tabT [] 600 ?_;refine zR rfl (fun c5 => ?_) (fun c5 => ?_)
  ·have c5 :  (1000 : Int) < ((mixS h op (objS h a).keys (objS h b).keys).length : Int) := of_decide_eq_true c5;refine zB (zE tabT [] 700 rfl ?_);refine zF ?_;refine zT _ (TooLarge_ok) rfl ?_;refine zF ?_;refine zC (zA (zN (zM ?_)));have ek : upK h op a b = algS h op (objS h a).keys (objS h b).keys := if_neg c2;have ei : upI h a b = (objS h a).items := if_neg c2;have em : mixS h op (objS h a).keys (objS h b).keys = algS h op (objS h a).keys (objS h b).keys := mix_alg (by omega);have hc : (1000 : Int) < ((upK h op a b).length : Int) := by rw [ek,← em];exact c5
   rw [show upR h op a b = _ from if_pos hc,show upH h op a b = _ from if_pos hc];exact FinH.ret 2 rfl rfl (Sub.ofP (SubP.agg (SubPs.refl _)) rfl rfl) ⟨⟨rfl,Sub.mo (by simp),rfl,trivial⟩,SubO.mp rfl,trivial⟩
  ·have c5 : ¬ (1000 : Int) < ((mixS h op (objS h a).keys (objS h b).keys).length : Int) := of_decide_eq_false c5;refine zK (zA ?_);refine zB (zZ tabT [] [[],[0],[0,1],[0,1,2],[],[4],[],[6],[6,7],[6,7,8],[],[10],[],[12],[],[14],[0,1,2,3,4,5,6,7,8,9,12,13],[0,1,2,3,4,5,6,7,8,9,12,13,16],[0,1,2,3,4,5,6,7,8,9,12,13,16,17],[0,1,2,3,4,5,6,7,8,9,10,11,12,13,14,15,16,17,18],[0,1,2,3,4,5,6,7,8,9,10,11,12,13,14,15,16,17,18,19],[0,1,2,3,4,5,6,7,8,9,10,11,12,13,14,15,16,17,18,19,20]] 800 mixT (by kernel_rfl) rfl ?_);repeat (first | refine zG ?_ | refine zH ?_ | refine sn225 ?_)
   refine zC (zA ?_);refine zB (zE tabT [] 900 rfl ?_);refine zF ?_;refine zT _ (Result_ok a) rfl ?_;refine zF ?_;refine zC (zA (zN ?_));have ek : upK h op a b = algS h op (objS h a).keys (objS h b).keys := if_neg c2;have ei : upI h a b = (objS h a).items := if_neg c2;have em : mixS h op (objS h a).keys (objS h b).keys = algS h op (objS h a).keys (objS h b).keys := mix_alg (by omega);have hc : ¬ (1000 : Int) < ((upK h op a b).length : Int) := by rw [ek,← em];exact c5
   rw [show upR h op a b = _ from if_neg hc,show upH h op a b = _ from if_neg hc];exact FinH.ret 2 rfl rfl (Sub.ofP (SubP.agg (SubPs.refl _)) rfl rfl) ⟨⟨rfl,Sub.mo (by simp),rfl,trivial⟩,SubO.mp (by rw [ek,ei,← em];exact upd_two (by rw [← eo];rfl)),trivial⟩
end Go.Proofs.YtnmgpaaioojafaaGreatDoor
