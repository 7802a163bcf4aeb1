/- Part 21 of the proof. -/
import Derived.Test.YtbhndnphimmjjaaGreatDoorProg
import Derived.Ground.NamesProg
import Derived.Shelf.Spec.SlicesGrow
import Derived.Shelf.Strconv.Itoa3
import Derived.Shelf.Strconv.Quote
import Derived.Test.YtbhndnphimmjjaaGreatDoorM20
import Derived.Test.YtbhndnphimmjjaaGreatDoorM12
import Derived.Test.YtbhndnphimmjjaaGreatDoorM16
import Derived.Test.YtbhndnphimmjjaaGreatDoorM19
import Derived.Test.YtbhndnphimmjjaaGreatDoorM13
import Derived.Test.YtbhndnphimmjjaaGreatDoorM15
import Derived.Test.YtbhndnphimmjjaaGreatDoorM18
import Derived.Lib.ItoaLen
import Derived.Lib.QuoteLoop
import Derived.Lib.PrintData
import Derived.Test.YtbhndnphimmjjaaGreatDoorM17
import Derived.Lib.AppendIntMem
/-
  DERIVED: THE SHELF's CONTRACTS AT THIS DUMP,IN PLAIN WORDS (tools/lay-plain.mjs out of 'YtbhndnphimmjjaaGreatDoorShelf3.lean',which tools/lay-shelf.mjs wrote): THE SAME DECLARATIONS UNDER THE SAME NAMES: 'import','namespace','open','def','theorem' AND NOTHING ELSE: no command of the shelf's: FOR A HAND-IN. Each laying: the table of numbers ('.._ren') and one theorem,a field a fact of the dump's own or the kernel's comparison;each contract: ONE APPLICATION.
-/
namespace Go.Proofs
open Go.Shelf
def Tryz.laysGrowV_ren : Go.Shelf.Ren := ⟨fun | 4 => 129 | n => n,fun | 22 => 34 | 25 => 29 | 3 => 3 | 4 => 4 | 9 => 9 | 20 => 20 | 0 => 0 | n => n,fun | n => n⟩
theorem uO {α : Type} {a b : α} (h : a = b := by kernel_rfl) : some a = some b := congrArg some h
theorem Tryz.laysGrowV : Go.Proofs.Lays8.n4 Tryz.prog Tryz.laysGrowV_ren := {
 mixed := by kernel_rfl
 f4 := ⟨Tryz.f129.name,by decide,Tryz.func129.trans uO⟩
 t0 := Tryz.underlying0
 a0 := Tryz.isAgg0
 z0 := Tryz.sizeOf0
 v0 := Tryz.zeroValue0
 t3 := Tryz.underlying3
 a3 := Tryz.isAgg3
 z3 := Tryz.sizeOf3
 v3 := Tryz.zeroValue3
 t4 := Tryz.underlying4
 a4 := Tryz.isAgg4
 z4 := Tryz.sizeOf4
 v4 := Tryz.zeroValue4
 t9 := Tryz.underlying9
 a9 := Tryz.isAgg9
 z9 := Tryz.sizeOf9
 v9 := Tryz.zeroValue9
 t20 := Tryz.underlying20
 a20 := Tryz.isAgg20
 z20 := Tryz.sizeOf20
 v20 := Tryz.zeroValue20
 t22 := Tryz.underlying34
 a22 := Tryz.isAgg34
 z22 := Tryz.sizeOf34
 v22 := Tryz.zeroValue34 }
def Tryz.laysItoa_ren : Go.Shelf.Ren := ⟨fun | 171 => 174 | 243 => 187 | 246 => 194 | 283 => 197 | 284 => 198 | 285 => 199 | 286 => 200 | 129 => 206 | 317 => 205 | 318 => 207 | 319 => 208 | 320 => 209 | 337 => 213 | 338 => 214 | n => n,fun | 3 => 3 | 9 => 9 | 2 => 2 | 4 => 4 | 171 => 220 | 0 => 0 | 53 => 189 | 37 => 143 | 5 => 5 | 173 => 223 | 212 => 227 | 51 => 102 | 20 => 20 | 213 => 228 | 46 => 133 | 232 => 235 | 233 => 236 | n => n,fun | 17 => 5 | 18 => 11 | 19 => 12 | n => n⟩
theorem Tryz.laysItoa : Go.Proofs.LaysM.n171 Tryz.prog Tryz.laysItoa_ren := {
 mixed := by kernel_rfl
 f129 := Tryz.func206.trans uO
 f171 := Tryz.func174.trans uO
 f243 := Tryz.func187.trans uO
 f246 := Tryz.func194.trans uO
 f283 := Tryz.func197.trans uO
 f284 := Tryz.func198.trans uO
 f285 := Tryz.func199.trans uO
 f286 := Tryz.func200.trans uO
 f317 := Tryz.func205.trans uO
 f318 := Tryz.func207.trans uO
 f319 := Tryz.func208.trans uO
 f320 := Tryz.func209.trans uO
 f337 := Tryz.func213.trans uO
 f338 := Tryz.func214.trans uO
 t0 := Tryz.underlying0
 a0 := Tryz.isAgg0
 z0 := Tryz.sizeOf0
 v0 := Tryz.zeroValue0
 t2 := Tryz.underlying2
 a2 := Tryz.isAgg2
 z2 := Tryz.sizeOf2
 v2 := Tryz.zeroValue2
 t3 := Tryz.underlying3
 a3 := Tryz.isAgg3
 z3 := Tryz.sizeOf3
 v3 := Tryz.zeroValue3
 t4 := Tryz.underlying4
 a4 := Tryz.isAgg4
 z4 := Tryz.sizeOf4
 v4 := Tryz.zeroValue4
 t5 := Tryz.underlying5
 a5 := Tryz.isAgg5
 z5 := Tryz.sizeOf5
 v5 := Tryz.zeroValue5
 t9 := Tryz.underlying9
 a9 := Tryz.isAgg9
 z9 := Tryz.sizeOf9
 v9 := Tryz.zeroValue9
 t20 := Tryz.underlying20
 a20 := Tryz.isAgg20
 z20 := Tryz.sizeOf20
 v20 := Tryz.zeroValue20
 t37 := Tryz.underlying143
 a37 := Tryz.isAgg143
 z37 := Tryz.sizeOf143
 v37 := Tryz.zeroValue143
 t46 := Tryz.underlying133
 a46 := Tryz.isAgg133
 z46 := Tryz.sizeOf133
 v46 := Tryz.zeroValue133
 t51 := Tryz.underlying102
 a51 := Tryz.isAgg102
 z51 := Tryz.sizeOf102
 v51 := Tryz.zeroValue102
 t53 := Tryz.underlying189
 a53 := Tryz.isAgg189
 z53 := Tryz.sizeOf189
 v53 := Tryz.zeroValue189
 t171 := Tryz.underlying220
 a171 := Tryz.isAgg220
 z171 := Tryz.sizeOf220
 v171 := Tryz.zeroValue220
 t173 := Tryz.underlying223
 a173 := Tryz.isAgg223
 z173 := Tryz.sizeOf223
 v173 := Tryz.zeroValue223
 t212 := Tryz.underlying227
 a212 := Tryz.isAgg227
 z212 := Tryz.sizeOf227
 v212 := Tryz.zeroValue227
 t213 := Tryz.underlying228
 a213 := Tryz.isAgg228
 z213 := Tryz.sizeOf228
 t232 := Tryz.underlying235
 a232 := Tryz.isAgg235
 z232 := Tryz.sizeOf235
 v232 := Tryz.zeroValue235
 t233 := Tryz.underlying236
 a233 := Tryz.isAgg236
 z233 := Tryz.sizeOf236
 v233 := Tryz.zeroValue236
 g17 := by kernel_rfl
 g18 := by kernel_rfl
 g19 := by kernel_rfl
 i0 := by kernel_rfl
 i2 := by kernel_rfl
 i3 := by kernel_rfl
 i4 := by kernel_rfl
 i5 := by kernel_rfl
 i9 := by kernel_rfl
 i20 := by kernel_rfl
 i37 := by kernel_rfl
 i46 := by kernel_rfl
 i51 := by kernel_rfl
 i53 := by kernel_rfl
 i171 := by kernel_rfl
 i173 := by kernel_rfl
 i212 := by kernel_rfl
 i232 := by kernel_rfl
 i233 := by kernel_rfl
 m17 := by kernel_rfl
 m18 := by kernel_rfl
 m19 := by kernel_rfl }
def Tryz.laysQuote_ren : Go.Shelf.Ren := ⟨fun | 177 => 157 | 250 => 175 | 289 => 188 | 197 => 192 | 323 => 195 | 260 => 196 | 339 => 201 | 340 => 202 | 242 => 203 | 119 => 204 | 345 => 210 | 346 => 211 | 278 => 212 | n => n,fun | 9 => 9 | 5 => 5 | 4 => 4 | 3 => 3 | 37 => 143 | 21 => 21 | 105 => 216 | 46 => 133 | 119 => 149 | 0 => 0 | 139 => 168 | 138 => 167 | 49 => 200 | 234 => 230 | 131 => 231 | 51 => 102 | 236 => 25 | n => n,fun | 3 => 1 | 4 => 2 | 20 => 6 | 21 => 7 | 22 => 8 | 23 => 9 | 24 => 10 | n => n⟩
theorem Tryz.laysQuote : Go.Proofs.Lays.n177 Tryz.prog Tryz.laysQuote_ren := {
 mixed := by kernel_rfl
 f119 := Tryz.func204.trans uO
 f177 := Tryz.func157.trans uO
 f197 := Tryz.func192.trans uO
 f242 := Tryz.func203.trans uO
 f250 := Tryz.func175.trans uO
 f260 := Tryz.func196.trans uO
 f278 := Tryz.func212.trans uO
 f289 := Tryz.func188.trans uO
 f323 := Tryz.func195.trans uO
 f339 := Tryz.func201.trans uO
 f340 := Tryz.func202.trans uO
 f345 := Tryz.func210.trans uO
 f346 := Tryz.func211.trans uO
 t0 := Tryz.underlying0
 a0 := Tryz.isAgg0
 z0 := Tryz.sizeOf0
 v0 := Tryz.zeroValue0
 t3 := Tryz.underlying3
 a3 := Tryz.isAgg3
 z3 := Tryz.sizeOf3
 v3 := Tryz.zeroValue3
 t4 := Tryz.underlying4
 a4 := Tryz.isAgg4
 z4 := Tryz.sizeOf4
 v4 := Tryz.zeroValue4
 t5 := Tryz.underlying5
 a5 := Tryz.isAgg5
 z5 := Tryz.sizeOf5
 v5 := Tryz.zeroValue5
 t9 := Tryz.underlying9
 a9 := Tryz.isAgg9
 z9 := Tryz.sizeOf9
 v9 := Tryz.zeroValue9
 t21 := Tryz.underlying21
 a21 := Tryz.isAgg21
 z21 := Tryz.sizeOf21
 v21 := Tryz.zeroValue21
 t37 := Tryz.underlying143
 a37 := Tryz.isAgg143
 z37 := Tryz.sizeOf143
 v37 := Tryz.zeroValue143
 t46 := Tryz.underlying133
 a46 := Tryz.isAgg133
 z46 := Tryz.sizeOf133
 v46 := Tryz.zeroValue133
 t49 := Tryz.underlying200
 a49 := Tryz.isAgg200
 z49 := Tryz.sizeOf200
 v49 := Tryz.zeroValue200
 t51 := Tryz.underlying102
 a51 := Tryz.isAgg102
 z51 := Tryz.sizeOf102
 v51 := Tryz.zeroValue102
 t105 := Tryz.underlying216
 a105 := Tryz.isAgg216
 z105 := Tryz.sizeOf216
 v105 := Tryz.zeroValue216
 t119 := Tryz.underlying149
 a119 := Tryz.isAgg149
 z119 := Tryz.sizeOf149
 t131 := Tryz.underlying231
 a131 := Tryz.isAgg231
 z131 := Tryz.sizeOf231
 v131 := Tryz.zeroValue231
 t138 := Tryz.underlying167
 a138 := Tryz.isAgg167
 z138 := Tryz.sizeOf167
 v138 := Tryz.zeroValue167
 t139 := Tryz.underlying168
 a139 := Tryz.isAgg168
 z139 := Tryz.sizeOf168
 v139 := Tryz.zeroValue168
 t234 := Tryz.underlying230
 a234 := Tryz.isAgg230
 z234 := Tryz.sizeOf230
 v234 := Tryz.zeroValue230
 t236 := Tryz.underlying25
 a236 := Tryz.isAgg25
 z236 := Tryz.sizeOf25
 v236 := Tryz.zeroValue25
 g3 := by kernel_rfl
 g4 := by kernel_rfl
 g20 := by kernel_rfl
 g21 := by kernel_rfl
 g22 := by kernel_rfl
 g23 := by kernel_rfl
 g24 := by kernel_rfl }
end Go.Proofs
namespace Go.Proofs.YtbhndnphimmjjaaGreatDoor
open Go.RowKit Go.Shelf
theorem grow_O {P : Program} {f : FuncId} {e : TypeId} {sz : Nat} (hb : Bod P f) (n : Nat)
  (h0 : n = 0 → ∀ w,Calls P f #[.slice none 0 0,.int .i64 n] w fun r w' => r = .returned (.slice none 0 0) ∧ w' = w)
  (h1 : 0 < n → ∀ w : World,Calls P f #[.slice none 0 0,.int .i64 n] w fun r w' => ∃ (cur : Array Value) (G : Nat),r = .returned (.slice (some ⟨w.heap.size,0,none⟩) 0 G) ∧ w' = w.drew.alloc (.cells cur e) ∧ cur.size = G * sz ∧ G ≤ maxLen) :
  FnO P f [.v (.slice none 0 0),.v (.int .i64 n)] e sz [] := by
 refine ⟨hb,fun w s vs hlt _ hv => ?_⟩
 match vs,hv with
 | [a,b],⟨ha,hb',_⟩ =>
  have ha : a = .slice none 0 0 := ha;have hb' : b = .int .i64 n := hb';subst ha hb';rcases Nat.eq_zero_or_pos n with hn | hn
  ·refine (h0 hn w).mono fun r w' hq => ?_;obtain ⟨rfl,rfl⟩ := hq;refine ⟨s,⟨fun _ => none,fun k m => if k = 0 ∧ m = 0 then some (.slice none 0 0) else none⟩,0,.slice none 0 0,rfl,?_,⟨fun m hm => ?_,_,rfl,.inl ⟨rfl,rfl⟩⟩,fun N hN => ?_,⟨Ex.refl _ _,hlt,rfl,rfl,rfl,Nat.le_refl _,fun _ _ => rfl,fun _ _ h => .inl h,fun _ _ h => .inl h⟩⟩
   ·rw [TV.P];exact ⟨⟨none,0,rfl,Nat.le_refl _,by omega,(fun _ h => by cases h),fun i row h => by simp [D.pvss] at h⟩,rfl⟩
   ·have hm : 0 < m := hm;exact if_neg (by omega)
   ·cases hN
  ·refine (h1 hn w).mono fun r w' hq => ?_;obtain ⟨cur,G,rfl,rfl,hc,hG⟩ := hq;have hnew : (w.drew.alloc (.cells cur e)).heap[w.heap.size]? = some (.cells cur e (0,0)) := heap_alloc_new w.drew _;have hold : ∀ N,N < w.heap.size → (w.drew.alloc (.cells cur e)).heap[N]? = w.heap[N]? := fun N hN => heap_alloc_old w.drew _ hN;have hsz : (w.drew.alloc (.cells cur e)).heap.size = w.heap.size + 1 := by
    show (w.drew.heap.push _).size = _;rw [Array.size_push];rfl
   refine ⟨s,⟨fun _ => none,fun k m => if k = 0 ∧ m = 0 then some (.slice (some ⟨w.heap.size,0,none⟩) 0 G) else none⟩,0,.slice (some ⟨w.heap.size,0,none⟩) 0 G,rfl,?_,⟨fun m hm => ?_,_,rfl,.inr ⟨w.heap.size,G,cur,rfl,.of hnew,Nat.zero_le _,hG,hc,fun o _ h => ?_⟩⟩,fun N hN => ?_,⟨⟨fun _ _ h => h,fun b o hs => vJ (hold b (hlt b o hs)),fun _ _ h => h⟩,fun B o h => ?_,rfl,rfl,rfl,by omega,hold,fun _ _ h => .inl h,fun _ _ h => .inl h⟩⟩
   ·rw [TV.P];exact ⟨⟨_,G,rfl,Nat.zero_le _,by unfold maxLen at hG;omega,(fun _ h => by cases h),fun i row h => by simp [D.pvss] at h⟩,rfl⟩
   ·have hm : 0 < m := hm;exact if_neg (by omega)
   ·have := hlt _ _ h;omega
   ·have hN : some w.heap.size = some N := hN
    cases hN;exact Nat.le_refl _
   ·have := hlt B o h;omega
theorem GrowV_ok (n : Nat) (hn : n ≤ 100000000) : FnO Tryz.prog 129 [.v (.slice none 0 0),.v (.int .i64 n)] 29 7 [] := by
 refine grow_O ⟨_,Tryz.func129,rfl,rfl⟩ n (fun h w => ?_) fun h w => ?_
 ·subst h;exact Any8.slices_Grow_room Tryz.laysGrowV none 0 0 0 w (by omega) (by omega) (by omega) (by omega)
 ·obtain ⟨ie,z,hu,hi,hz,hsz,hzc,hs0,hb0,hb1⟩ := (xH (yE (t := 34) zM (show fnd 34 TT = some (.sl 29 7) by rfl))).2.2.h
  have hx := Any8.slices_Grow_grow Tryz.laysGrowV ie z hi hz (by omega) none 0 0 n [] w (Nat.le_refl _) (by omega) (by
   have := Nat.mul_le_mul (show 0 + n ≤ 100000000 by omega) hb1;omega) (by omega) (by simp) (fun _ => rfl) (fun _ h => by cases h)
  refine hx.mono fun r w' hq => ?_;obtain ⟨rfl,rfl⟩ := hq;have hG : n ≤ grownCap w (0 + n) 0 (Tryz.laysGrowV_ren.t 25) := Nat.le_trans (by omega) (grownCap_ge w (0 + n) 0 _);refine ⟨_,_,rfl,rfl,?_,grownCap_le_maxLen w _ _ _ (by unfold maxLen;omega)⟩;simp only [Array.size_append,List.size_toArray,List.length_nil,size_zeroCells,hzc];omega
open Go.RowKit
variable {md me : Bool}
def st0 : St := ⟨0,vl0,0,ByteArray.empty,vl0,[]⟩
def stsD (l : List St) : D := .sl false 18 l stD st0
def vssD (l : List (List Vl)) : D := .sl false 1 l (fun x => [vsD x]) []
def caS (f : Vl) (l : List Vl) : St := ⟨2,vl0,0,ByteArray.empty,f,l⟩
def ctL (L : List (List Vl)) (k : Nat) : List Vl := (L.take k).flatten
theorem tI {L : List (List Vl)} {k : Nat} (h : k < L.length) : ctL L (k + 1) = ctL L k ++ L.getD k [] := by
 unfold ctL;rw [List.take_add_one,List.getElem?_eq_getElem h,List.flatten_append,List.getD_eq_getElem?_getD,List.getElem?_eq_getElem h];simp
theorem dO0 (L : List (List Vl)) (k : Nat) : (ctL L k).length ≤ (ctL L L.length).length := by
 unfold ctL;rw [List.take_length]
 conv => rhs;rw [← List.take_append_drop k L,List.flatten_append,List.length_append]
 omega
theorem cE0 (a b : List Vl) : ctL [a,b] [a,b].length = a ++ b := by simp [ctL]
theorem SubP.slrRows {α : Type} {m : Bool} {sz : Nat} {rows : List (List D)} {l : List α} {f : α → List D} {e : α} (h : RowsP rows (l.map f)) : SubP (.slr m sz rows) (.sl m sz l f e) := fun w s v hv => by
 have h1 := zQ0 (m := m) (sz := sz) h (w := w) (s := s) (v := v) hv;rw [yN,List.map_map] at h1;exact h1
theorem zV1 (h : List Ob) (v : Vl) (s : ByteArray) : (spS h v s).2.1.length ≤ 1 := by
 unfold spS;repeat' split
 all_goals first | exact Nat.le_refl _ | exact Nat.zero_le _
theorem zG0 (L : List (List Vl)) (hl : (ctL L L.length).length ≤ 100000000) (hL : L.length ≤ 1000) : FnO Tryz.prog 95 [vssD L] 29 7 ((ctL L L.length).map vlD) := by
 refine dE Tryz.func95 rfl rfl rfl rfl rfl rfl ?_;intro w0 s0 mx;refine zL 100 ?_;refine zL 200 ?_;refine zB (zL 300 ?_);refine zQ ?_;refine yC (ι := {k : Nat // k ≤ L.length}) [0,9,10] [] 350 (fun x => [(3,.v (.int .i64 ((ctL L x.1).length : Nat))),(11,.v (.int .i64 x.1))]) (fun _ => []) (fun x => L.length - x.1) ⟨0,Nat.zero_le _⟩ ?_;refine ⟨⟨yH,yG,rfl,rfl⟩,fun x => ?_⟩;have hk : x.1 ≤ L.length := x.2;have hf := dO0 L (x.1 + 1);have hn : ∀ h : x.1 < L.length,(ctL L (x.1 + 1)).length = (ctL L x.1).length + (L.getD ((x.1 : Nat) : Int).toNat []).length := fun h => by rw [tI h,List.length_append];rfl
 have hf0 := dO0 L x.1;refine zL 400 ?_;refine zB (zY (fun c3 => ?_) (fun c3 => ?_))
 ·
  refine zO (zA (zB (zQ (zL 500 ?_))));refine zB (zE zM [] 600 rfl ?_);repeat (first | refine zG ?_ | refine zH ?_ | refine zU (by first | (have h9 := hn c3;exact ini (by omega) (by omega)) | first | exact trivial | omega | exact ini (by omega) (by omega) | (intro hh;simp at hh;exact ini (by omega) (by omega)) | (intro hh;simp at hh ⊢;omega) | (simp at *;omega) | (simp_all;done)) ?_)
  refine zC (zA (zL 700 ?_));refine zY (fun c6 => ?_) (fun c6 => ?_)
  ·
   omega
  ·
   refine zO (zP (zA (yT zM [] 900 ?_)));exact zW (⟨x.1 + 1,by omega⟩) ⟨⟨Sub.int (by rw [tI c3,List.length_append];push_cast;rfl),Sub.int (by push_cast;rfl),yH⟩,yG,rfl,rfl⟩ (by show L.length - (x.1 + 1) < L.length - x.1;omega)
 ·
  refine yF (zZ (yB (zX (zA ?_))));refine zB (zE zM [24] 1000 rfl ?_);refine zF ?_;refine qZ _ _ _ (GrowV_ok _ (by have := dO0 L x.1;omega)) ?_;refine zF ?_;refine zC (zA (zB (zL 1100 ?_)));refine zQ ?_;refine yC (ι := {k : Nat // k ≤ L.length}) [25,26] [] 1150 (fun y => [(27,.v (.int .i64 y.1)),(6,.own 401 7 ((ctL L y.1).map vlD))]) (fun y => [(401,.row 29 7 ((ctL L y.1).map vlD).length)]) (fun y => L.length - y.1) ⟨0,Nat.zero_le _⟩ ?_;refine ⟨⟨yH,yG,rfl,rfl⟩,fun y => ?_⟩;have hky : y.1 ≤ L.length := y.2;have hfy := dO0 L (y.1 + 1);have hfy0 := dO0 L y.1;have hny : ∀ h : y.1 < L.length,(ctL L (y.1 + 1)).length = (ctL L y.1).length + (L.getD ((y.1 : Nat) : Int).toNat []).length := fun h => by rw [tI h,List.length_append];rfl
  refine zL 1200 ?_;refine zB (zY (fun c11 => ?_) (fun c11 => ?_))
  ·
   refine zO (zA (zB (zQ (zL 1300 ?_))));refine zE zM [] 1400 rfl ?_;repeat (first | refine zG ?_ | refine zH ?_ | refine zU (by first | (have := hny c11;simp only [List.length_map];omega) | first | exact trivial | omega | exact ini (by omega) (by omega) | (intro hh;simp at hh;exact ini (by omega) (by omega)) | (intro hh;simp at hh ⊢;omega) | (simp at *;omega) | (simp_all;done)) ?_)
   refine zC (zP (zA (yT zM [] 1500 ?_)));exact zW (⟨y.1 + 1,by omega⟩) ⟨⟨Sub.int (by push_cast;rfl),Sub.own (by rw [tI c11,List.map_append];rfl),yH⟩,⟨⟨rfl,rfl,by show _ = (List.map vlD (ctL L (y.1 + 1))).length;rw [tI c11];simp⟩,yG⟩,rfl,rfl⟩ (by show L.length - (y.1 + 1) < L.length - y.1;omega)
  ·
   refine yF (zZ (yB (zX (zA (zL 1600 ?_)))));refine zJ ?_;have e : y.1 = L.length := by omega
   exact FinO.ret rfl rfl (by rw [e]) (by rw [e])
theorem tX (f : Vl) (l : List Vl) : Fn Tryz.prog 54 [.agg (vlD f),vsD l] (.agg (stD (caS f l))) := by
 refine yL zM Tryz.func54 rfl rfl rfl rfl rfl rfl ?_;intro w0 s0 mx;refine zL 100 ?_;refine zL 200 ?_;refine zJ ?_;exact FinV.ret rfl (SubP.agg (by repeat (first | exact trivial | exact SubP.refl _ | exact SubP.nilSl rfl | refine ⟨?_,?_⟩)))
theorem gB (h : List Ob) (v : Vl) (s : ByteArray) (l : List Vl) (hh : HpIn h) (g : Uh h) (hv : v.k = 6 → yW h v.r = true) (hl : l.length ≤ 1000000) : Fn Tryz.prog 55 [hpD md h,.agg (vlD v),.v (.string s),vsD l] (.tup [.agg (stD (caS (spS h v s).1 ((spS h v s).2.1 ++ l))),.v (.bool (spS h v s).2.2)]) := by
 refine yL zM Tryz.func55 rfl rfl rfl rfl rfl rfl ?_;intro w0 s0 mx;refine zL 100 ?_;refine zB (zE zM [] 200 rfl ?_);refine zF ?_;refine zT _ (uQ0 _ _ _ (by first | assumption | omega | (simp_all;done)) (by first | assumption | omega | (simp_all;done)) (by first | assumption | omega | (simp_all;done))) rfl ?_;refine zF ?_;refine zC (zA ?_);refine zB (zV zM [25] mK13 300 yR (by kernel_rfl) rfl ?_);refine zF ?_;refine qZ _ _ _ ((zG0 [(spS h v s).2.1,l] (by have := zV1 h v s;rw [cE0,List.length_append];omega) (by show 2 ≤ 1000;omega)).args ⟨SubP.slrSl rfl,trivial⟩) ?_;refine zF ?_;refine zT _ ((tX _ ((spS h v s).2.1 ++ l)).args ⟨SubP.refl _,SubP.ownSl (by simp [ctL]),trivial⟩) rfl ?_;refine zF ?_;refine zC (zA (zJ ?_));exact FinV.ret rfl (SubP.refl _)
variable {md me : Bool}
theorem td_n {e : Int} {s : Nat} (h : e = (s : Int)) : Int.tdiv e 65536 = ((s / 65536 : Nat) : Int) := by rw [h,Int.tdiv_eq_ediv_of_nonneg (by omega)];rfl
theorem tm_n {e : Int} {s : Nat} (h : e = (s : Int)) : Int.tmod e 65536 = ((s % 65536 : Nat) : Int) := by rw [h,Int.tmod_eq_emod_of_nonneg (by omega)];rfl
theorem nD_snoc2 {l : List Nat} {y z : Nat} {e f : Int} (h : e = (y : Int)) (h2 : f = (z : Int)) : l.map nD ++ [[.v (.int .i64 e)],[.v (.int .i64 f)]] = (l ++ [y,z]).map nD := by rw [List.map_append,h,h2];rfl
theorem of_lo {d : Nat} (h : d < 4294967296) : IntKind.i64.wrap (Int.tmod (d : Int) 65536) = ((d % 65536 : Nat) : Int) := by
 rw [tm_n rfl,InI.wrap ⟨by omega,by omega⟩]
theorem of_hi {d : Nat} (h : d < 4294967296) : IntKind.i64.wrap (IntKind.u32.wrap (Int.tdiv (d : Int) 65536)) = ((d / 65536 : Nat) : Int) := by
 rw [td_n rfl,show IntKind.u32.wrap ((d / 65536 : Nat) : Int) = ((d / 65536 : Nat) : Int) by
  simp only [IntKind.wrap,IntKind.signed,IntKind.bits,Bool.false_and,Bool.false_eq_true,if_false];omega,InI.wrap ⟨by omega,by omega⟩]
structure Of3 (l : List Nat) where
 k : Nat
 o : List Nat
 eq : V o = VL (l.take k)
 lo : o.length = 2 * k
 dg : Dg o
 le : k ≤ l.length
def Of3.next {l : List Nat} (x : Of3 l) (hl : Lg l) (h : x.k < l.length) : Of3 l := ⟨x.k + 1,x.o ++ [l.getD x.k 0 % 65536,l.getD x.k 0 / 65536],by rw [tO h];exact pG0 x.eq x.lo h,by simp [x.lo];omega,by rw [tO h];exact yM1 x.dg (hl.at h),h⟩
theorem Of3_ok (l : List Nat) (hg : Lg l) (hl : l.length ≤ 100000000) : Fn Tryz.prog 148 [usD l] (natD (VL l)) := by
 refine yL zM Tryz.func148 rfl rfl rfl rfl rfl rfl ?_;intro w0 s0 mx;refine zL 100 ?_;refine zL 200 ?_;refine qA 3 3 1 rfl ?_;refine zB (zL 300 ?_);refine zQ ?_;refine yC (ι := Of3 l) [0] [] 350 (fun x => [(4,.v (.int .i64 (x.k : Nat))),(3,.own 200 1 (x.o.map nD))]) (fun x => [(200,.row 3 1 (x.o.map nD).length)]) (fun x => l.length - x.k) ⟨0,[],by simp [VL,V],rfl,Dg.nil,Nat.zero_le _⟩ ?_;refine ⟨⟨yH,yG,rfl,rfl⟩,fun x => ?_⟩;have hk := x.le;have hk2 := x.lo;refine zB (zL 400 ?_);refine zY (fun c3 => ?_) (fun c3 => ?_)
 ·
  refine zO (zA (zB (zQ ?_)));refine zV zM [] [[],[],[],[1,2],[1,2,3],[1,2,3,4],[1,2,3,4,5],[],[],[7,8],[7,8,9],[7,8,9,10],[7,8,9,10,11],[1,2,3,4,5,6,7,8,9,10,11,12],(rgN 14),(rgN 15)] 600 yR (by kernel_rfl) rfl ?_;refine zF ?_;refine zC (zP (zA (yT zM [] 700 ?_)));have hx := tO c3;have hx2 := hg.at c3;exact zW (x.next hg c3) ⟨(by first | exact trivial | (repeat (first | exact trivial | exact Sub.refl _ | refine ⟨?_,?_⟩ | exact Sub.int (by first | rfl | omega | (push_cast;omega)) | exact Sub.nilSl | exact Sub.own rfl | exact Sub.slrSl rfl | exact Sub.ownSl (List.map_append).symm | exact Sub.ownSl rfl | exact Sub.int (by show (x.k : Int) + 1 = ((x.k + 1 : Nat) : Int);omega) | exact Sub.own (nD_snoc2 (of_lo (by rw [Int.toNat_natCast,hx];exact hx2)) (of_hi (by rw [Int.toNat_natCast,hx];exact hx2)))))),(by repeat (first | exact trivial | exact SubO.same rfl | exact ⟨rfl,rfl,by show _ = (List.map nD (x.o ++ _)).length;simp⟩ | refine ⟨?_,?_⟩)),rfl,rfl⟩ (by show l.length - (x.k + 1) < l.length - x.k;omega)
 ·
  refine yF (zZ (yB (zX (zA ?_))));refine yK [] [] 410 [(3,.sl false 1 x.o nD 0)] [] ?_;refine ⟨⟨⟨Sub.ownSl rfl,trivial⟩,yG,rfl,rfl⟩,?_⟩;refine zB (zE zM [] 700 rfl ?_);refine zF ?_;refine zT _ (vA0 _ x.dg (by rw [hk2];omega)) rfl ?_;refine zF ?_;refine zC (zA (zJ ?_));exact FinV.ret rfl (SubP.of_eq (by rw [x.eq,List.take_of_length_le (by omega)]))






variable {md me : Bool}
theorem mX (l : List Nat) (hl : l.length ≤ 2000000) : FnO Tryz.prog 81 [usD l] 102 1 (l.map uD) := by
 refine dE Tryz.func81 rfl rfl rfl rfl rfl rfl ?_;intro w0 s0 mx;refine zB (zE zM [5] 100 rfl ?_);repeat (first | refine zG ?_ | refine zH ?_ | refine zU (by exact jK hl) ?_)
 refine zC (zA (zB (zB ?_)));refine vB Tryz.underlying25 rfl rfl rfl fun c hc => ?_;refine zA (zS rfl (fun c1 => ?_) (fun c1 => ?_))
 ·
  refine zB (zE zM [5] 300 rfl ?_);repeat (first | refine zG ?_ | refine zH ?_ | refine zU (by exact jK hl) ?_)
  refine zC (zA (zJ (zK ?_)));exact FinO.nil rfl (by rw [hc c1];rfl)
 ·
  refine zO (zA ?_);refine zB (zE zM [5] 400 rfl ?_);repeat (first | refine zG ?_ | refine zH ?_ | refine zU (by first | rfl | exact jK hl | (rw [List.length_nil];have := jK (f := uD) hl;omega) | (have := jK (f := uD) hl;simp at this ⊢;omega)) ?_)
  refine zC (zA (zJ ?_));exact FinO.ret rfl rfl rfl rfl
variable {md me : Bool}
theorem mG0 {α : Type} {f : α → List D} {l : List α} {k : Nat} (e : α) (h : k < l.length) : (l.take (k + 1)).map f = (l.take k).map f ++ [f (l.getD ((k : Nat) : Int).toNat e)] := by
 rw [List.take_add_one,List.getElem?_eq_getElem h,List.map_append,Int.toNat_natCast,List.getD_eq_getElem?_getD,List.getElem?_eq_getElem h];rfl
theorem tE0 {α : Type} {l : List α} {k : Nat} (h : k < l.length) : (l.take (k + 1)).length = (l.take k).length + 1 := by
 rw [List.length_take,List.length_take];omega
theorem pN0 {α : Type} {l : List α} {k : Nat} (e : α) (h : k < l.length) : l.getD ((k : Nat) : Int).toNat e ∈ l := by
 rw [Int.toNat_natCast,List.getD_eq_getElem?_getD,List.getElem?_eq_getElem h];exact List.getElem_mem _
theorem ob_own (o : Ob) (a b c d e : Nat) : D.pvs [.v (.int .i64 o.kind),.v (.string o.name),.v (.int .i64 o.cls),.own a 1 (o.refs.map iD),.own b 1 (o.order.map iD),.own c 1 (o.names.map sD),.own d 7 (o.items.map vlD),.own e 7 (o.keys.map vlD),.v (.int .i64 o.code),.v (.int .i64 o.state)] = D.pvs (obD o) := by
 simp only [obD,D.pvs,D.pv,yN,List.map_map];rfl
theorem pvss_snoc {a : List (List D)} {r : List D} : D.pvss (a ++ [r]) = D.pvss a ++ [D.pvs r] := by rw [yN,yN,List.map_append];rfl
theorem uH0 (l : List Vl) (hl : l.length ≤ 2000000) (hv : ∀ v ∈ l,VlIn v) : FnO Tryz.prog 28 [vsD l] 29 7 (l.map vlD) := by
 refine dE Tryz.func28 rfl rfl rfl rfl rfl rfl ?_;intro w0 s0 mx;refine zL 100 ?_;refine zL 200 ?_;refine qA 3 29 7 rfl ?_;refine zB (zL 300 ?_);refine zQ ?_;refine yC (ι := {k : Nat // k ≤ l.length}) [6,7] [] 350 (fun x => [(8,.v (.int .i64 x.1)),(3,.own 200 7 ((l.take x.1).map vlD))]) (fun x => [(200,.row 29 7 ((l.take x.1).map vlD).length)]) (fun x => l.length - x.1) ⟨0,Nat.zero_le _⟩ ?_;refine ⟨⟨yH,yG,rfl,rfl⟩,fun x => ?_⟩;have hk : x.1 ≤ l.length := x.2;refine zL 400 ?_;refine zB (zY (fun c3 => ?_) (fun c3 => ?_))
 ·
  refine zO (zA (zB (zQ ?_)));have hvk : VlIn (l.getD ((x.1 : Nat) : Int).toNat vl0) := hv _ (pN0 vl0 c3);refine zL 500 ?_;refine zB (zV zM [15,19] [[],[0],[0,1],[0,1,2],[],[4],[4,5],(rgN 7),(rgN 7),[0,1,2,3,4,5,6,8],(rgN 10),(rgN 11),(rgN 12),(rgN 13)] 600 yR (by kernel_rfl) rfl ?_);refine zF ?_;refine qZ _ _ _ (mX _ hvk.nn) ?_;refine zF ?_;refine qZ _ _ _ (mX _ hvk.dn) ?_;refine zF ?_;refine zC (zA ?_);refine zE zM [] 700 rfl ?_;repeat (first | refine zG ?_ | refine zH ?_ | refine zU (by first | rfl | (simp only [List.length_map,List.length_take,List.length_cons,List.length_nil];omega) | first | exact trivial | omega | exact ini (by omega) (by omega) | (intro hh;simp at hh;exact ini (by omega) (by omega)) | (intro hh;simp at hh ⊢;omega) | (simp at *;omega) | (simp_all;done)) ?_)
  refine zC (zP (zA (yT zM [] 800 ?_)));exact zW (⟨x.1 + 1,by omega⟩) ⟨⟨Sub.int (by push_cast;rfl),Sub.ownRows (by rw [mG0 vl0 c3];exact (RowsP.refl _).append ⟨⟨SubP.refl _,SubP.refl _,SubP.ownSl rfl,SubP.refl _,SubP.ownSl rfl,SubP.refl _,SubP.refl _,trivial⟩,trivial⟩),yH⟩,⟨⟨rfl,rfl,by simp only [List.length_append,List.length_map];rw [tE0 c3];rfl⟩,yG⟩,rfl,rfl⟩ (by show l.length - (x.1 + 1) < l.length - x.1;omega)
 ·
  refine yF (zZ (yB (zX (zA (zL 900 ?_)))));refine zJ ?_;have e : l.take x.1 = l := List.take_of_length_le (by omega);exact FinO.ret rfl rfl (by rw [e]) (by rw [e])
theorem cO0 (h : List Ob) (hh : HpIn h) : FnG Tryz.prog 11 [hpD md h] [] (.agg [.mo 0 h.length]) [.mrow 36 10 (.map h obD ob0)] := by
 have hhl := hh.len;refine jE zM Tryz.func11 rfl rfl rfl rfl rfl rfl rfl ?_;intro w0 s0 mx;refine zL 100 ?_;refine zL 200 ?_;refine gN 100 0 36 10 rfl rfl ?_;refine zB ?_;refine yO0 200 rfl ?_;refine zL 300 ?_;refine zQ ?_;refine yC (ι := {k : Nat // k ≤ h.length}) [2,3,7,8] [1] 350 (fun x => [(9,.v (.int .i64 x.1))]) (fun x => [(100,.box 24 [.mo 200 (h.take x.1).length]),(200,.mrow 36 10 (.map (h.take x.1) obD ob0))]) (fun x => h.length - x.1) ⟨0,Nat.zero_le _⟩ ?_;refine ⟨⟨yH,⟨⟨rfl,Sub.mo rfl,rfl,trivial⟩,SubO.mr rfl,yG⟩,rfl,rfl⟩,fun x => ?_⟩;have hk : x.1 ≤ h.length := x.2;refine zL 400 ?_;refine zB (zY (fun c3 => ?_) (fun c3 => ?_))
 ·
  refine zO (zA (zB (zQ ?_)));have hob : ObIn (h.getD ((x.1 : Nat) : Int).toNat ob0) := hh.ob _ (pN0 ob0 c3);refine zL 500 ?_;refine zB (zV zM [15,18,21] mK14 600 yR (by kernel_rfl) rfl ?_);refine zF ?_;refine qZ _ _ _ (mY _ hob.rl) ?_;refine zF ?_;refine qZ _ _ _ (mY _ hob.ol) ?_;refine zF ?_;refine qZ _ _ _ (uU0 _ hob.nl) ?_;refine zF ?_;refine zC (zA ?_);refine zB (zV zM [27,30] mK15 700 yR (by kernel_rfl) rfl ?_);refine zF ?_;refine qZ _ _ _ (uH0 _ hob.il hob.iv) ?_;refine zF ?_;refine qZ _ _ _ (uH0 _ hob.kl hob.kv) ?_;refine zF ?_;refine zC (zA ?_);refine zE zM [] 800 rfl ?_;repeat (first | refine zG ?_ | refine zH ?_ | refine zU (by first | rfl | (simp only [MR.len,List.length_take,List.length_cons,List.length_nil];have := hh.len;omega) | first | exact trivial | omega | exact ini (by omega) (by omega) | (intro hh;simp at hh;exact ini (by omega) (by omega)) | (intro hh;simp at hh ⊢;omega) | (simp at *;omega) | (simp_all;done)) ?_)
  refine zC (zP (zA (yT zM [] 900 ?_)));exact zW (⟨x.1 + 1,by omega⟩) ⟨⟨Sub.int (by push_cast;rfl),yH⟩,⟨⟨rfl,Sub.mo (by rw [tE0 c3];rfl),rfl,trivial⟩,SubO.mp (by show D.pvss (List.map obD _ ++ [_]) = D.pvss (List.map obD _);rw [mG0 ob0 c3,pvss_snoc,pvss_snoc,ob_own]),yG⟩,rfl,rfl⟩ (by show h.length - (x.1 + 1) < h.length - x.1;omega)
 ·
  refine yF (zZ (yB (zX (zA (zL 1000 ?_)))));refine zJ ?_;have e : h.take x.1 = h := List.take_of_length_le (by omega);exact FinH.ret 200 rfl rfl (by rw [e];exact Sub.refl _) ⟨SubO.mr (by rw [e]),trivial⟩
variable {md me : Bool}
def hpO (h : List Ob) : List DOwn := [.box 24 [.mo 1 h.length],.mrow 36 10 (.map h obD ob0)]
theorem vl_own (v : Vl) (a b : Nat) : D.pvs [.v (.int .i64 v.k),.v (.bool v.nn),.own a 1 (v.nl.map uD),.v (.bool v.dn),.own b 1 (v.dl.map uD),.v (.string v.s),.v (.int .i64 v.r)] = D.pvs (vlD v) := by
 simp only [vlD,D.pvs,D.pv,yN,List.map_map];rfl
theorem upd_same {α : Type} {f : α → List D} {e : α} {l : List α} {k : Nat} {r : List D} (hk : k < l.length) (hr : D.pvs r = D.pvs (f (l.getD ((k : Nat) : Int).toNat e))) : D.pvss ((l.map f).set ((k : Nat) : Int).toNat r) = D.pvss (l.map f) := by
 rw [Int.toNat_natCast] at *;rw [yN,yN,List.map_set,hr];apply List.ext_getElem?;intro i;rw [List.getElem?_set];by_cases h : k = i
 ·subst h;simp [hk,List.getD_eq_getElem?_getD]
 ·simp [h]
theorem cK0 {h : List Ob} {o : Ob} {r : List D} (hr : D.pvs r = D.pvs (obD o)) : D.pvss (h.map obD ++ [r]) = D.pvss ((h ++ [o]).map obD) := by rw [List.map_append,pvss_snoc,hr];exact pvss_snoc.symm
theorem CloneV_G (l : List Vl) (hl : l.length ≤ 2000000) : FnG Tryz.prog 45 [vsD l] [] (.mo 0 l.length) [.mrow 29 7 (.map l vlD vl0)] := by
 refine jE zM Tryz.func45 rfl rfl rfl rfl rfl rfl rfl ?_;intro w0 s0 mx;refine zB (zE zM [] 100 rfl ?_);repeat (first | refine zG ?_ | refine zH ?_ | refine zU (by exact jK hl) ?_)
 refine zC (zA (zB (zB ?_)));refine vB Tryz.underlying34 rfl rfl rfl fun c hc => ?_;refine zA (zS rfl (fun c1 => ?_) (fun c1 => ?_))
 ·
  refine zB (zE zM [] 300 rfl ?_);repeat (first | refine zG ?_ | refine zH ?_ | refine zU (by exact jK hl) ?_)
  refine zC (zA ?_);refine qA 2 29 7 rfl ?_;refine yO0 300 rfl ?_;refine zJ (zK ?_);obtain rfl := hc c1;exact FinH.ret 300 rfl rfl (Sub.refl _) ⟨SubO.mr rfl,trivial⟩
 ·
  refine zO (zA ?_);refine zB (zE zM [1005] 400 rfl ?_);repeat (first | refine zG ?_ | refine zH ?_ | refine zU (by first | rfl | exact jK hl | (simp only [MR.len,List.length_nil,List.length_map];omega)) ?_)
  refine zC (zA (zJ ?_));exact FinH.ret 100 rfl rfl (Sub.mo (by rw [List.length_map,Nat.zero_add])) ⟨SubO.mr rfl,trivial⟩
theorem cZ0 {P : Program} {K : DS → Prop} {p : Prop} {r : Out} (hr : r.sat P K) (hp : p := by first | exact ⟨rfl,by show _ < l.length;omega⟩ | rfl | first | exact trivial | omega | exact ini (by omega) (by omega) | (intro hh;simp at hh;exact ini (by omega) (by omega)) | (intro hh;simp at hh ⊢;omega) | (simp at *;omega) | (simp_all;done)) : (Out.need p r).sat P K := ⟨hp,hr⟩
theorem mL (l : List Vl) (hl : l.length ≤ 2000000) (hv : ∀ v ∈ l,VlIn v) : FnO Tryz.prog 153 [vsD l] 29 7 (l.map vlD) := by
 refine dE Tryz.func153 rfl rfl rfl rfl rfl rfl ?_;intro w0 s0 mx;refine zL 100 ?_;refine zB (zE zM [1006] 200 rfl ?_);refine zF ?_;refine yJ _ _ (CloneV_G l hl) rfl ?_;refine zF ?_;refine zC (zA (zB (zL 300 ?_)));refine zQ ?_;refine yC (ι := {k : Nat // k ≤ l.length}) [3,8] [] 350 (fun x => [(9,.v (.int .i64 x.1))]) (fun x => [(101,.mrow 29 7 (.map l vlD vl0))]) (fun x => l.length - x.1) ⟨0,Nat.zero_le _⟩ ?_;refine ⟨⟨yH,yG,rfl,rfl⟩,fun x => ?_⟩;have hk : x.1 ≤ l.length := x.2;refine zL 400 ?_;refine zB (zY (fun c3 => ?_) (fun c3 => ?_))
 ·
  refine zO (zA (zB (zQ ?_)));have hvk : VlIn (l.getD ((x.1 : Nat) : Int).toNat vl0) := hv _ (pN0 vl0 c3);refine zL 500 ?_;refine zV zM [22,29] [[],[],[],[],[],[],[4,5],[4,5,6],[4,5,6,7],[4,5,6,7,8],[4,5,6,7,8,9],[],[],[11,12],[11,12,13],[11,12,13,14],[11,12,13,14,15],[4,5,6,7,8,9,10,11,12,13,14,15,16],[0,1,4,5,6,7,8,9,10,11,12,13,14,15,16,17],[0,1,4,5,6,7,8,9,10,11,12,13,14,15,16,17,18],[0,1,4,5,6,7,8,9,10,11,12,13,14,15,16,17,18,19],[0,1,4,5,6,7,8,9,10,11,12,13,14,15,16,17,18,19,20],(rgN 22),(rgN 23),(rgN 24),(rgN 25)] 600 yR (by kernel_rfl) rfl ?_;repeat (first | refine zG ?_ | refine zH ?_ | refine cZ0 ?_)
  refine qZ _ _ _ (mX _ hvk.nn) ?_;repeat (first | refine zG ?_ | refine zH ?_ | refine cZ0 ?_)
  refine qZ _ _ _ (mX _ hvk.dn) ?_;repeat (first | refine zG ?_ | refine zH ?_ | refine cZ0 ?_)
  refine zC (zP (zA (yT zM [] 700 ?_)));exact zW (⟨x.1 + 1,by omega⟩) ⟨⟨Sub.int (by push_cast;rfl),yH⟩,⟨SubO.mp (by show D.pvss (((l.map vlD).set _ _).set _ _) = _;rw [List.set_set];exact upd_same c3 (vl_own _ _ _)),yG⟩,rfl,rfl⟩ (by show l.length - (x.1 + 1) < l.length - x.1;omega)
 ·
  refine yF (zZ (yB (zX (zA ?_))));refine vO 101 rfl (by repeat (first | exact trivial | exact rfl | refine ⟨?_,?_⟩)) (by repeat (first | exact trivial | refine ⟨?_,?_⟩)) ?_;refine zL 800 ?_;refine zJ ?_;exact FinO.ret rfl rfl rfl rfl
theorem heapClone_ok (o : Ob) (ho : ObIn o) : Fn Tryz.prog 125 [.agg (obD o)] (.agg (obD o)) := by
 refine yL zM Tryz.func125 rfl rfl rfl rfl rfl rfl ?_;intro w0 s0 mx;refine zL 100 ?_;refine zB (zV zM [5,8,11] mK14 200 yR (by kernel_rfl) rfl ?_);refine zF ?_;refine qZ _ _ _ (mY _ ho.rl) ?_;refine zF ?_;refine qZ _ _ _ (mY _ ho.ol) ?_;refine zF ?_;refine qZ _ _ _ (uU0 _ ho.nl) ?_;refine zF ?_;refine zC (zA ?_);refine zB (zV zM [17,20] mK15 300 yR (by kernel_rfl) rfl ?_);refine zF ?_;refine qZ _ _ _ (mL _ ho.il ho.iv) ?_;refine zF ?_;refine qZ _ _ _ (mL _ ho.kl ho.kv) ?_;refine zF ?_;refine zC (zA (zL 400 ?_));refine zJ ?_;exact FinV.ret rfl (SubP.agg ⟨SubP.refl _,SubP.refl _,SubP.refl _,SubP.ownSl rfl,SubP.ownSl rfl,SubP.ownSl rfl,SubP.ownSl rfl,SubP.ownSl rfl,SubP.refl _,SubP.refl _,trivial⟩)
theorem kH0 {P : Program} {K : DS → Prop} {p : Prop} {r : Out} (hr : r.sat P K) (hp : p := by first | rfl | exact ⟨rfl,by simp only [MR.len,List.length_map];omega⟩ | exact ⟨rfl,by simp [MR.len];omega⟩ | (simp only [MR.len,List.length_map,List.length_append,List.length_singleton];omega) | (simp [MR.len];exact ini (by omega) (by omega)) | first | exact trivial | omega | exact ini (by omega) (by omega) | (intro hh;simp at hh;exact ini (by omega) (by omega)) | (intro hh;simp at hh ⊢;omega) | (simp at *;omega) | (simp_all;done)) : (Out.need p r).sat P K := ⟨hp,hr⟩
theorem jO0 (h : List Ob) (o : Ob) (hh : h.length ≤ 4000000) (ho : ObIn o) : FnG Tryz.prog 85 [.bp 0 0,.agg (obD o)] (hpO h) (.v (.int .i64 (h.length : Nat))) (hpO (h ++ [o])) := by
 refine jE zM Tryz.func85 rfl rfl rfl rfl rfl rfl rfl ?_;intro w0 s0 mx;refine zL 100 ?_;refine zB (zV zM [] [[],[],[1],[1,2],[1,2,3],[],[5],[5,6],[1,2,3,4,5,6,7],(rgN 9),(rgN 10),(rgN 11)] 200 yR (by kernel_rfl) rfl ?_);repeat (first | refine zG ?_ | refine zH ?_ | refine kH0 ?_)
 refine zT _ (heapClone_ok _ (by first | assumption | omega | (simp_all;done))) rfl ?_;repeat (first | refine zG ?_ | refine zH ?_ | refine kH0 ?_)
 refine zC (zA ?_);refine zB (zE zM [] 300 rfl ?_);repeat (first | refine zG ?_ | refine zH ?_ | refine kH0 ?_)
 refine zC (zA (zJ ?_));exact FinH.ret 2 rfl rfl (Sub.int (by simp)) ⟨⟨rfl,Sub.mo (by simp),rfl,trivial⟩,SubO.mp (cK0 rfl),trivial⟩
theorem uR0 (h : List Ob) (o : Ob) (hh : h.length ≤ 4000000) : FnG Tryz.prog 64 [.bp 0 0,.agg (obD o)] (hpO h) (.agg (vlD (rfV (h.length : Nat)))) (hpO (h ++ [o])) := by
 refine jE zM Tryz.func64 rfl rfl rfl rfl rfl rfl rfl ?_;intro w0 s0 mx;refine zL 100 ?_;refine zB (zV zM [] [[],[],[1],[1,2],[1,2,3],[],[5],[1,2,3,4,5,6],(rgN 8),(rgN 9),(rgN 10)] 200 yR (by kernel_rfl) rfl ?_);repeat (first | refine zG ?_ | refine zH ?_ | refine kH0 ?_)
 refine zC (zA ?_);refine zB (zE zM [] 300 rfl ?_);repeat (first | refine zG ?_ | refine zH ?_ | refine kH0 ?_)
 refine zT _ (O_ok _) rfl ?_;repeat (first | refine zG ?_ | refine zH ?_ | refine kH0 ?_)
 refine zC (zA (zJ ?_));exact FinH.ret 2 rfl rfl (Sub.of_eq (by simp;rfl)) ⟨⟨rfl,Sub.mo (by simp),rfl,trivial⟩,SubO.mp (cK0 rfl),trivial⟩
variable {md me : Bool}
def cpD (md : Bool) (h : List Ob) : D := .pt true [.sl md 10 h obD ob0]
section
variable {h : List Ob} {F G : Vl → Vl → Bool}
end
section
variable {h : List Ob} {x y : Ob} {i : Nat} (hi : i < y.keys.length)
include hi
end
variable {md me : Bool}
def rD (b : Bool) (n : Nat) : D := .agg [.v (.bool b),natD n]
theorem uT0 (b : Bool) (l : List Nat) (hg : Lg l) (hl : l.length ≤ 100000000) : Fn Tryz.prog 173 [.agg [.v (.bool b),usD l]] (rD b (VL l)) := by
 refine yL zM Tryz.func173 rfl rfl rfl rfl rfl rfl ?_;intro w0 s0 mx;refine zL 100 ?_;refine zB (zV zM [] [[],[0],[],[2],[2,3],(rgN 5),(rgN 6)] 200 yR (by kernel_rfl) rfl ?_);refine zF ?_;refine zT _ (Of3_ok _ (by first | assumption | omega | (simp_all;done)) (by first | assumption | omega | (simp_all;done))) rfl ?_;refine zF ?_;refine zC (zA (zJ ?_));exact FinV.ret rfl (SubP.refl _)
variable {md me : Bool}
variable {md me : Bool}
section
variable {P : Program} {b : Ba} {ops : Array Oper}
end
def ArgS : List D → List D → Prop
 | [],[] => True
 | d :: l,d' :: l' => Sub d d' ∧ ArgS l l'
 | _,_ => False
theorem ArgS.all {w : World} {s : Sb} {g : Gh} : ∀ {l l' : List D} {vs : List Value},ArgS l l' → AllT w s g (D.tvl l) vs → AllT w s g (D.tvl l') vs
 | [],[],_,_,h => h
 | d :: l,d' :: l',[],_,h => by rw [D.tvl] at h;simp [AllT] at h
 | d :: l,d' :: l',v :: vs,h,hv => by
  rw [D.tvl,AllT.cons] at hv;rw [D.tvl,AllT.cons];exact ⟨h.1 _ _ _ _ hv.1,h.2.all hv.2⟩
 | [],_ :: _,_,h,_ => h.elim
 | _ :: _,[],_,h,_ => h.elim
theorem FnG.args {P : Program} {f : FuncId} {args args' : List D} {own own' : List DOwn} {out : D} (h : FnG P f args own out own') (hs : ArgS args' args) : FnG P f args' own out own' :=
 ⟨h.bod,fun w s g vs hg ha => h.run w s g vs hg (hs.all ha)⟩
variable {md me : Bool}
theorem cF0 (s : St) (h : List Ob) : chkG 2 (.agg (stD s)) (hpO h) = true := rfl
def itB (n : Int) : ByteArray := ⟨(Lib.itoa n).toArray⟩
def quB (s : ByteArray) : ByteArray := strOfNums (Lib.quoteZ Lib.goPrintTabs s)
theorem xW0 {n : Int} (h0 : -9223372036854775808 ≤ n) (h1 : n ≤ 9223372036854775807) : (itB n).size ≤ 21 := by
 have := Lib.itoa_length_le n h0 h1;simpa [itB,ByteArray.size] using this
theorem dO (s : ByteArray) : (quB s).size ≤ 10 * s.size + 2 := by
 have := Lib.quoteZ_length_le Lib.goPrintTabs s;rw [quB,strOfNums_size];exact this
def hxL (x : Nat) : List Nat := if h : x = 0 then [] else x % 16 :: hxL (x / 16)
termination_by x
decreasing_by omega
theorem mK : hxL 0 = [] := by rw [hxL];rfl
theorem yF0 {x : Nat} (h : x ≠ 0) : hxL x = x % 16 :: hxL (x / 16) := by rw [hxL,dif_neg h]
theorem tU0 : ∀ {n x d : Nat},x < n → d ∈ hxL x → d < 16
 | 0,x,d,h,_ => by omega
 | n + 1,x,d,h,hd => by
  by_cases h0 : x = 0
  ·subst h0;rw [mK] at hd;cases hd
  ·rw [yF0 h0] at hd;rcases List.mem_cons.1 hd with rfl | hd
   ·exact Nat.mod_lt _ (by decide)
   ·exact tU0 (n := n) (by omega) hd
theorem vN0 : ∀ {n x : Nat},x < 16 ^ n → (hxL x).length ≤ n
 | 0,x,h => by
  have : x = 0 := by simpa using h
  subst this;rw [mK];exact Nat.le_refl 0
 | n + 1,x,h => by
  by_cases h0 : x = 0
  ·subst h0;rw [mK];exact Nat.zero_le _
  ·rw [yF0 h0,List.length_cons];have := vN0 (n := n) (x := x / 16) (by rw [Nat.pow_succ] at h;omega);omega
def alB : ByteArray := ⟨#[48,49,50,51,52,53,54,55,56,57,97,98,99,100,101,102,103,104,105,106,107,108,109,110,111,112,113,114,115,116,117,118,119,120,121,122]⟩
def hxS (b : Bool) (x : Nat) : ByteArray := if x = 0 then ⟨#[48]⟩ else ⟨((if b then [45] else []) ++ (hxL x).reverse.map fun d => UInt8.ofNat (bAt alB d)).toArray⟩
theorem dR {b : Bool} {l : List Nat} (h : Lg l) : (hxS b (VL l)).size ≤ 8 * l.length + 2 := by
 have h1 := L_lt h;have h2 : (hxL (VL l)).length ≤ 8 * l.length := vN0 (by rw [Nat.pow_mul];exact h1);unfold hxS;split
 ·show 1 ≤ _;omega
 ·have h3 : (if b = true then [(45 : UInt8)] else []).length ≤ 1 := by split <;> decide
  show (List.toArray _).size ≤ _;rw [List.size_toArray,List.length_append,List.length_map,List.length_reverse];omega
structure Skt where
 ord : List Int
 out : List UInt8
def sB (n : UInt8) : ByteArray := ⟨#[n]⟩
def Skt.w (k : Skt) (s : ByteArray) : Skt := ⟨k.ord,k.out ++ s.data.toList⟩
def Skt.n (k : Skt) (n : Int) : Skt := k.w (itB n ++ sB 32)
def Skt.see (b : Int) (k : Skt) (n : Int) : Skt :=
 if n < b then (k.w (sB 35)).n n
 else if ixI k.ord n < 0 then ((⟨k.ord ++ [n],k.out⟩ : Skt).w (sB 64)).n (k.ord.length : Nat)
 else (k.w (sB 64)).n (ixI k.ord n)
def vlT (v : Vl) : ByteArray := quB v.s ++ sB 32 ++ hxS v.nn (VL v.nl) ++ sB 32 ++ hxS v.dn (VL v.dl) ++ sB 44
def Skt.v (b : Int) (k : Skt) (v : Vl) : Skt := if v.k = 6 then k.see b v.r else ((k.n v.k).n v.r).w (vlT v)
def Skt.vs (b : Int) (k : Skt) (l : List Vl) : Skt := (l.foldl (Skt.v b) k).w (sB 124)
def Skt.o1 (_ : Int) (k : Skt) (o : Ob) : Skt := (((k.w (sB 10)).n o.kind).n o.code).w (quB o.name)
def Skt.o2 (k : Skt) (l : List ByteArray) : Skt := l.foldl (fun k s => k.w (s ++ sB 44)) k
def Skt.o3 (b : Int) (e : Bool) (k : Skt) (o : Ob) : Skt := if o.kind = 18 ∧ 0 < o.state then k.see b (o.state - 1) else if ¬ o.kind = 9 ∨ e = true then k.n o.state else k
def Skt.o4 (b : Int) (k : Skt) (o : Ob) : Skt := if o.kind = 10 ∨ o.kind = 7 then k.see b o.cls else k
def Skt.o5 (b : Int) (e : Bool) (k : Skt) (o : Ob) : Skt := ((if e = true then o.order else []).foldl (Skt.see b) (o.refs.foldl (Skt.see b) (k.w (sB 59)))).w (sB 124)
def Skt.ob (b : Int) (e : Bool) (k : Skt) (o : Ob) : Skt := ((((((k.o1 b o).o2 o.names).o3 b e o).o4 b o).o5 b e o).vs b o.keys).vs b o.items
def cV (v : Vl) : Nat := 60 + 10 * v.s.size + 8 * v.nl.length + 8 * v.dl.length
def cVs (l : List Vl) : Nat := (l.map cV).sum + 1
def cO (o : Ob) : Nat := 120 + 10 * o.name.size + (o.names.map fun s => s.size + 1).sum + 23 * o.refs.length + 23 * o.order.length + cVs o.keys + cVs o.items
theorem kA0 (k : Skt) (s : ByteArray) : (k.w s).out.length = k.out.length + s.size ∧ (k.w s).ord = k.ord := ⟨by show (k.out ++ s.data.toList).length = _;rw [List.length_append];rfl,rfl⟩
theorem zC1 {k : Skt} {n : Int} (h0 : -9223372036854775808 ≤ n) (h1 : n ≤ 9223372036854775807) : (k.n n).out.length ≤ k.out.length + 22 ∧ (k.n n).ord = k.ord := by
 have := xW0 h0 h1;refine ⟨?_,rfl⟩;rw [Skt.n,(kA0 _ _).1,ByteArray.size_append];show _ + (_ + 1) ≤ _;omega
theorem yB0 {α : Type} [DecidableEq α] : ∀ (l : List α) (n : α),ixI l n < l.length
 | [],n => by show (-1 : Int) < ((0 : Nat) : Int);omega
 | x :: l,n => by
  have := yB0 l n;rw [ixI,List.length_cons];split
  ·omega
  ·split <;> omega
structure SkI (b : Int) (N : Nat) (k : Skt) : Prop where
 mem : ∀ n ∈ k.ord,b ≤ n ∧ n < (N : Int)
 nd : k.ord.Nodup
theorem cK : ∀ {N : Nat} {l : List Int},l.Nodup → (∀ n ∈ l,0 ≤ n ∧ n < (N : Int)) → l.length ≤ N
 | 0,[],_,_ => Nat.le_refl 0
 | 0,x :: l,_,h => by have := h x List.mem_cons_self;omega
 | N + 1,l,hn,h => by
  have h1 : (l.filter fun n => decide (n ≠ (N : Int))).Nodup := hn.filter _;have h2 := cK (N := N) h1 fun n hm => by
   obtain ⟨hm,hd⟩ := List.mem_filter.1 hm;have := h n hm;have := of_decide_eq_true hd;omega
  have h3 : (l.filter fun n => !decide (n ≠ (N : Int))).length ≤ 1 := by
   have h4 : (l.filter fun n => !decide (n ≠ (N : Int))).Nodup := hn.filter _;generalize hL : (l.filter fun n => !decide (n ≠ (N : Int))) = L at *;have h5 : ∀ n ∈ L,n = (N : Int) := fun n hm => by
    rw [← hL] at hm;have := (List.mem_filter.1 hm).2;simpa using this
   match L,h4,h5 with
   | [],_,_ => exact Nat.zero_le _
   | [_],_,_ => exact Nat.le_refl _
   | a :: c :: L,h4,h5 =>
    have e1 := h5 a List.mem_cons_self;have e2 := h5 c (List.mem_cons_of_mem _ List.mem_cons_self);rw [List.nodup_cons] at h4;exact absurd (by rw [e1,e2];exact List.mem_cons_self) h4.1
  have h6 : l.length = (l.filter fun n => decide (n ≠ (N : Int))).length + (l.filter fun n => !decide (n ≠ (N : Int))).length := by
   clear hn h h1 h2 h3;induction l with
   | nil => rfl
   | cons x l ih =>
    rw [List.filter_cons,List.filter_cons,List.length_cons,ih];by_cases hx : x = (N : Int)
    ·simp [hx];omega
    ·simp [hx];omega
  omega
theorem SkI.len {b : Int} {N : Nat} {k : Skt} (h : SkI b N k) (hb : 0 ≤ b) : k.ord.length ≤ N := cK h.nd fun n hn => by have := h.mem n hn;omega
theorem ixI_neg {l : List Int} {n : Int} (h : ixI l n < 0) : n ∉ l := fun hm => by
 have h1 := bV l n;have h2 : hasB l n = true := by simpa [hasB] using hm
 rw [h2] at h1;have := of_decide_eq_true h1;omega
structure SkS (b : Int) (N : Nat) (k k' : Skt) (c : Nat) : Prop where
 inv : SkI b N k'
 len : k'.out.length ≤ k.out.length + c
 pre : ∃ r,k'.ord = k.ord ++ r
theorem SkS.refl {b : Int} {N : Nat} {k : Skt} (h : SkI b N k) : SkS b N k k 0 := ⟨h,by omega,[],by simp⟩
theorem SkS.trans {b : Int} {N : Nat} {k k' k'' : Skt} {c d : Nat} (h : SkS b N k k' c) (g : SkS b N k' k'' d) : SkS b N k k'' (c + d) := by
 obtain ⟨r,hr⟩ := h.pre;obtain ⟨q,hq⟩ := g.pre;exact ⟨g.inv,by have := h.len;have := g.len;omega,r ++ q,by rw [hq,hr,List.append_assoc]⟩
theorem SkS.le {b : Int} {N : Nat} {k k' : Skt} {c d : Nat} (h : SkS b N k k' c) (hc : c ≤ d) : SkS b N k k' d := ⟨h.inv,by have := h.len;omega,h.pre⟩
theorem w_ok {b : Int} {N : Nat} {k : Skt} (h : SkI b N k) (s : ByteArray) : SkS b N k (k.w s) s.size := ⟨⟨h.mem,h.nd⟩,by rw [(kA0 _ _).1];omega,[],by simp [Skt.w]⟩
theorem n_ok {b : Int} {N : Nat} {k : Skt} (h : SkI b N k) {n : Int} (h0 : -9223372036854775808 ≤ n) (h1 : n ≤ 9223372036854775807) : SkS b N k (k.n n) 22 := ⟨⟨h.mem,h.nd⟩,(zC1 h0 h1).1,[],by simp [Skt.n,Skt.w]⟩
theorem qP0 {b : Int} {N : Nat} {k : Skt} {n : Int} (h : SkI b N k) (hb : 0 ≤ b) (hN : N ≤ 1000000000) (h0 : -9223372036854775808 ≤ n) (h1 : n < (N : Int)) : SkS b N k (k.see b n) 23 := by
 have hl := h.len hb;unfold Skt.see;split
 ·exact ((w_ok h (sB 35)).trans (n_ok (w_ok h (sB 35)).inv h0 (by omega))).le (by decide)
 ·split
  ·rename_i hx hi;have hm := ixI_neg hi;have a : SkS b N k (⟨k.ord ++ [n],k.out⟩ : Skt) 0 := by
    refine ⟨⟨fun m hm => ?_,?_⟩,Nat.le_refl _,[n],rfl⟩
    ·rcases List.mem_append.1 hm with hm | hm
     ·exact h.mem m hm
     ·rw [List.mem_singleton.1 hm];omega
    ·show (k.ord ++ [n]).Nodup;rw [List.nodup_append];refine ⟨h.nd,by simp,fun a ha c hc => ?_⟩;rw [List.mem_singleton.1 hc];exact fun e => hm (e ▸ ha)
   have a2 := a.trans (w_ok a.inv (sB 64));exact (a2.trans (n_ok a2.inv (n := (k.ord.length : Nat)) (by omega) (by omega))).le (by decide)
  ·rename_i hx hi;have h2 : ixI k.ord n < k.ord.length := yB0 _ _;exact ((w_ok h (sB 64)).trans (n_ok (w_ok h (sB 64)).inv (by omega) (by omega))).le (by decide)
theorem bH {b : Int} {N : Nat} (hb : 0 ≤ b) (hN : N ≤ 1000000000) : ∀ {l : List Int} {k : Skt},SkI b N k → (∀ n ∈ l,0 ≤ n ∧ n < (N : Int)) → SkS b N k (l.foldl (Skt.see b) k) (23 * l.length)
 | [],k,h,_ => SkS.refl h
 | n :: l,k,h,hl => by
  have h1 := hl n List.mem_cons_self;have h2 := qP0 h hb hN (n := n) (by omega) h1.2;exact (h2.trans (bH hb hN (l := l) h2.inv fun m hm => hl m (List.mem_cons_of_mem _ hm))).le (by rw [List.length_cons];omega)
structure VlC (N : Nat) (v : Vl) : Prop where
 vin : VlIn v
 r : v.k = 6 → v.r < (N : Int)
structure ObC (N : Nat) (o : Ob) : Prop where
 oin : ObIn o
 st : o.kind = 18 → o.state - 1 < (N : Int)
 cls : o.kind = 10 ∨ o.kind = 7 → o.cls < (N : Int)
 refs : ∀ n ∈ o.refs,0 ≤ n ∧ n < (N : Int)
 order : ∀ n ∈ o.order,0 ≤ n ∧ n < (N : Int)
 keys : ∀ v ∈ o.keys,VlC N v
 items : ∀ v ∈ o.items,VlC N v
theorem wM0 {v : Vl} (h : VlIn v) : (vlT v).size ≤ 10 * v.s.size + 8 * v.nl.length + 8 * v.dl.length + 9 := by
 have h1 := dO v.s;have h2 := dR (b := v.nn) h.nl;have h3 := dR (b := v.dn) h.dl;have e : ∀ n,(sB n).size = 1 := fun _ => rfl;simp only [vlT,ByteArray.size_append,e];omega
theorem v_ok {b : Int} {N : Nat} {k : Skt} {v : Vl} (h : SkI b N k) (hb : 0 ≤ b) (hN : N ≤ 1000000000) (hv : VlC N v) : SkS b N k (k.v b v) (cV v) := by
 unfold Skt.v cV;split
 ·rename_i hk;exact (qP0 h hb hN hv.vin.r1 (hv.r hk)).le (by omega)
 ·have h1 := n_ok h hv.vin.k1 hv.vin.k2;have h2 := h1.trans (n_ok h1.inv hv.vin.r1 hv.vin.r2);have h4 := wM0 hv.vin;exact (h2.trans (w_ok h2.inv (vlT v))).le (by omega)
theorem kT0 {b : Int} {N : Nat} (hb : 0 ≤ b) (hN : N ≤ 1000000000) : ∀ {l : List Vl} {k : Skt},SkI b N k → (∀ v ∈ l,VlC N v) → SkS b N k (l.foldl (Skt.v b) k) (l.map cV).sum
 | [],k,h,_ => SkS.refl h
 | v :: l,k,h,hl => by
  have h2 := v_ok h hb hN (hl v List.mem_cons_self);exact (h2.trans (kT0 hb hN (l := l) h2.inv fun m hm => hl m (List.mem_cons_of_mem _ hm))).le (by rw [List.map_cons,List.sum_cons];exact Nat.le_refl _)
theorem bC0 {b : Int} {N : Nat} {l : List Vl} {k : Skt} (h : SkI b N k) (hb : 0 ≤ b) (hN : N ≤ 1000000000) (hl : ∀ v ∈ l,VlC N v) : SkS b N k (k.vs b l) (cVs l) := by
 have h1 := kT0 hb hN h hl;exact (h1.trans (w_ok h1.inv (sB 124))).le (Nat.le_refl _)
theorem zA1 {b : Int} {N : Nat} : ∀ {l : List ByteArray} {k : Skt},SkI b N k → SkS b N k (k.o2 l) (l.map fun s => s.size + 1).sum
 | [],k,h => SkS.refl h
 | s :: l,k,h => by
  have h1 := w_ok h (s ++ sB 44);refine (h1.trans (zA1 (l := l) h1.inv)).le ?_;rw [ByteArray.size_append,List.map_cons,List.sum_cons];exact Nat.le_refl _
theorem yQ1 {b : Int} {N : Nat} {k : Skt} {o : Ob} (h : SkI b N k) (ho : ObIn o) : SkS b N k (k.o1 b o) (47 + 10 * o.name.size) := by
 have h1 := w_ok h (sB 10);have h2 := h1.trans (n_ok h1.inv ho.kd.1 ho.kd.2);have h3 := h2.trans (n_ok h2.inv ho.co.1 ho.co.2);have h4 := dO o.name;exact (h3.trans (w_ok h3.inv (quB o.name))).le (by show 1 + 22 + 22 + _ ≤ _;omega)
theorem yP1 {b : Int} {N : Nat} {k : Skt} {o : Ob} {e : Bool} (h : SkI b N k) (hb : 0 ≤ b) (hN : N ≤ 1000000000) (ho : ObC N o) : SkS b N k (k.o3 b e o) 23 := by
 unfold Skt.o3;split
 ·rename_i hk;exact qP0 h hb hN (by omega) (ho.st hk.1)
 ·split
  ·exact (n_ok h ho.oin.st.1 ho.oin.st.2).le (by decide)
  ·exact (SkS.refl h).le (by decide)
theorem yO1 {b : Int} {N : Nat} {k : Skt} {o : Ob} (h : SkI b N k) (hb : 0 ≤ b) (hN : N ≤ 1000000000) (ho : ObC N o) : SkS b N k (k.o4 b o) 23 := by
 unfold Skt.o4;split
 ·rename_i hk;exact qP0 h hb hN ho.oin.cl.1 (ho.cls hk)
 ·exact (SkS.refl h).le (by decide)
theorem o5_ok {b : Int} {N : Nat} {k : Skt} {o : Ob} {e : Bool} (h : SkI b N k) (hb : 0 ≤ b) (hN : N ≤ 1000000000) (ho : ObC N o) : SkS b N k (k.o5 b e o) (2 + 23 * o.refs.length + 23 * o.order.length) := by
 have h1 := w_ok h (sB 59);have h2 := h1.trans (bH hb hN (l := o.refs) h1.inv ho.refs);have h3 := h2.trans (bH hb hN (l := if e = true then o.order else []) h2.inv fun n hn => by
  split at hn
  ·exact ho.order n hn
  ·cases hn)
 have e5 : (if e = true then o.order else []).length ≤ o.order.length := by split <;> simp
 exact (h3.trans (w_ok h3.inv (sB 124))).le (by show 1 + _ + _ + 1 ≤ _;omega)
theorem yN1 {b : Int} {N : Nat} {k : Skt} {o : Ob} {e : Bool} (h : SkI b N k) (hb : 0 ≤ b) (hN : N ≤ 1000000000) (ho : ObC N o) : SkS b N k (k.ob b e o) (cO o) := by
 have h1 := yQ1 h ho.oin;have h2 := h1.trans (zA1 (l := o.names) h1.inv);have h3 := h2.trans (yP1 (e := e) h2.inv hb hN ho);have h4 := h3.trans (yO1 h3.inv hb hN ho);have h5 := h4.trans (o5_ok (e := e) h4.inv hb hN ho);have h6 := h5.trans (bC0 h5.inv hb hN ho.keys);exact (h6.trans (bC0 h6.inv hb hN ho.items)).le (by unfold cO;omega)
theorem bB {f : Nat → Nat} : ∀ {N : Nat} {L : List Nat},L.Nodup → (∀ n ∈ L,n < N) → (L.map f).sum ≤ ((List.range N).map f).sum
 | 0,[],_,_ => Nat.le_refl _
 | 0,x :: l,_,h => absurd (h x List.mem_cons_self) (Nat.not_lt_zero _)
 | N + 1,L,hn,h => by
  have h2 := bB (f := f) (N := N) (hn.filter fun n => decide (n ≠ N)) fun n hm => by
   obtain ⟨hm,hd⟩ := List.mem_filter.1 hm;have := h n hm;have := of_decide_eq_true hd;omega
  have h3 : ((L.filter fun n => !decide (n ≠ N)).map f).sum ≤ f N := by
   have h4 : (L.filter fun n => !decide (n ≠ N)).Nodup := hn.filter _;have h5 : ∀ n ∈ (L.filter fun n => !decide (n ≠ N)),n = N := fun n hm => by simpa using (List.mem_filter.1 hm).2
   generalize (L.filter fun n => !decide (n ≠ N)) = M at *
   match M,h4,h5 with
   | [],_,_ => exact Nat.zero_le _
   | [a],_,h5 => rw [h5 a List.mem_cons_self];simp
   | a :: c :: M,h4,h5 =>
    have e1 := h5 a List.mem_cons_self;have e2 := h5 c (List.mem_cons_of_mem _ List.mem_cons_self);rw [List.nodup_cons] at h4;exact absurd (by rw [e1,e2];exact List.mem_cons_self) h4.1
  have h6 : (L.map f).sum = ((L.filter fun n => decide (n ≠ N)).map f).sum + ((L.filter fun n => !decide (n ≠ N)).map f).sum := by
   clear hn h h2 h3;induction L with
   | nil => rfl
   | cons x l ih =>
    rw [List.filter_cons,List.filter_cons,List.map_cons,List.sum_cons,ih];by_cases hx : x = N
    ·simp [hx];omega
    ·simp [hx];omega
  rw [List.range_succ,List.map_append,List.sum_append,List.map_singleton,List.sum_singleton,h6];omega
def Skt.base (b : Int) (e : Bool) (h : List Ob) (k : Skt) (m : Nat) : Skt := (List.range m).foldl (fun k i => k.ob b e (h.getD i ob0)) k
def Skt.run (b : Int) (e : Bool) (h : List Ob) : Nat → Nat → Skt → Skt
 | 0,_,k => k
 | n + 1,i,k => if i < k.ord.length then Skt.run b e h n (i + 1) (k.ob b e (h.getD (k.ord.getD i 0).toNat ob0)) else k
def HpC (h : List Ob) : Prop := ∀ o ∈ h,ObC h.length o
def cOs (h : List Ob) (L : List Nat) : Nat := (L.map fun i => cO (h.getD i ob0)).sum
def cH (h : List Ob) : Nat := cOs h (List.range h.length)
theorem HpC.at {h : List Ob} (hh : HpC h) {i : Nat} (hi : i < h.length) : ObC h.length (h.getD i ob0) := by
 rw [List.getD_eq_getElem?_getD,List.getElem?_eq_getElem hi];exact hh _ (List.getElem_mem _)
theorem uJ0 (b : Int) (e : Bool) (h : List Ob) (k : Skt) (m : Nat) : Skt.base b e h k (m + 1) = (Skt.base b e h k m).ob b e (h.getD m ob0) := by
 rw [Skt.base,List.range_succ,List.foldl_append];rfl
theorem wI0 {b : Int} {e : Bool} {h : List Ob} {k : Skt} (hk : SkI b h.length k) (hb : 0 ≤ b) (hN : h.length ≤ 1000000000) (hh : HpC h) : ∀ {m : Nat},m ≤ h.length → SkS b h.length k (Skt.base b e h k m) (cOs h (List.range m))
 | 0,_ => SkS.refl hk
 | m + 1,hm => by
  have h1 := wI0 (e := e) hk hb hN hh (m := m) (by omega);rw [uJ0];refine (h1.trans (yN1 h1.inv hb hN (hh.at (by omega)))).le ?_;rw [cOs,cOs,List.range_succ,List.map_append,List.sum_append,List.map_singleton,List.sum_singleton];exact Nat.le_refl _
theorem qX0 : ∀ {l : List Int},l.Nodup → (∀ n ∈ l,0 ≤ n) → (l.map Int.toNat).Nodup
 | [],_,_ => List.nodup_nil
 | x :: l,hn,h => by
  rw [List.nodup_cons] at hn;rw [List.map_cons,List.nodup_cons];refine ⟨fun hm => ?_,qX0 hn.2 fun n hm => h n (List.mem_cons_of_mem _ hm)⟩;obtain ⟨y,hy,e⟩ := List.mem_map.1 hm;have h1 := h x List.mem_cons_self;have h2 := h y (List.mem_cons_of_mem _ hy);exact hn.1 ((show y = x by omega) ▸ hy)
theorem gL0 {b : Int} {h : List Ob} {k : Skt} {m i : Nat} (hk : SkI b h.length k) (hm : (m : Int) ≤ b) (hm2 : m ≤ h.length) : cOs h (List.range m ++ (k.ord.take i).map Int.toNat) ≤ cH h := by
 refine bB ?_ fun n hn => ?_
 ·rw [List.nodup_append];refine ⟨List.nodup_range,qX0 (hk.nd.sublist (List.take_sublist _ _)) fun n hn => by have := hk.mem n (List.mem_of_mem_take hn);omega,fun a ha c hc => ?_⟩;have h1 := List.mem_range.1 ha;obtain ⟨y,hy,rfl⟩ := List.mem_map.1 hc;have := hk.mem y (List.mem_of_mem_take hy);omega
 ·rcases List.mem_append.1 hn with hn | hn
  ·have := List.mem_range.1 hn;omega
  ·obtain ⟨y,hy,rfl⟩ := List.mem_map.1 hn;have := hk.mem y (List.mem_of_mem_take hy);omega
structure Rn (b : Int) (e : Bool) (h : List Ob) (m C : Nat) (kf : Skt) where
 i : Nat
 k : Skt
 inv : SkI b h.length k
 le : i ≤ k.ord.length
 eq : Skt.run b e h (h.length - i) i k = kf
 len : k.out.length ≤ C + cOs h (List.range m ++ (k.ord.take i).map Int.toNat)
def Rn.start {b : Int} (e : Bool) {h : List Ob} {m C : Nat} (k : Skt) (hk : SkI b h.length k) (hl : k.out.length ≤ C + cOs h (List.range m)) : Rn b e h m C (Skt.run b e h h.length 0 k) := ⟨0,k,hk,Nat.zero_le _,rfl,by simpa using hl⟩
theorem Rn.at {b : Int} {e : Bool} {h : List Ob} {m C : Nat} {kf : Skt} (x : Rn b e h m C kf) (hi : x.i < x.k.ord.length) : b ≤ x.k.ord.getD x.i 0 ∧ x.k.ord.getD x.i 0 < (h.length : Int) := by
 rw [List.getD_eq_getElem?_getD,List.getElem?_eq_getElem hi];exact x.inv.mem _ (List.getElem_mem _)
def Rn.next {b : Int} {e : Bool} {h : List Ob} {m C : Nat} {kf : Skt} (x : Rn b e h m C kf) (hi : x.i < x.k.ord.length) (hb : 0 ≤ b) (hN : h.length ≤ 1000000000) (hh : HpC h) : Rn b e h m C kf :=
 have hs := yN1 (e := e) x.inv hb hN (hh.at (show (x.k.ord.getD x.i 0).toNat < h.length by have := x.at hi;omega))
 ⟨x.i + 1,x.k.ob b e (h.getD (x.k.ord.getD x.i 0).toNat ob0),hs.inv,by obtain ⟨r,hr⟩ := hs.pre;rw [hr,List.length_append];omega,by
  have hl := x.inv.len hb;have e1 : Skt.run b e h (h.length - x.i) x.i x.k = Skt.run b e h (h.length - (x.i + 1)) (x.i + 1) (x.k.ob b e (h.getD (x.k.ord.getD x.i 0).toNat ob0)) := by
   rw [show h.length - x.i = (h.length - (x.i + 1)) + 1 by omega,Skt.run,if_pos hi]
  exact e1.symm.trans x.eq,by
  obtain ⟨r,hr⟩ := hs.pre;have h1 : ((x.k.ob b e (h.getD (x.k.ord.getD x.i 0).toNat ob0)).ord.take (x.i + 1)) = x.k.ord.take x.i ++ [x.k.ord.getD x.i 0] := by
   rw [hr,List.take_append_of_le_length (by omega),List.take_add_one,List.getElem?_eq_getElem hi,List.getD_eq_getElem?_getD,List.getElem?_eq_getElem hi];rfl
  rw [h1];have h2 := hs.len;have h3 := x.len;simp only [cOs,List.map_append,List.sum_append,List.map_cons,List.map_nil,List.sum_cons,List.sum_nil] at h3 ⊢;omega⟩
theorem Rn.fin {b : Int} {e : Bool} {h : List Ob} {m C : Nat} {kf : Skt} (x : Rn b e h m C kf) (hi : ¬ x.i < x.k.ord.length) : x.k = kf := by
 refine Eq.trans ?_ x.eq
 cases h.length - x.i with
 | zero => rfl
 | succ n => rw [Skt.run,if_neg hi]
theorem Rn.bound {b : Int} {e : Bool} {h : List Ob} {m C : Nat} {kf : Skt} (x : Rn b e h m C kf) (hm : (m : Int) ≤ b) (hm2 : m ≤ h.length) : x.k.out.length ≤ C + cH h := Nat.le_trans x.len (by have := gL0 (i := x.i) x.inv hm hm2;omega)
noncomputable def dL (h : List Ob) (b : Nat) (l : List Vl) : ByteArray := ⟨(Skt.run b true h h.length 0 (Skt.base b true h (Skt.vs b ⟨[],[]⟩ l) (min b h.length))).out.toArray⟩
theorem tab_pow {w : World} {s : Sb} (hg : Glb w s) : Lib.TabIs Tryz.prog w "internal/strconv.uint64pow10" .u64 Lib.pow10Tab := by
 obtain ⟨G,g1,g2,g3⟩ := hg;have hn : Tryz.prog.globalNamed "internal/strconv.uint64pow10" = some 5 := by kernel_rfl
 have h1 : ∀ i : Nat,i < 20 → w.cell? ⟨5,i,none⟩ = some (.int .u64 (Lib.pow10Tab.getD i 0)) := fun i hi => (g2 _ _ _ (g1.pow10 i hi)).1;have h2 : ∀ o : Nat,20 ≤ o → w.cell? ⟨5,o,none⟩ = none := fun o ho => (g3 _ _ (.pow10 o ho)).1;have hl : Lib.pow10Tab.length = 20 := Lib.pow10Tab_length;unfold Lib.TabIs World.var?;rw [hn];show (match w.heap[5]? with | some (.cells cs _ _) => some cs | _ => none) = _;have h0 := h1 0 (by decide)
 cases hb : w.heap[5]? with
 | none => simp [World.cell?,hb] at h0
 | some o =>
  cases o with
  | cells cs t f =>
   show some cs = some _;congr 1;apply Array.ext_getElem?;intro i;rcases Nat.lt_or_ge i 20 with hi | hi
   ·have h3 : cs[i]? = some (.int .u64 (Lib.pow10Tab.getD i 0)) := by
     have := h1 i hi;simpa [World.cell?,hb] using this
    rw [h3,List.getElem?_toArray,List.getElem?_map,List.getElem?_eq_getElem (by omega),List.getD_eq_getElem?_getD,List.getElem?_eq_getElem (by omega)];rfl
   ·have h3 : cs[i]? = none := by
     have := h2 i hi;simpa [World.cell?,hb] using this
    rw [h3,List.getElem?_toArray,List.getElem?_map,List.getElem?_eq_none (by omega)];rfl
  | _ => simp [World.cell?,hb] at h0
theorem Itoa_ok (n : Int) (h0 : -9223372036854775808 ≤ n) (h1 : n ≤ 9223372036854775807) : Fn Tryz.prog 174 [.v (.int .i64 n)] (.v (.string (itB n))) := by
 refine mN ⟨_,Tryz.func174,rfl,rfl⟩ fun w s vs hg hv => ?_;rw [dW hv];refine (Any.strconv_Itoa Tryz.laysItoa n h0 h1 w (tab_pow hg)).mono ?_;rintro e w' ⟨rfl,k,os,rfl⟩;exact ⟨rfl,Lib.below_grow _ w (Nat.le_refl _) k os⟩
theorem wV0 {w : World} {s : Sb} {G : Nat → Nat → Option Value} (g2 : ∀ b o v,G b o = some v → w.cell? ⟨b,o,none⟩ = some v ∧ s b o) {g : Nat} {k : IntKind} {t : List Nat} (h : SliG G g k t) : Lib.TabSlice g k t w := by
 obtain ⟨R,o,c,h1,h2⟩ := h;exact ⟨R,o,c,(g2 _ _ _ h1).1,fun j hj => (g2 _ _ _ (h2 j hj)).1⟩
theorem gY0 (s : ByteArray) (hs : s.size ≤ 1000000000) : Fn Tryz.prog 157 [.v (.string s)] (.v (.string (quB s))) := by
 refine mN ⟨_,Tryz.func157,rfl,rfl⟩ fun w s' vs hg hv => ?_;rw [dW hv];obtain ⟨G,g1,g2,_⟩ := hg
 have hT : Lib.PrintTabsAt 6 7 8 9 Lib.goPrintTabs w :=
  ⟨wV0 g2 g1.p16,wV0 g2 g1.n16,wV0 g2 g1.p32,wV0 g2 g1.n32,by decide +kernel,by decide +kernel,by decide +kernel⟩
 have hU : Lib.Utf8Tabs 1 2 w := ⟨fun c hc => (g2 _ _ _ (g1.first c hc)).1,fun i hi => ⟨(g2 _ _ _ (g1.accept i hi).1).1,(g2 _ _ _ (g1.accept i hi).2).1⟩⟩;exact Any.strconv_Quote Tryz.laysQuote (by kernel_rfl) Lib.goPrintTabs s w (by omega) hT hU
variable {md me : Bool}
def skO (md : Bool) (h : List Ob) (b : Int) (k : Skt) : List DOwn := [.box 145 [.sl md 10 h obD ob0,.v (.int .i64 b),.mo 1 k.ord.length,.mo 2 k.out.length],.mrow 3 1 (.map k.ord iD 0),.mrow 5 1 (.map k.out u8D 0)]
theorem tQ0 {α : Type} [DecidableEq α] : ∀ (l : List α) (n : α),-1 ≤ ixI l n
 | [],_ => by show (-1 : Int) ≤ -1;omega
 | x :: l,n => by
  have := tQ0 l n;rw [ixI];split
  ·omega
  ·split <;> omega
theorem IndexIm_ok (l : List Int) (n : Int) : Fn Tryz.prog 88 [.sl md 1 l iD 0,.v (.int .i64 n)] (.v (.int .i64 (ixI l n))) := by
 refine yL zM Tryz.func88 rfl rfl rfl rfl rfl rfl ?_;intro w0 s0 mx;refine wK 0 rfl fun hl0 => ?_;refine zL 100 ?_;refine zB (zL 200 ?_);refine zQ ?_;refine yC (ι := Nf l n) [0,1,7] [] 250 (fun x => [(8,.v (.int .i64 x.k))]) (fun _ => []) (fun x => l.length - x.k) ⟨0,Nat.zero_le _,fun j hj => by omega⟩ ?_;refine ⟨⟨yH,yG,rfl,rfl⟩,fun x => ?_⟩;have hk := x.le;refine zL 300 ?_;refine zB (zY (fun c2 => ?_) (fun c2 => ?_))
 ·
  refine zO (zA (zB (zQ (zL 400 ?_))));refine zL 500 ?_;refine zY (fun c4 => ?_) (fun c4 => ?_)
  ·
   refine zL 600 ?_;refine zJ (zN (zK (yP (zN (zK ?_)))));exact FinV.ret rfl (SubP.int (x.found c2 c4).symm)
  ·
   refine zO (zP (zA (yT zM [] 700 ?_)));exact zW (x.next c2 c4) ⟨yH,yG,rfl,rfl⟩ (by show l.length - (x.k + 1) < l.length - x.k;omega)
 ·
  refine yF (zZ (yB (zX (zA (zL 800 ?_)))));refine zJ ?_;exact FinV.ret rfl (SubP.int (x.none c2).symm)
theorem jQ (h : List Ob) (b : Int) (k : Skt) (s : ByteArray) (hl : k.out.length + s.size ≤ 1073741824) : FnG Tryz.prog 155 [.bp 0 0,.v (.string s)] (skO md h b k) (.v (.tuple #[])) (skO md h b (k.w s)) := by
 refine jE zM Tryz.func155 rfl rfl rfl rfl rfl rfl rfl ?_;intro w0 s0 mx;refine zE zM [] 100 rfl ?_;repeat (first | refine zG ?_ | refine zH ?_ | refine zU (by first | (simp only [MR.len];done) | (simp only [MR.len];omega) | first | exact trivial | omega | exact ini (by omega) (by omega) | (intro hh;simp at hh;exact ini (by omega) (by omega)) | (intro hh;simp at hh ⊢;omega) | (simp at *;omega) | (simp_all;done)) ?_)
 refine zC ?_;exact FinH.normal 3 rfl rfl (Sub.refl _) ⟨⟨rfl,Sub.refl _,rfl,Sub.refl _,rfl,Sub.refl _,rfl,Sub.mo (by rw [(kA0 k s).1]),rfl,trivial⟩,SubO.mp rfl,SubO.mp (by show D.pvss (k.out.map u8D ++ s.data.toList.map u8D) = D.pvss ((k.out ++ s.data.toList).map u8D);rw [List.map_append]),trivial⟩
theorem cY0 {P : Program} {K : DS → Prop} {p : Prop} {r : Out} (hr : r.sat P K) (hp : p := by first | exact Nat.le_trans (show (itB n).size + 1 ≤ 22 by omega) (by decide) | first | exact trivial | omega | exact ini (by omega) (by omega) | (intro hh;simp at hh;exact ini (by omega) (by omega)) | (intro hh;simp at hh ⊢;omega) | (simp at *;omega) | (simp_all;done)) : (Out.need p r).sat P K := ⟨hp,hr⟩
theorem xI (h : List Ob) (b : Int) (k : Skt) (n : Int) (h0 : -9223372036854775808 ≤ n) (h1 : n ≤ 9223372036854775807) (hl : k.out.length + 22 ≤ 1073741824) : FnG Tryz.prog 156 [.bp 0 0,.v (.int .i64 n)] (skO md h b k) (.v (.tuple #[])) (skO md h b (k.n n)) := by
 have hz := xW0 h0 h1;have hz2 : (itB n ++ sB 32).size ≤ 22 := by rw [ByteArray.size_append];show _ + 1 ≤ _;omega
 refine jE zM Tryz.func156 rfl rfl rfl rfl rfl rfl rfl ?_;intro w0 s0 mx;refine zE zM [1008] 100 rfl ?_;repeat (first | refine zG ?_ | refine zH ?_ | refine cY0 ?_)
 refine zT _ (Itoa_ok n h0 h1) rfl ?_;repeat (first | refine zG ?_ | refine zH ?_ | refine cY0 ?_)
 refine yJ _ _ (jQ h b k (itB n ++ sB 32) (by omega)) rfl ?_;repeat (first | refine zG ?_ | refine zH ?_ | refine cY0 ?_)
 refine zC ?_;exact FinH.normal 3 rfl rfl (Sub.refl _) ⟨⟨rfl,Sub.refl _,rfl,Sub.refl _,rfl,Sub.refl _,rfl,Sub.refl _,rfl,trivial⟩,SubO.mp rfl,SubO.mp rfl,trivial⟩
theorem kC (h : List Ob) (b : Int) (k : Skt) (n : Int) (h0 : -9223372036854775808 ≤ n) (h1 : n ≤ 9223372036854775807) (hl : k.out.length + 23 ≤ 1073741824) (ho : k.ord.length ≤ 1000000000) : FnG Tryz.prog 158 [.bp 0 0,.v (.int .i64 n)] (skO md h b k) (.v (.tuple #[])) (skO md h b (k.see b n)) := by
 have hix := yB0 k.ord n;have hix2 := tQ0 k.ord n;refine jE zM Tryz.func158 rfl rfl rfl rfl rfl rfl rfl ?_;intro w0 s0 mx;refine zB (zL 100 ?_);refine zY (fun c0 => ?_) (fun c0 => ?_)
 ·
  refine zB (zE zM [1012] 200 rfl ?_);refine zF ?_;refine yJ _ _ (jQ h b k (sB 35) (by show k.out.length + 1 ≤ _;omega)) rfl ?_;refine zF ?_;refine zC (zA ?_);refine yK [0,1] [] 210 [] [(0,.box 145 [.sl md 10 h obD ob0,.v (.int .i64 b),.mo 1 (k.w (sB 35)).ord.length,.mo 2 (k.w (sB 35)).out.length]),(1,.mrow 3 1 (.map (k.w (sB 35)).ord iD 0)),(2,.mrow 5 1 (.map (k.w (sB 35)).out u8D 0))] ?_;refine ⟨⟨yH,⟨⟨rfl,Sub.refl _,rfl,Sub.refl _,rfl,Sub.mo (by simp [Skt.w,Skt.n]),rfl,Sub.mo (by simp [Skt.w,Skt.n]),rfl,trivial⟩,SubO.mp rfl,SubO.mp rfl,yG⟩,rfl,rfl⟩,?_⟩;refine zB (zE zM [1015] 300 rfl ?_);refine zF ?_;refine yJ _ _ (xI h b (k.w (sB 35)) n h0 h1 (by rw [(kA0 _ _).1];show k.out.length + 1 + 22 ≤ _;omega)) rfl ?_;refine zF ?_;refine zC (zA (zJ (zK ?_)));rw [show k.see b n = (k.w (sB 35)).n n from if_pos c0];exact FinH.ret 3 rfl rfl (Sub.refl _) ⟨⟨rfl,Sub.refl _,rfl,Sub.refl _,rfl,Sub.refl _,rfl,Sub.refl _,rfl,trivial⟩,SubO.mp rfl,SubO.mp rfl,trivial⟩
 ·
  refine zO (zA ?_);refine zB (zE zM [] 400 rfl ?_);refine zF ?_;refine yO _ (IndexIm_ok k.ord n) rfl rfl ?_;refine zF ?_;refine zC (zA (zB (zL 500 ?_)));refine zY (fun c4 => ?_) (fun c4 => ?_)
  ·
   refine zL 600 ?_;refine zE zM [] 700 rfl ?_;repeat (first | refine zG ?_ | refine zH ?_ | refine zU (by first | rfl | (simp only [MR.len,List.length_map,List.length_cons,List.length_nil];omega) | first | exact trivial | omega | exact ini (by omega) (by omega) | (intro hh;simp at hh;exact ini (by omega) (by omega)) | (intro hh;simp at hh ⊢;omega) | (simp at *;omega) | (simp_all;done)) ?_)
   refine zC (zA ?_);refine yK [0,4] [] 710 [] [(0,.box 145 [.sl md 10 h obD ob0,.v (.int .i64 b),.mo 1 ((⟨k.ord ++ [n],k.out⟩ : Skt)).ord.length,.mo 2 ((⟨k.ord ++ [n],k.out⟩ : Skt)).out.length]),(1,.mrow 3 1 (.map ((⟨k.ord ++ [n],k.out⟩ : Skt)).ord iD 0)),(2,.mrow 5 1 (.map ((⟨k.ord ++ [n],k.out⟩ : Skt)).out u8D 0))] ?_;refine ⟨⟨yH,⟨⟨rfl,Sub.refl _,rfl,Sub.refl _,rfl,Sub.mo (by simp),rfl,Sub.mo (by simp),rfl,trivial⟩,SubO.mp (by show D.pvss (k.ord.map iD ++ [iD n]) = D.pvss ((k.ord ++ [n]).map iD);rw [List.map_append];rfl),SubO.mp rfl,yG⟩,rfl,rfl⟩,?_⟩;refine zB (zE zM [1040] 800 rfl ?_);refine zF ?_;refine yJ _ _ (jQ h b (⟨k.ord ++ [n],k.out⟩ : Skt) (sB 64) (by show k.out.length + 1 ≤ _;omega)) rfl ?_;refine zF ?_;refine zC (zA ?_);refine yK [0,4] [] 810 [] [(0,.box 145 [.sl md 10 h obD ob0,.v (.int .i64 b),.mo 1 ((⟨k.ord ++ [n],k.out⟩ : Skt).w (sB 64)).ord.length,.mo 2 ((⟨k.ord ++ [n],k.out⟩ : Skt).w (sB 64)).out.length]),(1,.mrow 3 1 (.map ((⟨k.ord ++ [n],k.out⟩ : Skt).w (sB 64)).ord iD 0)),(2,.mrow 5 1 (.map ((⟨k.ord ++ [n],k.out⟩ : Skt).w (sB 64)).out u8D 0))] ?_;refine ⟨⟨yH,⟨⟨rfl,Sub.refl _,rfl,Sub.refl _,rfl,Sub.mo (by simp [Skt.w,Skt.n]),rfl,Sub.mo (by simp [Skt.w,Skt.n]),rfl,trivial⟩,SubO.mp rfl,SubO.mp rfl,yG⟩,rfl,rfl⟩,?_⟩;refine zE zM [1043] 900 rfl ?_;refine zF ?_;refine yJ _ _ (xI h b ((⟨k.ord ++ [n],k.out⟩ : Skt).w (sB 64)) (k.ord.length : Nat) (by omega) (by omega) (by rw [(kA0 _ _).1];show k.out.length + 1 + 22 ≤ _;omega)) rfl ?_;refine zF ?_;refine zC ?_;rw [show k.see b n = ((⟨k.ord ++ [n],k.out⟩ : Skt).w (sB 64)).n (k.ord.length : Nat) from (if_neg (Int.not_lt.2 c0)).trans (if_pos c4)];exact FinH.normal 3 rfl rfl (Sub.refl _) ⟨⟨rfl,Sub.refl _,rfl,Sub.refl _,rfl,Sub.refl _,rfl,Sub.refl _,rfl,trivial⟩,SubO.mp rfl,SubO.mp rfl,trivial⟩
  ·
   refine zO (zA ?_);refine zB (zE zM [1040] 800 rfl ?_);refine zF ?_;refine yJ _ _ (jQ h b k (sB 64) (by show k.out.length + 1 ≤ _;omega)) rfl ?_;refine zF ?_;refine zC (zA ?_);refine yK [0,4] [] 810 [] [(0,.box 145 [.sl md 10 h obD ob0,.v (.int .i64 b),.mo 1 (k.w (sB 64)).ord.length,.mo 2 (k.w (sB 64)).out.length]),(1,.mrow 3 1 (.map (k.w (sB 64)).ord iD 0)),(2,.mrow 5 1 (.map (k.w (sB 64)).out u8D 0))] ?_;refine ⟨⟨yH,⟨⟨rfl,Sub.refl _,rfl,Sub.refl _,rfl,Sub.mo (by simp [Skt.w,Skt.n]),rfl,Sub.mo (by simp [Skt.w,Skt.n]),rfl,trivial⟩,SubO.mp rfl,SubO.mp rfl,yG⟩,rfl,rfl⟩,?_⟩;refine zE zM [1043] 900 rfl ?_;refine zF ?_;refine yJ _ _ (xI h b (k.w (sB 64)) (ixI k.ord n) (by omega) (by omega) (by rw [(kA0 _ _).1];show k.out.length + 1 + 22 ≤ _;omega)) rfl ?_;refine zF ?_;refine zC ?_;rw [show k.see b n = (k.w (sB 64)).n (ixI k.ord n) from (if_neg (Int.not_lt.2 c0)).trans (if_neg (Int.not_lt.2 c4))];exact FinH.normal 3 rfl rfl (Sub.refl _) ⟨⟨rfl,Sub.refl _,rfl,Sub.refl _,rfl,Sub.refl _,rfl,Sub.refl _,rfl,trivial⟩,SubO.mp rfl,SubO.mp rfl,trivial⟩
theorem V_at {l : List Nat} {j : Nat} (h : j < l.length) : V (l.drop j) = l.getD j 0 + 65536 * V (l.drop (j + 1)) := by
 rw [List.drop_eq_getElem_cons h,List.getD_eq_getElem?_getD,List.getElem?_eq_getElem h];rfl
structure Hv (a : Nat) where
 j : Nat
 o : List Nat
 r : Nat
 lo : o.length = (dig a).length
 le : j ≤ (dig a).length
 dg : Dg o
 eq : V (o.drop j) = V ((dig a).drop j) / 16
 re : r = V ((dig a).drop j) % 16
def Hv.t {a : Nat} (x : Hv a) : Nat := x.r * 65536 + (dig a).getD (x.j - 1) 0
theorem Hv.t_lt {a : Nat} (x : Hv a) : x.t < 16 * 65536 := by
 have h1 := cX a (x.j - 1);have h2 := x.re;unfold Hv.t;omega
def Hv.next {a : Nat} (x : Hv a) (h : 0 < x.j) : Hv a := ⟨x.j - 1,x.o.set (x.j - 1) (x.t / 16),x.t % 16,by rw [List.length_set];exact x.lo,by have := x.le;omega,by
  intro d hd;rcases List.mem_or_eq_of_mem_set hd with hd | rfl
  ·exact x.dg d hd
  ·have := x.t_lt;omega,by
  have hl := x.lo;have hle := x.le;have e1 := V_at (l := dig a) (j := x.j - 1) (by omega);have e2 := V_at (l := x.o.set (x.j - 1) (x.t / 16)) (j := x.j - 1) (by rw [List.length_set];omega);have e3 : (x.o.set (x.j - 1) (x.t / 16)).getD (x.j - 1) 0 = x.t / 16 := by
   rw [List.getD_eq_getElem?_getD,List.getElem?_set_self (by omega)];rfl
  have e4 : (x.o.set (x.j - 1) (x.t / 16)).drop (x.j - 1 + 1) = x.o.drop x.j := by
   rw [show x.j - 1 + 1 = x.j by omega,List.drop_set_of_lt (by omega)]
  rw [e2,e3,e4,e1,x.eq,show x.j - 1 + 1 = x.j by omega];have := x.re;unfold Hv.t;omega,by
  have hle := x.le;have e1 := V_at (l := dig a) (j := x.j - 1) (by omega);rw [e1,show x.j - 1 + 1 = x.j by omega];have := x.re;unfold Hv.t;omega⟩
variable {md me : Bool}
theorem zrowsH (n : Nat) : (MR.map (List.replicate n ()) (fun _ => litS [.int .i64 0]) ()).rows = (MR.map (List.replicate n 0) nD 0).rows := by
 show (List.replicate n ()).map _ = (List.replicate n 0).map nD;rw [List.map_replicate,List.map_replicate];rfl
def Hv.start (a : Nat) : Hv a := ⟨(dig a).length,List.replicate (dig a).length 0,0,by simp,Nat.le_refl _,fun d hd => by rw [(List.mem_replicate.1 hd).2];decide,by rw [List.drop_of_length_le (by simp),List.drop_of_length_le (Nat.le_refl _)];rfl,by rw [List.drop_of_length_le (Nat.le_refl _)];rfl⟩
theorem cX0 {P : Program} {K : DS → Prop} {p : Prop} {r : Out} (hr : r.sat P K) (hp : p := by first | exact ⟨hm,by rw [← hm];omega⟩ | exact ⟨hm,by omega⟩ | (constructor <;> omega) | (rw [hkt,hte];exact ini (by omega) (by omega)) | (rw [hkt,hte,htd];exact ini (by omega) (by omega)) | (rw [hkt,hte];refine ⟨by decide,?_⟩;rw [htd];exact ini (by omega) (by omega)) | first | exact trivial | omega | exact ini (by omega) (by omega) | (intro hh;simp at hh;exact ini (by omega) (by omega)) | (intro hh;simp at hh ⊢;omega) | (simp at *;omega) | (simp_all;done)) : (Out.need p r).sat P K := ⟨hp,hr⟩
theorem Halve3_ok (a : Nat) (ha : (dig a).length ≤ 10000000) : Fn Tryz.prog 166 [natD a,.v (.int .i64 16)] (.tup [natD (a / 16),.v (.int .i64 ((a % 16 : Nat) : Int))]) := by
 refine yL zM Tryz.func166 rfl rfl rfl rfl rfl rfl ?_;intro w0 s0 mx;refine zL 100 ?_;refine ev_R zM [1011] 200 ?_;refine yK [0,1] [] 210 [(6,.mo 102 (dig a).length)] [(102,.mrow 3 1 (.map (List.replicate (dig a).length 0) nD 0))] ?_;refine ⟨⟨⟨Sub.mo (by omega),yH⟩,⟨SubO.mr (by rw [zrowsH];congr 3),yG⟩,rfl,rfl⟩,?_⟩;refine zL 300 ?_;refine zB (zL 400 ?_);refine zQ ?_;refine yC (ι := Hv a) [0,1,6] [] 450 (fun x => [(8,.v (.int .i64 ((x.j : Int) - 1))),(7,.v (.int .i64 (x.r : Nat)))]) (fun x => [(102,.mrow 3 1 (.map x.o nD 0))]) (fun x => x.j) (Hv.start a) ?_;refine ⟨⟨yH,yG,rfl,rfl⟩,fun x => ?_⟩;have hlo := x.lo;have hle := x.le;have ht := x.t_lt;have hre := x.re;have hm : (dig a).length = (MR.map x.o nD 0).len := by rw [MR.len,x.lo]
 have hkt : ((x.j : Int) - 1).toNat = x.j - 1 := by omega
 have hte : (x.r : Int) * 65536 + (((dig a).getD (x.j - 1) 0 : Nat) : Int) = ((x.t : Nat) : Int) := by unfold Hv.t;omega
 have htd : Int.tdiv ((x.t : Nat) : Int) 16 = ((x.t / 16 : Nat) : Int) := rfl;refine zB (zL 500 ?_);refine zY (fun c4 => ?_) (fun c4 => ?_)
 ·
  refine zO (zA (zB (zQ ?_)));refine zB (zE zM [] 700 rfl ?_);repeat (first | refine zG ?_ | refine zH ?_ | refine cX0 ?_)
  refine zC (zA ?_);refine zB (zE zM [] 800 rfl ?_);repeat (first | refine zG ?_ | refine zH ?_ | refine cX0 ?_)
  refine zC (zA ?_);refine zE zM [] 900 rfl ?_;repeat (first | refine zG ?_ | refine zH ?_ | refine cX0 ?_)
  refine zC (zP (zA (yT zM [] 1000 ?_)));exact zW (x.next (by omega)) ⟨⟨Sub.int (by show (x.j : Int) - 1 - 1 = ((x.j - 1 : Nat) : Int) - 1;omega),Sub.int (by show _ = ((x.t % 16 : Nat) : Int);rw [hkt,hte];rfl),yH⟩,⟨SubO.mr (by show (x.o.map nD).set ((x.j : Int) - 1).toNat [.v (.int .i64 (Int.tdiv ((x.r : Int) * 65536 + (((dig a).getD ((x.j : Int) - 1).toNat 0 : Nat) : Int)) 16))] = (x.o.set (x.j - 1) (x.t / 16)).map nD;rw [hkt,hte,htd,List.map_set];rfl),yG⟩,rfl,rfl⟩ (by show x.j - 1 < x.j;omega)
 ·
  refine yF (zZ (yB (zX (zA ?_))));refine vO 102 rfl (by repeat (first | exact trivial | exact hm | refine ⟨?_,?_⟩)) (by repeat (first | exact trivial | refine ⟨?_,?_⟩)) ?_;refine zB (zE zM [] 1000 rfl ?_);refine zF ?_;refine zT _ ((vA0 x.o x.dg (by rw [x.lo];omega)).args ⟨SubP.ownSl rfl,trivial⟩) rfl ?_;refine zF ?_;refine zC (zA (zJ ?_));have hz : x.j = 0 := by omega
  have e := x.eq;have e2 := x.re;rw [hz,List.drop_zero,List.drop_zero,mS] at e;rw [hz,List.drop_zero,mS] at e2;exact FinV.ret rfl (SubP.tup ⟨SubP.of_eq (by rw [e]),SubP.of_eq (by rw [e2];rfl),trivial⟩)
variable {md me : Bool}
structure Fg (a : Nat) where
 y : Nat
 o : List Nat
 eq : o ++ hxL y = hxL a
 le : y ≤ a
def Fg.next {a : Nat} (x : Fg a) (h : x.y ≠ 0) : Fg a := ⟨x.y / 16,x.o ++ [x.y % 16],by rw [List.append_assoc,List.singleton_append,← yF0 h];exact x.eq,Nat.le_trans (Nat.div_le_self _ _) x.le⟩
theorem dig_ne {y : Nat} (h : 0 < (dig y).length) : y ≠ 0 := by
 rintro rfl;exact absurd h (by decide +kernel)
theorem dig_eq0 {y : Nat} (h : ¬ 0 < (dig y).length) : y = 0 := by
 have e : dig y = [] := List.eq_nil_of_length_eq_zero (by omega);have := mS y;rw [e] at this;exact this.symm
theorem Fg.len {a : Nat} (x : Fg a) : x.o.length ≤ (hxL a).length := by rw [← x.eq,List.length_append];omega
theorem tT0 (a : Nat) : (hxL a).length ≤ 4 * (dig a).length := vN0 (by
 have h := V_lt (xU a);rw [mS] at h;rw [show (16 : Nat) ^ (4 * (dig a).length) = 65536 ^ (dig a).length by rw [Nat.pow_mul]];exact h)
theorem xC0 {l : List Nat} {k : Nat} (h : 0 < k) (hk : k ≤ l.length) : (l.drop (k - 1)).reverse.map nD = (l.drop k).reverse.map nD ++ [nD (l.getD (k - 1) 0)] := by
 rw [List.drop_eq_getElem_cons (show k - 1 < l.length by omega),List.reverse_cons,List.map_append,show k - 1 + 1 = k by omega,List.getD_eq_getElem?_getD,List.getElem?_eq_getElem (show k - 1 < l.length by omega)];rfl
theorem yJ1 {P : Program} {K : DS → Prop} {p : Prop} {r : Out} (hr : r.sat P K) (hp : p := by first | rfl | (simp only [List.length_map,List.length_reverse,List.length_drop,List.length_cons,List.length_nil];omega) | exact ⟨by omega,by rw [hkz];omega⟩ | first | exact trivial | omega | exact ini (by omega) (by omega) | (intro hh;simp at hh;exact ini (by omega) (by omega)) | (intro hh;simp at hh ⊢;omega) | (simp at *;omega) | (simp_all;done)) : (Out.need p r).sat P K := ⟨hp,hr⟩
theorem Figures3_ok (a : Nat) (ha : (dig a).length ≤ 10000000) : FnO Tryz.prog 186 [natD a,.v (.int .i64 16)] 3 1 ((hxL a).reverse.map nD) := by
 have hxd := tT0 a;refine dE Tryz.func186 rfl rfl rfl rfl rfl rfl ?_;intro w0 s0 mx;refine zL 100 ?_;refine zL 200 ?_;refine qA 5 3 1 rfl ?_;refine zB (zQ ?_);refine yC (ι := Fg a) [1] [] 250 (fun x => [(0,natD x.y),(5,.own 200 1 (x.o.map nD))]) (fun x => [(200,.row 3 1 (x.o.map nD).length)]) (fun x => x.y) ⟨a,[],rfl,Nat.le_refl _⟩ ?_;refine ⟨⟨yH,yG,rfl,rfl⟩,fun x => ?_⟩;have hol := x.len;refine zB (zL 300 ?_);refine zS rfl (fun c2 => ?_) (fun c2 => ?_)
 ·have hne : x.y ≠ 0 := dig_ne (by simpa using c2);refine zO (zA (zQ (zL 400 ?_)));refine zB (zE zM [] 500 rfl ?_);refine zF ?_;refine zT _ (Halve3_ok x.y (by have := xT x.le;omega)) rfl ?_;refine zF ?_;refine zC (zA ?_);refine zE zM [] 600 rfl ?_;repeat (first | refine zG ?_ | refine zH ?_ | refine yJ1 ?_)
  refine zC (zP ?_);exact zW (x.next hne) ⟨⟨Sub.refl _,Sub.own (by show _ = (x.o ++ [x.y % 16]).map nD;rw [List.map_append];rfl),yH⟩,⟨⟨rfl,rfl,by show _ = ((x.o ++ [x.y % 16]).map nD).length;rw [List.map_append];rfl⟩,yG⟩,rfl,rfl⟩ (by show x.y / 16 < x.y;omega)
 ·have h0 : x.y = 0 := dig_eq0 (by simpa using c2);have hoe : x.o = hxL a := by have := x.eq;rwa [h0,mK,List.append_nil] at this
  refine yF (zZ (yB (zX (zA (zL 700 ?_)))));refine qA 7 3 1 rfl ?_;refine zB ?_;refine zB (zE zM [] 800 rfl ?_);repeat (first | refine zG ?_ | refine zH ?_ | refine zU (by first | exact ini (by rw [List.length_map];omega) (by rw [List.length_map];omega) | first | exact trivial | omega | exact ini (by omega) (by omega) | (intro hh;simp at hh;exact ini (by omega) (by omega)) | (intro hh;simp at hh ⊢;omega) | (simp at *;omega) | (simp_all;done)) ?_)
  refine zC (zA (zQ ?_));refine yC (ι := {k : Nat // k ≤ x.o.length}) [] [] 850 (fun z => [(8,.v (.int .i64 ((z.1 : Int) - 1))),(5,.sl false 1 x.o nD 0),(7,.own 700 1 ((x.o.drop z.1).reverse.map nD))]) (fun z => [(700,.row 3 1 ((x.o.drop z.1).reverse.map nD).length)]) (fun z => z.1) ⟨x.o.length,Nat.le_refl _⟩ ?_;refine ⟨⟨⟨Sub.int (by simp),Sub.ownSl rfl,Sub.own (by rw [List.drop_length];rfl),yH⟩,⟨⟨rfl,rfl,by rw [List.drop_length];rfl⟩,yG⟩,rfl,rfl⟩,fun z => ?_⟩;have hz : z.1 ≤ x.o.length := z.2;have hkz : ((z.1 : Int) - 1).toNat = z.1 - 1 := by omega
  refine zB (zL 900 ?_);refine zY (fun c8 => ?_) (fun c8 => ?_)
  ·
   refine zO (zA (zB (zQ ?_)));refine zE zM [] 1100 rfl ?_;repeat (first | refine zG ?_ | refine zH ?_ | refine yJ1 ?_)
   refine zC (zP (zA (yT zM [] 1200 ?_)));exact zW ⟨z.1 - 1,by omega⟩ ⟨⟨Sub.int (by show (z.1 : Int) - 1 - 1 = ((z.1 - 1 : Nat) : Int) - 1;omega),Sub.refl _,Sub.own (by rw [xC0 (by omega) hz,hkz];rfl),yH⟩,⟨⟨rfl,rfl,by rw [xC0 (by omega) hz];simp only [List.length_append];rfl⟩,yG⟩,rfl,rfl⟩ (by show z.1 - 1 < z.1;omega)
  ·
   refine yF (zZ (yB (zX (zA (zL 1200 ?_)))));refine zJ ?_;have hz0 : z.1 = 0 := by omega
   exact FinO.ret rfl rfl rfl (by rw [hz0,List.drop_zero,hoe])
end Go.Proofs.YtbhndnphimmjjaaGreatDoor
