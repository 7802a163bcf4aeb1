/- RaisingChangesMatchSpec: the given statement. Condition: what the law reads is of bulk at most 1048576 (the second form); the listed variables start as the program's text lays them. -/
import Derived.Test.YtmbnclhokhggaaaGreatDoorM25
import Derived.Test.YtmbnclhokhggaaaGreatDoorCards
import Derived.Test.YtmbnclhokhggaaaGreatDoorTie
import Derived.Lib.LaidU8T
import Derived.Deep.DeepHandedRow
import Derived.Deep.DeepWitnessRowRef
import Derived.Lib.LaidTab
import Derived.Shelf.Vars
import Derived.PinnedBridge
import Derived.Lib.LaidPrint
import Derived.Lib.LaidSlice
import Derived.Lib.LaidIn
namespace Go.Proofs.YtmbnclhokhggaaaGreatDoor
open Go.ChangeShapes Go.WideShapes Go.ChangeAt Go.RowKit Go.Shelf
theorem Law_own : ownKnob Tryz.prog.godebug = none := by kernel_rfl
theorem accept_same : (Rows.laid_unicode_utf8_acceptRanges : DataW Unit) = Lib.acceptData := by kernel_rfl
theorem first_same : (Rows.laid_unicode_utf8_first : DataW Unit) = Lib.firstData := by kernel_rfl
theorem space_same : (Rows.laid_strings_asciiSpace : DataW Unit) = Lib.tabData .u8 Lib.asciiSpaceTab := by kernel_rfl
theorem pow_same : (Rows.laid_internal_strconv_uint64pow10 : DataW Unit) = Lib.tabData .u64 Lib.pow10Tab := by kernel_rfl
theorem pow_tab {W : World} (hL : laidMetH Tryz.prog Rows.raisingChangesMatchSpecUptoRow.laid W) : Lib.TabIs Tryz.prog W "internal/strconv.uint64pow10" .u64 Lib.pow10Tab := by
 have h5 : Lib.VarReads Tryz.prog W "internal/strconv.uint64pow10" Rows.laid_internal_strconv_uint64pow10 := Lib.laidMet.reads hL (.tail _ (.tail _ (.head _)));rw [pow_same] at h5;obtain ⟨g,t,cs,fuel,p,hg,hty,hvar,hd⟩ := h5;obtain rfl := Option.some.inj ((show Tryz.prog.globalNamed "internal/strconv.uint64pow10" = some 5 by kernel_rfl).symm.trans hg);obtain rfl := Option.some.inj ((show (Tryz.prog.globals[5]?).map (·.type) = some 200 by kernel_rfl).symm.trans hty);have := Lib.cells_of_tab Tryz.underlying200 Tryz.underlying89 (by kernel_rfl) (by kernel_rfl) hd;unfold Lib.TabIs;rw [hvar,← this]
theorem Law_z {W : World} (hL : laidMetH Tryz.prog Rows.raisingChangesMatchSpecUptoRow.laid W) (o : Nat) (ho : 20 ≤ o) : W.cell? ⟨5,o,none⟩ = none ∧ sW W 5 o := by
 have h := pow_tab hL;have hg : Tryz.prog.globalNamed "internal/strconv.uint64pow10" = some 5 := by kernel_rfl
 refine ⟨?_,?_⟩
 ·rw [World.var?_cell hg h o,List.getElem?_toArray];exact List.getElem?_eq_none (by rw [List.length_map,Lib.pow10Tab_length];exact ho)
 ·exact World.block_lt_of_cell? _ _ (h.cell hg 0 (by rw [Lib.pow10Tab_length];decide))
theorem tab_p16 {W : World} (hL : laidMetH Tryz.prog Rows.raisingChangesMatchSpecUptoRow.laid W) : Lib.TabSlice 6 .u16 Lib.goPrintTabs.p16 W :=
 Lib.tabSlice_of_reads (name := "strconv.isPrint16") (t := 203) (e := 173) (by kernel_rfl) (by kernel_rfl) Tryz.underlying203 Tryz.underlying173 (by kernel_rfl) (by decide +kernel) (by
  have h : Lib.VarReads Tryz.prog W "strconv.isPrint16" Rows.laid_strconv_isPrint16 := Lib.laidMet.reads hL (.tail _ (.tail _ (.tail _ (.tail _ (.tail _ (.tail _ (.tail _ (.tail _ (.tail _ (.head _))))))))))
  rwa [show (Rows.laid_strconv_isPrint16 : DataW Unit) = Lib.sliceData .u16 Lib.goPrintTabs.p16 from Go.Pinned.isPrint16_eq] at h)
theorem tab_n16 {W : World} (hL : laidMetH Tryz.prog Rows.raisingChangesMatchSpecUptoRow.laid W) : Lib.TabSlice 7 .u16 Lib.goPrintTabs.n16 W :=
 Lib.tabSlice_of_reads (name := "strconv.isNotPrint16") (t := 203) (e := 173) (by kernel_rfl) (by kernel_rfl) Tryz.underlying203 Tryz.underlying173 (by kernel_rfl) (by decide +kernel) (by
  have h : Lib.VarReads Tryz.prog W "strconv.isNotPrint16" Rows.laid_strconv_isNotPrint16 := Lib.laidMet.reads hL (.tail _ (.tail _ (.tail _ (.tail _ (.tail _ (.tail _ (.tail _ (.head _))))))))
  rwa [show (Rows.laid_strconv_isNotPrint16 : DataW Unit) = Lib.sliceData .u16 Lib.goPrintTabs.n16 from Go.Pinned.isNotPrint16_eq] at h)
theorem tab_p32 {W : World} (hL : laidMetH Tryz.prog Rows.raisingChangesMatchSpecUptoRow.laid W) : Lib.TabSlice 8 .u32 Lib.goPrintTabs.p32 W :=
 Lib.tabSlice_of_reads (name := "strconv.isPrint32") (t := 30) (e := 83) (by kernel_rfl) (by kernel_rfl) Tryz.underlying30 Tryz.underlying83 (by kernel_rfl) (by decide +kernel) (by
  have h : Lib.VarReads Tryz.prog W "strconv.isPrint32" Rows.laid_strconv_isPrint32 := Lib.laidMet.reads hL (.tail _ (.tail _ (.tail _ (.tail _ (.tail _ (.tail _ (.tail _ (.tail _ (.tail _ (.tail _ (.head _)))))))))))
  rwa [show (Rows.laid_strconv_isPrint32 : DataW Unit) = Lib.sliceData .u32 Lib.goPrintTabs.p32 from Go.Pinned.isPrint32_eq] at h)
theorem tab_n32 {W : World} (hL : laidMetH Tryz.prog Rows.raisingChangesMatchSpecUptoRow.laid W) : Lib.TabSlice 9 .u16 Lib.goPrintTabs.n32 W :=
 Lib.tabSlice_of_reads (name := "strconv.isNotPrint32") (t := 203) (e := 173) (by kernel_rfl) (by kernel_rfl) Tryz.underlying203 Tryz.underlying173 (by kernel_rfl) (by decide +kernel) (by
  have h : Lib.VarReads Tryz.prog W "strconv.isNotPrint32" Rows.laid_strconv_isNotPrint32 := Lib.laidMet.reads hL (.tail _ (.tail _ (.tail _ (.tail _ (.tail _ (.tail _ (.tail _ (.tail _ (.head _)))))))))
  rwa [show (Rows.laid_strconv_isNotPrint32 : DataW Unit) = Lib.sliceData .u16 Lib.goPrintTabs.n32 from Go.Pinned.isNotPrint32_eq] at h)
def litsOf : List (DataW Unit) → List Value
 | [] => []
 | .lit (.int k n) :: l => .int k n :: litsOf l
 | _ :: l => undef :: litsOf l
def arrOf : DataW Unit → Array Value
 | .agg l => (litsOf l).toArray
 | .slice l _ => (litsOf l).toArray
 | _ => #[]
theorem Law_glob {W : World} (hL : laidMetH Tryz.prog Rows.raisingChangesMatchSpecUptoRow.laid W) (hs : W.ShapedOpen Tryz.prog) : Glb W (sW W) := by
 have h3 : Lib.VarReads Tryz.prog W "unicode/utf8.first" Rows.laid_unicode_utf8_first := Lib.laidMet.reads hL (.tail _ (.tail _ (.tail _ (.tail _ (.tail _ (.tail _ (.tail _ (.tail _ (.tail _ (.tail _ (.tail _ (.head _))))))))))));have h4 : Lib.VarReads Tryz.prog W "unicode/utf8.acceptRanges" Rows.laid_unicode_utf8_acceptRanges := Lib.laidMet.reads hL (.tail _ (.tail _ (.tail _ (.head _))));have h5 : Lib.VarReads Tryz.prog W "strings.asciiSpace" Rows.laid_strings_asciiSpace := Lib.laidMet.reads hL (.tail _ (.tail _ (.tail _ (.tail _ (.tail _ (.head _))))));rw [first_same] at h3;rw [accept_same] at h4;rw [space_same] at h5;have hT : Lib.Utf8Tabs 1 2 W := utf8Tabs_of_readsT (U8Types.of196 Tryz.laysValid) ⟨by kernel_rfl,by kernel_rfl,by kernel_rfl,by kernel_rfl,by kernel_rfl,by kernel_rfl,by kernel_rfl⟩ h3 h4;have hS : Lib.TabIs Tryz.prog W "strings.asciiSpace" .u8 Lib.asciiSpaceTab := by
  obtain ⟨g,t,cs,fuel,p,hg,hty,hvar,hd⟩ := h5;obtain rfl := Option.some.inj ((show Tryz.prog.globalNamed "strings.asciiSpace" = some 0 by kernel_rfl).symm.trans hg);obtain rfl := Option.some.inj ((show (Tryz.prog.globals[0]?).map (·.type) = some 132 by kernel_rfl).symm.trans hty);have := Lib.cells_of_tab Tryz.underlying132 Tryz.underlying5 (by kernel_rfl) (by kernel_rfl) hd;unfold Lib.TabIs;rw [hvar,← this]
 have hM := Go.Proofs.cell_of_shapedOpen_int (g := 4) (t := 3) (zero := #[.int .i64 0]) hs (of_decide_eq_true (by kernel_rfl)) (by kernel_rfl) rfl (by kernel_rfl) (by kernel_rfl) Tryz.underlying3;refine ⟨fun b o => W.cell? ⟨b,o,none⟩,⟨hM,fun c hc => hT.1 c hc,fun i hi => hT.2 i hi,fun c hc => ?_,fun i hi => (pow_tab hL).cell (by kernel_rfl) i (by rw [Lib.pow10Tab_length];exact hi),tab_p16 hL,tab_n16 hL,tab_p32 hL,tab_n32 hL⟩,fun b o v hv => ⟨hv,World.block_lt_of_cell? _ _ hv⟩,fun b o h => by cases h with | pow10 o ho => exact Law_z hL _ ho⟩;show W.cell? ⟨0,c,none⟩ = _;rw [hS.cell (by kernel_rfl) c (by rw [Lib.asciiSpaceTab_length];exact hc),Lib.asciiSpaceTab_at c hc]
noncomputable def Law_world (os : Os) : World :=
 let N := (World.settled Tryz.prog os).heap.size
 let w0 := World.holding Tryz.prog os ⟨#[.cells (Lib.whiteT.map fun (z : Nat) => Value.int .u16 (z : Int)).toArray 175,.cells #[.slice (some ⟨N,0,none⟩) 7 7,.slice none 0 0,.int .i64 2] 172,.cells (arrOf Rows.laid_strconv_isGraphic) 173,.cells (Lib.intCellsOf .u16 Lib.goPrintTabs.n16) 173,.cells (Lib.intCellsOf .u16 Lib.goPrintTabs.n32) 173,.cells (Lib.intCellsOf .u16 Lib.goPrintTabs.p16) 173,.cells (Lib.intCellsOf .u32 Lib.goPrintTabs.p32) 83],#[],[]⟩
 let put (h : Array Obj) (g : Nat) (cs : Array Value) : Array Obj := h.modify g fun
  | .cells _ t frozen => .cells cs t frozen
  | o => o
 let h1 := put w0.heap 0 (Lib.asciiSpaceTab.map fun z => Value.int .u8 z).toArray
 let h2 := put h1 1 (Lib.firstTab.map fun z => Value.int .u8 z).toArray
 let h3 := put h2 2 ((List.range 16).flatMap fun i => [Value.int .u8 (Lib.accLo i),Value.int .u8 (Lib.accHi i)]).toArray
 let h4 := put h3 3 #[.pointer (some ⟨N + 1,0,none⟩)]
 let h5 := put h4 11 (arrOf Rows.laid_math_bits_deBruijn32tab)
 let h6 := put h5 12 (arrOf Rows.laid_math_bits_deBruijn64tab)
 let h7 := put h6 5 (arrOf Rows.laid_internal_strconv_uint64pow10)
 let h8 := put h7 10 #[.slice (some ⟨N + 2,0,none⟩) 16 16]
 let h9 := put h8 7 #[.slice (some ⟨N + 3,0,none⟩) Lib.goPrintTabs.n16.length Lib.goPrintTabs.n16.length]
 let h10 := put h9 9 #[.slice (some ⟨N + 4,0,none⟩) Lib.goPrintTabs.n32.length Lib.goPrintTabs.n32.length]
 let h11 := put h10 6 #[.slice (some ⟨N + 5,0,none⟩) Lib.goPrintTabs.p16.length Lib.goPrintTabs.p16.length]
 let h12 := put h11 8 #[.slice (some ⟨N + 6,0,none⟩) Lib.goPrintTabs.p32.length Lib.goPrintTabs.p32.length]
 { w0 with heap := h12 }
def Law_arg : Array Value := #[.agg #[.slice none 0 0],.slice none 0 0,.slice none 0 0]
noncomputable abbrev N0 : Nat := (World.settled Tryz.prog default).heap.size
theorem Law_pc0 (os : Os) : LaidIn Tryz.prog ((Law_world os).forCall (fun _ _ => 0) ⟨#[],Law_arg,[]⟩).memory ((Rows.raisingChangesMatchSpecUptoRow.laid.drop 0).take 7) [11,12,5,2,3,N0,N0 + 1,0,10,N0 + 2] :=
 LaidIn.of_run [11,12,5,2,3,N0,N0 + 1,0,10,N0 + 2] 10 (by kernel_rfl) (by kernel_rfl) (by kernel_rfl) (by kernel_rfl)
set_option maxRecDepth 1000000 in
theorem Law_pc1 (os : Os) : LaidIn Tryz.prog ((Law_world os).forCall (fun _ _ => 0) ⟨#[],Law_arg,[]⟩).memory [("strconv.isNotPrint16",Rows.laid_strconv_isNotPrint16)] [7,N0 + 3] := by
 rw [show (Rows.laid_strconv_isNotPrint16 : DataW Unit) = Lib.sliceData .u16 Lib.goPrintTabs.n16 from Go.Pinned.isNotPrint16_eq];exact Lib.laidIn_slice (t := 203) (e := 173) (te := 173) Lib.goPrintTabs.n16 (N0 + 3) (by kernel_rfl) (by kernel_rfl) (by kernel_rfl) (by kernel_rfl) (by kernel_rfl) (by kernel_rfl) (by kernel_rfl) (by kernel_rfl) (of_decide_eq_true (by kernel_rfl)) (of_decide_eq_true (by kernel_rfl))
set_option maxRecDepth 1000000 in
theorem Law_pc2 (os : Os) : LaidIn Tryz.prog ((Law_world os).forCall (fun _ _ => 0) ⟨#[],Law_arg,[]⟩).memory [("strconv.isNotPrint32",Rows.laid_strconv_isNotPrint32)] [9,N0 + 4] := by
 rw [show (Rows.laid_strconv_isNotPrint32 : DataW Unit) = Lib.sliceData .u16 Lib.goPrintTabs.n32 from Go.Pinned.isNotPrint32_eq];exact Lib.laidIn_slice (t := 203) (e := 173) (te := 173) Lib.goPrintTabs.n32 (N0 + 4) (by kernel_rfl) (by kernel_rfl) (by kernel_rfl) (by kernel_rfl) (by kernel_rfl) (by kernel_rfl) (by kernel_rfl) (by kernel_rfl) (of_decide_eq_true (by kernel_rfl)) (of_decide_eq_true (by kernel_rfl))
set_option maxRecDepth 1000000 in
theorem Law_pc3 (os : Os) : LaidIn Tryz.prog ((Law_world os).forCall (fun _ _ => 0) ⟨#[],Law_arg,[]⟩).memory [("strconv.isPrint16",Rows.laid_strconv_isPrint16)] [6,N0 + 5] := by
 rw [show (Rows.laid_strconv_isPrint16 : DataW Unit) = Lib.sliceData .u16 Lib.goPrintTabs.p16 from Go.Pinned.isPrint16_eq];exact Lib.laidIn_slice (t := 203) (e := 173) (te := 173) Lib.goPrintTabs.p16 (N0 + 5) (by kernel_rfl) (by kernel_rfl) (by kernel_rfl) (by kernel_rfl) (by kernel_rfl) (by kernel_rfl) (by kernel_rfl) (by kernel_rfl) (of_decide_eq_true (by kernel_rfl)) (of_decide_eq_true (by kernel_rfl))
set_option maxRecDepth 1000000 in
theorem Law_pc4 (os : Os) : LaidIn Tryz.prog ((Law_world os).forCall (fun _ _ => 0) ⟨#[],Law_arg,[]⟩).memory [("strconv.isPrint32",Rows.laid_strconv_isPrint32)] [8,N0 + 6] := by
 rw [show (Rows.laid_strconv_isPrint32 : DataW Unit) = Lib.sliceData .u32 Lib.goPrintTabs.p32 from Go.Pinned.isPrint32_eq];exact Lib.laidIn_slice (t := 30) (e := 83) (te := 83) Lib.goPrintTabs.p32 (N0 + 6) (by kernel_rfl) (by kernel_rfl) (by kernel_rfl) (by kernel_rfl) (by kernel_rfl) (by kernel_rfl) (by kernel_rfl) (by kernel_rfl) (of_decide_eq_true (by kernel_rfl)) (of_decide_eq_true (by kernel_rfl))
theorem Law_pc5 (os : Os) : LaidIn Tryz.prog ((Law_world os).forCall (fun _ _ => 0) ⟨#[],Law_arg,[]⟩).memory ((Rows.raisingChangesMatchSpecUptoRow.laid.drop 11).take 1) [1] :=
 LaidIn.of_run [1] 10 (by kernel_rfl) (by kernel_rfl) (by kernel_rfl) (by kernel_rfl)
theorem Law_met (os : Os) : laidMet Tryz.prog Rows.raisingChangesMatchSpecUptoRow.laid ((Law_world os).forCall (fun _ _ => 0) ⟨#[],Law_arg,[]⟩).memory :=
 ((((((Law_pc0 os).append (Law_pc1 os) (by kernel_rfl)).append (Law_pc2 os) (by kernel_rfl)).append (Law_pc3 os) (by kernel_rfl)).append (Law_pc4 os) (by kernel_rfl)).append (Law_pc5 os) (by kernel_rfl)).met
theorem Law_row (os : Os) {H : Type} (enc : TypeId × Value → H) :
  (Rows.OpenSpec.upto Rows.raisingChangesMatchSpecSpec).preRow enc Tryz.prog Tryz.f3 Rows.raisingChangesMatchSpecUptoRow.domain false Rows.raisingChangesMatchSpecUptoRow.laid ((Law_world os).forCall (fun _ _ => 0) ⟨#[],Law_arg,[]⟩).memory Law_arg := by
 have hw : (DataW.whole enc Tryz.prog ((Law_world os).forCall (fun _ _ => 0) ⟨#[],Law_arg,[]⟩).memory Tryz.f3.params.toList Rows.raisingChangesMatchSpecSpec.vars false Law_arg.toList 8).map (fun x => (x.1,x.2.1)) =
   some ([.agg [.nil],.nil,.nil],[]) := by kernel_rfl
 obtain ⟨⟨x1,x2,x3⟩,hx,hx1⟩ := Option.map_eq_some_iff.1 hw;simp only [Prod.mk.injEq] at hx1;obtain ⟨rfl,rfl⟩ := hx1;exact OpenSpec.preRow_of_cond 8 hx (by kernel_rfl) (fun k hk => by cases hk;kernel_rfl) (by kernel_rfl) (Law_met os)
set_option maxRecDepth 100000 in
theorem Sl_open {H : Type} {enc : TypeId × Value → H} {W : World} {base : Nat} {v : Value} {d : DataW H} {ps : List MemPlace}
  (hv : Value.okWide Tryz.prog W .any base 25 v) (h : DataW.Trod enc Tryz.prog W 0 (fun _ => true) true 25 v d ps) :
  ∃ x : List Vl,(D.sl false 7 x vlD vl0).pv.p W (sW W) v ∧ ∀ n,Rows.uptoBulk d ≤ n → n ≤ 1048576 → x.length ≤ n ∧ ∀ u ∈ x,VlIn u := by
 obtain ⟨a,len,cap,rfl⟩ := okWide_slice Tryz.underlying25 hv;obtain ⟨fuel,hf⟩ := h;obtain ⟨x,h1,-,h3⟩ := Opn.sl vl0 Tryz.underlying25 (sz := 7) (by kernel_rfl) (by decide) Opn.val fuel _ d ps (show [Value.slice a len cap].length = _ by kernel_rfl) hf;exact ⟨x,h1.1,fun n hn hn2 => ⟨(h3 n hn).1,fun u hu => (h3 n hn).2 u hu hn2⟩⟩
set_option maxRecDepth 100000 in
theorem Ns_open {H : Type} {enc : TypeId × Value → H} {W : World} {base : Nat} {v : Value} {d : DataW H} {ps : List MemPlace}
  (hv : Value.okWide Tryz.prog W .any base 26 v) (h : DataW.Trod enc Tryz.prog W 0 (fun _ => true) true 26 v d ps) :
  ∃ x : List Int,(D.sl false 1 x iD 0).pv.p W (sW W) v ∧ ∀ n,Rows.uptoBulk d ≤ n → n ≤ 1048576 → x.length ≤ n ∧ ∀ u ∈ x,I64 u := by
 obtain ⟨a,len,cap,rfl⟩ := okWide_slice Tryz.underlying26 hv;obtain ⟨fuel,hf⟩ := h;obtain ⟨x,h1,-,h3⟩ := Opn.sl (0 : Int) Tryz.underlying26 (sz := 1) (by kernel_rfl) (by decide) (Opn.int Tryz.underlying3) fuel _ d ps (show [Value.slice a len cap].length = _ by kernel_rfl) hf;exact ⟨x,h1.1,fun n hn hn2 => ⟨(h3 n hn).1,fun u hu => (h3 n hn).2 u hu⟩⟩
set_option maxRecDepth 100000 in
set_option maxHeartbeats 2000000 in
theorem Law_lifted (os : Os) (started : os.Started) (H : Type) (enc : TypeId × Value → H) (F : Stop.Interp) :
  ReturnsInHanded {} Tryz.checked os 3 .any ((Rows.OpenSpec.upto Rows.raisingChangesMatchSpecSpec).preRow enc Tryz.prog Tryz.f3 Rows.raisingChangesMatchSpecUptoRow.domain false Rows.raisingChangesMatchSpecUptoRow.laid) (((Rows.OpenSpec.upto Rows.raisingChangesMatchSpecSpec).at F).post enc Tryz.prog Tryz.f3 false true false false) := by
 refine returnsInHanded_of_row (C := Tryz.checked) (s := Rows.OpenSpec.upto Rows.raisingChangesMatchSpecSpec) Law_own started (by kernel_rfl) Tryz.func3
  (witness_row_atRef (enc := enc) (C := Tryz.checked) false (Law_world os) Law_arg rfl (by kernel_rfl) (by kernel_rfl) (by kernel_rfl) (Law_row os enc)) ?_
 intro W base args ds gs before hval0 hW _ hk _ hL hS _;have hval : ∀ (j : Nat) t v,Tryz.f3.params[j]? = some t → args[j]? = some v → Value.okWide Tryz.prog W .any base t v := hval0;have hW' := hW;obtain ⟨p,q,hA0,hV,rfl,hfz,hnd⟩ := hW;have hA : DataW.TrodAll enc Tryz.prog W 0 (fun _ => true) true Tryz.f3.params.toList args.toList ds p := hA0;obtain ⟨rfl,rfl⟩ := trodVars_none hV;have hA1 := hA;rw [Tryz.params3] at hA hval;obtain ⟨v0,vs0,d0,ds0,p0,q0,hargs,rfl,rfl,h0,r0⟩ := trodAll_cons hA;obtain ⟨v1,vs1,d1,ds1,p1,q1,rfl,rfl,rfl,h1,r1⟩ := trodAll_cons r0;obtain ⟨v2,vs2,d2,ds2,p2,q2,rfl,rfl,rfl,h2,r2⟩ := trodAll_cons r1;obtain ⟨rfl,rfl,rfl⟩ := trodAll_nil r2;obtain rfl : args = #[v0,v1,v2] := by cases args;simp_all
 have hb : Rows.uptoBulkAll [d0,d1,d2] ≤ 1048576 := by
  have := hk _ rfl;simpa [Rows.uptoSmall] using this
 simp only [Rows.uptoBulkAll] at hb;obtain ⟨x0,a0,i0⟩ := Opn.agg Opn.heap Tryz.underlying24 (hval 0 24 v0 rfl rfl) h0;obtain ⟨x1,a1,i1⟩ := Sl_open (hval 1 25 v1 rfl rfl) h1;obtain ⟨x2,a2,i2⟩ := Ns_open (hval 2 26 v2 rfl rfl) h2;have hG := Law_glob hL hS;refine ((Law18_ok x0 x1 x2 (i0 1048576 (by omega) (Nat.le_refl _)) (i1 1048576 (by omega) (Nat.le_refl _)).2 (by have := (i1 1048576 (by omega) (Nat.le_refl _)).1;omega) (i2 1048576 (by omega) (Nat.le_refl _)).2 (by have := (i2 1048576 (by omega) (Nat.le_refl _)).1;omega)).2 W (sW W) [v0,v1,v2] (fun _ _ h => h) hG ⟨a0,a1,a2,trivial⟩).mono fun e W' hQ => ?_;obtain ⟨s',x,he,hp,hst⟩ := hQ;have hp : x = .bool true := hp;subst hp;subst he;have bel := hst.below;have hl : laidOutB Tryz.prog = true := by kernel_rfl
 have hread : Tryz.f3.params.toList.all (fun t => Tryz.prog.readableRec t && decide (t < Tryz.prog.types.size)) = true := by kernel_rfl
 refine ⟨_,rfl,[d0,d1,d2],[],_,[],(p0 ++ (p1 ++ (p2 ++ ([])))),[],hW',?_,?_,?_,bel.frame _,fun h => by cases h⟩
 ·exact trodAll_mk1 (shut_bool Tryz.underlying4 _)
 ·exact TrodAll_below hl bel _ _ _ _ (fun t ht => by have := List.all_eq_true.1 hread t ht;simpa using this) hA1
 ·rfl
theorem Law_fi : (Rows.raisingChangesMatchSpecUptoRow.inPlace == Tryz.pinned.checked.prog.inPlace 3) = true := by kernel_rfl
theorem Law_fu : (Rows.raisingChangesMatchSpecUptoRow.unfollowed == Tryz.pinned.checked.prog.unfollowed 3) = true := by kernel_rfl
theorem Law_fr : (Rows.raisingChangesMatchSpecUptoRow.recurses == Tryz.pinned.checked.prog.recurses 3) = true := by kernel_rfl
theorem Law_fn : (Rows.raisingChangesMatchSpecUptoRow.named == Tryz.pinned.checked.prog.varsNamed 3) = true := by kernel_rfl
theorem Law_facts : joinedFacts Tryz.pinned.checked.prog 3 Tryz.f3 (Rows.OpenSpec.upto Rows.raisingChangesMatchSpecSpec).bare Rows.raisingChangesMatchSpecUptoRow = true := by
 unfold joinedFacts;rw [Law_fi,Law_fu,Law_fr,Law_fn];kernel_rfl
theorem Law_inst : Tryz.f3.isInstance Tryz.pinned.checked.prog Rows.raisingChangesMatchSpecUptoRow.origin Rows.raisingChangesMatchSpecUptoRow.targs := of_decide_eq_true (by kernel_rfl)
theorem Law_wrap : Tryz.f3.isWrapper Tryz.pinned.checked.prog Rows.raisingChangesMatchSpecUptoRow.wrapper Rows.raisingChangesMatchSpecUptoRow.mainSum := by unfold Func.isWrapper;first | (rw [if_pos (by decide +kernel)];kernel_rfl) | (rw [if_neg (by decide +kernel)];exact ⟨rfl,rfl⟩)
theorem Law_named : Tryz.pinned.checked.prog.funcNamed Rows.raisingChangesMatchSpecUptoRow.func = some 3 := by kernel_rfl
theorem Law_looks : false = Tryz.pinned.checked.prog.looks [] := by kernel_rfl
theorem Law_goes : false = Rows.raisingChangesMatchSpecUptoRow.goesBy Tryz.pinned.checked.prog := by kernel_rfl
theorem Law_wf : Rows.raisingChangesMatchSpecUptoRow.wfByText (Rows.OpenSpec.upto Rows.raisingChangesMatchSpecSpec) = true := by kernel_rfl
theorem Law_main : Tryz.pinned.checked.prog.mainIs = some (Rows.raisingChangesMatchSpecUptoCard.stood.harness.1,Rows.raisingChangesMatchSpecUptoCard.stood.harness.2.toList) := by kernel_rfl
theorem Law_said : Rows.RaisingChangesMatchSpecUptoSaid :=
 OpenClaim.holds_of_cond 3 Tryz.f3 rfl rfl rfl rfl rfl rfl rfl ⟨rfl,rfl,rfl,rfl,rfl⟩ rfl rfl rfl rfl rfl Law_named Tryz.func3 Law_facts Law_inst Law_wrap
  (fun os started H enc _ F => by rw [OpenClaim.pre_eq_preRow];exact Law_lifted os started H enc F)
theorem Law_plain (f : FuncId) (fn : Func) (hf : Tryz.pinned.checked.prog.funcNamed "brindlewood/brindlewoodlaw7.RaisingChangesMatchSpec" = some f) (hfn : Tryz.pinned.checked.prog.funcs[f]? = some fn) :
  false = Tryz.pinned.checked.prog.looks [] ∧ ∀ (j : Nat) t,fn.params[j]? = some t → Tryz.pinned.checked.prog.wantsStandIn t = false := by
 obtain rfl : f = 3 := Option.some.inj (Law_named.symm.trans hf) |>.symm;obtain rfl : fn = Tryz.f3 := (Option.some.inj (Tryz.func3.symm.trans hfn)).symm;refine ⟨Law_looks,fun j t ht => ?_⟩;rw [Tryz.params3] at ht;have hm := Array.mem_of_getElem? ht;simp only [List.mem_toArray,List.mem_cons,List.not_mem_nil,or_false] at hm;have wh : Tryz.prog.wantsStandIn 24 = false := by kernel_rfl
 have wl : Tryz.prog.wantsStandIn 25 = false := by kernel_rfl
 have wn : Tryz.prog.wantsStandIn 26 = false := by kernel_rfl
 rcases hm with rfl | rfl | rfl
 ·exact wh
 ·exact wl
 ·exact wn
theorem Law_holds : Rows.RaisingChangesMatchSpecUptoCardSaid :=
 Claim7.holds_tied_plain_at .later [] _ _ _ _ Law_said (fun _ h => by cases h) Law_wf (fun _ h => by cases h) raisingChangesMatchSpecUpto_row_tie rfl ⟨rfl,rfl⟩ Law_main rfl Law_plain Law_goes
end Go.Proofs.YtmbnclhokhggaaaGreatDoor
