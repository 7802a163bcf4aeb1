/- The run of a slice literal of one element, at a step of a region. -/
import Derived.Test.YtbickehhnkhabaaTwo
namespace Go.Proofs.Ytbickehhnkhabaa
open Go.RowKit

theorem wp_build1 {P : Program} {w : World} {o : Oper} {a : Act} {K : Act → World → Prop} {Q : Exit → Act → World → Prop} (t : TypeId) (x : Operand) (ho : o.op = .buildSlice t 1 #[(0, x)]) (v : Value) (hx : a.eval x = v) {C : Array Value} {t' : TypeId}
    (hrun : (Instr.buildSlice t 1 #[(0, v)]).run P w = .ok (sl1 w.heap.size) (w.alloc (.cells C t'))) (h : K (a.put o.dst (sl1 w.heap.size)) (w.alloc (.cells C t'))) : o.wp P a w K Q := by
  unfold Oper.wp execOp
  simp only [ho, List.map_toArray, List.map_cons, List.map_nil, hx, Sem.run_bind, hrun, Result.andThen_ok, Sem.run_pure]
  exact h

theorem run_build_str (s : ByteArray) (w : World) : (Instr.buildSlice 37 1 #[(0, .string s)]).run Try.prog w = .ok (sl1 w.heap.size) (w.alloc (.cells #[.string s] 9)) := by
  unfold sl1
  simp [go_sem]
theorem run_build_val (x : Val) (w : World) : (Instr.buildSlice 36 1 #[(0, valA x)]).run Try.prog w = .ok (sl1 w.heap.size) (w.alloc (.cells (valC x).toArray 58)) := by
  unfold sl1 valA valC
  simp [go_sem]
end Go.Proofs.Ytbickehhnkhabaa
