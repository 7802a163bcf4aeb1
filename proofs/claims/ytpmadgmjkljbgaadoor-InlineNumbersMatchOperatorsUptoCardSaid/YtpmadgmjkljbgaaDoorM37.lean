/- Part 37 of the proof. -/
import Derived.Test.YtpmadgmjkljbgaaDoorM25
import Derived.Test.YtpmadgmjkljbgaaDoorM26
import Derived.Test.YtpmadgmjkljbgaaDoorM27
import Derived.Test.YtpmadgmjkljbgaaDoorM28
import Derived.Test.YtpmadgmjkljbgaaDoorM29
import Derived.Test.YtpmadgmjkljbgaaDoorM30
import Derived.Test.YtpmadgmjkljbgaaDoorM31
import Derived.Test.YtpmadgmjkljbgaaDoorM32
import Derived.Test.YtpmadgmjkljbgaaDoorM33
import Derived.Test.YtpmadgmjkljbgaaDoorM34
import Derived.Test.YtpmadgmjkljbgaaDoorM35
import Derived.Test.YtpmadgmjkljbgaaDoorM36

/- Arithmetic, whole. -/
namespace Go.Proofs.YtpmadgmjkljbgaaDoor
open Go.RowKit

theorem Arithmetic_any (op : Int) (h5 : 5 ≤ op) (h16 : op ≤ 16) (v1 v2 : Value) (x1 x2 : Vl) (w : World) (hv1 : VlAt w v1 x1) (hv2 : VlAt w v2 x2) (hg1 : VGood x1) (hg2 : VGood x2) (l1 : Lg x1.nl) (l2 : Lg x2.nl) (e1 : Lg x1.dl) (e2 : Lg x2.dl) :
    Calls Tryd.prog 9 #[.int .i64 op, v1, v2] w fun e w' => ArQ (binOk (smallV x1) (smallV x2) op (smallZ x1) (smallZ x2)) (valZ (binZ op (smallZ x1) (smallZ x2))) w e w' := by
  by_cases hn : (isN x1 && isN x2) = true
  · rw [Bool.and_eq_true] at hn
    have ho : op = 5 ∨ op = 6 ∨ op = 7 ∨ op = 8 ∨ op = 9 ∨ op = 10 ∨ op = 11 ∨ op = 12 ∨ op = 13 ∨ op = 14 ∨ op = 15 ∨ op = 16 := by omega
    rcases ho with rfl | rfl | rfl | rfl | rfl | rfl | rfl | rfl | rfl | rfl | rfl | rfl
    · exact Arith5_any v1 v2 x1 x2 w hv1 hv2 hg1 hg2 l1 l2 e1 e2 hn.1 hn.2
    · exact Arith6_any v1 v2 x1 x2 w hv1 hv2 hg1 hg2 l1 l2 e1 e2 hn.1 hn.2
    · exact Arith7_any v1 v2 x1 x2 w hv1 hv2 hg1 hg2 l1 l2 e1 e2 hn.1 hn.2
    · exact Arith8_any v1 v2 x1 x2 w hv1 hv2 hg1 hg2 l1 l2 e1 e2 hn.1 hn.2
    · exact Arith9_any v1 v2 x1 x2 w hv1 hv2 hg1 hg2 l1 l2 e1 e2 hn.1 hn.2
    · exact Arith10_any v1 v2 x1 x2 w hv1 hv2 hg1 hg2 l1 l2 e1 e2 hn.1 hn.2
    · exact Arith11_any v1 v2 x1 x2 w hv1 hv2 hg1 hg2 l1 l2 e1 e2 hn.1 hn.2
    · exact Arith12_any v1 v2 x1 x2 w hv1 hv2 hg1 hg2 l1 l2 e1 e2 hn.1 hn.2
    · exact Arith13_any v1 v2 x1 x2 w hv1 hv2 hg1 hg2 l1 l2 e1 e2 hn.1 hn.2
    · exact Arith14_any v1 v2 x1 x2 w hv1 hv2 hg1 hg2 l1 l2 e1 e2 hn.1 hn.2
    · exact Arith15_any v1 v2 x1 x2 w hv1 hv2 hg1 hg2 l1 l2 e1 e2 hn.1 hn.2
    · exact Arith16_any v1 v2 x1 x2 w hv1 hv2 hg1 hg2 l1 l2 e1 e2 hn.1 hn.2
  · exact Arith_no op v1 v2 x1 x2 w hv1 hv2 (by simpa using hn)
end Go.Proofs.YtpmadgmjkljbgaaDoor
