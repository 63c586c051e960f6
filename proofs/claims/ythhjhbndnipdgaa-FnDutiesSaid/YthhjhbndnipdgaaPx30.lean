-- Made by pp.py of this session out of the kit's print and of contracts proved by hand; Lean checks it.
import Derived.Shelf.Abstract
import Derived.Test.YthhjhbndnipdgaaPx0
import Derived.Test.YthhjhbndnipdgaaPx4
import Derived.Test.YthhjhbndnipdgaaPx8
import Derived.Test.YthhjhbndnipdgaaPx16
import Derived.Test.YthhjhbndnipdgaaShelf
import Derived.Lib.OwnBridge
import Derived.Lib.RowBridge
import Derived.Test.YthhjhbndnipdgaaPx3
namespace Go.Proofs.Ythhjhbndnipdgaa.P
open Go.RowKit Go.Proofs.YthhjhbndnipdgaaW.PrintWords Go.Proofs.YthhjhbndnipdgaaW.PrintLast Go.Proofs.YthhjhbndnipdgaaW.PrintMore
attribute [local go_sem] max2_int min2_int max_two min_two max_three min_three max_four min_four   -- for this text's walks alone
set_option linter.unusedVariables false
set_option linter.unusedSimpArgs false

/-! ### has_HandoverHours_1: function 993068 -/
def has_HandoverHours_1.f (l0 : List S44) (a1_0 a1_1 a1_2 : Int) : Option Bool := some (l0.any fun o => o.f1 == a1_2)
set_option maxHeartbeats 1000000 in
theorem pred_HandoverHours_1 (gb : Nat) (d0 d1 d2 : Int) (w : World) (hbk : w.heap[gb]? = some (.cells #[.int .i64 d0, .int .i64 d1, .int .i64 d2] 44 (0, 0))) :
  PredD 68 #[.pointer (some ⟨gb, 0, none⟩)] (fun o => o.f1 == d2) w := by
 intro W x hb
 have hW := blk_below hbk hb
 have hc0 : W.cell? ⟨gb, 0, none⟩ = some (.int .i64 d0) := blk_cell hW 0
 have hc1 : W.cell? ⟨gb, 1, none⟩ = some (.int .i64 d1) := blk_cell hW 1
 have hc2 : W.cell? ⟨gb, 2, none⟩ = some (.int .i64 d2) := blk_cell hW 2
 have hBW : gb < W.heap.size := blk_lt hW
 have hne : gb ≠ W.heap.size := by omega
 have HB := Aside0.mk (hb.alloc hb.size (.cells #[.int .i64 x.f0, .int .i64 x.f1, .int .i64 x.f2] 44 (0, 0)))
 show Calls Try.prog 68 #[.agg #[.int .i64 x.f0, .int .i64 x.f1, .int .i64 x.f2], .pointer (some ⟨gb, 0, none⟩)] W _
 obtain ⟨x0, x1, x2⟩ := x
 simp only at HB ⊢
 clear hb hW hbk
 have hu := Try.underlying44
 go_enter Try.func68, Try.ntmps68
 go_wp2
 go_ret
 exact ⟨rfl, HB.out⟩
set_option maxHeartbeats 8000000 in
set_option maxRecDepth 100000 in
theorem has_HandoverHours_1.calls (A0 : Option Addr) (c0 : Nat) (l0 : List (S44)) (a1_0 : Int) (a1_1 : Int) (a1_2 : Int) (r : Bool) (w : World) (hr0 : Kd.C k44 w A0 l0.length l0) (hc0 : l0.length ≤ c0) (gb_ : Nat) (hbk_ : w.heap[gb_]? = some (.cells #[.int .i64 a1_0, .int .i64 a1_1, .int .i64 a1_2] 44 (0, 0))) (h : has_HandoverHours_1.f l0 a1_0 a1_1 a1_2 = some r) :
  Calls Try.prog 54 #[.slice A0 l0.length c0, .func (.func 68) #[] #[.pointer (some ⟨gb_, 0, none⟩)]] w fun e w' => e = .returned (.bool r) ∧ Below w.heap.size w w' := by
 obtain rfl := Option.some.inj h
 exact lib_ContainsFunc_D 68 #[.pointer (some ⟨gb_, 0, none⟩)] _ A0 c0 l0 w (enters_of Try.func68 (by kernel_rfl) rfl) hr0 (pred_HandoverHours_1 gb_ a1_0 a1_1 a1_2 w hbk_)

/-! ### impl_HandoverHours: function 40 -/
end Go.Proofs.Ythhjhbndnipdgaa.P
