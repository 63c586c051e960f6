-- Made by pp.py of this session out of the kit's print and of contracts proved by hand; Lean checks it.
import Derived.Test.YtgmmanppmjlclaaGreatDoorPx0
import Derived.Test.YtgmmanppmjlclaaGreatDoorPx6
namespace Go.Proofs.YtgmmanppmjlclaaGreatDoor.P
open Go.RowKit Go.Proofs.YtgmmanppmjlclaaGreatDoorW.PrintWords Go.Proofs.YtgmmanppmjlclaaGreatDoorW.PrintLast Go.Proofs.YtgmmanppmjlclaaGreatDoorW.PrintMore
attribute [local go_sem] max2_int min2_int max_two min_two max_three min_three max_four min_four   -- for this text's walks alone
set_option linter.unusedVariables false
set_option linter.unusedSimpArgs false

-- ALONE
/-! ### lib mk_l1Cur -/
def mk_l1Cur.f (l0 : List Int) : Option (List Int × Int × Int) := some (l0, 0, 0)
/-- A reader of choices that is made here. -/
theorem mk_l1Cur.box {ops : Array Oper} {o : Oper} {rest : List Oper} {a : Act} {Q : Exit → Act → World → Prop} {W : World} (A0 : Option Addr) (c0 : Nat) (l0 : List Int) (r1 : List Int) (r2 r3 : Int) (w0 : World) (h : mk_l1Cur.f l0 = some (r1, r2, r3)) (hgd : o.guard = none)
    (hrun : (execOp a.eval o).run Tryz.prog W = .ok (.value (.pointer (some ⟨W.heap.size, 0, none⟩))) (W.alloc (.cells #[.slice A0 l0.length c0, .int .i64 0, .int .u64 0] 50)))
    (hB : Below w0.heap.size w0 W) (hr : Kd.C (Kd.int .u8) w0 A0 l0.length l0) (_hc : l0.length ≤ c0)
    (k : ∀ g w1, IsS50 w0 w1 g r1 r2 r3 → Below w0.heap.size w0 w1 → Below W.heap.size W w1 → wpList Tryz.prog ops Q rest (a.put o.dst (.pointer (some ⟨g, 0, none⟩))) w1) : wpList Tryz.prog ops Q (o :: rest) a W := by
  obtain ⟨rfl, e2⟩ := Prod.mk.inj (Option.some.inj h)
  obtain ⟨rfl, rfl⟩ := Prod.mk.inj e2
  exact Kd.event_run hgd hrun (k _ _ (IsS50.new w0 W A0 c0 l0 0 0 hB hr) (hB.alloc hB.size _) (below_alloc (Below.refl _ _) _))

end Go.Proofs.YtgmmanppmjlclaaGreatDoor.P
