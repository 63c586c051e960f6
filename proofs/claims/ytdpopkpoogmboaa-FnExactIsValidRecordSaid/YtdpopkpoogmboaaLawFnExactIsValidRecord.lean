-- Made by rowy.py of this session; Lean checks it.
import Derived.Test.YtdpopkpoogmboaaRows
import Derived.Test.YtdpopkpoogmboaaPx4
import Derived.Test.YtdpopkpoogmboaaPureFnExactIsValidRecord
import Derived.WalkKit
import Derived.ProofKit
import Derived.OpenShut
import Derived.ShutString
import Derived.ChangeOld
import Derived.Below
import Derived.SizedLaws
import Derived.Deep.Strs
import Derived.Test.YtdpopkpoogmboaaWSized
namespace Go.Proofs.Ytdpopkpoogmboaa.fnExactIsValidRecord
open Go.ChangeShapes Go.WideShapes Go.ChangeAt Go.RowKit Go.Deep Go.Proofs.Ytdpopkpoogmboaa.P Go.Proofs.YtdpopkpoogmboaaW.PrintWords Go.Proofs.YtdpopkpoogmboaaW.PrintLast
open Go.ChangeMaps (open_string shut_string)
set_option linter.unusedVariables false
theorem own : ownKnob Try.prog.godebug = none := by kernel_rfl
theorem laidOut : laidOutB Try.prog = true := by kernel_rfl
theorem arr2 (cs : Array Value) (h : cs.size = 2) : ∃ a0_ a1_, cs = #[a0_, a1_] := by
  obtain ⟨l⟩ := cs
  match l, h with
  | [a0_, a1_], _ => exact ⟨a0_, a1_, rfl⟩
set_option maxRecDepth 100000 in
theorem lifted (os : Os) (started : os.Started) (H : Type) (enc : TypeId × Value → H) :
    ReturnsInHanded {} Try.checked os 3 .any (Rows.fnExactIsValidRecordSpec.pre6 enc Try.prog Try.f3 Rows.fnExactIsValidRecordRow.domain false) (Rows.fnExactIsValidRecordSpec.post enc Try.prog Try.f3 false true false false) := by
  refine returnsInHanded_of_change_sized (C := Try.checked) own started (by kernel_rfl) Try.func3
    (ChangeSpec.witness6 (enc := enc) (C := Try.checked) false ⟨#[], #[.agg #[.string ⟨#[]⟩, .string ⟨#[]⟩]], []⟩ 8 (by kernel_rfl) (by kernel_rfl) (by kernel_rfl) (by kernel_rfl)) ?_
  intro W base args ds gs before hval0 hW hcnd hsz0 _
  have hval : ∀ (j : Nat) t v, Try.f3.params[j]? = some t → args[j]? = some v → Value.okWide Try.prog W .any base t v := hval0
  have hW' := hW
  obtain ⟨p, q, hA0, hV, rfl, hfz, hnd⟩ := hW
  have hA : DataW.TrodAll enc Try.prog W 0 (fun _ => true) true Try.f3.params.toList args.toList ds p := hA0
  rw [Try.params3] at hA hval
  obtain ⟨v0, vs0, d0, ds0, p0, q0, hargs, rfl, rfl, h0, r0⟩ := trodAll_cons hA
  obtain ⟨rfl, rfl, rfl⟩ := trodAll_nil r0
  obtain rfl : args = #[v0] := by cases args; simp_all
  obtain ⟨rfl, rfl⟩ := trodVars_none hV
  have k0 := h0
  have lt0 : ∀ x ∈ p0, x.block < W.heap.size := by obtain ⟨m, hm⟩ := k0; exact DataW.trod_lt m _ _ _ hm
  obtain ⟨cs0, rfl, hn0⟩ := okWide_struct Try.underlying23 (hval 0 23 v0 rfl rfl)
  obtain ⟨c0_0, c0_1, rfl⟩ := arr2 cs0 (by rw [hn0]; kernel_rfl)
  obtain ⟨fu0, hf0⟩ := h0
  obtain ⟨y0_0, y0_1, n0, _, _, t0_0, t0_1⟩ := trod_struct2 Try.underlying23 hf0
  have u0_0 : DataW.trod enc Try.prog W 0 (fun _ => true) true n0 9 [c0_0] = some y0_0 := by
    have e1 : Try.prog.cellsOf 9 = 1 := by kernel_rfl
    simpa [Value.cells, e1] using t0_0
  obtain ⟨a0_0, hq0_0, _, w0_0⟩ := DataW.trod_string Try.underlying9 u0_0
  obtain rfl : c0_0 = .string a0_0 := by simpa using hq0_0
  have u0_1 : DataW.trod enc Try.prog W 0 (fun _ => true) true n0 9 [c0_1] = some y0_1 := by
    have e1 : Try.prog.cellsOf 9 = 1 := by kernel_rfl
    simpa [Value.cells, e1] using t0_1
  obtain ⟨a0_1, hq0_1, _, w0_1⟩ := DataW.trod_string Try.underlying9 u0_1
  obtain rfl : c0_1 = .string a0_1 := by simpa using hq0_1
  obtain ⟨k, hk⟩ := Pure.FnExactIsValidRecord a0_0 a0_1 w0_0 w0_1
  refine (P.laws_FnExactIsValidRecord.calls k a0_0 a0_1 true W  hk).mono fun e W' ⟨he, bel⟩ => ?_
  subst he
  exact ⟨_, rfl, _, _, _, [], _, [], hW', trodAll_mk1 (shut_bool Try.underlying4 _), (trodAll_cons_mk (Below.trod laidOut (by kernel_rfl) (of_decide_eq_true (by kernel_rfl)) k0 bel lt0) trodAll_mk0), rfl, bel.frame _, fun h => by cases h⟩
theorem over : Rows.fnExactIsValidRecordRow.holds Try.pinned (OpenSpec.ofChange Rows.fnExactIsValidRecordSpec) :=
  OpenClaim.holds_of_wide 3 Try.f3 rfl rfl rfl rfl rfl rfl rfl ⟨rfl, rfl, rfl, rfl, rfl⟩ rfl rfl rfl rfl rfl (by kernel_rfl) Try.func3 (by kernel_rfl)
    (of_decide_eq_true (by kernel_rfl)) (by unfold Func.isWrapper; first | (rw [if_pos (by decide +kernel)]; kernel_rfl) | (rw [if_neg (by decide +kernel)]; exact ⟨rfl, rfl⟩))
    (fun os started H enc _ => lifted os started H enc)
theorem proved : Rows.FnExactIsValidRecordSaid := over
#print axioms proved
end Go.Proofs.Ytdpopkpoogmboaa.fnExactIsValidRecord
namespace Go.Proofs.Ytdpopkpoogmboaa
/-- The row, under a short name, for the claim. -/
theorem fnExactIsValidRecord_holds : Rows.FnExactIsValidRecordSaid := fnExactIsValidRecord.proved
end Go.Proofs.Ytdpopkpoogmboaa
