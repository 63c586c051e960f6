-- Made by rowy.py of this session; Lean checks it.
import Derived.Test.YtdmkbfjipgaloaaRows
import Derived.Test.YtdmkbfjipgaloaaPx34
import Derived.Test.YtdmkbfjipgaloaaPureFnExactCopyRegion
import Derived.WalkKit
import Derived.ProofKit
import Derived.OpenShut
import Derived.ShutString
import Derived.ChangeOld
import Derived.Below
import Derived.SizedLaws
import Derived.Deep.Strs
import Derived.Test.YtdmkbfjipgaloaaWSized
namespace Go.Proofs.Ytdmkbfjipgaloaa.fnExactCopyRegion
open Go.ChangeShapes Go.WideShapes Go.ChangeAt Go.RowKit Go.Deep Go.Proofs.Ytdmkbfjipgaloaa.P Go.Proofs.YtdmkbfjipgaloaaW.PrintWords Go.Proofs.YtdmkbfjipgaloaaW.PrintLast
open Go.ChangeMaps (open_string shut_string)
set_option linter.unusedVariables false
set_option linter.unusedSimpArgs false
theorem own : ownKnob Try.prog.godebug = none := by kernel_rfl
theorem laidOut : laidOutB Try.prog = true := by kernel_rfl
def IsRow (k : IntKind) (w : World) (a : Option Addr) (len cap : Nat) (zs : List Int) : Prop :=
  (a = none ∧ len = 0 ∧ cap = 0 ∧ zs = []) ∨
  ∃ x, a = some x ∧ len ≤ cap ∧ cap ≤ maxLen ∧ zs.length = cap ∧ (∀ i, i < zs.length → w.cell? (x.add i) = some (.int k (zs.getD i 0))) ∧ ∀ n ∈ zs, (Lit.int k n).wf = true
theorem arr3 (cs : Array Value) (h : cs.size = 3) : ∃ a0_ a1_ a2_, cs = #[a0_, a1_, a2_] := by
  obtain ⟨l⟩ := cs
  match l, h with
  | [a0_, a1_, a2_], _ => exact ⟨a0_, a1_, a2_, rfl⟩
theorem ints24 {H : Type} {enc : TypeId × Value → H} {W : World} {fuel : Nat} {v : Value} {x : DataW H × List MemPlace} (h : DataW.trod enc Try.prog W 0 (fun _ => true) true fuel 24 [v] = some x) : ∃ a len cap zs, v = .slice a len cap ∧ IsRow .i64 W a len cap zs := by
  rcases open_ints Try.underlying24 Try.underlying3 (by kernel_rfl) h with ⟨hcs, _⟩ | ⟨x, l, c, zs, hcs, _, hl, hm, hz, _, hcell, hwz⟩
  · simp at hcs
    exact ⟨none, 0, 0, [], hcs, .inl ⟨rfl, rfl, rfl, rfl⟩⟩
  · simp at hcs
    exact ⟨some x, l, c, zs, hcs, .inr ⟨_, rfl, hl, hm, by simpa using hz, hcell, hwz⟩⟩
set_option maxRecDepth 100000 in
theorem lifted (os : Os) (started : os.Started) (H : Type) (enc : TypeId × Value → H) :
    ReturnsInHanded {} Try.checked os 5 .any (Rows.fnExactCopyRegionSpec.pre6 enc Try.prog Try.f5 Rows.fnExactCopyRegionRow.domain false) (Rows.fnExactCopyRegionSpec.post enc Try.prog Try.f5 false true false false) := by
  refine returnsInHanded_of_change_sized (C := Try.checked) own started (by kernel_rfl) Try.func5
    (ChangeSpec.witness6 (enc := enc) (C := Try.checked) false ⟨#[], #[.agg #[.int .i64 0, .int .i64 0, .slice none 0 0], .agg #[.int .i64 0, .int .i64 0, .slice none 0 0], .slice none 0 0], []⟩ 8 (by kernel_rfl) (by kernel_rfl) (by kernel_rfl) (by kernel_rfl)) ?_
  intro W base args ds gs before hval0 hW hcnd hsz0 _
  have hval : ∀ (j : Nat) t v, Try.f5.params[j]? = some t → args[j]? = some v → Value.okWide Try.prog W .any base t v := hval0
  have hW' := hW
  obtain ⟨p, q, hA0, hV, rfl, hfz, hnd⟩ := hW
  have hA : DataW.TrodAll enc Try.prog W 0 (fun _ => true) true Try.f5.params.toList args.toList ds p := hA0
  rw [Try.params5] at hA hval
  obtain ⟨v0, vs0, d0, ds0, p0, q0, hargs, rfl, rfl, h0, r0⟩ := trodAll_cons hA
  obtain ⟨v1, vs1, d1, ds1, p1, q1, rfl, rfl, rfl, h1, r1⟩ := trodAll_cons r0
  obtain ⟨v2, vs2, d2, ds2, p2, q2, rfl, rfl, rfl, h2, r2⟩ := trodAll_cons r1
  obtain ⟨rfl, rfl, rfl⟩ := trodAll_nil r2
  obtain rfl : args = #[v0, v1, v2] := by cases args; simp_all
  obtain ⟨rfl, rfl⟩ := trodVars_none hV
  have k0 := h0
  have lt0 : ∀ x ∈ p0, x.block < W.heap.size := by obtain ⟨m, hm⟩ := k0; exact DataW.trod_lt m _ _ _ hm
  obtain ⟨cs0, rfl, hn0⟩ := okWide_struct Try.underlying36 (hval 0 36 v0 rfl rfl)
  obtain ⟨c0_0, c0_1, c0_2, rfl⟩ := arr3 cs0 (by rw [hn0]; kernel_rfl)
  obtain ⟨fu0, hf0⟩ := h0
  obtain ⟨y0_0, y0_1, y0_2, n0, _, _, t0_0, t0_1, t0_2⟩ := trod_struct3 Try.underlying36 hf0
  have u0_0 : DataW.trod enc Try.prog W 0 (fun _ => true) true n0 3 [c0_0] = some y0_0 := by
    have e1 : Try.prog.cellsOf 3 = 1 := by kernel_rfl
    simpa [Value.cells, e1] using t0_0
  obtain ⟨a0_0, hq0_0, _, w0_0⟩ := DataW.trod_int Try.underlying3 u0_0
  obtain rfl : c0_0 = .int .i64 a0_0 := by simpa using hq0_0
  have u0_1 : DataW.trod enc Try.prog W 0 (fun _ => true) true n0 3 [c0_1] = some y0_1 := by
    have e1 : Try.prog.cellsOf 3 = 1 := by kernel_rfl
    simpa [Value.cells, e1] using t0_1
  obtain ⟨a0_1, hq0_1, _, w0_1⟩ := DataW.trod_int Try.underlying3 u0_1
  obtain rfl : c0_1 = .int .i64 a0_1 := by simpa using hq0_1
  have u0_2 : DataW.trod enc Try.prog W 0 (fun _ => true) true n0 24 [c0_2] = some y0_2 := by
    have e1 : Try.prog.cellsOf 24 = 1 := by kernel_rfl
    simpa [Value.cells, e1] using t0_2
  obtain ⟨b0_2, len0_2, cap0_2, z0_2, rfl, row0_2⟩ := ints24 u0_2
  obtain ⟨l0_2, rfl, hr0_2, hm0_2, hw0_2, hc0_2⟩ := ReadsInt.ofRowC row0_2
  have k1 := h1
  have lt1 : ∀ x ∈ p1, x.block < W.heap.size := by obtain ⟨m, hm⟩ := k1; exact DataW.trod_lt m _ _ _ hm
  obtain ⟨cs1, rfl, hn1⟩ := okWide_struct Try.underlying36 (hval 1 36 v1 rfl rfl)
  obtain ⟨c1_0, c1_1, c1_2, rfl⟩ := arr3 cs1 (by rw [hn1]; kernel_rfl)
  obtain ⟨fu1, hf1⟩ := h1
  obtain ⟨y1_0, y1_1, y1_2, n1, _, _, t1_0, t1_1, t1_2⟩ := trod_struct3 Try.underlying36 hf1
  have u1_0 : DataW.trod enc Try.prog W 0 (fun _ => true) true n1 3 [c1_0] = some y1_0 := by
    have e1 : Try.prog.cellsOf 3 = 1 := by kernel_rfl
    simpa [Value.cells, e1] using t1_0
  obtain ⟨a1_0, hq1_0, _, w1_0⟩ := DataW.trod_int Try.underlying3 u1_0
  obtain rfl : c1_0 = .int .i64 a1_0 := by simpa using hq1_0
  have u1_1 : DataW.trod enc Try.prog W 0 (fun _ => true) true n1 3 [c1_1] = some y1_1 := by
    have e1 : Try.prog.cellsOf 3 = 1 := by kernel_rfl
    simpa [Value.cells, e1] using t1_1
  obtain ⟨a1_1, hq1_1, _, w1_1⟩ := DataW.trod_int Try.underlying3 u1_1
  obtain rfl : c1_1 = .int .i64 a1_1 := by simpa using hq1_1
  have u1_2 : DataW.trod enc Try.prog W 0 (fun _ => true) true n1 24 [c1_2] = some y1_2 := by
    have e1 : Try.prog.cellsOf 24 = 1 := by kernel_rfl
    simpa [Value.cells, e1] using t1_2
  obtain ⟨b1_2, len1_2, cap1_2, z1_2, rfl, row1_2⟩ := ints24 u1_2
  obtain ⟨l1_2, rfl, hr1_2, hm1_2, hw1_2, hc1_2⟩ := ReadsInt.ofRowC row1_2
  have k2 := h2
  have lt2 : ∀ x ∈ p2, x.block < W.heap.size := by obtain ⟨m, hm⟩ := k2; exact DataW.trod_lt m _ _ _ hm
  obtain ⟨b2, len2, cap2, rfl⟩ := okWide_slice Try.underlying24 (hval 2 24 v2 rfl rfl)
  obtain ⟨fu2, hf2⟩ := h2
  obtain ⟨b2', len2', cap2', z2, e2, row2⟩ := ints24 (v := .slice b2 len2 cap2) hf2
  obtain ⟨rfl, rfl, rfl⟩ : b2 = b2' ∧ len2 = len2' ∧ cap2 = cap2' := by simpa using e2
  obtain ⟨l2, rfl, hr2, hm2, hw2, hc2⟩ := ReadsInt.ofRowC row2
  obtain ⟨k, hk⟩ := Pure.FnExactCopyRegion a0_0 a0_1 l0_2 a1_0 a1_1 l1_2 l2 w0_0 w0_1 hm0_2 hw0_2 w1_0 w1_1 hm1_2 hw1_2 hm2 hw2
  refine (P.laws_FnExactCopyRegion.calls k a0_0 a0_1 _ _ l0_2 a1_0 a1_1 _ _ l1_2 _ _ l2 true W (Kd.C_of_reads (d := (0 : Int)) (h1 := fun _ => rfl) hr0_2) hc0_2 (Kd.C_of_reads (d := (0 : Int)) (h1 := fun _ => rfl) hr1_2) hc1_2 (Kd.C_of_reads (d := (0 : Int)) (h1 := fun _ => rfl) hr2) hc2 hk rfl).mono fun e W' ⟨he, bel⟩ => ?_
  subst he
  exact ⟨_, rfl, _, _, _, [], _, [], hW', trodAll_mk1 (shut_bool Try.underlying4 _), (trodAll_cons_mk (Below.trod laidOut (by kernel_rfl) (of_decide_eq_true (by kernel_rfl)) k0 bel lt0) (trodAll_cons_mk (Below.trod laidOut (by kernel_rfl) (of_decide_eq_true (by kernel_rfl)) k1 bel lt1) (trodAll_cons_mk (Below.trod laidOut (by kernel_rfl) (of_decide_eq_true (by kernel_rfl)) k2 bel lt2) trodAll_mk0))), rfl, bel.frame _, fun h => by cases h⟩
theorem over : Rows.fnExactCopyRegionRow.holds Try.pinned (OpenSpec.ofChange Rows.fnExactCopyRegionSpec) :=
  OpenClaim.holds_of_wide 5 Try.f5 rfl rfl rfl rfl rfl rfl rfl ⟨rfl, rfl, rfl, rfl, rfl⟩ rfl rfl rfl rfl rfl (by kernel_rfl) Try.func5 (by kernel_rfl)
    (of_decide_eq_true (by kernel_rfl)) (by unfold Func.isWrapper; first | (rw [if_pos (by decide +kernel)]; kernel_rfl) | (rw [if_neg (by decide +kernel)]; exact ⟨rfl, rfl⟩))
    (fun os started H enc _ => lifted os started H enc)
theorem proved : Rows.FnExactCopyRegionSaid := over
#print axioms proved
end Go.Proofs.Ytdmkbfjipgaloaa.fnExactCopyRegion
namespace Go.Proofs.Ytdmkbfjipgaloaa
/-- The row, under a short name, for the claim. -/
theorem fnExactCopyRegion_holds : Rows.FnExactCopyRegionSaid := fnExactCopyRegion.proved
end Go.Proofs.Ytdmkbfjipgaloaa
