-- Made by rowy.py of this session; Lean checks it.
import Derived.Test.YtlnlabndaikbnaaRows
import Derived.Test.YtlnlabndaikbnaaPx11
import Derived.Test.YtlnlabndaikbnaaPureFnExactNewConsole
import Derived.WalkKit
import Derived.ProofKit
import Derived.OpenShut
import Derived.ShutString
import Derived.ChangeOld
import Derived.Below
import Derived.SizedLaws
import Derived.Deep.Strs
import Derived.Deep.Slices
import Derived.Deep.Fields
import Derived.ChangeSame
import Derived.Test.YtlnlabndaikbnaaWSized
namespace Go.Proofs.Ytlnlabndaikbnaa.fnExactNewConsole
open Go.ChangeShapes Go.WideShapes Go.ChangeAt Go.RowKit Go.Deep Go.Proofs.Ytlnlabndaikbnaa.P Go.Proofs.YtlnlabndaikbnaaW.PrintWords Go.Proofs.YtlnlabndaikbnaaW.PrintLast
open Go.ChangeMaps (open_string shut_string)
set_option linter.unusedVariables false
set_option linter.unusedSimpArgs false
theorem own : ownKnob Try.prog.godebug = none := by kernel_rfl
theorem laidOut : laidOutB Try.prog = true := by kernel_rfl
section
variable {H : Type} {enc : TypeId × Value → H} {P : Program} {w : World} {base : Nat} {spare : Nat → Bool} {held : Bool}
theorem open_slice_fields {t e : TypeId} {fs : Array Field} {fuel : Nat} {cs : List Value} {x : DataW H × List MemPlace} (ht : P.underlying t = some (.slice e)) (he : P.underlying e = some (.struct fs))
    (hone : oneCellFields P fs = true) (hC : P.cellsOf e = fs.size) (h : DataW.trod enc P w base spare held fuel t cs = some x) :
    (cs = [.slice none 0 0]) ∨
    ∃ (a : Addr) (len cap m : Nat), cs = [.slice (some a) len cap] ∧ len ≤ cap ∧ cap ≤ maxLen ∧ len ≤ m ∧
      ∀ i, i < m → ∃ (n : Nat), ∀ (j : Nat) (f : Field), fs[j]? = some f → ∃ (v : Value) (y : DataW H × List MemPlace), w.cell? (a.add (i * fs.size + j)) = some v ∧ DataW.trod enc P w base spare held n f.type [v] = some y := by
  rcases open_slice ht h with h0 | ⟨a, len, cap, m, n, D, Pl, hcs, hb, hl, hm, hmm, hx, hi⟩
  · exact .inl h0.1
  · refine .inr ⟨a, len, cap, m, hcs, hl, hm, by rw [hmm]; split <;> omega, fun i him => ?_⟩
    obtain ⟨cs', hc, ht'⟩ := hi i him
    rw [hC] at hc
    obtain ⟨ys, n', hn', hy, hlen, hyl, hf⟩ := DataW.trod_struct he ht'
    obtain ⟨_, hcl, hat⟩ := World.cells?_some hc
    refine ⟨n', fun j f hj => ?_⟩
    obtain ⟨ho, hk⟩ := hone_of hone j f hj
    have hjl : j < fs.size := (Array.getElem?_eq_some_iff.1 hj).1
    have hcell := hat j hjl
    have hv : cs'[j]? = some (cs'[j]'(by omega)) := List.getElem?_eq_getElem (by omega)
    have h1 := hf j f hj
    rw [ho, hk] at h1
    have hone' : (cs'.drop j).take 1 = [cs'[j]'(by omega)] := by
      rw [List.drop_eq_getElem_cons (by omega)]
      rfl
    rw [hone'] at h1
    have hys : ys[j]? = some (ys[j]'(by omega)) := List.getElem?_eq_getElem (by omega)
    refine ⟨_, _, ?_, h1.trans hys⟩
    rw [← Go.Deep.add_add, hcell, hv]
end
theorem structs22 {H : Type} {enc : TypeId × Value → H} {W : World} {fuel : Nat} {v : Value} {x : DataW H × List MemPlace} (h : DataW.trod enc Try.prog W 0 (fun _ => true) true fuel 22 [v] = some x) : ∃ a cap, ∃ zs : List S42, v = .slice a zs.length cap ∧ Kd.C k42 W a zs.length zs ∧ zs.length ≤ cap ∧ zs.length ≤ maxLen ∧ ∀ z ∈ zs, (Lit.int .i64 z.f0).wf = true ∧ (Lit.int .i64 z.f1).wf = true ∧ (Lit.int .i64 z.f2).wf = true ∧ (Lit.int .i64 z.f3).wf = true ∧ (Lit.int .i64 z.f4).wf = true ∧ (Lit.int .i64 z.f5).wf = true := by
  rcases open_slice_fields Try.underlying22 Try.underlying42 (by kernel_rfl) (by kernel_rfl) h with hcs | ⟨a, len, cap, m, hcs, hl, hm, hlm, hi⟩
  · simp at hcs
    exact ⟨none, 0, [], hcs, Kd.C_nil _ _, by simp, by simp, fun z hz => by simp at hz⟩
  · simp at hcs
    have hz : ∀ i, ∃ z : S42, i < m → (W.cell? (a.add (i * 6 + 0)) = some (.int .i64 z.f0) ∧ W.cell? (a.add (i * 6 + 1)) = some (.int .i64 z.f1) ∧ W.cell? (a.add (i * 6 + 2)) = some (.int .i64 z.f2) ∧ W.cell? (a.add (i * 6 + 3)) = some (.int .i64 z.f3) ∧ W.cell? (a.add (i * 6 + 4)) = some (.int .i64 z.f4) ∧ W.cell? (a.add (i * 6 + 5)) = some (.int .i64 z.f5)) ∧ (Lit.int .i64 z.f0).wf = true ∧ (Lit.int .i64 z.f1).wf = true ∧ (Lit.int .i64 z.f2).wf = true ∧ (Lit.int .i64 z.f3).wf = true ∧ (Lit.int .i64 z.f4).wf = true ∧ (Lit.int .i64 z.f5).wf = true := by
      intro i
      by_cases him : i < m
      · obtain ⟨n', hf⟩ := hi i him
        obtain ⟨v0, y0, c0, t0⟩ := hf 0 _ rfl
        obtain ⟨a0, hq0, _, w0⟩ := DataW.trod_int Try.underlying3 t0
        obtain rfl : v0 = .int .i64 a0 := by simpa using hq0
        obtain ⟨v1, y1, c1, t1⟩ := hf 1 _ rfl
        obtain ⟨a1, hq1, _, w1⟩ := DataW.trod_int Try.underlying3 t1
        obtain rfl : v1 = .int .i64 a1 := by simpa using hq1
        obtain ⟨v2, y2, c2, t2⟩ := hf 2 _ rfl
        obtain ⟨a2, hq2, _, w2⟩ := DataW.trod_int Try.underlying3 t2
        obtain rfl : v2 = .int .i64 a2 := by simpa using hq2
        obtain ⟨v3, y3, c3, t3⟩ := hf 3 _ rfl
        obtain ⟨a3, hq3, _, w3⟩ := DataW.trod_int Try.underlying3 t3
        obtain rfl : v3 = .int .i64 a3 := by simpa using hq3
        obtain ⟨v4, y4, c4, t4⟩ := hf 4 _ rfl
        obtain ⟨a4, hq4, _, w4⟩ := DataW.trod_int Try.underlying3 t4
        obtain rfl : v4 = .int .i64 a4 := by simpa using hq4
        obtain ⟨v5, y5, c5, t5⟩ := hf 5 _ rfl
        obtain ⟨a5, hq5, _, w5⟩ := DataW.trod_int Try.underlying3 t5
        obtain rfl : v5 = .int .i64 a5 := by simpa using hq5
        exact ⟨⟨a0, a1, a2, a3, a4, a5⟩, fun _ => ⟨⟨c0, c1, c2, c3, c4, c5⟩, w0, w1, w2, w3, w4, w5⟩⟩
      · exact ⟨z42, fun h => absurd h him⟩
    have hZ := fun i => Classical.choose_spec (hz i)
    generalize hzz : (fun i => Classical.choose (hz i)) = Z at hZ
    have hZ' : ∀ i, i < m → (W.cell? (a.add (i * 6 + 0)) = some (.int .i64 (Z i).f0) ∧ W.cell? (a.add (i * 6 + 1)) = some (.int .i64 (Z i).f1) ∧ W.cell? (a.add (i * 6 + 2)) = some (.int .i64 (Z i).f2) ∧ W.cell? (a.add (i * 6 + 3)) = some (.int .i64 (Z i).f3) ∧ W.cell? (a.add (i * 6 + 4)) = some (.int .i64 (Z i).f4) ∧ W.cell? (a.add (i * 6 + 5)) = some (.int .i64 (Z i).f5)) ∧ (Lit.int .i64 (Z i).f0).wf = true ∧ (Lit.int .i64 (Z i).f1).wf = true ∧ (Lit.int .i64 (Z i).f2).wf = true ∧ (Lit.int .i64 (Z i).f3).wf = true ∧ (Lit.int .i64 (Z i).f4).wf = true ∧ (Lit.int .i64 (Z i).f5).wf = true := fun i h => by have := hZ i h; rw [← hzz]; exact this
    refine ⟨some a, cap, (List.range len).map Z, by simp [hcs], ⟨by simp, by simp only [maxLen] at hm; simp; omega, fun _ => ⟨a, rfl, fun j p hj => ?_⟩⟩, by simp; exact hl, by simp; omega, fun z hz => ?_⟩
    · obtain ⟨hjl, rfl⟩ := List.getElem?_eq_some_iff.1 hj
      have hjl' : j < len := by simpa using hjl
      have h2 := (hZ' j (by omega)).1
      simp only [List.getElem_map, List.getElem_range]
      refine ⟨[.int .i64 (Z j).f0, .int .i64 (Z j).f1, .int .i64 (Z j).f2, .int .i64 (Z j).f3, .int .i64 (Z j).f4, .int .i64 (Z j).f5], rfl, k42_mk W (Z j), fun i u hu => ?_⟩
      match i, hu with
      | 0, hu => simp only [List.getElem?_cons_zero, List.getElem?_cons_succ] at hu; rw [← Option.some.inj hu]; exact h2.1
      | 1, hu => simp only [List.getElem?_cons_zero, List.getElem?_cons_succ] at hu; rw [← Option.some.inj hu]; exact h2.2.1
      | 2, hu => simp only [List.getElem?_cons_zero, List.getElem?_cons_succ] at hu; rw [← Option.some.inj hu]; exact h2.2.2.1
      | 3, hu => simp only [List.getElem?_cons_zero, List.getElem?_cons_succ] at hu; rw [← Option.some.inj hu]; exact h2.2.2.2.1
      | 4, hu => simp only [List.getElem?_cons_zero, List.getElem?_cons_succ] at hu; rw [← Option.some.inj hu]; exact h2.2.2.2.2.1
      | 5, hu => simp only [List.getElem?_cons_zero, List.getElem?_cons_succ] at hu; rw [← Option.some.inj hu]; exact h2.2.2.2.2.2
      | i + 6, hu => simp at hu
    · obtain ⟨i, hi2, rfl⟩ := List.mem_map.1 hz
      exact (hZ' i (by have := List.mem_range.1 hi2; omega)).2
set_option maxRecDepth 100000 in
theorem lifted (os : Os) (started : os.Started) (H : Type) (enc : TypeId × Value → H) :
    ReturnsInHanded {} Try.checked os 3 .any (Rows.fnExactNewConsoleSpec.pre6 enc Try.prog Try.f3 Rows.fnExactNewConsoleRow.domain false) (Rows.fnExactNewConsoleSpec.post enc Try.prog Try.f3 false true false false) := by
  refine returnsInHanded_of_change_sized (C := Try.checked) own started (by kernel_rfl) Try.func3
    (ChangeSpec.witness6 (enc := enc) (C := Try.checked) false ⟨#[], #[.slice none 0 0], []⟩ 8 (by kernel_rfl) (by kernel_rfl) (by kernel_rfl) (by kernel_rfl)) ?_
  intro W base args ds gs before hval0 hW hcnd hsz0 _
  have hval : ∀ (j : Nat) t v, Try.f3.params[j]? = some t → args[j]? = some v → Value.okWide Try.prog W .any base t v := hval0
  have hW' := hW
  obtain ⟨p, q, hA0, hV, rfl, hfz, hnd⟩ := hW
  have hA : DataW.TrodAll enc Try.prog W 0 (fun _ => true) true Try.f3.params.toList args.toList ds p := hA0
  rw [Try.params3] at hA hval
  obtain ⟨v0, vs0, d0, ds0, p0, q0, hargs, rfl, rfl, h0, r0⟩ := trodAll_cons hA
  obtain ⟨rfl, rfl, rfl⟩ := trodAll_nil r0
  obtain rfl : args = #[v0] := by cases args; simp_all
  obtain ⟨rfl, rfl⟩ := trodVars_none hV
  have k0 := h0
  have lt0 : ∀ x ∈ p0, x.block < W.heap.size := by obtain ⟨m, hm⟩ := k0; exact DataW.trod_lt m _ _ _ hm
  obtain ⟨b0', len0', cap0', rfl⟩ := okWide_slice Try.underlying22 (hval 0 22 v0 rfl rfl)
  obtain ⟨fu0, hf0⟩ := h0
  obtain ⟨b0, cap0, l0, e0, hr0, hc0, hm0, hw0⟩ := structs22 (v := .slice b0' len0' cap0') hf0
  obtain ⟨rfl, rfl, rfl⟩ : b0' = b0 ∧ len0' = l0.length ∧ cap0' = cap0 := by simpa using e0
  obtain ⟨k, hk⟩ := Pure.FnExactNewConsole l0 hm0 hw0
  refine (P.laws_FnExactNewConsole.calls k _ _ l0 true W hr0 hc0 rfl hk).mono fun e W' ⟨he, bel⟩ => ?_
  subst he
  exact ⟨_, rfl, _, _, _, [], _, [], hW', trodAll_mk1 (shut_bool Try.underlying4 _), (trodAll_cons_mk (Below.trod laidOut (by kernel_rfl) (of_decide_eq_true (by kernel_rfl)) k0 bel lt0) trodAll_mk0), rfl, bel.frame _, fun h => by cases h⟩
theorem over : Rows.fnExactNewConsoleRow.holds Try.pinned (OpenSpec.ofChange Rows.fnExactNewConsoleSpec) :=
  OpenClaim.holds_of_wide 3 Try.f3 rfl rfl rfl rfl rfl rfl rfl ⟨rfl, rfl, rfl, rfl, rfl⟩ rfl rfl rfl rfl rfl (by kernel_rfl) Try.func3 (by kernel_rfl)
    (of_decide_eq_true (by kernel_rfl)) (by unfold Func.isWrapper; first | (rw [if_pos (by decide +kernel)]; kernel_rfl) | (rw [if_neg (by decide +kernel)]; exact ⟨rfl, rfl⟩))
    (fun os started H enc _ => lifted os started H enc)
theorem proved : Rows.FnExactNewConsoleSaid := over
#print axioms proved
end Go.Proofs.Ytlnlabndaikbnaa.fnExactNewConsole
namespace Go.Proofs.Ytlnlabndaikbnaa
/-- The row, under a short name, for the claim. -/
theorem fnExactNewConsole_holds : Rows.FnExactNewConsoleSaid := fnExactNewConsole.proved
end Go.Proofs.Ytlnlabndaikbnaa
