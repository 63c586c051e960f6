-- Made by rowy.py of this session; Lean checks it.
import Derived.Test.YtgmmanppmjlclaaRows
import Derived.Test.YtgmmanppmjlclaaPx35
import Derived.Test.YtgmmanppmjlclaaPureFnExactChangedBetween
import Derived.WalkKit
import Derived.ProofKit
import Derived.OpenShut
import Derived.ShutString
import Derived.ChangeOld
import Derived.Below
import Derived.SizedLaws
import Derived.Deep.Strs
import Derived.Deep.Slices
import Derived.Deep.Fields
import Derived.ChangeSame
import Derived.Test.YtgmmanppmjlclaaWSized
namespace Go.Proofs.Ytgmmanppmjlclaa.fnExactChangedBetween
open Go.ChangeShapes Go.WideShapes Go.ChangeAt Go.RowKit Go.Deep Go.Proofs.Ytgmmanppmjlclaa.P Go.Proofs.YtgmmanppmjlclaaW.PrintWords Go.Proofs.YtgmmanppmjlclaaW.PrintLast
open Go.ChangeMaps (open_string shut_string)
set_option linter.unusedVariables false
set_option linter.unusedSimpArgs false
theorem own : ownKnob Try.prog.godebug = none := by kernel_rfl
theorem laidOut : laidOutB Try.prog = true := by kernel_rfl
section
variable {H : Type} {enc : TypeId × Value → H} {P : Program} {w : World} {base : Nat} {spare : Nat → Bool} {held : Bool}
theorem open_slice_fields {t e : TypeId} {fs : Array Field} {fuel : Nat} {cs : List Value} {x : DataW H × List MemPlace} (ht : P.underlying t = some (.slice e)) (he : P.underlying e = some (.struct fs))
    (hone : oneCellFields P fs = true) (hC : P.cellsOf e = fs.size) (h : DataW.trod enc P w base spare held fuel t cs = some x) :
    (cs = [.slice none 0 0]) ∨
    ∃ (a : Addr) (len cap m : Nat), cs = [.slice (some a) len cap] ∧ len ≤ cap ∧ cap ≤ maxLen ∧ len ≤ m ∧
      ∀ i, i < m → ∃ (n : Nat), ∀ (j : Nat) (f : Field), fs[j]? = some f → ∃ (v : Value) (y : DataW H × List MemPlace), w.cell? (a.add (i * fs.size + j)) = some v ∧ DataW.trod enc P w base spare held n f.type [v] = some y := by
  rcases open_slice ht h with h0 | ⟨a, len, cap, m, n, D, Pl, hcs, hb, hl, hm, hmm, hx, hi⟩
  · exact .inl h0.1
  · refine .inr ⟨a, len, cap, m, hcs, hl, hm, by rw [hmm]; split <;> omega, fun i him => ?_⟩
    obtain ⟨cs', hc, ht'⟩ := hi i him
    rw [hC] at hc
    obtain ⟨ys, n', hn', hy, hlen, hyl, hf⟩ := DataW.trod_struct he ht'
    obtain ⟨_, hcl, hat⟩ := World.cells?_some hc
    refine ⟨n', fun j f hj => ?_⟩
    obtain ⟨ho, hk⟩ := hone_of hone j f hj
    have hjl : j < fs.size := (Array.getElem?_eq_some_iff.1 hj).1
    have hcell := hat j hjl
    have hv : cs'[j]? = some (cs'[j]'(by omega)) := List.getElem?_eq_getElem (by omega)
    have h1 := hf j f hj
    rw [ho, hk] at h1
    have hone' : (cs'.drop j).take 1 = [cs'[j]'(by omega)] := by
      rw [List.drop_eq_getElem_cons (by omega)]
      rfl
    rw [hone'] at h1
    have hys : ys[j]? = some (ys[j]'(by omega)) := List.getElem?_eq_getElem (by omega)
    refine ⟨_, _, ?_, h1.trans hys⟩
    rw [← Go.Deep.add_add, hcell, hv]
end
theorem structs22 {H : Type} {enc : TypeId × Value → H} {W : World} {fuel : Nat} {v : Value} {x : DataW H × List MemPlace} (h : DataW.trod enc Try.prog W 0 (fun _ => true) true fuel 22 [v] = some x) : ∃ a cap, ∃ zs : List S52, v = .slice a zs.length cap ∧ Kd.C k52 W a zs.length zs ∧ zs.length ≤ cap ∧ zs.length ≤ maxLen ∧ ∀ z ∈ zs, z.f0.size ≤ maxLen ∧ (Lit.int .i64 z.f1).wf = true ∧ z.f2.size ≤ maxLen := by
  rcases open_slice_fields Try.underlying22 Try.underlying52 (by kernel_rfl) (by kernel_rfl) h with hcs | ⟨a, len, cap, m, hcs, hl, hm, hlm, hi⟩
  · simp at hcs
    exact ⟨none, 0, [], hcs, Kd.C_nil _ _, by simp, by simp, fun z hz => by simp at hz⟩
  · simp at hcs
    have hz : ∀ i, ∃ z : S52, i < m → (W.cell? (a.add (i * 3 + 0)) = some (.string z.f0) ∧ W.cell? (a.add (i * 3 + 1)) = some (.int .i64 z.f1) ∧ W.cell? (a.add (i * 3 + 2)) = some (.string z.f2)) ∧ z.f0.size ≤ maxLen ∧ (Lit.int .i64 z.f1).wf = true ∧ z.f2.size ≤ maxLen := by
      intro i
      by_cases him : i < m
      · obtain ⟨n', hf⟩ := hi i him
        obtain ⟨v0, y0, c0, t0⟩ := hf 0 _ rfl
        obtain ⟨a0, hq0, _, w0⟩ := DataW.trod_string Try.underlying9 t0
        obtain rfl : v0 = .string a0 := by simpa using hq0
        obtain ⟨v1, y1, c1, t1⟩ := hf 1 _ rfl
        obtain ⟨a1, hq1, _, w1⟩ := DataW.trod_int Try.underlying3 t1
        obtain rfl : v1 = .int .i64 a1 := by simpa using hq1
        obtain ⟨v2, y2, c2, t2⟩ := hf 2 _ rfl
        obtain ⟨a2, hq2, _, w2⟩ := DataW.trod_string Try.underlying9 t2
        obtain rfl : v2 = .string a2 := by simpa using hq2
        exact ⟨⟨a0, a1, a2⟩, fun _ => ⟨⟨c0, c1, c2⟩, w0, w1, w2⟩⟩
      · exact ⟨z52, fun h => absurd h him⟩
    have hZ := fun i => Classical.choose_spec (hz i)
    generalize hzz : (fun i => Classical.choose (hz i)) = Z at hZ
    have hZ' : ∀ i, i < m → (W.cell? (a.add (i * 3 + 0)) = some (.string (Z i).f0) ∧ W.cell? (a.add (i * 3 + 1)) = some (.int .i64 (Z i).f1) ∧ W.cell? (a.add (i * 3 + 2)) = some (.string (Z i).f2)) ∧ (Z i).f0.size ≤ maxLen ∧ (Lit.int .i64 (Z i).f1).wf = true ∧ (Z i).f2.size ≤ maxLen := fun i h => by have := hZ i h; rw [← hzz]; exact this
    refine ⟨some a, cap, (List.range len).map Z, by simp [hcs], ⟨by simp, by simp only [maxLen] at hm; simp; omega, fun _ => ⟨a, rfl, fun j p hj => ?_⟩⟩, by simp; exact hl, by simp; omega, fun z hz => ?_⟩
    · obtain ⟨hjl, rfl⟩ := List.getElem?_eq_some_iff.1 hj
      have hjl' : j < len := by simpa using hjl
      have h2 := (hZ' j (by omega)).1
      simp only [List.getElem_map, List.getElem_range]
      refine ⟨[.string (Z j).f0, .int .i64 (Z j).f1, .string (Z j).f2], rfl, k52_mk W (Z j), fun i u hu => ?_⟩
      match i, hu with
      | 0, hu => simp only [List.getElem?_cons_zero, List.getElem?_cons_succ] at hu; rw [← Option.some.inj hu]; exact h2.1
      | 1, hu => simp only [List.getElem?_cons_zero, List.getElem?_cons_succ] at hu; rw [← Option.some.inj hu]; exact h2.2.1
      | 2, hu => simp only [List.getElem?_cons_zero, List.getElem?_cons_succ] at hu; rw [← Option.some.inj hu]; exact h2.2.2
      | i + 3, hu => simp at hu
    · obtain ⟨i, hi2, rfl⟩ := List.mem_map.1 hz
      exact (hZ' i (by have := List.mem_range.1 hi2; omega)).2
set_option maxRecDepth 100000 in
theorem lifted (os : Os) (started : os.Started) (H : Type) (enc : TypeId × Value → H) :
    ReturnsInHanded {} Try.checked os 8 .any (Rows.fnExactChangedBetweenSpec.pre6 enc Try.prog Try.f8 Rows.fnExactChangedBetweenRow.domain false) (Rows.fnExactChangedBetweenSpec.post enc Try.prog Try.f8 false true false false) := by
  refine returnsInHanded_of_change_sized (C := Try.checked) own started (by kernel_rfl) Try.func8
    (ChangeSpec.witness6 (enc := enc) (C := Try.checked) false ⟨#[], #[.slice none 0 0, .int .i64 0, .int .i64 0], []⟩ 8 (by kernel_rfl) (by kernel_rfl) (by kernel_rfl) (by kernel_rfl)) ?_
  intro W base args ds gs before hval0 hW hcnd hsz0 _
  have hval : ∀ (j : Nat) t v, Try.f8.params[j]? = some t → args[j]? = some v → Value.okWide Try.prog W .any base t v := hval0
  have hW' := hW
  obtain ⟨p, q, hA0, hV, rfl, hfz, hnd⟩ := hW
  have hA : DataW.TrodAll enc Try.prog W 0 (fun _ => true) true Try.f8.params.toList args.toList ds p := hA0
  rw [Try.params8] at hA hval
  obtain ⟨v0, vs0, d0, ds0, p0, q0, hargs, rfl, rfl, h0, r0⟩ := trodAll_cons hA
  obtain ⟨v1, vs1, d1, ds1, p1, q1, rfl, rfl, rfl, h1, r1⟩ := trodAll_cons r0
  obtain ⟨v2, vs2, d2, ds2, p2, q2, rfl, rfl, rfl, h2, r2⟩ := trodAll_cons r1
  obtain ⟨rfl, rfl, rfl⟩ := trodAll_nil r2
  obtain rfl : args = #[v0, v1, v2] := by cases args; simp_all
  obtain ⟨rfl, rfl⟩ := trodVars_none hV
  have k0 := h0
  have lt0 : ∀ x ∈ p0, x.block < W.heap.size := by obtain ⟨m, hm⟩ := k0; exact DataW.trod_lt m _ _ _ hm
  obtain ⟨b0', len0', cap0', rfl⟩ := okWide_slice Try.underlying22 (hval 0 22 v0 rfl rfl)
  obtain ⟨fu0, hf0⟩ := h0
  obtain ⟨b0, cap0, l0, e0, hr0, hc0, hm0, hw0⟩ := structs22 (v := .slice b0' len0' cap0') hf0
  obtain ⟨rfl, rfl, rfl⟩ : b0' = b0 ∧ len0' = l0.length ∧ cap0' = cap0 := by simpa using e0
  obtain ⟨a1, rfl, rfl, rfl, w1⟩ := open_int Try.underlying3 (hval 1 3 v1 rfl rfl) h1
  obtain ⟨a2, rfl, rfl, rfl, w2⟩ := open_int Try.underlying3 (hval 2 3 v2 rfl rfl) h2
  obtain ⟨k, hk⟩ := Pure.FnExactChangedBetween l0 a1 a2 hm0 hw0 w1 w2
  refine (P.laws_FnExactChangedBetween.calls k _ _ l0 a1 a2 true W hr0 hc0 hk).mono fun e W' ⟨he, bel⟩ => ?_
  subst he
  exact ⟨_, rfl, _, _, _, [], _, [], hW', trodAll_mk1 (shut_bool Try.underlying4 _), (trodAll_cons_mk (Below.trod laidOut (by kernel_rfl) (of_decide_eq_true (by kernel_rfl)) k0 bel lt0) (trodAll_cons_mk (shut_int Try.underlying3 w1) (trodAll_cons_mk (shut_int Try.underlying3 w2) trodAll_mk0))), rfl, bel.frame _, fun h => by cases h⟩
theorem over : Rows.fnExactChangedBetweenRow.holds Try.pinned (OpenSpec.ofChange Rows.fnExactChangedBetweenSpec) :=
  OpenClaim.holds_of_wide 8 Try.f8 rfl rfl rfl rfl rfl rfl rfl ⟨rfl, rfl, rfl, rfl, rfl⟩ rfl rfl rfl rfl rfl (by kernel_rfl) Try.func8 (by kernel_rfl)
    (of_decide_eq_true (by kernel_rfl)) (by unfold Func.isWrapper; first | (rw [if_pos (by decide +kernel)]; kernel_rfl) | (rw [if_neg (by decide +kernel)]; exact ⟨rfl, rfl⟩))
    (fun os started H enc _ => lifted os started H enc)
theorem proved : Rows.FnExactChangedBetweenSaid := over
#print axioms proved
end Go.Proofs.Ytgmmanppmjlclaa.fnExactChangedBetween
namespace Go.Proofs.Ytgmmanppmjlclaa
/-- The row, under a short name, for the claim. -/
theorem fnExactChangedBetween_holds : Rows.FnExactChangedBetweenSaid := fnExactChangedBetween.proved
end Go.Proofs.Ytgmmanppmjlclaa
