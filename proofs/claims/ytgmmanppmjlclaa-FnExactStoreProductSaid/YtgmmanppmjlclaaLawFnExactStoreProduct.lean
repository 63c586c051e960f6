-- Made by rowy.py of this session; Lean checks it.
import Derived.Test.YtgmmanppmjlclaaRows
import Derived.Test.YtgmmanppmjlclaaPx38
import Derived.Test.YtgmmanppmjlclaaPureFnExactStoreProduct
import Derived.WalkKit
import Derived.ProofKit
import Derived.OpenShut
import Derived.ShutString
import Derived.ChangeOld
import Derived.Below
import Derived.SizedLaws
import Derived.Deep.Strs
import Derived.Deep.Slices
import Derived.Deep.Fields
import Derived.ChangeSame
import Derived.Test.YtgmmanppmjlclaaWSized
namespace Go.Proofs.Ytgmmanppmjlclaa.fnExactStoreProduct
open Go.ChangeShapes Go.WideShapes Go.ChangeAt Go.RowKit Go.Deep Go.Proofs.Ytgmmanppmjlclaa.P Go.Proofs.YtgmmanppmjlclaaW.PrintWords Go.Proofs.YtgmmanppmjlclaaW.PrintLast
open Go.ChangeMaps (open_string shut_string)
set_option linter.unusedVariables false
set_option linter.unusedSimpArgs false
theorem own : ownKnob Try.prog.godebug = none := by kernel_rfl
theorem laidOut : laidOutB Try.prog = true := by kernel_rfl
theorem arr3 (cs : Array Value) (h : cs.size = 3) : ∃ a0_ a1_ a2_, cs = #[a0_, a1_, a2_] := by
  obtain ⟨l⟩ := cs
  match l, h with
  | [a0_, a1_, a2_], _ => exact ⟨a0_, a1_, a2_, rfl⟩
section
variable {H : Type} {enc : TypeId × Value → H} {P : Program} {w : World} {base : Nat} {spare : Nat → Bool} {held : Bool}
theorem open_slice_fields {t e : TypeId} {fs : Array Field} {fuel : Nat} {cs : List Value} {x : DataW H × List MemPlace} (ht : P.underlying t = some (.slice e)) (he : P.underlying e = some (.struct fs))
    (hone : oneCellFields P fs = true) (hC : P.cellsOf e = fs.size) (h : DataW.trod enc P w base spare held fuel t cs = some x) :
    (cs = [.slice none 0 0]) ∨
    ∃ (a : Addr) (len cap m : Nat), cs = [.slice (some a) len cap] ∧ len ≤ cap ∧ cap ≤ maxLen ∧ len ≤ m ∧
      ∀ i, i < m → ∃ (n : Nat), ∀ (j : Nat) (f : Field), fs[j]? = some f → ∃ (v : Value) (y : DataW H × List MemPlace), w.cell? (a.add (i * fs.size + j)) = some v ∧ DataW.trod enc P w base spare held n f.type [v] = some y := by
  rcases open_slice ht h with h0 | ⟨a, len, cap, m, n, D, Pl, hcs, hb, hl, hm, hmm, hx, hi⟩
  · exact .inl h0.1
  · refine .inr ⟨a, len, cap, m, hcs, hl, hm, by rw [hmm]; split <;> omega, fun i him => ?_⟩
    obtain ⟨cs', hc, ht'⟩ := hi i him
    rw [hC] at hc
    obtain ⟨ys, n', hn', hy, hlen, hyl, hf⟩ := DataW.trod_struct he ht'
    obtain ⟨_, hcl, hat⟩ := World.cells?_some hc
    refine ⟨n', fun j f hj => ?_⟩
    obtain ⟨ho, hk⟩ := hone_of hone j f hj
    have hjl : j < fs.size := (Array.getElem?_eq_some_iff.1 hj).1
    have hcell := hat j hjl
    have hv : cs'[j]? = some (cs'[j]'(by omega)) := List.getElem?_eq_getElem (by omega)
    have h1 := hf j f hj
    rw [ho, hk] at h1
    have hone' : (cs'.drop j).take 1 = [cs'[j]'(by omega)] := by
      rw [List.drop_eq_getElem_cons (by omega)]
      rfl
    rw [hone'] at h1
    have hys : ys[j]? = some (ys[j]'(by omega)) := List.getElem?_eq_getElem (by omega)
    refine ⟨_, _, ?_, h1.trans hys⟩
    rw [← Go.Deep.add_add, hcell, hv]
end
theorem structs22 {H : Type} {enc : TypeId × Value → H} {W : World} {fuel : Nat} {v : Value} {x : DataW H × List MemPlace} (h : DataW.trod enc Try.prog W 0 (fun _ => true) true fuel 22 [v] = some x) : ∃ a cap, ∃ zs : List S52, v = .slice a zs.length cap ∧ Kd.C k52 W a zs.length zs ∧ zs.length ≤ cap ∧ zs.length ≤ maxLen ∧ ∀ z ∈ zs, z.f0.size ≤ maxLen ∧ (Lit.int .i64 z.f1).wf = true ∧ z.f2.size ≤ maxLen := by
  rcases open_slice_fields Try.underlying22 Try.underlying52 (by kernel_rfl) (by kernel_rfl) h with hcs | ⟨a, len, cap, m, hcs, hl, hm, hlm, hi⟩
  · simp at hcs
    exact ⟨none, 0, [], hcs, Kd.C_nil _ _, by simp, by simp, fun z hz => by simp at hz⟩
  · simp at hcs
    have hz : ∀ i, ∃ z : S52, i < m → (W.cell? (a.add (i * 3 + 0)) = some (.string z.f0) ∧ W.cell? (a.add (i * 3 + 1)) = some (.int .i64 z.f1) ∧ W.cell? (a.add (i * 3 + 2)) = some (.string z.f2)) ∧ z.f0.size ≤ maxLen ∧ (Lit.int .i64 z.f1).wf = true ∧ z.f2.size ≤ maxLen := by
      intro i
      by_cases him : i < m
      · obtain ⟨n', hf⟩ := hi i him
        obtain ⟨v0, y0, c0, t0⟩ := hf 0 _ rfl
        obtain ⟨a0, hq0, _, w0⟩ := DataW.trod_string Try.underlying9 t0
        obtain rfl : v0 = .string a0 := by simpa using hq0
        obtain ⟨v1, y1, c1, t1⟩ := hf 1 _ rfl
        obtain ⟨a1, hq1, _, w1⟩ := DataW.trod_int Try.underlying3 t1
        obtain rfl : v1 = .int .i64 a1 := by simpa using hq1
        obtain ⟨v2, y2, c2, t2⟩ := hf 2 _ rfl
        obtain ⟨a2, hq2, _, w2⟩ := DataW.trod_string Try.underlying9 t2
        obtain rfl : v2 = .string a2 := by simpa using hq2
        exact ⟨⟨a0, a1, a2⟩, fun _ => ⟨⟨c0, c1, c2⟩, w0, w1, w2⟩⟩
      · exact ⟨z52, fun h => absurd h him⟩
    have hZ := fun i => Classical.choose_spec (hz i)
    generalize hzz : (fun i => Classical.choose (hz i)) = Z at hZ
    have hZ' : ∀ i, i < m → (W.cell? (a.add (i * 3 + 0)) = some (.string (Z i).f0) ∧ W.cell? (a.add (i * 3 + 1)) = some (.int .i64 (Z i).f1) ∧ W.cell? (a.add (i * 3 + 2)) = some (.string (Z i).f2)) ∧ (Z i).f0.size ≤ maxLen ∧ (Lit.int .i64 (Z i).f1).wf = true ∧ (Z i).f2.size ≤ maxLen := fun i h => by have := hZ i h; rw [← hzz]; exact this
    refine ⟨some a, cap, (List.range len).map Z, by simp [hcs], ⟨by simp, by simp only [maxLen] at hm; simp; omega, fun _ => ⟨a, rfl, fun j p hj => ?_⟩⟩, by simp; exact hl, by simp; omega, fun z hz => ?_⟩
    · obtain ⟨hjl, rfl⟩ := List.getElem?_eq_some_iff.1 hj
      have hjl' : j < len := by simpa using hjl
      have h2 := (hZ' j (by omega)).1
      simp only [List.getElem_map, List.getElem_range]
      refine ⟨[.string (Z j).f0, .int .i64 (Z j).f1, .string (Z j).f2], rfl, k52_mk W (Z j), fun i u hu => ?_⟩
      match i, hu with
      | 0, hu => simp only [List.getElem?_cons_zero, List.getElem?_cons_succ] at hu; rw [← Option.some.inj hu]; exact h2.1
      | 1, hu => simp only [List.getElem?_cons_zero, List.getElem?_cons_succ] at hu; rw [← Option.some.inj hu]; exact h2.2.1
      | 2, hu => simp only [List.getElem?_cons_zero, List.getElem?_cons_succ] at hu; rw [← Option.some.inj hu]; exact h2.2.2
      | i + 3, hu => simp at hu
    · obtain ⟨i, hi2, rfl⟩ := List.mem_map.1 hz
      exact (hZ' i (by have := List.mem_range.1 hi2; omega)).2
set_option maxRecDepth 100000 in
theorem lifted (os : Os) (started : os.Started) (H : Type) (enc : TypeId × Value → H) :
    ReturnsInHanded {} Try.checked os 9 .any (Rows.fnExactStoreProductSpec.pre6 enc Try.prog Try.f9 Rows.fnExactStoreProductRow.domain false) (Rows.fnExactStoreProductSpec.post enc Try.prog Try.f9 false true false false) := by
  refine returnsInHanded_of_change_sized (C := Try.checked) own started (by kernel_rfl) Try.func9
    (ChangeSpec.witness6 (enc := enc) (C := Try.checked) false ⟨#[], #[.slice none 0 0, .agg #[.string ⟨#[]⟩, .int .i64 0, .string ⟨#[]⟩]], []⟩ 8 (by kernel_rfl) (by kernel_rfl) (by kernel_rfl) (by kernel_rfl)) ?_
  intro W base args ds gs before hval0 hW hcnd hsz0 _
  have hval : ∀ (j : Nat) t v, Try.f9.params[j]? = some t → args[j]? = some v → Value.okWide Try.prog W .any base t v := hval0
  have hW' := hW
  obtain ⟨p, q, hA0, hV, rfl, hfz, hnd⟩ := hW
  have hA : DataW.TrodAll enc Try.prog W 0 (fun _ => true) true Try.f9.params.toList args.toList ds p := hA0
  rw [Try.params9] at hA hval
  obtain ⟨v0, vs0, d0, ds0, p0, q0, hargs, rfl, rfl, h0, r0⟩ := trodAll_cons hA
  obtain ⟨v1, vs1, d1, ds1, p1, q1, rfl, rfl, rfl, h1, r1⟩ := trodAll_cons r0
  obtain ⟨rfl, rfl, rfl⟩ := trodAll_nil r1
  obtain rfl : args = #[v0, v1] := by cases args; simp_all
  obtain ⟨rfl, rfl⟩ := trodVars_none hV
  have k0 := h0
  have lt0 : ∀ x ∈ p0, x.block < W.heap.size := by obtain ⟨m, hm⟩ := k0; exact DataW.trod_lt m _ _ _ hm
  obtain ⟨b0', len0', cap0', rfl⟩ := okWide_slice Try.underlying22 (hval 0 22 v0 rfl rfl)
  obtain ⟨fu0, hf0⟩ := h0
  obtain ⟨b0, cap0, l0, e0, hr0, hc0, hm0, hw0⟩ := structs22 (v := .slice b0' len0' cap0') hf0
  obtain ⟨rfl, rfl, rfl⟩ : b0' = b0 ∧ len0' = l0.length ∧ cap0' = cap0 := by simpa using e0
  have k1 := h1
  have lt1 : ∀ x ∈ p1, x.block < W.heap.size := by obtain ⟨m, hm⟩ := k1; exact DataW.trod_lt m _ _ _ hm
  obtain ⟨cs1, rfl, hn1⟩ := okWide_struct Try.underlying52 (hval 1 52 v1 rfl rfl)
  obtain ⟨c1_0, c1_1, c1_2, rfl⟩ := arr3 cs1 (by rw [hn1]; kernel_rfl)
  obtain ⟨fu1, hf1⟩ := h1
  obtain ⟨y1_0, y1_1, y1_2, n1, _, _, t1_0, t1_1, t1_2⟩ := trod_struct3 Try.underlying52 hf1
  have u1_0 : DataW.trod enc Try.prog W 0 (fun _ => true) true n1 9 [c1_0] = some y1_0 := by
    have e1 : Try.prog.cellsOf 9 = 1 := by kernel_rfl
    simpa [Value.cells, e1] using t1_0
  obtain ⟨a1_0, hq1_0, _, w1_0⟩ := DataW.trod_string Try.underlying9 u1_0
  obtain rfl : c1_0 = .string a1_0 := by simpa using hq1_0
  have u1_1 : DataW.trod enc Try.prog W 0 (fun _ => true) true n1 3 [c1_1] = some y1_1 := by
    have e1 : Try.prog.cellsOf 3 = 1 := by kernel_rfl
    simpa [Value.cells, e1] using t1_1
  obtain ⟨a1_1, hq1_1, _, w1_1⟩ := DataW.trod_int Try.underlying3 u1_1
  obtain rfl : c1_1 = .int .i64 a1_1 := by simpa using hq1_1
  have u1_2 : DataW.trod enc Try.prog W 0 (fun _ => true) true n1 9 [c1_2] = some y1_2 := by
    have e1 : Try.prog.cellsOf 9 = 1 := by kernel_rfl
    simpa [Value.cells, e1] using t1_2
  obtain ⟨a1_2, hq1_2, _, w1_2⟩ := DataW.trod_string Try.underlying9 u1_2
  obtain rfl : c1_2 = .string a1_2 := by simpa using hq1_2
  obtain ⟨k, hk⟩ := Pure.FnExactStoreProduct l0 a1_0 a1_1 a1_2 hm0 hw0 w1_0 w1_1 w1_2
  refine (P.laws_FnExactStoreProduct.calls k _ _ l0 a1_0 a1_1 a1_2 true W hr0 hc0 hk).mono fun e W' ⟨he, bel⟩ => ?_
  subst he
  exact ⟨_, rfl, _, _, _, [], _, [], hW', trodAll_mk1 (shut_bool Try.underlying4 _), (trodAll_cons_mk (Below.trod laidOut (by kernel_rfl) (of_decide_eq_true (by kernel_rfl)) k0 bel lt0) (trodAll_cons_mk (Below.trod laidOut (by kernel_rfl) (of_decide_eq_true (by kernel_rfl)) k1 bel lt1) trodAll_mk0)), rfl, bel.frame _, fun h => by cases h⟩
theorem over : Rows.fnExactStoreProductRow.holds Try.pinned (OpenSpec.ofChange Rows.fnExactStoreProductSpec) :=
  OpenClaim.holds_of_wide 9 Try.f9 rfl rfl rfl rfl rfl rfl rfl ⟨rfl, rfl, rfl, rfl, rfl⟩ rfl rfl rfl rfl rfl (by kernel_rfl) Try.func9 (by kernel_rfl)
    (of_decide_eq_true (by kernel_rfl)) (by unfold Func.isWrapper; first | (rw [if_pos (by decide +kernel)]; kernel_rfl) | (rw [if_neg (by decide +kernel)]; exact ⟨rfl, rfl⟩))
    (fun os started H enc _ => lifted os started H enc)
theorem proved : Rows.FnExactStoreProductSaid := over
#print axioms proved
end Go.Proofs.Ytgmmanppmjlclaa.fnExactStoreProduct
namespace Go.Proofs.Ytgmmanppmjlclaa
/-- The row, under a short name, for the claim. -/
theorem fnExactStoreProduct_holds : Rows.FnExactStoreProductSaid := fnExactStoreProduct.proved
end Go.Proofs.Ytgmmanppmjlclaa
