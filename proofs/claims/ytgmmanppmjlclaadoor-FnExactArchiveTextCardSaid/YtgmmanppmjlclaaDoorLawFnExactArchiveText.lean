-- Made by rowy.py of this session; Lean checks it.
import Derived.Test.YtgmmanppmjlclaaDoorRows
import Derived.Test.YtgmmanppmjlclaaDoorCards
import Derived.Test.YtgmmanppmjlclaaDoorTie
import Derived.Test.YtgmmanppmjlclaaDoorPx13
import Derived.Test.YtgmmanppmjlclaaDoorPureFnExactArchiveText
import Derived.WalkKit
import Derived.ProofKit
import Derived.OpenShut
import Derived.ShutString
import Derived.ChangeOld
import Derived.Below
import Derived.SizedLaws
import Derived.Deep.Strs
import Derived.Deep.Slices
import Derived.Deep.Fields
import Derived.ChangeSame
import Derived.Deep.DeepHandedRow
import Derived.Lib.LaidTab
import Derived.SevenTiedAt
import Derived.Stop.LaidErr
import Derived.ChangeSlices
namespace Go.Proofs.YtgmmanppmjlclaaDoor.fnExactArchiveText
open Go.ChangeShapes Go.WideShapes Go.ChangeAt Go.RowKit Go.Deep Go.Proofs.YtgmmanppmjlclaaDoor.P Go.Proofs.YtgmmanppmjlclaaDoorW.PrintWords Go.Proofs.YtgmmanppmjlclaaDoorW.PrintLast
open Go.ChangeMaps (open_string shut_string)
set_option linter.unusedVariables false
set_option linter.unusedSimpArgs false
theorem own : ownKnob Tryd.prog.godebug = none := by kernel_rfl
theorem laidOut : laidOutB Tryd.prog = true := by kernel_rfl
section
variable {H : Type} {enc : TypeId × Value → H} {P : Program} {w : World} {base : Nat} {spare : Nat → Bool} {held : Bool}
theorem open_slice_fields {t e : TypeId} {fs : Array Field} {fuel : Nat} {cs : List Value} {x : DataW H × List MemPlace} (ht : P.underlying t = some (.slice e)) (he : P.underlying e = some (.struct fs))
    (hone : oneCellFields P fs = true) (hC : P.cellsOf e = fs.size) (h : DataW.trod enc P w base spare held fuel t cs = some x) :
    (cs = [.slice none 0 0]) ∨
    ∃ (a : Addr) (len cap m : Nat), cs = [.slice (some a) len cap] ∧ len ≤ cap ∧ cap ≤ maxLen ∧ len ≤ m ∧
      ∀ i, i < m → ∃ (n : Nat), ∀ (j : Nat) (f : Field), fs[j]? = some f → ∃ (v : Value) (y : DataW H × List MemPlace), w.cell? (a.add (i * fs.size + j)) = some v ∧ DataW.trod enc P w base spare held n f.type [v] = some y := by
  rcases open_slice ht h with h0 | ⟨a, len, cap, m, n, D, Pl, hcs, hb, hl, hm, hmm, hx, hi⟩
  · exact .inl h0.1
  · refine .inr ⟨a, len, cap, m, hcs, hl, hm, by rw [hmm]; split <;> omega, fun i him => ?_⟩
    obtain ⟨cs', hc, ht'⟩ := hi i him
    rw [hC] at hc
    obtain ⟨ys, n', hn', hy, hlen, hyl, hf⟩ := DataW.trod_struct he ht'
    obtain ⟨_, hcl, hat⟩ := World.cells?_some hc
    refine ⟨n', fun j f hj => ?_⟩
    obtain ⟨ho, hk⟩ := hone_of hone j f hj
    have hjl : j < fs.size := (Array.getElem?_eq_some_iff.1 hj).1
    have hcell := hat j hjl
    have hv : cs'[j]? = some (cs'[j]'(by omega)) := List.getElem?_eq_getElem (by omega)
    have h1 := hf j f hj
    rw [ho, hk] at h1
    have hone' : (cs'.drop j).take 1 = [cs'[j]'(by omega)] := by
      rw [List.drop_eq_getElem_cons (by omega)]
      rfl
    rw [hone'] at h1
    have hys : ys[j]? = some (ys[j]'(by omega)) := List.getElem?_eq_getElem (by omega)
    refine ⟨_, _, ?_, h1.trans hys⟩
    rw [← Go.Deep.add_add, hcell, hv]
end
theorem structs22 {H : Type} {enc : TypeId × Value → H} {W : World} {fuel : Nat} {v : Value} {x : DataW H × List MemPlace} (h : DataW.trod enc Tryd.prog W 0 (fun _ => true) true fuel 22 [v] = some x) : ∃ a cap, ∃ zs : List S36, v = .slice a zs.length cap ∧ Kd.C k36 W a zs.length zs ∧ zs.length ≤ cap ∧ zs.length ≤ maxLen ∧ ∀ z ∈ zs, z.f0.size ≤ maxLen ∧ (Lit.int .i64 z.f1).wf = true ∧ z.f2.size ≤ maxLen := by
  rcases open_slice_fields Tryd.underlying22 Tryd.underlying36 (by kernel_rfl) (by kernel_rfl) h with hcs | ⟨a, len, cap, m, hcs, hl, hm, hlm, hi⟩
  · simp at hcs
    exact ⟨none, 0, [], hcs, Kd.C_nil _ _, by simp, by simp, fun z hz => by simp at hz⟩
  · simp at hcs
    have hz : ∀ i, ∃ z : S36, i < m → (W.cell? (a.add (i * 3 + 0)) = some (.string z.f0) ∧ W.cell? (a.add (i * 3 + 1)) = some (.int .i64 z.f1) ∧ W.cell? (a.add (i * 3 + 2)) = some (.string z.f2)) ∧ z.f0.size ≤ maxLen ∧ (Lit.int .i64 z.f1).wf = true ∧ z.f2.size ≤ maxLen := by
      intro i
      by_cases him : i < m
      · obtain ⟨n', hf⟩ := hi i him
        obtain ⟨v0, y0, c0, t0⟩ := hf 0 _ rfl
        obtain ⟨a0, hq0, _, w0⟩ := DataW.trod_string Tryd.underlying9 t0
        obtain rfl : v0 = .string a0 := by simpa using hq0
        obtain ⟨v1, y1, c1, t1⟩ := hf 1 _ rfl
        obtain ⟨a1, hq1, _, w1⟩ := DataW.trod_int Tryd.underlying3 t1
        obtain rfl : v1 = .int .i64 a1 := by simpa using hq1
        obtain ⟨v2, y2, c2, t2⟩ := hf 2 _ rfl
        obtain ⟨a2, hq2, _, w2⟩ := DataW.trod_string Tryd.underlying9 t2
        obtain rfl : v2 = .string a2 := by simpa using hq2
        exact ⟨⟨a0, a1, a2⟩, fun _ => ⟨⟨c0, c1, c2⟩, w0, w1, w2⟩⟩
      · exact ⟨z36, fun h => absurd h him⟩
    have hZ := fun i => Classical.choose_spec (hz i)
    generalize hzz : (fun i => Classical.choose (hz i)) = Z at hZ
    have hZ' : ∀ i, i < m → (W.cell? (a.add (i * 3 + 0)) = some (.string (Z i).f0) ∧ W.cell? (a.add (i * 3 + 1)) = some (.int .i64 (Z i).f1) ∧ W.cell? (a.add (i * 3 + 2)) = some (.string (Z i).f2)) ∧ (Z i).f0.size ≤ maxLen ∧ (Lit.int .i64 (Z i).f1).wf = true ∧ (Z i).f2.size ≤ maxLen := fun i h => by have := hZ i h; rw [← hzz]; exact this
    refine ⟨some a, cap, (List.range len).map Z, by simp [hcs], ⟨by simp, by simp only [maxLen] at hm; simp; omega, fun _ => ⟨a, rfl, fun j p hj => ?_⟩⟩, by simp; exact hl, by simp; omega, fun z hz => ?_⟩
    · obtain ⟨hjl, rfl⟩ := List.getElem?_eq_some_iff.1 hj
      have hjl' : j < len := by simpa using hjl
      have h2 := (hZ' j (by omega)).1
      simp only [List.getElem_map, List.getElem_range]
      refine ⟨[.string (Z j).f0, .int .i64 (Z j).f1, .string (Z j).f2], rfl, k36_mk W (Z j), fun i u hu => ?_⟩
      match i, hu with
      | 0, hu => simp only [List.getElem?_cons_zero, List.getElem?_cons_succ] at hu; rw [← Option.some.inj hu]; exact h2.1
      | 1, hu => simp only [List.getElem?_cons_zero, List.getElem?_cons_succ] at hu; rw [← Option.some.inj hu]; exact h2.2.1
      | 2, hu => simp only [List.getElem?_cons_zero, List.getElem?_cons_succ] at hu; rw [← Option.some.inj hu]; exact h2.2.2
      | i + 3, hu => simp at hu
    · obtain ⟨i, hi2, rfl⟩ := List.mem_map.1 hz
      exact (hZ' i (by have := List.mem_range.1 hi2; omega)).2
theorem table {W : World} (hL : laidMetH Tryd.prog Rows.fnExactArchiveTextRow.laid W) : GW W := by
  have e : (Rows.laid_internal_strconv_uint64pow10 : DataW Unit) = Lib.tabData .u64 Lib.pow10Tab := by rfl
  have h0 : laidMet Tryd.prog [("math/bits.deBruijn32tab", Rows.laid_math_bits_deBruijn32tab), ("math/bits.deBruijn64tab", Rows.laid_math_bits_deBruijn64tab), ("internal/strconv.uint64pow10", Rows.laid_internal_strconv_uint64pow10)] W := hL
  have h1 := laidMet.tail (laidMet.tail h0)
  rw [e] at h1
  exact Lib.tabIs_of_head (rest := []) (g := 3) (n := 20) (t := 107) (e := 86) (by kernel_rfl) (by kernel_rfl) Tryd.underlying107 Tryd.underlying86 (by kernel_rfl) (by kernel_rfl) h1
def laid4 : Obj → Obj
  | .cells _ t frozen => .cells #[.int .u8 0, .int .u8 1, .int .u8 28, .int .u8 2, .int .u8 29, .int .u8 14, .int .u8 24, .int .u8 3, .int .u8 30, .int .u8 22, .int .u8 20, .int .u8 15, .int .u8 25, .int .u8 17, .int .u8 4, .int .u8 8, .int .u8 31, .int .u8 27, .int .u8 13, .int .u8 23, .int .u8 21, .int .u8 19, .int .u8 16, .int .u8 7, .int .u8 26, .int .u8 12, .int .u8 18, .int .u8 6, .int .u8 11, .int .u8 5, .int .u8 10, .int .u8 9] t frozen
  | o => o
def laid5 : Obj → Obj
  | .cells _ t frozen => .cells #[.int .u8 0, .int .u8 1, .int .u8 56, .int .u8 2, .int .u8 57, .int .u8 49, .int .u8 28, .int .u8 3, .int .u8 61, .int .u8 58, .int .u8 42, .int .u8 50, .int .u8 38, .int .u8 29, .int .u8 17, .int .u8 4, .int .u8 62, .int .u8 47, .int .u8 59, .int .u8 36, .int .u8 45, .int .u8 43, .int .u8 51, .int .u8 22, .int .u8 53, .int .u8 39, .int .u8 33, .int .u8 30, .int .u8 24, .int .u8 18, .int .u8 12, .int .u8 5, .int .u8 63, .int .u8 55, .int .u8 48, .int .u8 27, .int .u8 60, .int .u8 41, .int .u8 37, .int .u8 16, .int .u8 46, .int .u8 35, .int .u8 44, .int .u8 21, .int .u8 52, .int .u8 32, .int .u8 23, .int .u8 11, .int .u8 54, .int .u8 26, .int .u8 40, .int .u8 15, .int .u8 34, .int .u8 20, .int .u8 31, .int .u8 10, .int .u8 25, .int .u8 14, .int .u8 19, .int .u8 9, .int .u8 13, .int .u8 8, .int .u8 7, .int .u8 6] t frozen
  | o => o
def laid3 : Obj → Obj
  | .cells _ t frozen => .cells #[.int .u64 1, .int .u64 10, .int .u64 100, .int .u64 1000, .int .u64 10000, .int .u64 100000, .int .u64 1000000, .int .u64 10000000, .int .u64 100000000, .int .u64 1000000000, .int .u64 10000000000, .int .u64 100000000000, .int .u64 1000000000000, .int .u64 10000000000000, .int .u64 100000000000000, .int .u64 1000000000000000, .int .u64 10000000000000000, .int .u64 100000000000000000, .int .u64 1000000000000000000, .int .u64 10000000000000000000] t frozen
  | o => o
noncomputable def laidWorld (os : Os) : World :=
  { World.holding Tryd.prog os ⟨#[], #[], []⟩ with heap := ((((World.holding Tryd.prog os ⟨#[], #[], []⟩).heap).modify 4 laid4).modify 5 laid5).modify 3 laid3 }
theorem laid_met (os : Os) : laidMet Tryd.prog Rows.fnExactArchiveTextRow.laid ((laidWorld os).forCall (fun _ _ => 0) ⟨#[], #[.slice none 0 0], []⟩).memory :=
  laidMet_of_run' 8 (by kernel_rfl) (by kernel_rfl)
theorem reads (os : Os) {H : Type} (enc : TypeId × Value → H) : ∃ places, DataW.whole enc Tryd.prog ((laidWorld os).forCall (fun _ _ => 0) ⟨#[], #[.slice none 0 0], []⟩).memory Tryd.f3.params.toList Rows.fnExactArchiveTextSpec.vars false (#[.slice none 0 0] : Array Value).toList 8 = some ([.nil], [], places) :=
  ⟨[], by kernel_rfl⟩
set_option maxRecDepth 100000 in
theorem contract (H : Type) (enc : TypeId × Value → H) (W : World) (base : Nat) (args : Array Value) (ds gs : List (DataW H)) (before : List MemPlace)
    (hval0 : ∀ (j : Nat) t v, Tryd.f3.params[j]? = some t → args[j]? = some v → Value.okWide Tryd.prog W .any base t v)
    (hW : DataW.Whole enc Tryd.prog Tryd.f3.params.toList Rows.fnExactArchiveTextSpec.vars false W args.toList ds gs before) (hL : laidMetH Tryd.prog Rows.fnExactArchiveTextRow.laid W) :
    Calls Tryd.prog 3 args W fun e W' => ∃ v, e = .returned v ∧ Rows.fnExactArchiveTextSpec.post enc Tryd.prog Tryd.f3 false true false false W args v W' := by
  have hval : ∀ (j : Nat) t v, Tryd.f3.params[j]? = some t → args[j]? = some v → Value.okWide Tryd.prog W .any base t v := hval0
  have hW' := hW
  obtain ⟨p, q, hA0, hV, rfl, hfz, hnd⟩ := hW
  have hA : DataW.TrodAll enc Tryd.prog W 0 (fun _ => true) true Tryd.f3.params.toList args.toList ds p := hA0
  rw [Tryd.params3] at hA hval
  obtain ⟨v0, vs0, d0, ds0, p0, q0, hargs, rfl, rfl, h0, r0⟩ := trodAll_cons hA
  obtain ⟨rfl, rfl, rfl⟩ := trodAll_nil r0
  obtain rfl : args = #[v0] := by cases args; simp_all
  obtain ⟨rfl, rfl⟩ := trodVars_none hV
  have k0 := h0
  have lt0 : ∀ x ∈ p0, x.block < W.heap.size := by obtain ⟨m, hm⟩ := k0; exact DataW.trod_lt m _ _ _ hm
  obtain ⟨b0', len0', cap0', rfl⟩ := okWide_slice Tryd.underlying22 (hval 0 22 v0 rfl rfl)
  obtain ⟨fu0, hf0⟩ := h0
  obtain ⟨b0, cap0, l0, e0, hr0, hc0, hm0, hw0⟩ := structs22 (v := .slice b0' len0' cap0') hf0
  obtain ⟨rfl, rfl, rfl⟩ : b0' = b0 ∧ len0' = l0.length ∧ cap0' = cap0 := by simpa using e0
  obtain ⟨k, hk⟩ := Pure.FnExactArchiveText l0 hm0 hw0
  refine (P.laws_FnExactArchiveText.calls k _ _ l0 true W hr0 hc0 hk rfl (table hL)).mono fun e W' ⟨he, bel⟩ => ?_
  subst he
  exact ⟨_, rfl, _, _, _, [], _, [], hW', trodAll_mk1 (shut_bool Tryd.underlying4 _), (trodAll_cons_mk (Below.trod laidOut (by kernel_rfl) (of_decide_eq_true (by kernel_rfl)) k0 bel lt0) trodAll_mk0), rfl, bel.frame _, fun h => by cases h⟩
set_option maxRecDepth 100000 in
theorem lifted (os : Os) (started : os.Started) (H : Type) (enc : TypeId × Value → H) (F : Stop.Interp) :
    ReturnsInHanded {} Tryd.checked os 3 .any ((OpenSpec.ofChange Rows.fnExactArchiveTextSpec).preRow enc Tryd.prog Tryd.f3 Rows.fnExactArchiveTextRow.domain false Rows.fnExactArchiveTextRow.laid) (((OpenSpec.ofChange Rows.fnExactArchiveTextSpec).at F).post enc Tryd.prog Tryd.f3 false true false false) := by
  obtain ⟨places, hx⟩ := reads os enc
  refine returnsInHanded_of_row (C := Tryd.checked) (s := OpenSpec.ofChange Rows.fnExactArchiveTextSpec) own started (by kernel_rfl) Tryd.func3
    (witness_row_at (enc := enc) (C := Tryd.checked) false (laidWorld os) #[.slice none 0 0] rfl (by kernel_rfl) (by kernel_rfl) (by kernel_rfl)
      (OpenSpec.preRow_of_cond 8 hx (by kernel_rfl) (fun k hk => by cases hk) (by kernel_rfl) (laid_met os))) ?_
  intro W base args ds gs before hval hW _ _ _ hL _ _
  exact contract H enc W base args ds gs before hval hW hL
theorem said : Rows.FnExactArchiveTextSaid :=
  OpenClaim.holds_of_cond 3 Tryd.f3 rfl rfl rfl rfl rfl rfl rfl ⟨rfl, rfl, rfl, rfl, rfl⟩ rfl rfl rfl rfl rfl (by kernel_rfl) Tryd.func3 (by kernel_rfl)
    (of_decide_eq_true (by kernel_rfl)) (by unfold Func.isWrapper; first | (rw [if_pos (by decide +kernel)]; kernel_rfl) | (rw [if_neg (by decide +kernel)]; exact ⟨rfl, rfl⟩))
    (fun os started H enc _ F => by rw [OpenClaim.pre_eq_preRow]; exact lifted os started H enc F)
/-- No parameter wants a stand-in; the program's own looks are as the card says. -/
theorem plain (f : FuncId) (fn : Func) (hf : Tryd.pinned.checked.prog.funcNamed "loop.example/g00889/laws.FnExactArchiveText" = some f) (hfn : Tryd.pinned.checked.prog.funcs[f]? = some fn) :
    true = Tryd.pinned.checked.prog.looks [] ∧ ∀ (j : Nat) t, fn.params[j]? = some t → Tryd.pinned.checked.prog.wantsStandIn t = false := by
  obtain rfl : f = 3 := Option.some.inj ((show Tryd.prog.funcNamed "loop.example/g00889/laws.FnExactArchiveText" = some 3 by kernel_rfl).symm.trans hf) |>.symm
  obtain rfl : fn = Tryd.f3 := (Option.some.inj (Tryd.func3.symm.trans hfn)).symm
  refine ⟨by kernel_rfl, fun j t ht => ?_⟩
  rw [Tryd.params3] at ht
  have hm := Array.mem_of_getElem? ht
  simp only [List.mem_toArray, List.mem_cons, List.not_mem_nil, or_false] at hm
  obtain rfl := hm
  exact (show Tryd.prog.wantsStandIn 22 = false by kernel_rfl)
theorem proved : Rows.FnExactArchiveTextCardSaid :=
  Claim7.holds_tied_plain_at .later [] _ _ _ _ said (fun _ h => by cases h) (by kernel_rfl) (fun _ h => by cases h) fnExactArchiveText_row_tie rfl ⟨rfl, rfl⟩ (by kernel_rfl) rfl plain (by kernel_rfl)
#print axioms proved
end Go.Proofs.YtgmmanppmjlclaaDoor.fnExactArchiveText
namespace Go.Proofs.YtgmmanppmjlclaaDoor
/-- The row, under a short name, for the claim. -/
theorem fnExactArchiveText_holds : Rows.FnExactArchiveTextCardSaid := fnExactArchiveText.proved
end Go.Proofs.YtgmmanppmjlclaaDoor
