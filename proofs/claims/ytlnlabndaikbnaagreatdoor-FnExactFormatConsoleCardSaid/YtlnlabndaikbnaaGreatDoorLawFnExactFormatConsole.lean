-- Made by rowy.py of this session; Lean checks it.
import Derived.Test.YtlnlabndaikbnaaGreatDoorRows
import Derived.Test.YtlnlabndaikbnaaGreatDoorCards
import Derived.Test.YtlnlabndaikbnaaGreatDoorTie
import Derived.Test.YtlnlabndaikbnaaGreatDoorPx25
import Derived.Test.YtlnlabndaikbnaaGreatDoorPureFnExactFormatConsole
import Derived.WalkKit
import Derived.ProofKit
import Derived.OpenShut
import Derived.ShutString
import Derived.ChangeOld
import Derived.Below
import Derived.SizedLaws
import Derived.Deep.Strs
import Derived.Deep.Slices
import Derived.Deep.Fields
import Derived.ChangeSame
import Derived.Deep.DeepHandedRow
import Derived.Lib.LaidTab
import Derived.SevenTiedAt
import Derived.Stop.LaidErr
import Derived.Lay
import Derived.Deep.DeepWitnessRowRef
import Derived.ChangeSlices
namespace Go.Proofs.YtlnlabndaikbnaaGreatDoor.fnExactFormatConsole
open Go.ChangeShapes Go.WideShapes Go.ChangeAt Go.RowKit Go.Deep Go.Proofs.YtlnlabndaikbnaaGreatDoor.P Go.Proofs.YtlnlabndaikbnaaGreatDoorW.PrintWords Go.Proofs.YtlnlabndaikbnaaGreatDoorW.PrintLast
open Go.ChangeMaps (open_string shut_string)
set_option linter.unusedVariables false
set_option linter.unusedSimpArgs false
theorem own : ownKnob Tryz.prog.godebug = none := by kernel_rfl
theorem laidOut : laidOutB Tryz.prog = true := by kernel_rfl
theorem arr4 (cs : Array Value) (h : cs.size = 4) : ∃ a0_ a1_ a2_ a3_, cs = #[a0_, a1_, a2_, a3_] := by
  obtain ⟨l⟩ := cs
  match l, h with
  | [a0_, a1_, a2_, a3_], _ => exact ⟨a0_, a1_, a2_, a3_, rfl⟩
section
variable {H : Type} {enc : TypeId × Value → H} {P : Program} {w : World} {base : Nat} {spare : Nat → Bool} {held : Bool}
theorem open_slice_fields {t e : TypeId} {fs : Array Field} {fuel : Nat} {cs : List Value} {x : DataW H × List MemPlace} (ht : P.underlying t = some (.slice e)) (he : P.underlying e = some (.struct fs))
    (hone : oneCellFields P fs = true) (hC : P.cellsOf e = fs.size) (h : DataW.trod enc P w base spare held fuel t cs = some x) :
    (cs = [.slice none 0 0]) ∨
    ∃ (a : Addr) (len cap m : Nat), cs = [.slice (some a) len cap] ∧ len ≤ cap ∧ cap ≤ maxLen ∧ len ≤ m ∧
      ∀ i, i < m → ∃ (n : Nat), ∀ (j : Nat) (f : Field), fs[j]? = some f → ∃ (v : Value) (y : DataW H × List MemPlace), w.cell? (a.add (i * fs.size + j)) = some v ∧ DataW.trod enc P w base spare held n f.type [v] = some y := by
  rcases open_slice ht h with h0 | ⟨a, len, cap, m, n, D, Pl, hcs, hb, hl, hm, hmm, hx, hi⟩
  · exact .inl h0.1
  · refine .inr ⟨a, len, cap, m, hcs, hl, hm, by rw [hmm]; split <;> omega, fun i him => ?_⟩
    obtain ⟨cs', hc, ht'⟩ := hi i him
    rw [hC] at hc
    obtain ⟨ys, n', hn', hy, hlen, hyl, hf⟩ := DataW.trod_struct he ht'
    obtain ⟨_, hcl, hat⟩ := World.cells?_some hc
    refine ⟨n', fun j f hj => ?_⟩
    obtain ⟨ho, hk⟩ := hone_of hone j f hj
    have hjl : j < fs.size := (Array.getElem?_eq_some_iff.1 hj).1
    have hcell := hat j hjl
    have hv : cs'[j]? = some (cs'[j]'(by omega)) := List.getElem?_eq_getElem (by omega)
    have h1 := hf j f hj
    rw [ho, hk] at h1
    have hone' : (cs'.drop j).take 1 = [cs'[j]'(by omega)] := by
      rw [List.drop_eq_getElem_cons (by omega)]
      rfl
    rw [hone'] at h1
    have hys : ys[j]? = some (ys[j]'(by omega)) := List.getElem?_eq_getElem (by omega)
    refine ⟨_, _, ?_, h1.trans hys⟩
    rw [← Go.Deep.add_add, hcell, hv]
end
theorem structs22 {H : Type} {enc : TypeId × Value → H} {W : World} {fuel : Nat} {v : Value} {x : DataW H × List MemPlace} (h : DataW.trod enc Tryz.prog W 0 (fun _ => true) true fuel 22 [v] = some x) : ∃ a cap, ∃ zs : List S78, v = .slice a zs.length cap ∧ Kd.C k78 W a zs.length zs ∧ zs.length ≤ cap ∧ zs.length ≤ maxLen ∧ ∀ z ∈ zs, (Lit.int .i64 z.f0).wf = true ∧ (Lit.int .i64 z.f1).wf = true ∧ (Lit.int .i64 z.f2).wf = true ∧ (Lit.int .i64 z.f3).wf = true ∧ (Lit.int .i64 z.f4).wf = true ∧ (Lit.int .i64 z.f5).wf = true := by
  rcases open_slice_fields Tryz.underlying22 Tryz.underlying78 (by kernel_rfl) (by kernel_rfl) h with hcs | ⟨a, len, cap, m, hcs, hl, hm, hlm, hi⟩
  · simp at hcs
    exact ⟨none, 0, [], hcs, Kd.C_nil _ _, by simp, by simp, fun z hz => by simp at hz⟩
  · simp at hcs
    have hz : ∀ i, ∃ z : S78, i < m → (W.cell? (a.add (i * 6 + 0)) = some (.int .i64 z.f0) ∧ W.cell? (a.add (i * 6 + 1)) = some (.int .i64 z.f1) ∧ W.cell? (a.add (i * 6 + 2)) = some (.int .i64 z.f2) ∧ W.cell? (a.add (i * 6 + 3)) = some (.int .i64 z.f3) ∧ W.cell? (a.add (i * 6 + 4)) = some (.int .i64 z.f4) ∧ W.cell? (a.add (i * 6 + 5)) = some (.int .i64 z.f5)) ∧ (Lit.int .i64 z.f0).wf = true ∧ (Lit.int .i64 z.f1).wf = true ∧ (Lit.int .i64 z.f2).wf = true ∧ (Lit.int .i64 z.f3).wf = true ∧ (Lit.int .i64 z.f4).wf = true ∧ (Lit.int .i64 z.f5).wf = true := by
      intro i
      by_cases him : i < m
      · obtain ⟨n', hf⟩ := hi i him
        obtain ⟨v0, y0, c0, t0⟩ := hf 0 _ rfl
        obtain ⟨a0, hq0, _, w0⟩ := DataW.trod_int Tryz.underlying3 t0
        obtain rfl : v0 = .int .i64 a0 := by simpa using hq0
        obtain ⟨v1, y1, c1, t1⟩ := hf 1 _ rfl
        obtain ⟨a1, hq1, _, w1⟩ := DataW.trod_int Tryz.underlying3 t1
        obtain rfl : v1 = .int .i64 a1 := by simpa using hq1
        obtain ⟨v2, y2, c2, t2⟩ := hf 2 _ rfl
        obtain ⟨a2, hq2, _, w2⟩ := DataW.trod_int Tryz.underlying3 t2
        obtain rfl : v2 = .int .i64 a2 := by simpa using hq2
        obtain ⟨v3, y3, c3, t3⟩ := hf 3 _ rfl
        obtain ⟨a3, hq3, _, w3⟩ := DataW.trod_int Tryz.underlying3 t3
        obtain rfl : v3 = .int .i64 a3 := by simpa using hq3
        obtain ⟨v4, y4, c4, t4⟩ := hf 4 _ rfl
        obtain ⟨a4, hq4, _, w4⟩ := DataW.trod_int Tryz.underlying3 t4
        obtain rfl : v4 = .int .i64 a4 := by simpa using hq4
        obtain ⟨v5, y5, c5, t5⟩ := hf 5 _ rfl
        obtain ⟨a5, hq5, _, w5⟩ := DataW.trod_int Tryz.underlying3 t5
        obtain rfl : v5 = .int .i64 a5 := by simpa using hq5
        exact ⟨⟨a0, a1, a2, a3, a4, a5⟩, fun _ => ⟨⟨c0, c1, c2, c3, c4, c5⟩, w0, w1, w2, w3, w4, w5⟩⟩
      · exact ⟨z78, fun h => absurd h him⟩
    have hZ := fun i => Classical.choose_spec (hz i)
    generalize hzz : (fun i => Classical.choose (hz i)) = Z at hZ
    have hZ' : ∀ i, i < m → (W.cell? (a.add (i * 6 + 0)) = some (.int .i64 (Z i).f0) ∧ W.cell? (a.add (i * 6 + 1)) = some (.int .i64 (Z i).f1) ∧ W.cell? (a.add (i * 6 + 2)) = some (.int .i64 (Z i).f2) ∧ W.cell? (a.add (i * 6 + 3)) = some (.int .i64 (Z i).f3) ∧ W.cell? (a.add (i * 6 + 4)) = some (.int .i64 (Z i).f4) ∧ W.cell? (a.add (i * 6 + 5)) = some (.int .i64 (Z i).f5)) ∧ (Lit.int .i64 (Z i).f0).wf = true ∧ (Lit.int .i64 (Z i).f1).wf = true ∧ (Lit.int .i64 (Z i).f2).wf = true ∧ (Lit.int .i64 (Z i).f3).wf = true ∧ (Lit.int .i64 (Z i).f4).wf = true ∧ (Lit.int .i64 (Z i).f5).wf = true := fun i h => by have := hZ i h; rw [← hzz]; exact this
    refine ⟨some a, cap, (List.range len).map Z, by simp [hcs], ⟨by simp, by simp only [maxLen] at hm; simp; omega, fun _ => ⟨a, rfl, fun j p hj => ?_⟩⟩, by simp; exact hl, by simp; omega, fun z hz => ?_⟩
    · obtain ⟨hjl, rfl⟩ := List.getElem?_eq_some_iff.1 hj
      have hjl' : j < len := by simpa using hjl
      have h2 := (hZ' j (by omega)).1
      simp only [List.getElem_map, List.getElem_range]
      refine ⟨[.int .i64 (Z j).f0, .int .i64 (Z j).f1, .int .i64 (Z j).f2, .int .i64 (Z j).f3, .int .i64 (Z j).f4, .int .i64 (Z j).f5], rfl, k78_mk W (Z j), fun i u hu => ?_⟩
      match i, hu with
      | 0, hu => simp only [List.getElem?_cons_zero, List.getElem?_cons_succ] at hu; rw [← Option.some.inj hu]; exact h2.1
      | 1, hu => simp only [List.getElem?_cons_zero, List.getElem?_cons_succ] at hu; rw [← Option.some.inj hu]; exact h2.2.1
      | 2, hu => simp only [List.getElem?_cons_zero, List.getElem?_cons_succ] at hu; rw [← Option.some.inj hu]; exact h2.2.2.1
      | 3, hu => simp only [List.getElem?_cons_zero, List.getElem?_cons_succ] at hu; rw [← Option.some.inj hu]; exact h2.2.2.2.1
      | 4, hu => simp only [List.getElem?_cons_zero, List.getElem?_cons_succ] at hu; rw [← Option.some.inj hu]; exact h2.2.2.2.2.1
      | 5, hu => simp only [List.getElem?_cons_zero, List.getElem?_cons_succ] at hu; rw [← Option.some.inj hu]; exact h2.2.2.2.2.2
      | i + 6, hu => simp at hu
    · obtain ⟨i, hi2, rfl⟩ := List.mem_map.1 hz
      exact (hZ' i (by have := List.mem_range.1 hi2; omega)).2
open Go.Lib in
theorem cells_of_words {H : Type} {enc : TypeId × Value → H} {P : Program} {w : World} {base : Nat} {sp : Nat → Bool} {held : Bool} {fuel : Nat} {t e : TypeId} {n : Nat} {cs : List Value} {zs : List ByteArray} {p : List MemPlace}
    (ht : P.underlying t = some (.array n e)) (he : P.underlying e = some .string) (hce : P.cellsOf e = 1) (hct : P.cellsOf t = n)
    (h : DataW.trod enc P w base sp held fuel t cs = some (.agg (zs.map fun z => .lit (.string z.data.toList)), p)) : cs = zs.map Value.string := by
  cases fuel with
  | zero => simp [DataW.trod] at h
  | succ fuel =>
    simp only [DataW.trod, ht, hce, hct, Nat.mul_one] at h
    split at h
    · rename_i hl
      obtain ⟨xs, hm, hx⟩ := Option.map_eq_some_iff.1 h
      have hxs : xs.map (·.1) = zs.map fun z => (DataW.lit (.string z.data.toList) : DataW H) := by
        have := congrArg Prod.fst hx
        simpa using this
      have hxl : xs.length = n := by simpa using mapM_length hm
      have hzl : zs.length = n := by
        have := congrArg List.length hxs
        simp at this
        omega
      apply List.ext_getElem?
      intro i
      by_cases hi : i < n
      · obtain ⟨b, hb, hf⟩ := mapM_at hm i i (by simp [hi])
        obtain ⟨s, hc, rfl, _⟩ := DataW.trod_string he hf
        have h1 : cs[i]? = some (.string s) := by
          have := congrArg (·[0]?) hc
          simpa [List.getElem?_take, List.getElem?_drop] using this
        have h2 : (xs.map (·.1))[i]? = some (DataW.lit (.string s.data.toList) : DataW H) := by simp [hb]
        rw [hxs] at h2
        simp only [List.getElem?_map, Option.map_eq_some_iff, DataW.lit.injEq, Lit.string.injEq] at h2
        obtain ⟨z', hz', e'⟩ := h2
        have e2 : z' = s := ByteArray.ext (Array.toList_inj.1 e')
        subst e2
        simp [h1, hz']
      · rw [List.getElem?_eq_none (by omega), List.getElem?_eq_none (by simp; omega)]
    · cases h
theorem words_of {P : Program} {W : World} {name : String} {zs : List ByteArray} {rest : List (String × DataW Unit)} {g : Nat} {t e : TypeId} {n : Nat}
    (hg : P.globalNamed name = some g) (hty : (P.globals[g]?).map (·.type) = some t) (ht : P.underlying t = some (.array n e)) (he : P.underlying e = some .string) (hce : P.cellsOf e = 1) (hct : P.cellsOf t = n)
    (h : laidMet P ((name, .agg (zs.map fun z => .lit (.string z.data.toList))) :: rest) W) : W.var? P name = some (zs.map Value.string).toArray := by
  obtain ⟨ps, ⟨g', t', cs, fuel, p, q, hg', ht', hvar, hd, _, _⟩, _⟩ := h
  obtain rfl := Option.some.inj (hg.symm.trans hg')
  obtain rfl := Option.some.inj (hty.symm.trans ht')
  rw [hvar, ← cells_of_words ht he hce hct hd]
theorem trod_words_any {H : Type} {enc : TypeId × Value → H} {P : Program} {W W' : World} {base base' : Nat} {sp sp' : Nat → Bool} {held : Bool} {fuel : Nat} {t e : TypeId} {n : Nat} {cs : List Value}
    (ht : P.underlying t = some (.array n e)) (he : P.underlying e = some .string) : DataW.trod enc P W base sp held fuel t cs = DataW.trod enc P W' base' sp' held fuel t cs := by
  cases fuel with
  | zero => rfl
  | succ fuel =>
    have inner : ∀ l, DataW.trod enc P W base sp held fuel e l = DataW.trod enc P W' base' sp' held fuel e l := by
      intro l
      cases fuel with
      | zero => rfl
      | succ m =>
        simp only [DataW.trod, he]
        rcases l with _ | ⟨v, _ | ⟨v2, r⟩⟩
        · rfl
        · cases v <;> rfl
        · cases v <;> rfl
    simp only [DataW.trod, ht, inner]
theorem table {W : World} (hL : laidMetH Tryz.prog Rows.fnExactFormatConsoleRow.laid W) : GW W := by
  have h0 : laidMet Tryz.prog [("math/bits.deBruijn32tab", Rows.laid_math_bits_deBruijn32tab), ("math/bits.deBruijn64tab", Rows.laid_math_bits_deBruijn64tab), ("internal/strconv.uint64pow10", Rows.laid_internal_strconv_uint64pow10), ("unicode/utf8.acceptRanges", Rows.laid_unicode_utf8_acceptRanges), ("loop.example/g00889/impl.levelWords", Rows.laid_loop_example_g00889_impl_levelWords), ("loop.example/g00889/impl.topicWords", Rows.laid_loop_example_g00889_impl_topicWords), ("unicode.CaseRanges", Rows.laid_unicode_CaseRanges), ("unicode/utf8.first", Rows.laid_unicode_utf8_first)] W := hL
  have hT := laidMet.tail (laidMet.tail (h0))
  rw [show (Rows.laid_internal_strconv_uint64pow10 : DataW Unit) = Lib.tabData .u64 Lib.pow10Tab by rfl] at hT
  have hlevelWords := laidMet.tail (laidMet.tail (laidMet.tail (laidMet.tail (h0))))
  rw [show (Rows.laid_loop_example_g00889_impl_levelWords : DataW Unit) = .agg (levelL.map fun z => .lit (.string z.data.toList)) by rfl] at hlevelWords
  have wlevelWords := words_of (g := 0) (t := 108) (e := 9) (n := 4) (by kernel_rfl) (by kernel_rfl) Tryz.underlying108 Tryz.underlying9 (by kernel_rfl) (by kernel_rfl) hlevelWords
  have htopicWords := laidMet.tail (laidMet.tail (laidMet.tail (laidMet.tail (laidMet.tail (h0)))))
  rw [show (Rows.laid_loop_example_g00889_impl_topicWords : DataW Unit) = .agg (topicL.map fun z => .lit (.string z.data.toList)) by rfl] at htopicWords
  have wtopicWords := words_of (g := 1) (t := 109) (e := 9) (n := 6) (by kernel_rfl) (by kernel_rfl) Tryz.underlying109 Tryz.underlying9 (by kernel_rfl) (by kernel_rfl) htopicWords
  exact ⟨Lib.tabIs_of_head (g := 3) (n := 20) (t := 212) (e := 92) (by kernel_rfl) (by kernel_rfl) Tryz.underlying212 Tryz.underlying92 (by kernel_rfl) (by kernel_rfl) hT, ⟨wlevelWords, wtopicWords⟩⟩
noncomputable def laidWorld (os : Os) : World := World.laidAll Tryz.prog os Rows.fnExactFormatConsoleRow.laid
theorem laid_met (os : Os) : laidMet Tryz.prog Rows.fnExactFormatConsoleRow.laid ((laidWorld os).forCall (fun _ _ => 0) ⟨#[], #[.agg #[.slice none 0 0, .string ⟨#[]⟩, .string ⟨#[]⟩, .int .i64 0]], []⟩).memory :=
  laidMet_laidAll _ (by kernel_rfl) (by kernel_rfl)
theorem reads (os : Os) {H : Type} (enc : TypeId × Value → H) : ∃ places, DataW.whole enc Tryz.prog ((laidWorld os).forCall (fun _ _ => 0) ⟨#[], #[.agg #[.slice none 0 0, .string ⟨#[]⟩, .string ⟨#[]⟩, .int .i64 0]], []⟩).memory Tryz.f3.params.toList Rows.fnExactFormatConsoleSpec.vars false (#[.agg #[.slice none 0 0, .string ⟨#[]⟩, .string ⟨#[]⟩, .int .i64 0]] : Array Value).toList 8 = some ([.agg [.nil, .agg [.lit (.string []), .lit (.string []), .lit (.int .i64 0)]]], [Rows.laid_loop_example_g00889_impl_levelWords, Rows.laid_loop_example_g00889_impl_topicWords], places) :=
  ⟨(MemPlace.row ⟨0, 0, none⟩ 4 ++ []) ++ (MemPlace.row ⟨1, 0, none⟩ 6 ++ []), by kernel_rfl⟩
set_option maxRecDepth 100000 in
theorem contract (H : Type) (enc : TypeId × Value → H) (W : World) (base : Nat) (args : Array Value) (ds gs : List (DataW H)) (before : List MemPlace)
    (hval0 : ∀ (j : Nat) t v, Tryz.f3.params[j]? = some t → args[j]? = some v → Value.okWide Tryz.prog W .any base t v)
    (hW : DataW.Whole enc Tryz.prog Tryz.f3.params.toList Rows.fnExactFormatConsoleSpec.vars false W args.toList ds gs before) (hL : laidMetH Tryz.prog Rows.fnExactFormatConsoleRow.laid W) :
    Calls Tryz.prog 3 args W fun e W' => ∃ v, e = .returned v ∧ Rows.fnExactFormatConsoleSpec.post enc Tryz.prog Tryz.f3 false true false false W args v W' := by
  have hval : ∀ (j : Nat) t v, Tryz.f3.params[j]? = some t → args[j]? = some v → Value.okWide Tryz.prog W .any base t v := hval0
  have hW' := hW
  obtain ⟨p, q, hA0, hV, rfl, hfz, hnd⟩ := hW
  have hA : DataW.TrodAll enc Tryz.prog W 0 (fun _ => true) true Tryz.f3.params.toList args.toList ds p := hA0
  rw [Tryz.params3] at hA hval
  obtain ⟨v0, vs0, d0, ds0, p0, q0, hargs, rfl, rfl, h0, r0⟩ := trodAll_cons hA
  obtain ⟨rfl, rfl, rfl⟩ := trodAll_nil r0
  obtain rfl : args = #[v0] := by cases args; simp_all

  obtain ⟨g0, t0, cs0, f0, e0, pp0, g1, t1, cs1, f1, e1, pp1, rfl, hg0, ht0, hv0, hd0, hg1, ht1, hv1, hd1, rfl⟩ := trodVars_two hV
  obtain rfl := Option.some.inj ((by kernel_rfl : Tryz.prog.globalNamed "loop.example/g00889/impl.levelWords" = some 0).symm.trans hg0)
  obtain rfl := Option.some.inj ((by kernel_rfl : (Tryz.prog.globals[0]?).map (·.type) = some 108).symm.trans ht0)
  obtain rfl := Option.some.inj ((by kernel_rfl : Tryz.prog.globalNamed "loop.example/g00889/impl.topicWords" = some 1).symm.trans hg1)
  obtain rfl := Option.some.inj ((by kernel_rfl : (Tryz.prog.globals[1]?).map (·.type) = some 109).symm.trans ht1)
  have k0 := h0
  have lt0 : ∀ x ∈ p0, x.block < W.heap.size := by obtain ⟨m, hm⟩ := k0; exact DataW.trod_lt m _ _ _ hm
  obtain ⟨cs0, rfl, hn0⟩ := okWide_struct Tryz.underlying26 (hval 0 26 v0 rfl rfl)
  obtain ⟨c0_0, c0_1, c0_2, c0_3, rfl⟩ := arr4 cs0 (by rw [hn0]; kernel_rfl)
  obtain ⟨fu0, hf0⟩ := h0
  obtain ⟨y0_0, y0_1, n0, _, _, t0_0, t0_1⟩ := trod_struct2 Tryz.underlying26 hf0
  have u0_0 : DataW.trod enc Tryz.prog W 0 (fun _ => true) true n0 22 [c0_0] = some y0_0 := by
    have e1 : Tryz.prog.cellsOf 22 = 1 := by kernel_rfl
    simpa [Value.cells, e1] using t0_0
  obtain ⟨b0_0, cap0_0, l0_0, rfl, hr0_0, hc0_0, hm0_0, hw0_0⟩ := structs22 u0_0
  have us0_1 : DataW.trod enc Tryz.prog W 0 (fun _ => true) true n0 24 [c0_1, c0_2, c0_3] = some y0_1 := by
    have e1 : Tryz.prog.cellsOf 24 = 3 := by kernel_rfl
    simpa [Value.cells, e1] using t0_1
  obtain ⟨y0_1_0, y0_1_1, y0_1_2, n0_0_1, _, _, t0_1_0, t0_1_1, t0_1_2⟩ := trod_struct3 Tryz.underlying24 us0_1
  have u0_1 : DataW.trod enc Tryz.prog W 0 (fun _ => true) true n0_0_1 9 [c0_1] = some y0_1_0 := by
    have e1 : Tryz.prog.cellsOf 9 = 1 := by kernel_rfl
    simpa [Value.cells, e1] using t0_1_0
  obtain ⟨a0_1, hq0_1, _, w0_1⟩ := DataW.trod_string Tryz.underlying9 u0_1
  obtain rfl : c0_1 = .string a0_1 := by simpa using hq0_1
  have u0_2 : DataW.trod enc Tryz.prog W 0 (fun _ => true) true n0_0_1 9 [c0_2] = some y0_1_1 := by
    have e1 : Tryz.prog.cellsOf 9 = 1 := by kernel_rfl
    simpa [Value.cells, e1] using t0_1_1
  obtain ⟨a0_2, hq0_2, _, w0_2⟩ := DataW.trod_string Tryz.underlying9 u0_2
  obtain rfl : c0_2 = .string a0_2 := by simpa using hq0_2
  have u0_3 : DataW.trod enc Tryz.prog W 0 (fun _ => true) true n0_0_1 3 [c0_3] = some y0_1_2 := by
    have e1 : Tryz.prog.cellsOf 3 = 1 := by kernel_rfl
    simpa [Value.cells, e1] using t0_1_2
  obtain ⟨a0_3, hq0_3, _, w0_3⟩ := DataW.trod_int Tryz.underlying3 u0_3
  obtain rfl : c0_3 = .int .i64 a0_3 := by simpa using hq0_3
  obtain ⟨k, hk⟩ := Pure.FnExactFormatConsole l0_0 a0_1 a0_2 a0_3 hm0_0 hw0_0 w0_1 w0_2 w0_3
  refine (P.laws_FnExactFormatConsole.calls k _ _ l0_0 a0_1 a0_2 a0_3 true W hr0_0 hc0_0 hk rfl (table hL)).mono fun e W' ⟨he, bel⟩ => ?_
  subst he
  have hw0 := var_below hg0 hv0 bel
  have hk0 := (trod_words_any (W' := W') (base' := 0) (sp' := fun b => decide (b < W.heap.size)) Tryz.underlying108 Tryz.underlying9).symm.trans hd0
  have hw1 := var_below hg1 hv1 bel
  have hk1 := (trod_words_any (W' := W') (base' := 0) (sp' := fun b => decide (b < W.heap.size)) Tryz.underlying109 Tryz.underlying9).symm.trans hd1
  exact ⟨_, rfl, _, _, _, [], _, _, hW', trodAll_mk1 (shut_bool Tryz.underlying4 _), (trodAll_cons_mk (Below.trod laidOut (by kernel_rfl) (of_decide_eq_true (by kernel_rfl)) k0 bel lt0) trodAll_mk0), ⟨_, _, _, _, _, _, hg0, ht0, hw0, hk0, ⟨_, _, _, _, _, _, hg1, ht1, hw1, hk1, rfl, rfl⟩, rfl⟩, bel.frame _, fun h => by cases h⟩
set_option maxRecDepth 100000 in
theorem lifted (os : Os) (started : os.Started) (H : Type) (enc : TypeId × Value → H) (F : Stop.Interp) :
    ReturnsInHanded {} Tryz.checked os 3 .any ((OpenSpec.ofChange Rows.fnExactFormatConsoleSpec).preRow enc Tryz.prog Tryz.f3 Rows.fnExactFormatConsoleRow.domain false Rows.fnExactFormatConsoleRow.laid) (((OpenSpec.ofChange Rows.fnExactFormatConsoleSpec).at F).post enc Tryz.prog Tryz.f3 false true false false) := by
  obtain ⟨places, hx⟩ := reads os enc
  refine returnsInHanded_of_row (C := Tryz.checked) (s := OpenSpec.ofChange Rows.fnExactFormatConsoleSpec) own started (by kernel_rfl) Tryz.func3
    (witness_row_atRef (enc := enc) (C := Tryz.checked) false (laidWorld os) #[.agg #[.slice none 0 0, .string ⟨#[]⟩, .string ⟨#[]⟩, .int .i64 0]] (World.laidAll_os _ _ _) (by kernel_rfl) (by kernel_rfl) (by kernel_rfl)
      (OpenSpec.preRow_of_cond 8 hx (by kernel_rfl) (fun k hk => by cases hk) (by kernel_rfl) (laid_met os))) ?_
  intro W base args ds gs before hval hW _ _ _ hL _ _
  exact contract H enc W base args ds gs before hval hW hL
theorem said : Rows.FnExactFormatConsoleSaid :=
  OpenClaim.holds_of_cond 3 Tryz.f3 rfl rfl rfl rfl rfl rfl rfl ⟨rfl, rfl, rfl, rfl, rfl⟩ rfl rfl rfl rfl rfl (by kernel_rfl) Tryz.func3 (by kernel_rfl)
    (of_decide_eq_true (by kernel_rfl)) (by unfold Func.isWrapper; first | (rw [if_pos (by decide +kernel)]; kernel_rfl) | (rw [if_neg (by decide +kernel)]; exact ⟨rfl, rfl⟩))
    (fun os started H enc _ F => by rw [OpenClaim.pre_eq_preRow]; exact lifted os started H enc F)
/-- No parameter wants a stand-in; the program's own looks are as the card says. -/
theorem plain (f : FuncId) (fn : Func) (hf : Tryz.pinned.checked.prog.funcNamed "loop.example/g00889/laws.FnExactFormatConsole" = some f) (hfn : Tryz.pinned.checked.prog.funcs[f]? = some fn) :
    true = Tryz.pinned.checked.prog.looks [] ∧ ∀ (j : Nat) t, fn.params[j]? = some t → Tryz.pinned.checked.prog.wantsStandIn t = false := by
  obtain rfl : f = 3 := Option.some.inj ((show Tryz.prog.funcNamed "loop.example/g00889/laws.FnExactFormatConsole" = some 3 by kernel_rfl).symm.trans hf) |>.symm
  obtain rfl : fn = Tryz.f3 := (Option.some.inj (Tryz.func3.symm.trans hfn)).symm
  refine ⟨by kernel_rfl, fun j t ht => ?_⟩
  rw [Tryz.params3] at ht
  have hm := Array.mem_of_getElem? ht
  simp only [List.mem_toArray, List.mem_cons, List.not_mem_nil, or_false] at hm
  obtain rfl := hm
  exact (show Tryz.prog.wantsStandIn 26 = false by kernel_rfl)
theorem proved : Rows.FnExactFormatConsoleCardSaid :=
  Claim7.holds_tied_plain_at .later [] _ _ _ _ said (fun _ h => by cases h) (by kernel_rfl) (fun _ h => by cases h) fnExactFormatConsole_row_tie rfl ⟨rfl, rfl⟩ (by kernel_rfl) rfl plain (by kernel_rfl)
#print axioms proved
end Go.Proofs.YtlnlabndaikbnaaGreatDoor.fnExactFormatConsole
namespace Go.Proofs.YtlnlabndaikbnaaGreatDoor
/-- The row, under a short name, for the claim. -/
theorem fnExactFormatConsole_holds : Rows.FnExactFormatConsoleCardSaid := fnExactFormatConsole.proved
end Go.Proofs.YtlnlabndaikbnaaGreatDoor
