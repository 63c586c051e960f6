-- Made by pp.py of this session out of the kit's print and of contracts proved by hand; Lean checks it.
import Derived.Test.YthhjhbndnipdgaaShelf
import Derived.Shelf.GgSortFunc.RowK
import Derived.Lib.OwnBridge
import Derived.Test.YthhjhbndnipdgaaPx0
import Derived.Test.YthhjhbndnipdgaaPx3
import Derived.Test.YthhjhbndnipdgaaPx6
import Derived.Test.YthhjhbndnipdgaaPx7
namespace Go.Proofs.Ythhjhbndnipdgaa.P
open Go.RowKit Go.Proofs.YthhjhbndnipdgaaW.PrintWords Go.Proofs.YthhjhbndnipdgaaW.PrintLast Go.Proofs.YthhjhbndnipdgaaW.PrintMore
attribute [local go_sem] max2_int min2_int max_two min_two max_three min_three max_four min_four   -- for this text's walks alone
set_option linter.unusedVariables false
set_option linter.unusedSimpArgs false

-- ALONE
/-! ### slices_SortFunc_impl_Duty: function 65 -/
/-- The order of duties: by begin, then by person. -/
def cmpD (x y : S44) : Int := if x.f1 < y.f1 then -1 else if y.f1 < x.f1 then 1 else if x.f0 < y.f0 then -1 else if y.f0 < x.f0 then 1 else 0
instance : Inhabited S44 := ⟨z44⟩
def sortD (l : List S44) : List S44 := (Go.Sort.pdq (ltOf cmpD) l.toArray 0 l.toArray.size (Lib.bitLen l.toArray.size) true true).toList
def encD (x : S44) : List Value := [.int .i64 x.f0, .int .i64 x.f1, .int .i64 x.f2]
theorem flatD : FlatK k44 encD 3 := ⟨rfl, by decide, fun _ => rfl, fun h => k44_openM h, fun _ _ _ x => k44_mkM _ _ _ x⟩
theorem ltD (x y : S44) : ltOf cmpD x y = decide (x.f1 < y.f1 ∨ (x.f1 = y.f1 ∧ x.f0 < y.f0)) := by
  unfold ltOf cmpD
  by_cases h1 : x.f1 < y.f1
  · simp [h1]
  · by_cases h2 : y.f1 < x.f1
    · rw [if_neg h1, if_pos h2, decide_eq_false (by omega), decide_eq_false (by omega)]
    · by_cases h3 : x.f0 < y.f0
      · rw [if_neg h1, if_neg h2, if_pos h3, decide_eq_true (by omega), decide_eq_true (by omega)]
      · by_cases h4 : y.f0 < x.f0
        · rw [if_neg h1, if_neg h2, if_neg h3, if_pos h4, decide_eq_false (by omega), decide_eq_false (by omega)]
        · rw [if_neg h1, if_neg h2, if_neg h3, if_neg h4, decide_eq_false (by omega), decide_eq_false (by omega)]
theorem swoD : Go.Sort.SWO (ltOf cmpD) where
  irrefl x := by rw [ltD]; simp
  trans x y z h1 h2 := by rw [ltD] at *; simp at *; omega
  ntrans x y z h1 h2 := by rw [ltD] at *; simp at *; omega
theorem compare_int (x y : Int) : cmp_Compare_int.f x y = some (if x < y then -1 else if y < x then 1 else 0) := by
  unfold cmp_Compare_int.f cmp_isNaN_int.f
  simp
  split <;> (try rfl) <;> split <;> rfl
theorem or_int (a b : Int) : cmp_Or_int.f 3 [a, b] = some (if a ≠ 0 then a else b) := by
  unfold cmp_Or_int.f
  by_cases ha : a = 0
  · subst ha
    by_cases hb : b = 0
    · subst hb; simp [cmp_Or_int.l0, rd, wrap64]
    · simp [cmp_Or_int.l0, rd, wrap64, hb]
  · simp [cmp_Or_int.l0, rd, wrap64, ha]
theorem compareD_f (x y : S44) : impl_compareDuties.f 3 x.f0 x.f1 x.f2 y.f0 y.f1 y.f2 = some (cmpD x y) := by
  unfold impl_compareDuties.f cmpD
  rw [compare_int, compare_int]
  simp only [Option.bind_some, or_int]
  by_cases h1 : x.f1 < y.f1
  · simp [h1]
  · by_cases h2 : y.f1 < x.f1
    · simp [h1, h2]
    · simp [h1, h2]
theorem cmpLaysD (blk off size : Nat) (w : World) : CmpLays Try.prog 53 #[] encD 3 cmpD blk off size w :=
  fun _ _ _ _ x y => (impl_compareDuties.grown 3 x.f0 x.f1 x.f2 y.f0 y.f1 y.f2 (cmpD x y) _ (compareD_f x y)).mono fun _ _ ⟨he, hg⟩ => ⟨he, hg⟩
def slices_SortFunc_impl_Duty.f (l0 : List S44) : Option (List S44) := if l0.length < 4611686018427387904 then some (sortD l0) else none
theorem pdq_size (l : List S44) : (sortD l).length = l.length := by
  have h := (Go.Sort.pdq_sorts (ltOf cmpD) swoD l.toArray 0 l.toArray.size (Lib.bitLen l.toArray.size) true true (Nat.zero_le _) (Nat.le_refl _) (Or.inl rfl)).1
  have := h.1
  simpa [sortD] using this
set_option maxHeartbeats 8000000 in
set_option maxRecDepth 100000 in
theorem slices_SortFunc_impl_Duty.calls (P0_ : Nat → Prop) (u9000_ : Value) (l0 : List (S44)) (r : List (S44)) (w0 w : World) (hB : Below w0.heap.size w0 w) (ho0 : Kd.R k44 44 w w0.heap.size P0_ u9000_ l0) (h : slices_SortFunc_impl_Duty.f l0 = some r) :
    Calls Try.prog 65 #[u9000_, .func (.func 53) #[] #[]] w fun e w' => e = .returned (.tuple #[]) ∧ Kd.R k44 44 w' w0.heap.size (fun k_ => (P0_ k_ ∨ w.heap.size ≤ k_)) u9000_ r ∧ Below w0.heap.size w0 w' ∧ Kept w w' (fun k_ => P0_ k_) := by
  unfold slices_SortFunc_impl_Duty.f at h
  by_cases hl : l0.length < 4611686018427387904
  · rw [if_pos hl] at h
    obtain rfl := Option.some.inj h
    have hlen := pdq_size l0
    by_cases hn : u9000_ = .slice none 0 0
    · subst hn
      have hx : l0 = [] := by
        obtain ⟨_, inner, ho, _⟩ := ho0
        rcases ho.2 with ⟨_, h⟩ | ⟨_, _, _, h, _⟩
        · exact List.eq_nil_of_length_eq_zero h
        · cases h
      subst hx
      have hs : sortD [] = [] := List.eq_nil_of_length_eq_zero hlen
      rw [hs]
      refine (Try.slices_SortFunc_none none 0 (.func (.func 53) #[] #[]) w).mono ?_
      rintro e w' ⟨rfl, rfl⟩
      exact ⟨rfl, Kd.R_mono ho0 (fun k hk => .inl hk), hB, Kept.refl _ _⟩
    · obtain ⟨g, cap, rfl, hg, hlt⟩ : ∃ g cap, u9000_ = .slice (some ⟨g, 0, none⟩) l0.length cap ∧ w0.heap.size ≤ g ∧ g < w.heap.size := by
        obtain ⟨_, inner, ho, _⟩ := ho0
        rcases ho.2 with ⟨h, _⟩ | ⟨g, cap, cur, h, hb, hgg, _⟩
        · exact absurd h hn
        · exact ⟨g, cap, h, hb, (Array.getElem?_eq_some_iff.1 hgg).1⟩
      have hcon := Try.slices_SortFunc_q 3 Try.isAgg44 Try.sizeOf44 encD (fun _ => rfl) (fun x v hv => by simp [encD] at hv; rcases hv with rfl | rfl | rfl <;> rfl) cmpD swoD 53 #[] g 0 cap l0.toArray w (enters_of Try.func53 (by kernel_rfl) rfl) (cmpLaysD _ _ _ _) (flatD.holds ho0) hlt (by simpa using hl)
      rw [List.size_toArray] at hcon
      refine hcon.mono ?_
      rintro e w' ⟨rfl, n, os, rfl⟩
      have hsz : (Go.Sort.pdq (ltOf cmpD) l0.toArray 0 l0.length (Lib.bitLen l0.length) true true) = (sortD l0).toArray := by unfold sortD; simp
      rw [hsz]
      have hP : P0_ g := ho0.1 g rfl
      exact ⟨rfl, Kd.R_mono (flatD.put ho0 hlen n os) (fun k hk => .inl hk), below_putGrow hB (Nat.le_refl _) hg os, kept_putGrow _ hP os⟩
  · rw [if_neg hl] at h; cases h

end Go.Proofs.Ythhjhbndnipdgaa.P
