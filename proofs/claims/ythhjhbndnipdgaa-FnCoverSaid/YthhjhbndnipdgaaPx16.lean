-- Made by pp.py of this session out of the kit's print and of contracts proved by hand; Lean checks it.
import Derived.Test.YthhjhbndnipdgaaShelf
import Derived.Lib.OwnBridge
import Derived.Test.YthhjhbndnipdgaaPx0
import Derived.Test.YthhjhbndnipdgaaPx3
namespace Go.Proofs.Ythhjhbndnipdgaa.P
open Go.RowKit Go.Proofs.YthhjhbndnipdgaaW.PrintWords Go.Proofs.YthhjhbndnipdgaaW.PrintLast Go.Proofs.YthhjhbndnipdgaaW.PrintMore
attribute [local go_sem] max2_int min2_int max_two min_two max_three min_three max_four min_four   -- for this text's walks alone
set_option linter.unusedVariables false
set_option linter.unusedSimpArgs false

-- ALONE
/-! ### slices_Sort_int_int: function 66 -/
def slices_Sort_int_int.f (l0 : List Int) : Option (List Int) := if l0.length < 4611686018427387904 then some (l0.mergeSort fun x y => decide (x ≤ y)) else none
theorem list_of_nil {l0 : List Int} {w : World} {base : Nat} {ok : Nat → Prop} (h : Kd.R (Kd.int .i64) 3 w base ok (.slice none 0 0) l0) : l0 = [] := by
  obtain ⟨_, inner, ho, _⟩ := h
  rcases ho.2 with ⟨_, h⟩ | ⟨_, _, _, h, _⟩
  · exact List.eq_nil_of_length_eq_zero h
  · cases h
set_option maxHeartbeats 8000000 in
set_option maxRecDepth 100000 in
theorem slices_Sort_int_int.calls (P0_ : Nat → Prop) (u9000_ : Value) (l0 : List Int) (r : List Int) (w0 w : World) (hB : Below w0.heap.size w0 w) (ho0 : Kd.R (Kd.int .i64) 3 w w0.heap.size P0_ u9000_ l0) (h : slices_Sort_int_int.f l0 = some r) :
    Calls Try.prog 66 #[u9000_] w fun e w' => e = .returned (.tuple #[]) ∧ Kd.R (Kd.int .i64) 3 w' w0.heap.size (fun k_ => (P0_ k_ ∨ w.heap.size ≤ k_)) u9000_ r ∧ Below w0.heap.size w0 w' ∧ Kept w w' (fun k_ => P0_ k_) := by
  unfold slices_Sort_int_int.f at h
  by_cases hl : l0.length < 4611686018427387904
  · rw [if_pos hl] at h
    obtain rfl := Option.some.inj h
    by_cases hn : u9000_ = .slice none 0 0
    · subst hn
      obtain rfl := list_of_nil ho0
      refine (Try.slices_Sort_int_none none 0 w).mono ?_
      rintro e w' ⟨rfl, rfl⟩
      exact ⟨rfl, Kd.R_mono (by simpa using ho0) (fun k hk => .inl hk), hB, Kept.refl _ _⟩
    · have ho := Kd.own_of_R (enc := Value.int .i64) (h1 := fun _ => rfl) ho0
      obtain ⟨g, cap, rfl, hg, hlt, hcap, hmx, hll, hH⟩ := Lib.holds_of_ownsRow (enc := Value.int .i64) (zs := l0) ho hn
      refine (Try.slices_Sort_int g 0 cap l0 w hH hlt hl).mono ?_
      rintro e w' ⟨rfl, n, os, rfl⟩
      have hlen : (l0.mergeSort fun x y => decide (x ≤ y)).length = l0.length := List.length_mergeSort l0
      generalize (l0.mergeSort fun x y => decide (x ≤ y)) = ys at hlen ⊢
      have hP : P0_ g := ho0.1 g rfl
      have h1 := Lib.ownsRow_putRow (q := n) (k := l0.length) (ys := ys) ho hlen (Nat.le_refl _)
      rw [List.take_of_length_le (by omega)] at h1
      have h2 : Kd.R (Kd.int .i64) 3 (Go.Sort.putRow (Value.int .i64) (Go.Sort.ahead w n) g 0 ys.toArray) w0.heap.size P0_ (.slice (some ⟨g, 0, none⟩) l0.length cap) ys := Kd.R_of_own (by rw [hlen]; exact h1) (fun k hk => by
        have : g = k := by simpa [Value.ownBlock] using hk
        rw [← this]; exact hP)
      exact ⟨rfl, Kd.R_mono (R_growS h2 os) (fun k hk => .inl hk), below_putGrow hB (Nat.le_refl _) hg os, kept_putGrow _ hP os⟩
  · rw [if_neg hl] at h; cases h

end Go.Proofs.Ythhjhbndnipdgaa.P
