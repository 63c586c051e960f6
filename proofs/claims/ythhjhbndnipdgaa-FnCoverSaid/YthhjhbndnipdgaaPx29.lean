-- Made by pp.py of this session out of the kit's print and of contracts proved by hand; Lean checks it.
import Derived.Test.YthhjhbndnipdgaaShelf
import Derived.Lib.OwnBridge
import Derived.Lib.RowBridge
import Derived.Test.YthhjhbndnipdgaaPx0
import Derived.Test.YthhjhbndnipdgaaPx3
namespace Go.Proofs.Ythhjhbndnipdgaa.P
open Go.RowKit Go.Proofs.YthhjhbndnipdgaaW.PrintWords Go.Proofs.YthhjhbndnipdgaaW.PrintLast Go.Proofs.YthhjhbndnipdgaaW.PrintMore
attribute [local go_sem] max2_int min2_int max_two min_two max_three min_three max_four min_four   -- for this text's walks alone
set_option linter.unusedVariables false
set_option linter.unusedSimpArgs false

-- ALONE
/-! ### slices_Compact_int_int: function 69 -/
def slices_Compact_int_int.f (l0 : List Int) : Option (List Int) := some (Lib.compact l0)
theorem list_of_nil2 {l0 : List Int} {w : World} {base : Nat} {ok : Nat → Prop} (h : Kd.R (Kd.int .i64) 3 w base ok (.slice none 0 0) l0) : l0 = [] := by
  obtain ⟨_, inner, ho, _⟩ := h
  rcases ho.2 with ⟨_, h⟩ | ⟨_, _, _, h, _⟩
  · exact List.eq_nil_of_length_eq_zero h
  · cases h
theorem compact_len (l : List Int) : (Lib.compact l).length ≤ l.length := Lib.compact_length_le l
set_option maxHeartbeats 8000000 in
set_option maxRecDepth 100000 in
theorem slices_Compact_int_int.calls (P0_ : Nat → Prop) (u9000_ : Value) (l0 : List Int) (r : List Int) (w0 w : World) (hB : Below w0.heap.size w0 w) (ho0 : Kd.R (Kd.int .i64) 3 w w0.heap.size P0_ u9000_ l0) (h : slices_Compact_int_int.f l0 = some r) :
    Calls Try.prog 69 #[u9000_] w fun e w' => ∃ v0_ : Value, e = .returned (v0_) ∧ Kd.R (Kd.int .i64) 3 w' w0.heap.size (fun k_ => (P0_ k_ ∨ w.heap.size ≤ k_)) v0_ r ∧ Below w0.heap.size w0 w' ∧ Kept w w' (fun k_ => P0_ k_) := by
  obtain rfl := Option.some.inj h
  by_cases hn : u9000_ = .slice none 0 0
  · subst hn
    obtain rfl := list_of_nil2 ho0
    refine (Try.slices_Compact_int_empty none 0 w).mono ?_
    rintro e w' ⟨rfl, rfl⟩
    exact ⟨_, rfl, Kd.R_mono (show Kd.R (Kd.int .i64) 3 w' w0.heap.size P0_ (.slice none 0 0) (Lib.compact []) from ho0) (fun k hk => .inl hk), hB, Kept.refl _ _⟩
  · have ho := Kd.own_of_R (enc := Value.int .i64) (h1 := fun _ => rfl) ho0
    obtain ⟨g, cap, rfl, hg, hlt, hcap, hmx, hll, hH⟩ := Lib.holds_of_ownsRow (enc := Value.int .i64) (zs := l0) ho hn
    refine (Try.slices_Compact_int g 0 cap l0 w hH (by simp only [maxLen] at hmx; omega) (by omega)).mono ?_
    rintro e w' ⟨rfl, q, rfl⟩
    have hlen := compact_len l0
    generalize Lib.compact l0 = ys at hlen ⊢
    have hP : P0_ g := ho0.1 g rfl
    have h1 := Lib.ownsRow_putRow (q := q) (k := ys.length) (ys := ys ++ List.replicate (l0.length - ys.length) 0) ho (by simp; omega) hlen
    rw [List.take_left] at h1
    have h2 : Kd.R (Kd.int .i64) 3 (Go.Sort.putRow (Value.int .i64) (Go.Sort.ahead w q) g 0 (ys ++ List.replicate (l0.length - ys.length) 0).toArray) w0.heap.size P0_ (.slice (some ⟨g, 0, none⟩) ys.length cap) ys := Kd.R_of_own h1 (fun k hk => by
      have : g = k := by simpa [Value.ownBlock] using hk
      rw [← this]; exact hP)
    have hb := below_putGrow (enc := Value.int .i64) (q := q) (d := (ys ++ List.replicate (l0.length - ys.length) 0).toArray) hB (Nat.le_refl _) hg #[]
    have hk := kept_putGrow (enc := Value.int .i64) (w := w) (q := q) (d := (ys ++ List.replicate (l0.length - ys.length) 0).toArray) P0_ hP #[]
    rw [Go.Sort.grow_empty] at hb hk
    exact ⟨_, rfl, Kd.R_mono h2 (fun k hk => .inl hk), hb, hk⟩

end Go.Proofs.Ythhjhbndnipdgaa.P
