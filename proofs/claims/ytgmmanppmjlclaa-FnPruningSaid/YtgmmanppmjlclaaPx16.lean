-- Made by pp.py of this session out of the kit's print and of contracts proved by hand; Lean checks it.
import Derived.Test.YtgmmanppmjlclaaShelf
import Derived.Lib.OwnBridge
import Derived.Lib.RowBridge
import Derived.Test.YtgmmanppmjlclaaPx0
import Derived.Test.YtgmmanppmjlclaaPx2
namespace Go.Proofs.Ytgmmanppmjlclaa.P
open Go.RowKit Go.Proofs.YtgmmanppmjlclaaW.PrintWords Go.Proofs.YtgmmanppmjlclaaW.PrintLast Go.Proofs.YtgmmanppmjlclaaW.PrintMore
attribute [local go_sem] max2_int min2_int max_two min_two max_three min_three max_four min_four   -- for this text's walks alone
set_option linter.unusedVariables false
set_option linter.unusedSimpArgs false

-- ALONE
/-! ### slices_Compact_string_string: function 75 -/
def unS (l : List UInt8) : ByteArray := ⟨⟨l⟩⟩
def compS (l : List ByteArray) : List ByteArray := (Lib.compact (l.map (·.data.toList))).map unS
def slices_Compact_string_string.f (l0 : List ByteArray) : Option (List ByteArray) := some (compS l0)
theorem list_of_nilS {l0 : List ByteArray} {w : World} {base : Nat} {ok : Nat → Prop} (h : Kd.R Kd.string 9 w base ok (.slice none 0 0) l0) : l0 = [] := by
  obtain ⟨_, inner, ho, _⟩ := h
  rcases ho.2 with ⟨_, h⟩ | ⟨_, _, _, h, _⟩
  · exact List.eq_nil_of_length_eq_zero h
  · cases h
theorem compS_len (l : List ByteArray) : (compS l).length ≤ l.length := by
  unfold compS
  have := Lib.compact_length_le (l.map (·.data.toList))
  simpa using this
theorem encStr_unS (l : List (List UInt8)) : l.map encStr = (l.map unS).map Value.string := by
  rw [List.map_map]; apply List.map_congr_left; intro x _; rfl
set_option maxHeartbeats 8000000 in
set_option maxRecDepth 100000 in
theorem slices_Compact_string_string.calls (P0_ : Nat → Prop) (u9000_ : Value) (l0 : List ByteArray) (r : List ByteArray) (w0 w : World) (hB : Below w0.heap.size w0 w) (ho0 : Kd.R Kd.string 9 w w0.heap.size P0_ u9000_ l0) (h : slices_Compact_string_string.f l0 = some r) :
    Calls Try.prog 75 #[u9000_] w fun e w' => ∃ v0_ : Value, e = .returned (v0_) ∧ Kd.R Kd.string 9 w' w0.heap.size (fun k_ => (P0_ k_ ∨ w.heap.size ≤ k_)) v0_ r ∧ Below w0.heap.size w0 w' ∧ Kept w w' (fun k_ => P0_ k_) := by
  obtain rfl := Option.some.inj h
  by_cases hn : u9000_ = .slice none 0 0
  · subst hn
    obtain rfl := list_of_nilS ho0
    refine (Try.slices_Compact_string_empty none 0 w).mono ?_
    rintro e w' ⟨rfl, rfl⟩
    exact ⟨_, rfl, Kd.R_mono (show Kd.R Kd.string 9 w' w0.heap.size P0_ (.slice none 0 0) (compS []) from ho0) (fun k hk => .inl hk), hB, Kept.refl _ _⟩
  · have ho := Kd.own_of_R (enc := Value.string) (h1 := fun _ => rfl) ho0
    have ho2 : w.ownsRow w0.heap.size 9 1 u9000_ l0.length ((l0.map (·.data.toList)).map encStr) := by rw [Lib.map_encStr]; exact ho
    obtain ⟨g, cap, rfl, hg, hlt, hcap, hmx, hll, hH⟩ := Lib.holds_of_ownsRow (enc := encStr) (zs := l0.map (·.data.toList)) ho2 hn
    have hll2 : (l0.map (·.data.toList)).length = l0.length := by simp
    have hcon := Try.slices_Compact_string g 0 cap (l0.map (·.data.toList)) w hH (by simp only [maxLen] at hmx; omega) (by omega)
    rw [hll2] at hcon
    refine hcon.mono ?_
    rintro e w' ⟨rfl, q, rfl⟩
    have hlen := Lib.compact_length_le (l0.map (·.data.toList))
    rw [hll2] at hlen
    have hcs : (compS l0).length = (Lib.compact (l0.map (·.data.toList))).length := by simp [compS]
    have hcm : (Lib.compact (l0.map (·.data.toList))).map encStr = (compS l0).map Value.string := encStr_unS _
    generalize Lib.compact (l0.map (·.data.toList)) = ys at hlen hcs hcm ⊢
    have hP : P0_ g := ho0.1 g rfl
    have h1 := Lib.ownsRow_putRow (q := q) (k := ys.length) (ys := ys ++ List.replicate (l0.length - ys.length) []) ho2 (by simp; omega) hlen
    rw [List.take_left, hcm] at h1
    have h2 : Kd.R Kd.string 9 (Go.Sort.putRow encStr (Go.Sort.ahead w q) g 0 (ys ++ List.replicate (l0.length - ys.length) []).toArray) w0.heap.size P0_ (.slice (some ⟨g, 0, none⟩) ys.length cap) (compS l0) := Kd.R_of_own (by rw [hcs]; exact h1) (fun k hk => by
      have : g = k := by simpa [Value.ownBlock] using hk
      rw [← this]; exact hP)
    have hb := below_putGrow (enc := encStr) (q := q) (d := (ys ++ List.replicate (l0.length - ys.length) []).toArray) hB (Nat.le_refl _) hg #[]
    have hk := kept_putGrow (enc := encStr) (w := w) (q := q) (d := (ys ++ List.replicate (l0.length - ys.length) []).toArray) P0_ hP #[]
    rw [Go.Sort.grow_empty] at hb hk
    exact ⟨_, rfl, Kd.R_mono h2 (fun k hk => .inl hk), hb, hk⟩

end Go.Proofs.Ytgmmanppmjlclaa.P
