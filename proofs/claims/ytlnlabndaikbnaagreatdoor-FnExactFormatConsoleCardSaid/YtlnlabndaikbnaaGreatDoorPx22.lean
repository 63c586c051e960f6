-- Made by pp.py of this session out of the kit's print and of contracts proved by hand; Lean checks it.
import Derived.Test.YtlnlabndaikbnaaGreatDoorShelf
import Derived.Lib.OwnBridge
import Derived.Test.YtlnlabndaikbnaaGreatDoorPx0
namespace Go.Proofs.YtlnlabndaikbnaaGreatDoor.P
open Go.RowKit Go.Proofs.YtlnlabndaikbnaaGreatDoorW.PrintWords Go.Proofs.YtlnlabndaikbnaaGreatDoorW.PrintLast Go.Proofs.YtlnlabndaikbnaaGreatDoorW.PrintMore
attribute [local go_sem] max2_int min2_int max_two min_two max_three min_three max_four min_four   -- for this text's walks alone
set_option linter.unusedVariables false
set_option linter.unusedSimpArgs false

-- ALONE
/-! ### strings_Join: function 129 -/
def joinS (l : List ByteArray) (sep : ByteArray) : ByteArray := ⟨(Lib.join (l.map (·.data.toList)) sep.data.toList).toArray⟩
def strings_Join.f (l0 : List ByteArray) (a1 : ByteArray) : Option (ByteArray × List ByteArray) :=
  if l0.length ≤ 140737488355328 ∧ (Lib.join (l0.map (·.data.toList)) a1.data.toList).length ≤ 140737488355328 then some (joinS l0 a1, l0) else none
theorem list_of_nilJ {l0 : List ByteArray} {w : World} {base : Nat} {ok : Nat → Prop} (h : Kd.R Kd.string 9 w base ok (.slice none 0 0) l0) : l0 = [] := by
  obtain ⟨_, inner, ho, _⟩ := h
  rcases ho.2 with ⟨_, h⟩ | ⟨_, _, _, h, _⟩
  · exact List.eq_nil_of_length_eq_zero h
  · cases h
set_option maxHeartbeats 8000000 in
set_option maxRecDepth 100000 in
theorem strings_Join.calls (P0_ : Nat → Prop) (u9000_ : Value) (l0 : List ByteArray) (a1 : ByteArray) (r1 : ByteArray) (r2 : List ByteArray) (w0 w : World) (hB : Below w0.heap.size w0 w) (ho0 : Kd.R Kd.string 9 w w0.heap.size P0_ u9000_ l0) (h : strings_Join.f l0 a1 = some (r1, r2)) :
    Calls Tryz.prog 129 #[u9000_, .string a1] w fun e w' => e = .returned (.string r1) ∧ Kd.R Kd.string 9 w' w0.heap.size (fun k_ => (P0_ k_ ∨ w.heap.size ≤ k_)) u9000_ r2 ∧ Below w0.heap.size w0 w' ∧ Kept w w' (fun k_ => P0_ k_) := by
  unfold strings_Join.f at h
  by_cases hl : l0.length ≤ 140737488355328 ∧ (Lib.join (l0.map (·.data.toList)) a1.data.toList).length ≤ 140737488355328
  · rw [if_pos hl] at h
    obtain ⟨rfl, rfl⟩ := Prod.mk.inj (Option.some.inj h)
    by_cases hn : u9000_ = .slice none 0 0
    · subst hn
      obtain rfl := list_of_nilJ ho0
      refine (Tryz.strings_Join_none none 0 a1 w).mono ?_
      rintro e w' ⟨rfl, rfl⟩
      exact ⟨rfl, Kd.R_mono ho0 (fun k hk => .inl hk), hB, Kept.refl _ _⟩
    · have ho := Kd.own_of_R (enc := Value.string) (h1 := fun _ => rfl) ho0
      obtain ⟨g, cap, rfl, hg, hlt, hcap, hmx, hll, hH⟩ := Lib.holds_of_ownsRow (enc := Value.string) (zs := l0) ho hn
      refine (Tryz.strings_Join g 0 cap l0 a1 w (fun j x hj => ?_) hlt hl.1 hcap hl.2).mono ?_
      · have hjl := (List.getElem?_eq_some_iff.1 hj).1
        have := (Kd.R_cell ByteArray.empty ho0 (j : Int) (by omega) (by omega)).1
        rw [Int.toNat_natCast] at this
        rw [Nat.zero_add, this]
        simp [rdOf, hj]
      · rintro e w' ⟨rfl, hb⟩
        exact ⟨rfl, Kd.R_mono (Kd.R_below ho0 hb) (fun k hk => .inl hk), hB.trans (hb.mono hB.size), Kept.of_below hb _⟩
  · rw [if_neg hl] at h; cases h

end Go.Proofs.YtlnlabndaikbnaaGreatDoor.P
