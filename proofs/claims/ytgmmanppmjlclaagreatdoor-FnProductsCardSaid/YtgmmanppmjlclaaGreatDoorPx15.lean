-- Made by pp.py of this session out of the kit's print and of contracts proved by hand; Lean checks it.
import Derived.Test.YtgmmanppmjlclaaGreatDoorMc
import Derived.WalkSpells
import Derived.Test.YtgmmanppmjlclaaGreatDoorPx0
namespace Go.Proofs.YtgmmanppmjlclaaGreatDoor.P
open Go.RowKit Go.Proofs.YtgmmanppmjlclaaGreatDoorW.PrintWords Go.Proofs.YtgmmanppmjlclaaGreatDoorW.PrintLast Go.Proofs.YtgmmanppmjlclaaGreatDoorW.PrintMore
attribute [local go_sem] max2_int min2_int max_two min_two max_three min_three max_four min_four   -- for this text's walks alone
set_option linter.unusedVariables false
set_option linter.unusedSimpArgs false

-- ALONE
/-! ### slices_Clone_impl_Product: function 25 -/
theorem C_nilP_ {α : Type} {d : Kd α} {w : World} {n : Nat} {xs : List α} (h : Kd.C d w none n xs) : xs = [] := by
  have h1 := h.1
  rcases Nat.eq_zero_or_pos n with h0 | h0
  · exact List.eq_nil_of_length_eq_zero (by omega)
  · obtain ⟨ad, e, _⟩ := h.2.2 h0
    cases e
def slices_Clone_impl_Product.f (l0 : List S26) : Option (List S26) := if l0.length < 3518437208883 then some l0 else none
set_option maxHeartbeats 8000000 in
set_option maxRecDepth 100000 in
theorem slices_Clone_impl_Product.calls (A0 : Option Addr) (c0 : Nat) (l0 : List (S26)) (r : List (S26)) (w : World) (hr0 : Kd.C k26 w A0 l0.length l0) (hc0 : l0.length ≤ c0) (h : slices_Clone_impl_Product.f l0 = some r) :
    Calls Tryz.prog 25 #[.slice A0 l0.length c0] w fun e w' => ∃ v0_ : Value, e = .returned (v0_) ∧ Kd.R k26 26 w' w.heap.size (fun _ => True) v0_ r ∧ Below w.heap.size w w' := by
  have HR0 := A_ hr0
  have HC0 := A_ hc0
  clear hr0 hc0
  have hq : ∀ (w : World) (a : Option Addr) (n c n' c' : Nat), (binOp .eql 24 (.slice a n c) (.slice none n' c')).run Tryz.prog w = .ok (.bool a.isNone) w := fun w a n c n' c' => Lib.run_eql_slice_nil w _ _ a n c n' c' Tryz.underlying24
  have HB := A_ (Below.refl w.heap.size w)
  unfold slices_Clone_impl_Product.f at h
  by_cases c2 : l0.length < 3518437208883
  · rw [if_pos c2] at h
    obtain rfl := Option.some.inj h
    clear h
    cases A0 with
    | none =>
      have e := C_nilP_ HR0.out
      subst e
      go_enter Tryz.func25, Tryz.ntmps25
      go_wp2
      go_ret
      exact ⟨_, rfl, Kd.R_nil _ _ _ _ _, HB.out⟩
    | some A0 =>
      obtain ⟨y301, hy301⟩ : ∃ y_ : List S26, y_ = (([] : List S26)) := ⟨_, rfl⟩
      have LMc2 := A_ (show y301.length + l0.length < 3518437208883 by rw [hy301]; simpa using c2)
      clear c2
      obtain ⟨y304, hy304⟩ : ∃ y_ : List S26, y_ = (y301 ++ l0) := ⟨_, rfl⟩
      have E304 := A_ (show y304 = l0 by rw [hy304, hy301]; rfl)
      have Ny301 := A_ hy301
      clear hy301
      have Ny304 := A_ hy304
      clear hy304
      go_enter Tryz.func25, Tryz.ntmps25
      go_wp2_with (first | ((with_reducible refine gd_ 5 rfl ?_); refine Kd.R_lit k26 _ 26 ?hg (N := 5) ?hd (xs := ([] : List S26)) (inner := []) (ok := fun _ => True) (okp := fun _ => True) ?hr ?hp (fun _ hk => hk) trivial (Below.refl _ _) (Nat.le_refl _) (by simp) ?_; (case hd => rfl); (case hg => rfl); (case hr => exact mc83); (case hp => exact (Reps.none _ _)); intro v302 w3 ho4 hb hg_ hnew_; clear hg_ hnew_; (first | rw [← Ny301.out] at ho4 | (simp only [Int.reduceToNat] at ho4; rw [← Ny301.out] at ho4)); have HO303 := A_ (Kd.R_lower ho4 (below_size mc53)); replace HB := A_ (below_step mc53 hb); clear hb ho4) | ((with_reducible refine gate_builtin (b := .append) (xs := #[.tmp 5, .tmp 6]) rfl ?_); at_builtin; refine Kd.R_append_rows k26 (w0 := w) w.heap.size rfl (.tmp 5) (.tmp 6) 24 26 (.agg #[(.string ⟨#[]⟩), (.int .i64 0), (.string ⟨#[]⟩)]) 40 rfl Tryz.underlying24 info26 rfl (by decide) (by omega) v302 y301 l0 _ _ _ (fun _ => True) (fun _ => False) rfl rfl ?aO ?aR (fun _ _ h => h) (fun _ h => h.elim) ?aF ?aB ?aS ?aL ?_; (case aR => exact mc31); (case aB => exact mc53); (case aF => exact (fun _ _ => trivial)); (case aO => exact (by (with_reducible repeat (first | apply Kd.R_alloc | apply Kd.R_drewN | apply Kd.R_drew)); exact HO303.out)); (case aS => exact (below_size mc53)); (case aL => have := LMc2.out; omega); intro v305 w5 ho hb hg hat; rw [← Ny304.out] at ho; replace HB := A_ (hb); have HO306 := A_ (ho); clear HO303; clear ho hb hg hat))
      go_ret
      rw [← E304.out]
      exact ⟨_, mc76, by (with_reducible repeat (first | apply Kd.R_alloc | apply Kd.R_drewN | apply Kd.R_drew)); exact HO306.out, mc53⟩
  · rw [if_neg c2] at h
    exact absurd h (by simp)

end Go.Proofs.YtgmmanppmjlclaaGreatDoor.P
