-- Made by pp.py of this session out of the kit's print and of contracts proved by hand; Lean checks it.
import Derived.Test.YtgmmanppmjlclaaGreatDoorMc
import Derived.Test.YtgmmanppmjlclaaGreatDoorShelf
import Derived.Lib.AtoiTie
import Derived.Test.YtgmmanppmjlclaaGreatDoorPx0
import Derived.Test.YtgmmanppmjlclaaGreatDoorPx9
import Derived.Test.YtgmmanppmjlclaaGreatDoorPx26
namespace Go.Proofs.YtgmmanppmjlclaaGreatDoor.P
open Go.RowKit Go.Proofs.YtgmmanppmjlclaaGreatDoorW.PrintWords Go.Proofs.YtgmmanppmjlclaaGreatDoorW.PrintLast Go.Proofs.YtgmmanppmjlclaaGreatDoorW.PrintMore
attribute [local go_sem] max2_int min2_int max_two min_two max_three min_three max_four min_four   -- for this text's walks alone
set_option linter.unusedVariables false
set_option linter.unusedSimpArgs false

-- ALONE
/-! ### impl_ParseInt: function 40 -/
/-- What the library reads: the number and whether there is one. -/
def atoiP (s : ByteArray) : Option Int := match Lib.atoiAll s.data.toList with
  | .ok v => some v
  | _ => none
/-- What the library's Atoi gives: a number without an error, or some number with one. -/
theorem atoi_calls (s : ByteArray) (hs : s.size ≤ 281474976710656) (w : World) (hG : GW w) : Calls Tryz.prog 67 #[.string s] w fun e w' =>
    ((∃ v, atoiP s = some v ∧ e = .returned (.tuple #[.int .i64 v, .nilIface])) ∨ (atoiP s = none ∧ ∃ v t p, e = .returned (.tuple #[.int .i64 v, .iface t p]))) ∧ Below w.heap.size w w' := by
  obtain ⟨_, ⟨t, p, h2⟩, ⟨t', p', h3⟩⟩ := hG
  by_cases hz : Lib.atoiAll s.data.toList = Lib.NumEnd.ofOption none
  · refine (Tryz.strconv_Atoi_syntax s hs hz (.iface t p) w (by have h0 := World.var?_cell (g := 1) kr_ h2 0; simpa using h0) (.inr ⟨_, _, rfl⟩)).mono ?_
    rintro e w' ⟨N, rfl, _, _, hb⟩
    exact ⟨.inr ⟨by unfold atoiP; rw [hz]; rfl, _, _, _, rfl⟩, hb⟩
  cases h : Lib.atoiAll s.data.toList with
  | ok v =>
    refine (Tryz.strconv_Atoi_ok s (by omega) v h w).mono ?_
    rintro e w' ⟨rfl, hw⟩
    refine ⟨.inl ⟨v, by unfold atoiP; rw [h], rfl⟩, ?_⟩
    rcases hw with rfl | ⟨t, rfl⟩
    · exact Below.refl _ _
    · exact Lib.bytesWorld_below _ _ _
  | range =>
    refine (Tryz.strconv_Atoi_range s hs h (.iface t' p') w (by have h0 := World.var?_cell (g := 2) kr_ h3 0; simpa using h0) (.inr ⟨_, _, rfl⟩)).mono ?_
    rintro e w' ⟨N, rfl, _, _, hb⟩
    exact ⟨.inr ⟨by unfold atoiP; rw [h], _, _, _, rfl⟩, hb⟩
  | _ => exact absurd h hz
theorem within_dec (x a b : Int) : impl_within.f x a b = some (decide (a ≤ x) && decide (x ≤ b)) := by
  unfold impl_within.f
  by_cases h1 : a ≤ x
  · simp [h1]
  · simp [h1]
def impl_ParseInt.f (s : ByteArray) : Option (Int × Bool) := if s.size ≤ 281474976710656 then (match atoiP s with
  | some v => if -999999 ≤ v ∧ v ≤ 999999 ∧ (⟨(Lib.itoa v).toArray⟩ : ByteArray) = s then some (v, true) else some (0, false)
  | none => some (0, false)) else none
set_option maxHeartbeats 8000000 in
set_option maxRecDepth 100000 in
theorem impl_ParseInt.calls (a0 : ByteArray) (r1 : Int) (r2 : Bool) (w : World) (h : impl_ParseInt.f a0 = some (r1, r2)) (hG_ : GW w) :
    Calls Tryz.prog 40 #[.string a0] w fun e w' => e = .returned (.tuple #[.int .i64 r1, .bool r2]) ∧ Below w.heap.size w w' := by
  have HB := A_ (Below.refl w.heap.size w)
  have HG := A_ hG_
  clear hG_
  unfold impl_ParseInt.f at h
  by_cases hs : a0.size ≤ 281474976710656
  · rw [if_pos hs] at h
    have HA := A_ (fun W hG => atoi_calls a0 hs W hG)
    clear hs
    cases hp : atoiP a0 with
    | none =>
      rw [hp] at h HA
      simp only [Option.some.injEq, Prod.mk.injEq] at h
      obtain ⟨rfl, rfl⟩ := h
      clear hp
      go_enter Tryz.func40, Tryz.ntmps40
      go_wp2_with (go_at_call 67; refine (HA.out _ (gw_below HG.out mc53)).mono ?_; rintro e w1 ⟨hc, hb⟩; have n0_ := A_ (below_step mc53 hb); clear HB; have HB := n0_; clear n0_ hb; rcases hc with ⟨v, hv, _⟩ | ⟨_, v, t, p, rfl⟩; (exact absurd hv (by simp)); clear HA)
      go_ret2
      exact ⟨rfl, mc53⟩
    | some v =>
      rw [hp] at h HA
      clear hp
      replace h : (if -999999 ≤ v ∧ v ≤ 999999 ∧ (⟨(Lib.itoa v).toArray⟩ : ByteArray) = a0 then some (v, true) else some (0, false)) = some (r1, r2) := h
      have HW := A_ (fun W => impl_within.calls v (-999999) 999999 _ W (within_dec _ _ _))
      by_cases h1 : -999999 ≤ v ∧ v ≤ 999999
      · have hd : (decide (-999999 ≤ v) && decide (v ≤ 999999)) = true := by simp [h1]
        rw [hd] at HW
        have HI := A_ (fun W hG => strconv_Itoa.calls v ⟨(Lib.itoa v).toArray⟩ W (by unfold strconv_Itoa.f; rw [if_pos (by omega), if_pos (by omega)]) hG)
        clear hd
        obtain ⟨T, hT⟩ : ∃ T : ByteArray, (⟨(Lib.itoa v).toArray⟩ : ByteArray) = T := ⟨_, rfl⟩
        rw [hT] at HI h
        clear hT
        by_cases h2 : T = a0
        · rw [if_pos ⟨h1.1, h1.2, h2⟩] at h
          simp only [Option.some.injEq, Prod.mk.injEq] at h
          obtain ⟨rfl, rfl⟩ := h
          subst h2
          clear h1
          go_enter Tryz.func40, Tryz.ntmps40
          go_wp2_with (first | (go_at_call 67; refine (HA.out _ (gw_below HG.out mc53)).mono ?_; rintro e w1 ⟨hc, hb⟩; have n0_ := A_ (below_step mc53 hb); clear HB; have HB := n0_; clear n0_ hb; clear HA; rcases hc with ⟨v', hv, rfl⟩ | ⟨hv, _⟩; rotate_left; (cases hv); (obtain rfl := Option.some.inj hv; clear hv)) | (go_at_call 32; refine (HW.out _).mono ?_; rintro e w' ⟨rfl, ⟨q', rfl⟩⟩) | (go_at_call 61; refine (HI.out _ (gw_below HG.out mc53)).mono ?_; rintro e w2 ⟨rfl, hb⟩; have n0_ := A_ (below_step mc53 hb); clear HB; have HB := n0_; clear n0_ hb))
          go_ret2
          exact ⟨rfl, mc53⟩
        · rw [if_neg (fun hx => h2 hx.2.2)] at h
          simp only [Option.some.injEq, Prod.mk.injEq] at h
          obtain ⟨rfl, rfl⟩ := h
          have h3 : (T.toList == a0.toList) = false := beq_eq_false_iff_ne.mpr (fun hx => h2 (by
            rw [ByteArray.toList_eq, ByteArray.toList_eq] at hx
            exact ByteArray.ext (Array.toList_inj.1 hx)))
          clear h1 h2
          go_enter Tryz.func40, Tryz.ntmps40
          go_wp2_with (first | (go_at_call 67; refine (HA.out _ (gw_below HG.out mc53)).mono ?_; rintro e w1 ⟨hc, hb⟩; have n0_ := A_ (below_step mc53 hb); clear HB; have HB := n0_; clear n0_ hb; clear HA; rcases hc with ⟨v', hv, rfl⟩ | ⟨hv, _⟩; rotate_left; (cases hv); (obtain rfl := Option.some.inj hv; clear hv)) | (go_at_call 32; refine (HW.out _).mono ?_; rintro e w' ⟨rfl, ⟨q', rfl⟩⟩) | (go_at_call 61; refine (HI.out _ (gw_below HG.out mc53)).mono ?_; rintro e w2 ⟨rfl, hb⟩; have n0_ := A_ (below_step mc53 hb); clear HB; have HB := n0_; clear n0_ hb))
          go_ret2
          exact ⟨rfl, mc53⟩
      · have hd : (decide (-999999 ≤ v) && decide (v ≤ 999999)) = false := by
          rw [Bool.eq_false_iff]
          intro hx
          apply h1
          simpa using hx
        rw [hd] at HW
        clear hd
        rw [if_neg (fun hx => h1 ⟨hx.1, hx.2.1⟩)] at h
        simp only [Option.some.injEq, Prod.mk.injEq] at h
        obtain ⟨rfl, rfl⟩ := h
        clear h1
        go_enter Tryz.func40, Tryz.ntmps40
        go_wp2_with (first | (go_at_call 67; refine (HA.out _ (gw_below HG.out mc53)).mono ?_; rintro e w1 ⟨hc, hb⟩; have n0_ := A_ (below_step mc53 hb); clear HB; have HB := n0_; clear n0_ hb; clear HA; rcases hc with ⟨v', hv, rfl⟩ | ⟨hv, _⟩; rotate_left; (cases hv); (obtain rfl := Option.some.inj hv; clear hv)) | (go_at_call 32; refine (HW.out _).mono ?_; rintro e w' ⟨rfl, ⟨q', rfl⟩⟩))
        go_ret2
        exact ⟨rfl, mc53⟩
  · rw [if_neg hs] at h; cases h

end Go.Proofs.YtgmmanppmjlclaaGreatDoor.P
