-- Made by pp.py of this session out of the kit's print and of contracts proved by hand; Lean checks it.
import Derived.Test.YtdhdifoenladpaaPx0
namespace Go.Proofs.Ytdhdifoenladpaa.P
open Go.RowKit Go.Proofs.YtdhdifoenladpaaW.PrintWords Go.Proofs.YtdhdifoenladpaaW.PrintLast Go.Proofs.YtdhdifoenladpaaW.PrintMore
attribute [local go_sem] max2_int min2_int max_two min_two max_three min_three max_four min_four   -- for this text's walks alone
set_option linter.unusedVariables false
set_option linter.unusedSimpArgs false

-- ALONE
/-! ### slices_Max_int_int: function 60 -/
/-- The Max of a list that is not empty. -/
def maxL : List Int → Int
  | [] => 0
  | x :: xs => xs.foldl (fun a b => if a < b then b else a) x
theorem maxL_step (l : List Int) (i : Nat) (h0 : 0 < i) (h : i < l.length) : maxL (l.take (i + 1)) = if maxL (l.take i) < l[i] then l[i] else maxL (l.take i) := by
  cases l with
  | nil => simp at h
  | cons x xs =>
    obtain ⟨j, rfl⟩ : ∃ j, i = j + 1 := ⟨i - 1, by omega⟩
    simp only [List.length_cons] at h
    simp only [List.take_succ_cons, maxL]
    rw [List.take_succ_eq_append_getElem (by omega), List.foldl_append]
    simp only [List.foldl_cons, List.foldl_nil, List.getElem_cons_succ]
    rfl
def slices_Max_int_int.f (l0 : List Int) : Option Int := if l0 = [] then none else some (maxL l0)
set_option maxHeartbeats 8000000 in
set_option maxRecDepth 100000 in
theorem slices_Max_int_int.calls (A0 : Option Addr) (c0 : Nat) (l0 : List Int) (r : Int) (w : World) (hr0 : Kd.C (Kd.int .i64) w A0 l0.length l0) (hc0 : l0.length ≤ c0) (h : slices_Max_int_int.f l0 = some r) :
    Calls Try.prog 60 #[.slice A0 l0.length c0] w fun e w' => e = .returned (.int .i64 r) ∧ Drawn0 w w' := by
  have HR := Aside0.mk hr0
  have hmx := Kd.C_max hr0
  clear hr0 hc0
  unfold slices_Max_int_int.f at h
  by_cases hn : l0 = []
  · rw [if_pos hn] at h; cases h
  rw [if_neg hn] at h
  obtain rfl := Option.some.inj h
  clear h
  have hpos : 0 < l0.length := List.length_pos_iff.2 hn
  have hlt1 : decide ((l0.length : Int) < 1) = false := decide_eq_false (by omega)
  clear hn
  obtain ⟨ad0, e1, hcell0⟩ := Kd.at_int HR.out 0 (by omega) (by omega)
  cases e1
  have h00 : rd l0 0 = maxL (l0.take 1) := by
    cases l0 with
    | nil => simp at hpos
    | cons x xs => simp [rd, maxL]
  rw [h00] at hcell0
  clear h00
  have haz : ad0.add 0 = ad0 := by cases ad0; unfold Addr.add; split <;> simp_all
  rw [Int.toNat_zero, haz] at hcell0
  clear haz
  have hp0 : (0 : Int) < (l0.length : Int) := by omega
  go_enter Try.func60, Try.ntmps60
  go_wp2
  go_loopg [3, 4] l0.length (fun gg s3 s4 wr => ∃ kk : Nat, 0 < kk ∧ kk ≤ l0.length ∧ l0.length - kk ≤ gg ∧ s4 = .int .i64 kk ∧ s3 = .int .i64 (maxL (l0.take kk)) ∧ Drawn0 w wr)
  case atStart => exact ⟨1, by omega, by omega, by omega, rfl, rfl, by repeat (first | exact Drawn0.refl _ | apply Drawn0.step)⟩
  case round =>
    obtain ⟨kk, hk0, hkk, hg, rfl, rfl, ⟨q, rfl⟩⟩ := hrel
    clear hcell0
    by_cases hlt : kk < l0.length
    · have hltz : (kk : Int) < (l0.length : Int) := by omega
      have h0 : (0 : Int) ≤ (kk : Int) := by omega
      obtain ⟨ad, e1, hcell⟩ := Kd.at_int HR.out (kk : Int) h0 hltz
      cases e1
      rw [Int.toNat_natCast] at hcell
      have E := Aside0.mk (maxL_step l0 kk hk0 hlt)
      have hrd : rd l0 (kk : Int) = l0[kk] := by simp [rd, hlt]
      rw [hrd] at hcell
      clear hrd
      generalize l0[kk] = v at hcell E
      generalize maxL (l0.take kk) = u at E ⊢
      by_cases hc : u < v
      · have E' := Aside0.mk (E.out.trans (if_pos hc))
        clear E
        go_wp2
        go_roundg (l0.length - (kk + 1))
        case measure => omega
        case rel => exact ⟨kk + 1, by omega, by omega, by omega, by go_num, by rw [E'.out], by repeat (first | exact Drawn0.refl _ | apply Drawn0.step)⟩
      · have E' := Aside0.mk (E.out.trans (if_neg hc))
        clear E
        go_wp2
        go_roundg (l0.length - (kk + 1))
        case measure => omega
        case rel => exact ⟨kk + 1, by omega, by omega, by omega, by go_num, by rw [E'.out], by repeat (first | exact Drawn0.refl _ | apply Drawn0.step)⟩
    · have hltd : decide (kk < l0.length) = false := decide_eq_false hlt
      have E := Aside0.mk (show l0.take kk = l0 from List.take_of_length_le (by omega))
      go_wp2
      go_ret
      exact ⟨by rw [E.out]; rfl, by repeat (first | exact Drawn0.refl _ | apply Drawn0.step)⟩

end Go.Proofs.Ytdhdifoenladpaa.P
