-- Made by pp.py of this session out of the kit's print and of contracts proved by hand; Lean checks it.
import Derived.Test.YtlnlabndaikbnaaGreatDoorMc
import Derived.Shelf.Abstract
import Derived.Test.YtlnlabndaikbnaaGreatDoorPx0
namespace Go.Proofs.YtlnlabndaikbnaaGreatDoor.P
open Go.RowKit Go.Proofs.YtlnlabndaikbnaaGreatDoorW.PrintWords Go.Proofs.YtlnlabndaikbnaaGreatDoorW.PrintLast Go.Proofs.YtlnlabndaikbnaaGreatDoorW.PrintMore
attribute [local go_sem] max2_int min2_int max_two min_two max_three min_three max_four min_four   -- for this text's walks alone
set_option linter.unusedVariables false
set_option linter.unusedSimpArgs false

-- ALONE
/-! ### lib warnFns -/
/-- What is asked of a closure over one warning: its answer; it may lay blocks of its own. -/
def PredD (g : Nat) (lb : Array Value) (p : S73 → Bool) (w : World) : Prop :=
  ∀ (W : World) (x : S73), Below w.heap.size w W → Calls Tryz.prog g (#[.agg #[.int .i64 x.f0, .int .i64 x.f1, .int .i64 x.f2, .int .i64 x.f3, .int .i64 x.f4, .int .i64 x.f5]] ++ lb) W fun e w' => e = .returned (.bool (p x)) ∧ Below w.heap.size w w'

def idxQ {α : Type} (p : α → Bool) : List α → Int
  | [] => -1
  | x :: xs => if p x then 0 else let r := idxQ p xs; if r < 0 then -1 else r + 1
theorem idxQ_hit {α : Type} (z : α) (p : α → Bool) : ∀ (xs : List α) (i : Nat), i < xs.length → (∀ j, j < i → p (xs.getD j z) = false) → p (xs.getD i z) = true → idxQ p xs = i
  | [], i, h, _, _ => by simp at h
  | x :: xs, 0, _, _, h => by simp at h; simp [idxQ, h]
  | x :: xs, i + 1, hl, h0, h => by
    have h1 : p x = false := by simpa using h0 0 (by omega)
    have ih := idxQ_hit z p xs i (by simpa using hl) (fun j hj => by simpa using h0 (j + 1) (by omega)) (by simpa using h)
    simp only [idxQ, h1]; rw [ih]; simp; omega
theorem idxQ_miss {α : Type} (z : α) (p : α → Bool) : ∀ (xs : List α), (∀ j, j < xs.length → p (xs.getD j z) = false) → idxQ p xs = -1
  | [], _ => rfl
  | x :: xs, h => by
    have h1 : p x = false := by simpa using h 0 (by simp)
    have ih := idxQ_miss z p xs (fun j hj => by simpa using h (j + 1) (by simpa using hj))
    simp [idxQ, h1, ih]
theorem idxQ_ge {α : Type} (p : α → Bool) : ∀ (xs : List α), (decide (0 ≤ idxQ p xs)) = xs.any p
  | [] => rfl
  | x :: xs => by
    have ih := idxQ_ge p xs
    simp only [idxQ, List.any_cons]
    cases hp : p x
    · rw [if_neg (by simp), Bool.false_or, ← ih]; split <;> simp <;> omega
    · simp

set_option maxHeartbeats 2000000 in
theorem lib_IndexFunc_D (g : Nat) (lb : Array Value) (p : S73 → Bool) (A0 : Option Addr) (c0 : Nat) (l0 : List S73) (w : World)
    (eg : ∀ args w, (callFunc g args).run Tryz.prog w = .ok (.enter g args) w)
    (hr0 : Kd.C k73 w A0 l0.length l0) (hp : PredD g lb p w) :
    Calls Tryz.prog 169 #[.slice A0 l0.length c0, .func (.func g) #[] lb] w fun e w' => e = .returned (.int .i64 (idxQ p l0)) ∧ Below w.heap.size w w' := by
  have HR := A_ hr0
  have HP := A_ hp
  have hmx := Kd.C_max hr0
  clear hr0 hp
  go_enter Tryz.func169, Tryz.ntmps169
  go_wp2
  go_loopg [5, 8] l0.length (fun gg _ s8 wr => ∃ kk : Nat, kk ≤ l0.length ∧ l0.length - kk ≤ gg ∧ s8 = .int .i64 kk ∧ Aside0 (Below w.heap.size w wr) ∧ Aside0 (∀ j, j < kk → p (l0.getD j z73) = false))
  case atStart => exact ⟨0, Nat.zero_le _, by omega, rfl, ⟨Below.refl _ w⟩, ⟨fun j hj => absurd hj (Nat.not_lt_zero _)⟩⟩
  case round =>
    obtain ⟨kk, hkk, hg, rfl, BW, A⟩ := hrel
    by_cases hlt : kk < l0.length
    · have hltz : (kk : Int) < (l0.length : Int) := by omega
      have h0 : (0 : Int) ≤ (kk : Int) := by omega
      obtain ⟨ad, e1, hc0, hc1, hc2, hc3, hc4, hc5⟩ := at_T73 (Kd.C_below HR.out BW.out) (kk : Int) h0 hltz
      cases e1
      rw [Int.toNat_natCast] at hc0 hc1 hc2 hc3 hc4 hc5
      have hcall := HP.out wr (rd_T73 l0 (kk : Int)) BW.out
      have er : rd_T73 l0 (kk : Int) = l0.getD kk z73 := by simp [rd_T73]
      have ER := A_ er
      clear er
      generalize rd_T73 l0 (kk : Int) = y at hc0 hc1 hc2 hc3 hc4 hc5 hcall ER
      cases hq : p y with
      | true =>
        rw [hq] at hcall
        have HQ := A_ hq
        clear hq
        go_wp2_with (go_at_fn g; refine hcall.mono ?_; rintro e w' ⟨rfl, hb'⟩)
        go_ret
        exact ⟨by rw [idxQ_hit z73 p l0 kk hlt A.out (by rw [← ER.out]; exact HQ.out)]; rfl, hb'⟩
      | false =>
        rw [hq] at hcall
        have HQ := A_ hq
        clear hq
        go_wp2_with (go_at_fn g; refine hcall.mono ?_; rintro e w' ⟨rfl, hb'⟩)
        go_roundg (l0.length - (kk + 1))
        case measure => omega
        case rel =>
          refine ⟨kk + 1, by omega, by omega, by go_num, ⟨hb'⟩, ⟨fun j hj => ?_⟩⟩
          by_cases e : j = kk
          · subst e
            rw [← ER.out]; exact HQ.out
          · exact A.out j (by omega)
    · have hltd : decide (kk < l0.length) = false := decide_eq_false hlt
      go_wp2
      go_ret
      exact ⟨by rw [idxQ_miss z73 p l0 (fun j hj => A.out j (by have := of_decide_eq_false hltd; omega))]; rfl, BW.out⟩

set_option maxHeartbeats 2000000 in
theorem lib_ContainsFunc_D (g : Nat) (lb : Array Value) (p : S73 → Bool) (A0 : Option Addr) (c0 : Nat) (l0 : List S73) (w : World)
    (eg : ∀ args w, (callFunc g args).run Tryz.prog w = .ok (.enter g args) w)
    (hr0 : Kd.C k73 w A0 l0.length l0) (hp : PredD g lb p w) :
    Calls Tryz.prog 115 #[.slice A0 l0.length c0, .func (.func g) #[] lb] w fun e w' => e = .returned (.bool (l0.any p)) ∧ Below w.heap.size w w' := by
  have HR := A_ hr0
  have HP := A_ hp
  clear hr0 hp
  have hi := lib_IndexFunc_D g lb p A0 c0 l0 w eg HR.out HP.out
  have E := A_ (idxQ_ge p l0)
  generalize idxQ p l0 = r at hi E
  go_enter Tryz.func115, Tryz.ntmps115
  go_wp2_with (go_at_call 169; refine hi.mono ?_; rintro e w' ⟨rfl, hb'⟩)
  go_ret
  exact ⟨by rw [← E.out]; rfl, hb'⟩

end Go.Proofs.YtlnlabndaikbnaaGreatDoor.P
