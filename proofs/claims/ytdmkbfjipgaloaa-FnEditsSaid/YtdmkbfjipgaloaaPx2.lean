-- Made by pp.py of this session out of the kit's print and of contracts proved by hand; Lean checks it.
import Derived.Test.YtdmkbfjipgaloaaMc
import Derived.Shelf.Abstract
import Derived.Lib.Walk
import Derived.Test.YtdmkbfjipgaloaaPx0
namespace Go.Proofs.Ytdmkbfjipgaloaa.P
open Go.RowKit Go.Proofs.YtdmkbfjipgaloaaW.PrintWords Go.Proofs.YtdmkbfjipgaloaaW.PrintLast Go.Proofs.YtdmkbfjipgaloaaW.PrintMore
attribute [local go_sem] max2_int min2_int max_two min_two max_three min_three max_four min_four   -- for this text's walks alone
set_option linter.unusedVariables false
set_option linter.unusedSimpArgs false

-- ALONE
/-! ### lib containsInt -/
/-- A closure that reads and draws: what it hands back at the integers of a list, in every world that only draws away from w. -/
def PredInt (g : Nat) (lb : Array Value) (p : Int → Bool) (xs : List Int) (w : World) : Prop :=
  ∀ (W : World) (x : Int), x ∈ xs → Drawn0 w W → Calls Try.prog g (#[.int .i64 x] ++ lb) W fun e w' => e = .returned (.bool (p x)) ∧ Drawn0 W w'

def idxP (p : Int → Bool) : List Int → Int
  | [] => -1
  | x :: xs => if p x then 0 else let r := idxP p xs; if r < 0 then -1 else r + 1

theorem idxP_hit (p : Int → Bool) : ∀ (xs : List Int) (i : Nat), i < xs.length → (∀ j, j < i → p (xs.getD j 0) = false) → p (xs.getD i 0) = true → idxP p xs = i
  | [], i, h, _, _ => by simp at h
  | x :: xs, 0, _, _, h => by simp at h; simp [idxP, h]
  | x :: xs, i + 1, hl, h0, h => by
    have h1 : p x = false := by simpa using h0 0 (by omega)
    have ih := idxP_hit p xs i (by simpa using hl) (fun j hj => by simpa using h0 (j + 1) (by omega)) (by simpa using h)
    simp only [idxP, h1]; rw [ih]; simp; omega
theorem idxP_miss (p : Int → Bool) : ∀ (xs : List Int), (∀ j, j < xs.length → p (xs.getD j 0) = false) → idxP p xs = -1
  | [], _ => rfl
  | x :: xs, h => by
    have h1 : p x = false := by simpa using h 0 (by simp)
    have ih := idxP_miss p xs (fun j hj => by simpa using h (j + 1) (by simpa using hj))
    simp [idxP, h1, ih]
theorem idxP_ge (p : Int → Bool) : ∀ (xs : List Int), (decide (0 ≤ idxP p xs)) = xs.any p
  | [] => rfl
  | x :: xs => by
    have ih := idxP_ge p xs
    simp only [idxP, List.any_cons]
    cases hp : p x
    · rw [if_neg (by simp), Bool.false_or, ← ih]; split <;> simp <;> omega
    · simp

theorem mem_getD {l : List Int} {i : Nat} (h : i < l.length) : l.getD i 0 ∈ l := by
  rw [List.getD_eq_getElem?_getD, List.getElem?_eq_getElem h]; simp

set_option maxHeartbeats 2000000 in
theorem lib_IndexFunc_int (g : Nat) (lb : Array Value) (p : Int → Bool) (A0 : Option Addr) (c0 : Nat) (l0 : List Int) (w : World)
    (eg : ∀ args w, (callFunc g args).run Try.prog w = .ok (.enter g args) w)
    (hr0 : Kd.C (Kd.int .i64) w A0 l0.length l0) (hp : PredInt g lb p l0 w) :
    Calls Try.prog 110 #[.slice A0 l0.length c0, .func (.func g) #[] lb] w fun e w' => e = .returned (.int .i64 (idxP p l0)) ∧ Drawn0 w w' := by
  have HR := A_ hr0
  have HP := A_ hp
  have hmx := Kd.C_max hr0
  clear hr0 hp
  go_enter Try.func110, Try.ntmps110
  go_wp2
  go_loopg [5, 8] l0.length (fun gg _ s8 wr => ∃ kk : Nat, kk ≤ l0.length ∧ l0.length - kk ≤ gg ∧ s8 = .int .i64 kk ∧ Drawn0 w wr ∧ Aside0 (∀ j, j < kk → p (l0.getD j 0) = false))
  case atStart => exact ⟨0, Nat.zero_le _, by omega, rfl, Drawn0.refl _, ⟨fun j hj => absurd hj (Nat.not_lt_zero _)⟩⟩
  case round =>
    obtain ⟨kk, hkk, hg, rfl, ⟨q, rfl⟩, A⟩ := hrel
    by_cases hlt : kk < l0.length
    · have hltz : (kk : Int) < (l0.length : Int) := by omega
      have h0 : (0 : Int) ≤ (kk : Int) := by omega
      obtain ⟨ad, e1, hcell⟩ := Kd.at_int HR.out (kk : Int) h0 hltz
      cases e1
      rw [Int.toNat_natCast] at hcell
      have hcall := HP.out (w.drewN q) (rd l0 (kk : Int)) (mem_getD (by simpa using hlt)) ⟨_, rfl⟩
      cases hq : p (rd l0 (kk : Int)) with
      | true =>
        rw [hq] at hcall
        have HQ := A_ hq
        clear hq
        go_wp2_with (go_at_fn g; refine hcall.mono ?_; rintro e w' ⟨rfl, ⟨q', rfl⟩⟩)
        go_ret
        refine ⟨by rw [idxP_hit p l0 kk hlt A.out (by simpa [rd] using HQ.out)]; rfl, ?_⟩; (repeat (first | exact Drawn0.refl _ | apply Drawn0.step))
      | false =>
        rw [hq] at hcall
        have HQ := A_ hq
        clear hq
        go_wp2_with (go_at_fn g; refine hcall.mono ?_; rintro e w' ⟨rfl, ⟨q', rfl⟩⟩)
        go_roundg (l0.length - (kk + 1))
        case measure => omega
        case rel =>
          refine ⟨kk + 1, by omega, by omega, by go_num, mc338, ⟨fun j hj => ?_⟩⟩
          by_cases e : j = kk
          · subst e
            simpa [rd] using HQ.out
          · exact A.out j (by omega)
    · have hltd : decide (kk < l0.length) = false := decide_eq_false hlt
      go_wp2
      go_ret
      exact ⟨by rw [idxP_miss p l0 (fun j hj => A.out j (by have := of_decide_eq_false hltd; omega))]; rfl, mc338⟩

set_option maxHeartbeats 2000000 in
theorem lib_ContainsFunc_int (g : Nat) (lb : Array Value) (p : Int → Bool) (A0 : Option Addr) (c0 : Nat) (l0 : List Int) (w : World)
    (eg : ∀ args w, (callFunc g args).run Try.prog w = .ok (.enter g args) w)
    (hr0 : Kd.C (Kd.int .i64) w A0 l0.length l0) (hp : PredInt g lb p l0 w) :
    Calls Try.prog 98 #[.slice A0 l0.length c0, .func (.func g) #[] lb] w fun e w' => e = .returned (.bool (l0.any p)) ∧ Drawn0 w w' := by
  have HR := A_ hr0
  have HP := A_ hp
  clear hr0 hp
  have hi := lib_IndexFunc_int g lb p A0 c0 l0 w eg HR.out HP.out
  have E := A_ (idxP_ge p l0)
  generalize idxP p l0 = r at hi E
  go_enter Try.func98, Try.ntmps98
  go_wp2_with (go_at_call 110; refine hi.mono ?_; rintro e w' ⟨rfl, ⟨q', rfl⟩⟩)
  go_ret
  exact ⟨by rw [← E.out]; rfl, mc338⟩

end Go.Proofs.Ytdmkbfjipgaloaa.P
