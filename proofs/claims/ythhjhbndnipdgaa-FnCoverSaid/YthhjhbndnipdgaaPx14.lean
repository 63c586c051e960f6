-- Made by pp.py of this session out of the kit's print and of contracts proved by hand; Lean checks it.
import Derived.Test.YthhjhbndnipdgaaQx1
import Derived.Test.YthhjhbndnipdgaaPx0
namespace Go.Proofs.Ythhjhbndnipdgaa.P
open Go.RowKit Go.Proofs.YthhjhbndnipdgaaW.PrintWords Go.Proofs.YthhjhbndnipdgaaW.PrintLast Go.Proofs.YthhjhbndnipdgaaW.PrintMore
attribute [local go_sem] max2_int min2_int max_two min_two max_three min_three max_four min_four   -- for this text's walks alone
set_option linter.unusedVariables false
set_option linter.unusedSimpArgs false

-- ALONE
/-! ### spec_l1Put: function 67 -/
def putI : List Int → Int → List Int
  | [], n => [n]
  | x :: xs, n => if x < n then x :: putI xs n else if x = n then x :: xs else n :: x :: xs
def foundI : List Int → Int → Bool
  | [], _ => false
  | x :: xs, n => if x < n then foundI xs n else decide (x = n)
theorem putI_found : ∀ (l : List Int) (n : Int), foundI l n = true → putI l n = l
  | [], n, h => by simp [foundI] at h
  | x :: xs, n, h => by
    simp only [foundI] at h
    simp only [putI]
    by_cases c : x < n
    · rw [if_pos c] at h ⊢; rw [putI_found xs n h]
    · rw [if_neg c] at h ⊢; rw [if_pos (of_decide_eq_true h)]
theorem putI_len : ∀ (l : List Int) (n : Int), (putI l n).length ≤ l.length + 1
  | [], n => by simp [putI]
  | x :: xs, n => by
    have := putI_len xs n
    simp only [putI]
    split
    · simp; omega
    · split <;> simp
def spec_l1Put.f (l0 : List Int) (a1 : Int) : Option (List Int) := if l0.length < 10000000 then some (putI l0 a1) else none
section
variable {α : Type} {r : α} {f g : Nat → Option α}
theorem q_pos {c : Prop} [Decidable c] (h : c) (e : Ev f r) : Ev (fun k => if c then f k else g k) r := e.congr fun _ => if_pos h
theorem q_const {a : Option α} (h : a = some r) : Ev (fun _ => a) r := ⟨0, fun _ _ => h⟩
theorem q_neg {c : Prop} [Decidable c] (h : ¬ c) (e : Ev g r) : Ev (fun k => if c then f k else g k) r := e.congr fun _ => if_neg h
end
theorem q_put (l : List Int) (n : Int) (hl : l.length < 10000000) : ∀ (d i : Nat), l.length - i = d → i ≤ l.length → foundI (l.drop i) n = false →
    Ev (fun k => Q.spec_l1Put.l0 k l n (i : Int)) (l.take i ++ putI (l.drop i) n) := by
  intro d
  induction d with
  | zero =>
    intro i hd hi hf
    refine Ev.step (fun k => by rw [Q.spec_l1Put.l0]) ?_
    obtain rfl : i = l.length := by omega
    refine q_neg (by omega) (q_const ?_)
    simp [putI]
    omega
  | succ d ih =>
    intro i hd hi hf
    have hlt : i < l.length := by omega
    refine Ev.step (fun k => by rw [Q.spec_l1Put.l0]) ?_
    have er : rd l (i : Int) = l[i] := by simp [rd, hlt]
    rw [List.drop_eq_getElem_cons hlt] at hf ⊢
    simp only [foundI] at hf
    simp only [putI]
    refine q_pos (by omega) (q_pos (by omega) ?_)
    by_cases c : l[i] < n
    · rw [if_pos c] at hf ⊢
      refine q_pos (by rw [er]; exact c) ?_
      have ew : wrap64 ((i : Int) + 1) = ((i + 1 : Nat) : Int) := by unfold wrap64; omega
      rw [ew]
      have h1 := ih (i + 1) (by omega) (by omega) hf
      rw [List.take_succ_eq_append_getElem hlt, List.append_assoc] at h1
      exact h1
    · rw [if_neg c] at hf ⊢
      have c2 : ¬ l[i] = n := of_decide_eq_false hf
      rw [if_neg c2]
      refine q_neg (by rw [er]; exact c) (q_neg (by rw [er]; exact c2) ?_)
      refine q_const ?_
      rw [← List.drop_eq_getElem_cons hlt]
      simp
      omega
set_option maxHeartbeats 2000000 in
theorem l1Put_found (A0 : Option Addr) (c0 : Nat) (l0 : List Int) (a1 : Int) (w : World) (hr0 : Kd.C (Kd.int .i64) w A0 l0.length l0) (hf : foundI l0 a1 = true) :
    Calls Try.prog 67 #[.slice A0 l0.length c0, .int .i64 a1] w fun e w' => e = .returned (.slice A0 l0.length c0) ∧ Below w.heap.size w w' := by
  have HR0 := Aside0.mk hr0
  have hmx := Kd.C_max hr0
  clear hr0
  have HB := Aside0.mk (Below.refl w.heap.size w)
  have HF := Aside0.mk hf
  clear hf
  go_enter Try.func67, Try.ntmps67
  go_wp2
  go_loopg [5] l0.length (fun gg v5 w' => ∃ kk : Nat, kk ≤ l0.length ∧ l0.length - kk ≤ gg ∧ v5 = .int .i64 kk ∧ Aside0 (foundI (l0.drop kk) a1 = true) ∧ Aside0 (Below w.heap.size w w'))
  case atStart => exact ⟨0, Nat.zero_le _, by omega, rfl, by simpa using HF, HB⟩
  case round =>
    clear HF
    obtain ⟨kk, hkk, hg, rfl, HF, HB⟩ := hrel
    have hf := HF.out
    clear HF
    have hlt : kk < l0.length := by
      rcases Nat.lt_or_ge kk l0.length with h | h
      · exact h
      · rw [List.drop_of_length_le h] at hf; simp [foundI] at hf
    rw [List.drop_eq_getElem_cons hlt] at hf
    simp only [foundI] at hf
    have p101 : (0 : Int) ≤ (kk : Int) := by omega
    have q101 : (kk : Int) < (l0.length : Int) := by omega
    obtain ⟨ad101, e101, hx101_0⟩ := Kd.at_int HR0.out (kk : Int) p101 q101
    cases e101
    replace hx101_0 := (HB.out.cell (World.block_lt_of_cell? w _ hx101_0)).trans hx101_0
    have er : rd l0 (kk : Int) = l0[kk] := by simp [rd, hlt]
    rw [Int.toNat_natCast] at hx101_0
    by_cases c : l0[kk] < a1
    · rw [if_pos c, ← er] at *
      have c5b0 : decide ((rd l0 (kk : Int)) < a1) = true := decide_eq_true c
      have HF := Aside0.mk hf
      clear hf c er
      go_wp2
      go_roundg (l0.length - (kk + 1))
      case measure => omega
      case rel => exact ⟨kk + 1, by omega, by omega, by go_num, HF, ⟨by repeat (first | (with_reducible first | exact HB.out | apply below_alloc | apply pw_below_drewN | apply below_drew1) | exact HB.out)⟩⟩
    · rw [if_neg c] at hf
      have c6 : l0[kk] = a1 := of_decide_eq_true hf
      rw [← er] at c c6
      have c5b0 : decide ((rd l0 (kk : Int)) < a1) = false := decide_eq_false c
      have c6b0 : ((rd l0 (kk : Int)) == a1) = true := beq_iff_eq.mpr c6
      have c6b1 : ((rd l0 (kk : Int)) != a1) = false := bne_eq_false_iff_eq.mpr c6
      clear c c6 hf er
      go_wp2
      go_ret
      exact ⟨rfl, by repeat (first | (with_reducible first | exact HB.out | apply below_alloc | apply pw_below_drewN | apply below_drew1) | exact HB.out)⟩
set_option maxHeartbeats 8000000 in
set_option maxRecDepth 100000 in
theorem spec_l1Put.calls (P0_ : Nat → Prop) (u9000_ : Value) (l0 : List Int) (a1 : Int) (r : List Int) (w0 w : World) (hB : Below w0.heap.size w0 w) (ho0 : Kd.R (Kd.int .i64) 3 w w0.heap.size P0_ u9000_ l0) (h : spec_l1Put.f l0 a1 = some r) :
    Calls Try.prog 67 #[u9000_, .int .i64 a1] w fun e w' => ∃ v0_ : Value, e = .returned (v0_) ∧ Kd.R (Kd.int .i64) 3 w' w0.heap.size (fun k_ => (P0_ k_ ∨ w.heap.size ≤ k_)) v0_ r ∧ Below w0.heap.size w0 w' ∧ Kept w w' (fun k_ => P0_ k_) := by
  unfold spec_l1Put.f at h
  by_cases hl : l0.length < 10000000
  · rw [if_pos hl] at h
    obtain rfl := Option.some.inj h
    obtain ⟨A, c, rfl, hle, hC⟩ := Kd.R_reads ho0
    cases hf : foundI l0 a1 with
    | true =>
      refine (l1Put_found A c l0 a1 w hC hf).mono ?_
      rintro e w' ⟨rfl, hb⟩
      exact ⟨_, rfl, by rw [putI_found l0 a1 hf]; exact Kd.R_mono (Kd.R_below ho0 hb) (fun k hk => .inl hk), below_step hB hb, Kept.of_below hb _⟩
    | false =>
      obtain ⟨k, hk⟩ := (q_put l0 a1 hl _ 0 rfl (Nat.zero_le _) (by simpa using hf)).rounds
      have hk' : Q.spec_l1Put.f k l0 a1 = some (putI l0 a1) := by simpa [Q.spec_l1Put.f] using hk
      refine (Q.spec_l1Put.calls k A c l0 a1 _ w hC hle hk').mono ?_
      rintro e w' ⟨v, rfl, hR, hb⟩
      exact ⟨v, rfl, Kd.R_lower (Kd.R_mono (Kd.R_bound hR) (fun k hk => .inr hk.2.1)) hB.size, below_step hB hb, Kept.of_below hb _⟩
  · rw [if_neg hl] at h; cases h

end Go.Proofs.Ythhjhbndnipdgaa.P
