/- Fractions in lowest terms: the reference's and the program's greatest common divisor and sum. -/
import Derived.Test.YtdhdifoenladpaaEv
import Derived.Test.YtdhdifoenladpaaPx29
import Derived.Test.YtdhdifoenladpaaPx7
namespace Go.Proofs.Ytdhdifoenladpaa.Pure
open Go.RowKit Go.Proofs.Ytdhdifoenladpaa.P Go.Proofs.YtdhdifoenladpaaW.PrintWords Go.Proofs.YtdhdifoenladpaaW.PrintLast

theorem gcd_step (a b : Int) (hb : 0 < b) (ha : 0 ≤ a) : (Int.gcd b (Int.tmod a b) : Int) = Int.gcd a b := by
  obtain ⟨m, rfl⟩ := Int.eq_ofNat_of_zero_le ha
  obtain ⟨n, rfl⟩ := Int.eq_ofNat_of_zero_le (Int.le_of_lt hb)
  have h : Nat.gcd n (m % n) = Nat.gcd m n := by rw [Nat.gcd_comm n, ← Nat.gcd_rec, Nat.gcd_comm]
  rw [← Int.ofNat_tmod]
  exact congrArg Int.ofNat h
theorem common_l0 : ∀ (n : Nat) (a b : Int), b.toNat ≤ n → 0 ≤ a → 0 ≤ b → Ev (fun k => spec_l21Common.l0 k a b) (Int.gcd a b : Int) := by
  intro n
  induction n with
  | zero =>
    intro a b hn ha hb
    have : b = 0 := by omega
    subst this
    refine Ev.step (fun k => by rw [spec_l21Common.l0]) ?_
    refine Ev.pos rfl (Ev.const ?_)
    rw [Int.gcd_zero_right]; congr 1; omega
  | succ n ih =>
    intro a b hn ha hb
    refine Ev.step (fun k => by rw [spec_l21Common.l0]) ?_
    refine Ev.cases (fun h => ?_) (fun h => ?_)
    · subst h
      refine Ev.const ?_
      rw [Int.gcd_zero_right]; congr 1; omega
    · have hb' : 0 < b := by omega
      have h1 := Int.tmod_nonneg b ha
      have h2 := Int.tmod_lt_of_pos a hb'
      exact Ev.eq (ih b (Int.tmod a b) (by omega) hb h1) (gcd_step a b hb' ha)
theorem divisor_l0 : ∀ (n : Nat) (a b : Int), b.toNat ≤ n → 0 ≤ a → 0 ≤ b → Ev (fun k => impl_divisorOf.l0 k a b) (Int.gcd a b : Int) := by
  intro n
  induction n with
  | zero =>
    intro a b hn ha hb
    have : b = 0 := by omega
    subst this
    refine Ev.step (fun k => by rw [impl_divisorOf.l0]) ?_
    refine Ev.neg (by omega) (Ev.const ?_)
    rw [Int.gcd_zero_right]; congr 1; omega
  | succ n ih =>
    intro a b hn ha hb
    refine Ev.step (fun k => by rw [impl_divisorOf.l0]) ?_
    refine Ev.cases (fun h => ?_) (fun h => ?_)
    · refine Ev.neg (by omega) ?_
      have h1 := Int.tmod_nonneg b ha
      have h2 := Int.tmod_lt_of_pos a h
      exact Ev.eq (ih b (Int.tmod a b) (by omega) hb h1) (gcd_step a b h ha)
    · have : b = 0 := by omega
      subst this
      refine Ev.const ?_
      rw [Int.gcd_zero_right]; congr 1; omega
theorem abs_f (a : Int) (h1 : -4611686018427387904 ≤ a) : impl_absOf.f a = some (a.natAbs : Int) := by
  unfold impl_absOf.f
  by_cases h : a < 0
  · rw [if_pos h, w64 (by omega) (by omega)]; congr 1; omega
  · rw [if_neg h]; congr 1; omega
theorem most_neg (a : Int) (h1 : -4611686018427387904 ≤ a) (h2 : a ≤ 4611686018427387904) : spec_l1Most.f a (wrap64 (-a)) = some (a.natAbs : Int) := by
  unfold spec_l1Most.f
  rw [w64 (by omega) (by omega)]
  split <;> (congr 1; omega)
/-- A fraction in lowest terms. -/
def lowest (n d : Int) : Int × Int := (Int.tdiv n (Int.gcd n d : Int), Int.tdiv d (Int.gcd n d : Int))
theorem tdiv_bd (n d : Int) : -(n.natAbs : Int) ≤ Int.tdiv n d ∧ Int.tdiv n d ≤ n.natAbs := by
  have h := Int.natAbs_tdiv_le_natAbs n d
  omega
theorem reduce_ev (n d : Int) (h1 : -4611686018427387904 ≤ n) (h2 : n ≤ 4611686018427387904) (h3 : 0 < d) (h4 : d ≤ 4611686018427387904) : Ev (fun k => spec_l21Reduce.f k n d) (lowest n d) := by
  unfold spec_l21Reduce.f spec_l21Common.f
  have hg : (Int.gcd n d : Int) ≠ 0 := by
    intro h
    have := Int.gcd_eq_zero_iff.1 (Int.ofNat.inj h)
    omega
  refine Ev.bind (a := (Int.gcd n d : Int)) ?_ ?_
  · refine Ev.bindc (most_neg n h1 h2) (Ev.bindc (most_neg d (by omega) h4) ?_)
    exact Ev.eq (common_l0 _ _ _ (Nat.le_refl _) (by omega) (by omega)) (by simp only [Int.gcd, Int.natAbs_natCast])
  · refine Ev.neg hg (Ev.const ?_)
    have b1 := tdiv_bd n (Int.gcd n d : Int)
    have b2 := tdiv_bd d (Int.gcd n d : Int)
    rw [w64 (by omega) (by omega), w64 (by omega) (by omega)]; rfl
theorem fraction_ev (n d : Int) (h1 : -4611686018427387904 ≤ n) (h2 : n ≤ 4611686018427387904) (h3 : 0 < d) (h4 : d ≤ 4611686018427387904) : Ev (fun k => impl_fraction.f k n d) ((lowest n d).1, (lowest n d).2, true) := by
  unfold impl_fraction.f impl_ratioOf.f impl_divisorOf.f
  have hg : (Int.gcd n d : Int) ≠ 0 := by
    intro h
    have := Int.gcd_eq_zero_iff.1 (Int.ofNat.inj h)
    omega
  refine Ev.bind (a := ((lowest n d).1, (lowest n d).2, true)) ?_ (Ev.now _)
  refine Ev.neg (by omega) (Ev.neg (by omega) (Ev.bindc (abs_f n h1) ?_))
  refine Ev.bind (Ev.eq (divisor_l0 _ _ _ (Nat.le_refl _) (by omega) (by omega)) (show _ = (Int.gcd n d : Int) by rw [Int.gcd_comm]; simp only [Int.gcd, Int.natAbs_natCast])) ?_
  refine Ev.neg hg (Ev.const ?_)
  have b1 := tdiv_bd n (Int.gcd n d : Int)
  have b2 := tdiv_bd d (Int.gcd n d : Int)
  rw [w64 (by omega) (by omega), w64 (by omega) (by omega)]; rfl
theorem fraction_zero (n : Int) : Ev (fun k => impl_fraction.f k n 0) (0, 0, false) := by
  unfold impl_fraction.f impl_ratioOf.f
  exact Ev.bind (a := (0, 0, false)) (Ev.pos rfl (Ev.now _)) (Ev.now _)

theorem sumOf_l0 (l : List Int) (hl : l.length ≤ 1048576) (hb : ∀ i (h : i < l.length), -10000000 ≤ l[i] ∧ l[i] ≤ 10000000) : ∀ (d i : Nat) (s : Int), l.length - i = d → i ≤ l.length → -(10000000 * (i : Int)) ≤ s → s ≤ 10000000 * (i : Int) →
    Ev (fun k => impl_sumOf.l0 k s l (l.length : Int) (i : Int)) (s + (l.drop i).sum) := by
  intro d
  induction d with
  | zero =>
    intro i s hd hi _ _
    refine Ev.step (fun k => by rw [impl_sumOf.l0]) ?_
    refine Ev.neg (by omega) (Ev.const ?_)
    rw [List.drop_of_length_le (by omega)]; simp
  | succ d ih =>
    intro i s hd hi h1 h2
    have hlt : i < l.length := by omega
    have b := hb i hlt
    refine Ev.step (fun k => by rw [impl_sumOf.l0]) ?_
    refine Ev.pos (by omega) (Ev.pos (by omega) (Ev.pos (by omega) ?_))
    rw [rd_lt l i hlt, w64 (x := s + l[i]) (by omega) (by omega), w64 (by omega) (by omega), show (i : Int) + 1 = ((i + 1 : Nat) : Int) from by omega, drop_cons' l i hlt, List.sum_cons]
    exact Ev.eq (ih (i + 1) (s + l[i]) (by omega) (by omega) (by omega) (by omega)) (by omega)
theorem sumOf (l : List Int) (hl : l.length ≤ 1048576) (hb : ∀ x ∈ l, -10000000 ≤ x ∧ x ≤ 10000000) : Ev (fun k => impl_sumOf.f k l) l.sum := by
  unfold impl_sumOf.f
  exact Ev.eq (sumOf_l0 l hl (fun i h => hb _ (List.getElem_mem h)) _ 0 0 rfl (by omega) (by omega) (by omega)) (by simp)
theorem sum_bd (l : List Int) (B : Int) (hb : ∀ x ∈ l, -B ≤ x ∧ x ≤ B) : -(B * (l.length : Int)) ≤ l.sum ∧ l.sum ≤ B * (l.length : Int) := by
  induction l with
  | nil => simp
  | cons x xs ih =>
    have h1 := ih (fun y hy => hb y (List.mem_cons_of_mem _ hy))
    have h2 := hb x (List.mem_cons_self ..)
    rw [List.sum_cons, List.length_cons, Int.natCast_add, Int.mul_add]
    simp only [Int.natCast_one, Int.mul_one]
    omega
end Go.Proofs.Ytdhdifoenladpaa.Pure
