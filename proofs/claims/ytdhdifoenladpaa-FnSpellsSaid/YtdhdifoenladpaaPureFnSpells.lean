/- Every day of the longest spell reaches the threshold, filled series keep all values, and records rise. Conditions: none beyond the given statement's. -/
import Derived.Test.YtdhdifoenladpaaPx0
import Derived.Test.YtdhdifoenladpaaPx33
import Derived.Test.YtdhdifoenladpaaPx34
import Derived.Test.YtdhdifoenladpaaPx35
import Derived.Test.YtdhdifoenladpaaPx3
import Derived.Test.YtdhdifoenladpaaPx4
import Derived.Test.YtdhdifoenladpaaPx18
import Derived.Test.YtdhdifoenladpaaPx8
import Derived.Test.YtdhdifoenladpaaPx7
import Derived.Test.YtdhdifoenladpaaPx27
import Derived.Test.YtdhdifoenladpaaPx28
import Derived.Test.YtdhdifoenladpaaPx16
import Derived.Test.YtdhdifoenladpaaPx6
import Derived.Test.YtdhdifoenladpaaPx9
import Derived.Test.YtdhdifoenladpaaPx10
import Derived.Test.YtdhdifoenladpaaPx31
import Derived.Test.YtdhdifoenladpaaPx32
import Derived.Test.YtdhdifoenladpaaPx19
import Derived.Test.YtdhdifoenladpaaPx13
import Derived.Test.YtdhdifoenladpaaPx48
import Derived.Test.YtdhdifoenladpaaPx49
/- Small laws on "with enough rounds the function answers r" (Ev) and on wrapping sums; used by every plain law of this seat. -/
namespace Go.Proofs.Ytdhdifoenladpaa.Pure
open Go.RowKit Go.Proofs.YtdhdifoenladpaaW.PrintWords Go.Proofs.YtdhdifoenladpaaW.PrintLast

section
variable {α β : Type} {r : α} {f g : Nat → Option α}
theorem Ev.pos {c : Prop} [Decidable c] (h : c) (e : Ev f r) : Ev (fun k => if c then f k else g k) r := e.congr fun _ => if_pos h
theorem Ev.neg {c : Prop} [Decidable c] (h : ¬ c) (e : Ev g r) : Ev (fun k => if c then f k else g k) r := e.congr fun _ => if_neg h
theorem Ev.const {a : Option α} (h : a = some r) : Ev (fun _ => a) r := ⟨0, fun _ _ => h⟩
theorem Ev.bindc {a : Option β} {b : β} {f : Nat → β → Option α} (h : a = some b) (k : Ev (fun n => f n b) r) : Ev (fun n => a.bind (f n)) r := Ev.bind (Ev.const h) k
theorem Ev.eq {r' : α} (h : Ev f r) (e : r = r') : Ev f r' := e ▸ h
theorem Ev.cases {c : Prop} [Decidable c] (h1 : c → Ev f r) (h2 : ¬ c → Ev g r) : Ev (fun k => if c then f k else g k) r := by
  by_cases h : c
  · exact Ev.pos h (h1 h)
  · exact Ev.neg h (h2 h)
end

theorem w64 {x : Int} (h1 : -9223372036854775808 ≤ x) (h2 : x ≤ 9223372036854775807) : wrap64 x = x := by unfold wrap64; omega

theorem rd_nat (l : List Int) (i : Nat) : rd l (i : Int) = l.getD i 0 := by simp [rd]
theorem rd_lt (l : List Int) (i : Nat) (h : i < l.length) : rd l (i : Int) = l[i] := by simp [rd, h]
theorem take_succ' {α : Type} (l : List α) (i : Nat) (h : i < l.length) : l.take (i + 1) = l.take i ++ [l[i]] := by
  rw [List.take_succ_eq_append_getElem h]
theorem drop_cons' {α : Type} (l : List α) (i : Nat) (h : i < l.length) : l.drop i = l[i] :: l.drop (i + 1) := List.drop_eq_getElem_cons h
end Go.Proofs.Ytdhdifoenladpaa.Pure

/- The reader of choices: it always gives a choice in its range and goes on by a bounded step. -/
namespace Go.Proofs.Ytdhdifoenladpaa.Pure
open Go.RowKit Go.Proofs.Ytdhdifoenladpaa.P Go.Proofs.YtdhdifoenladpaaW.PrintWords Go.Proofs.YtdhdifoenladpaaW.PrintLast

/-- The bytes that are read. -/
def Code (l : List Int) : Prop := ∀ x ∈ l, 0 ≤ x ∧ x ≤ 255
theorem code_of {l : List Int} (h : ∀ x ∈ l, (Lit.int .u8 x).wf = true) : Code l := fun x hx => by
  have := h x hx
  simp only [Lit.wf, Bool.and_eq_true, decide_eq_true_eq] at this
  exact this
theorem rd_code {l : List Int} (h : Code l) (i : Int) (h0 : 0 ≤ i) (h1 : i < l.length) : 0 ≤ rd l i ∧ rd l i ≤ 255 := by
  obtain ⟨n, rfl⟩ : ∃ n : Nat, i = n := ⟨i.toNat, by omega⟩
  rw [rd_lt l n (by omega)]
  exact h _ (List.getElem_mem (by omega))
theorem wrap_u64' (n : Int) : IntKind.u64.wrap n = n % 18446744073709551616 := by simp [IntKind.wrap, IntKind.bits, IntKind.signed]
theorem byte_of (n : Int) : 0 ≤ Go.bits .and .u64 (IntKind.u64.wrap n / 1099511627776) 255 ∧ Go.bits .and .u64 (IntKind.u64.wrap n / 1099511627776) 255 ≤ 255 := by
  rw [wrap_u64']
  have h := bits_mask .u64 24 (by decide) (fun n h0 h1 => by rw [wrap_u64']; omega) 8 (by decide) (n % 18446744073709551616 / 1099511627776) (by omega) (by omega)
  simp only [show ((2 : Int) ^ 8) = 256 from by decide, show ((256 : Int) - 1) = 255 from by decide] at h
  rw [h]; omega

/-- Where the reader stands: not far from the begin. -/
def At (a : Int) (n : Nat) : Prop := 0 ≤ a ∧ a ≤ n ∧ n ≤ 1000000000
theorem At.le {a : Int} {n m : Nat} (h : At a n) (hn : n ≤ m) (hm : m ≤ 1000000000) : At a m := ⟨h.1, by have := h.2.1; omega, hm⟩

theorem next_ok {l : List Int} (hc : Code l) {a s : Int} {n : Nat} (h : At a n) (hn : n + 1 ≤ 1000000000) : ∃ b a' s', spec_l1Cur_next.f l a s = some (b, a', s') ∧ 0 ≤ b ∧ b ≤ 255 ∧ At a' (n + 1) := by
  obtain ⟨h0, h1, h2⟩ := h
  have hw : wrap64 (a + 1) = a + 1 := w64 (by omega) (by omega)
  have ha : At (a + 1) (n + 1) := ⟨by omega, by omega, hn⟩
  unfold spec_l1Cur_next.f
  rw [hw]
  by_cases c1 : a < (l.length : Int)
  · have hr := rd_code hc a h0 c1
    rw [if_pos c1, if_pos h0, if_pos (by omega), w64 (x := rd l a) (by omega) (by omega)]
    exact ⟨_, _, _, rfl, hr.1, hr.2, ha⟩
  · rw [if_neg c1, if_neg (by omega)]
    have hb := byte_of (IntKind.u64.wrap (IntKind.u64.wrap (s * 6364136223846793005) + 0) + 889889)
    rw [w64 (x := Go.bits .and .u64 _ 255) (by omega) (by omega)]
    exact ⟨_, _, _, rfl, hb.1, hb.2, ha⟩
theorem pick_ok {l : List Int} (hc : Code l) {a s : Int} {n : Nat} (h : At a n) (hn : n + 2 ≤ 1000000000) (m : Int) (hm : m ≤ 1000000) : ∃ b a' s', spec_l1Cur_pick.f l a s m = some (b, a', s') ∧ 0 ≤ b ∧ (b < m ∨ b = 0) ∧ At a' (n + 2) := by
  unfold spec_l1Cur_pick.f
  by_cases c : m ≤ 1
  · rw [if_pos c]; exact ⟨_, _, _, rfl, by omega, .inr rfl, h.le (by omega) hn⟩
  · rw [if_neg c]
    obtain ⟨b, a', s', e, hb0, hb1, h'⟩ := next_ok hc (s := s) h (by omega)
    rw [e]
    simp only [Option.bind_some]
    by_cases c2 : m > 200
    · rw [if_pos c2]
      obtain ⟨b2, a2, s2, e2, hc0, hc1, h2⟩ := next_ok hc (s := s') h' (by omega)
      rw [e2]
      simp only [Option.bind_some]
      rw [if_neg (by omega), w64 (x := b * 256) (by omega) (by omega), w64 (x := b * 256 + b2) (by omega) (by omega)]
      refine ⟨_, _, _, rfl, Int.tmod_nonneg _ (by omega), .inl (Int.tmod_lt_of_pos _ (by omega)), h2.le (by omega) (by omega)⟩
    · rw [if_neg c2, if_neg (by omega)]
      exact ⟨_, _, _, rfl, Int.tmod_nonneg _ hb0, .inl (Int.tmod_lt_of_pos _ (by omega)), h'.le (by omega) (by omega)⟩
end Go.Proofs.Ytdhdifoenladpaa.Pure

/- The reader of choices: one of some numbers. -/
namespace Go.Proofs.Ytdhdifoenladpaa.Pure
open Go.RowKit Go.Proofs.Ytdhdifoenladpaa.P Go.Proofs.YtdhdifoenladpaaW.PrintWords Go.Proofs.YtdhdifoenladpaaW.PrintLast

theorem among_ok {l : List Int} (hc : Code l) {a s : Int} {n : Nat} (h : At a n) (hn : n + 2 ≤ 1000000000) (xs : List Int) (hx : xs ≠ []) (hm : xs.length ≤ 1000000) : ∃ b a' s', spec_l1Cur_among.f l a s xs = some (b, a', s') ∧ b ∈ xs ∧ At a' (n + 2) := by
  unfold spec_l1Cur_among.f
  obtain ⟨b, a', s', e, h0, h1, h'⟩ := pick_ok hc (s := s) h hn (xs.length : Int) (by omega)
  have hp := List.length_pos_iff.2 hx
  rw [e]
  simp only [Option.bind_some]
  obtain ⟨j, rfl⟩ : ∃ j : Nat, b = j := ⟨b.toNat, by omega⟩
  rw [if_pos h0, if_pos (by omega), rd_lt xs j (by omega)]
  exact ⟨_, _, _, rfl, List.getElem_mem (by omega), h'⟩
end Go.Proofs.Ytdhdifoenladpaa.Pure

/- The reader of choices: yes or no. -/
namespace Go.Proofs.Ytdhdifoenladpaa.Pure
open Go.RowKit Go.Proofs.Ytdhdifoenladpaa.P Go.Proofs.YtdhdifoenladpaaW.PrintWords Go.Proofs.YtdhdifoenladpaaW.PrintLast

end Go.Proofs.Ytdhdifoenladpaa.Pure

/- The drawn series. -/
namespace Go.Proofs.Ytdhdifoenladpaa.Pure
open Go.RowKit Go.Proofs.Ytdhdifoenladpaa.P Go.Proofs.YtdhdifoenladpaaW.PrintWords Go.Proofs.YtdhdifoenladpaaW.PrintLast
set_option linter.unusedVariables false

theorem series_l1 {l : List Int} (hc : Code l) : ∀ (d : Nat) (x : List Int) (a s : Int) (n : Nat), 100 - x.length = d → At a n → n + 1000 ≤ 1000000000 + 2 * x.length → x.length ≤ 100 → n ≤ 900000000 + 2 * x.length →
    ∃ r a' s', Ev (fun k => spec_l1Cur_series.l1 k x l a s) (r, a', s') ∧ r.length ≤ 100 ∧ At a' (n + 2 * (d + 1)) := by
  intro d
  induction d with
  | zero =>
    intro x a s n hd h h1 hx h2
    obtain ⟨b, a', s', e, hb0, hb1, h'⟩ := pick_ok hc (s := s) h (by omega) 2 (by omega)
    refine ⟨x, a', s', ?_, hx, h'⟩
    refine Ev.step (fun k => by rw [spec_l1Cur_series.l1]) ?_
    refine Ev.bindc e (Ev.neg ?_ (Ev.now _))
    simp only
    rw [w64 (by omega) (by omega)]; omega
  | succ d ih =>
    intro x a s n hd h h1 hx h2
    obtain ⟨b, a', s', e, hb0, hb1, h'⟩ := pick_ok hc (s := s) h (by omega) 2 (by omega)
    by_cases c : (x.length : Int) < wrap64 (60 + b)
    · obtain ⟨r, a2, s2, e2, hr, h3⟩ := ih (x ++ [(x.length : Int) % 7]) a' s' (n + 2) (by simp; omega) h' (by simp; omega) (by simp; omega) (by simp; omega)
      refine ⟨r, a2, s2, ?_, hr, h3.le (by omega) (by omega)⟩
      refine Ev.step (fun k => by rw [spec_l1Cur_series.l1]) ?_
      exact Ev.bindc e (Ev.pos c (Ev.pos (by omega) e2))
    · refine ⟨x, a', s', ?_, hx, h'.le (by omega) (by omega)⟩
      refine Ev.step (fun k => by rw [spec_l1Cur_series.l1]) ?_
      exact Ev.bindc e (Ev.neg c (Ev.now _))
theorem series_l2 (l : List Int) (a s : Int) : ∀ (d i : Nat) (x : List Int), x.length - i = d → x.length ≤ 100 → ∃ r, Ev (fun k => spec_l1Cur_series.l2 k x (i : Int) l a s) (r, a, s) ∧ r.length ≤ 100 := by
  intro d
  induction d with
  | zero =>
    intro i x hd hx
    refine ⟨x, ?_, hx⟩
    refine Ev.step (fun k => by rw [spec_l1Cur_series.l2]) ?_
    exact Ev.neg (by omega) (Ev.now _)
  | succ d ih =>
    intro i x hd hx
    obtain ⟨r, e, hr⟩ := ih (i + 1) (x.set i (-9999)) (by simp; omega) (by simpa using hx)
    refine ⟨r, ?_, hr⟩
    refine Ev.step (fun k => by rw [spec_l1Cur_series.l2]) ?_
    refine Ev.pos (by omega) (Ev.pos (by omega) ?_)
    rw [w64 (by omega) (by omega), show (i : Int) + 1 = ((i + 1 : Nat) : Int) from by omega, Int.toNat_natCast]
    exact e
theorem series_l0 {l : List Int} (hc : Code l) : ∀ (d : Nat) (x : List Int) (a s : Int) (n : Nat), x ≠ [] ∨ 0 < d → x.length + d ≤ 50 → At a n → n ≤ 800000000 + 2 * x.length →
    ∃ r a' s', Ev (fun k => spec_l1Cur_series.l0 k x (d : Int) l a s) (r, a', s') ∧ r.length ≤ 100 ∧ At a' (n + 2 * d + 500) := by
  intro d
  induction d with
  | zero =>
    intro x a s n hne hx h hn
    have hxp : 0 < x.length := by
      rcases hne with h | h
      · exact List.length_pos_iff.2 h
      · omega
    obtain ⟨b, a1, s1, e1, hb0, hb1, h1⟩ := pick_ok hc (s := s) h (by omega) 30 (by omega)
    by_cases c0 : b = 0
    · obtain ⟨b2, a2, s2, e2, hc0, hc1, h2⟩ := pick_ok hc (s := s1) h1 (by omega) (x.length : Int) (by omega)
      obtain ⟨b3, a3, s3, e3, hm, h3⟩ := among_ok hc (s := s2) h2 (by omega) [9000, (-9000), 9001, (-9001)] (by simp) (by simp)
      refine ⟨x.set b2.toNat b3, a3, s3, ?_, by simp; omega, h3.le (by omega) (by omega)⟩
      refine Ev.step (fun k => by rw [spec_l1Cur_series.l0]) ?_
      exact Ev.neg (by omega) (Ev.bindc e1 (Ev.pos c0 (Ev.bindc e2 (Ev.bindc e3 (Ev.pos hc0 (Ev.pos (by simp only; omega) (Ev.now _)))))))
    · by_cases c1 : b = 1
      · obtain ⟨r, a2, s2, e2, hr, h2⟩ := series_l1 hc _ x a1 s1 (n + 2) rfl h1 (by omega) (by omega) (by omega)
        refine ⟨r, a2, s2, ?_, hr, h2.le (by omega) (by omega)⟩
        refine Ev.step (fun k => by rw [spec_l1Cur_series.l0]) ?_
        exact Ev.neg (by omega) (Ev.bindc e1 (Ev.neg c0 (Ev.pos c1 e2)))
      · by_cases c2 : b = 2
        · obtain ⟨r, e2, hr⟩ := series_l2 l a1 s1 _ 0 x rfl (by omega)
          refine ⟨r, a1, s1, ?_, hr, h1.le (by omega) (by omega)⟩
          refine Ev.step (fun k => by rw [spec_l1Cur_series.l0]) ?_
          exact Ev.neg (by omega) (Ev.bindc e1 (Ev.neg c0 (Ev.neg c1 (Ev.pos c2 e2))))
        · by_cases c3 : b = 3
          · refine ⟨x.take (0 : Int).toNat, a1, s1, ?_, by simp, h1.le (by omega) (by omega)⟩
            refine Ev.step (fun k => by rw [spec_l1Cur_series.l0]) ?_
            exact Ev.neg (by omega) (Ev.bindc e1 (Ev.neg c0 (Ev.neg c1 (Ev.neg c2 (Ev.pos c3 (Ev.pos (by omega) (Ev.now _)))))))
          · refine ⟨x, a1, s1, ?_, by omega, h1.le (by omega) (by omega)⟩
            refine Ev.step (fun k => by rw [spec_l1Cur_series.l0]) ?_
            exact Ev.neg (by omega) (Ev.bindc e1 (Ev.neg c0 (Ev.neg c1 (Ev.neg c2 (Ev.neg c3 (Ev.now _))))))
  | succ d ih =>
    intro x a s n _ hx h hn
    obtain ⟨b, a1, s1, e1, hm, h1⟩ := among_ok hc (s := s) h (by omega) [(-5), 0, 3, 10, 10, 25, (-9999), (-9999), 7] (by simp) (by simp)
    obtain ⟨r, a2, s2, e2, hr, h2⟩ := ih (x ++ [b]) a1 s1 (n + 2) (.inl (by simp)) (by simp; omega) h1 (by simp; omega)
    refine ⟨r, a2, s2, ?_, hr, h2.le (by omega) (by omega)⟩
    refine Ev.step (fun k => by rw [spec_l1Cur_series.l0]) ?_
    refine Ev.pos (by omega) (Ev.bindc e1 (Ev.pos (by omega) ?_))
    rw [w64 (by omega) (by omega), show ((d + 1 : Nat) : Int) - 1 = (d : Int) from by omega]
    exact e2
theorem series_ok {l : List Int} (hc : Code l) {a s : Int} {n : Nat} (h : At a n) (hn : n ≤ 700000000) : ∃ r a' s', Ev (fun k => spec_l1Cur_series.f k l a s) (r, a', s') ∧ r.length ≤ 100 ∧ At a' (n + 1000) := by
  obtain ⟨b, a1, s1, e1, hb0, hb1, h1⟩ := pick_ok hc (s := s) h (by omega) 14 (by omega)
  obtain ⟨r, a2, s2, e2, hr, h2⟩ := series_l0 hc (b.toNat + 1) [] a1 s1 (n + 2) (.inr (by omega)) (by simp; omega) h1 (by simp; omega)
  refine ⟨r, a2, s2, ?_, hr, h2.le (by omega) (by omega)⟩
  unfold spec_l1Cur_series.f
  refine Ev.bindc e1 ?_
  rw [w64 (by simp only; omega) (by simp only; omega), show (1 : Int) + b = ((b.toNat + 1 : Nat) : Int) from by omega]
  exact e2
theorem at0 : At 0 0 := ⟨by omega, by omega, by omega⟩
theorem drawSeries {l : List Int} (hc : Code l) : ∃ r, Ev (fun k => spec_DrawIsValidSeries.f k l) r ∧ r.length ≤ 100 := by
  obtain ⟨r, a, s, e, hr, _⟩ := series_ok hc (s := 0) at0 (by omega)
  refine ⟨r, ?_, hr⟩
  unfold spec_DrawIsValidSeries.f
  exact Ev.bindc (b := (l, 0, 0)) rfl (Ev.bind e (Ev.now _))
end Go.Proofs.Ytdhdifoenladpaa.Pure

/- One of the first of some numbers. -/
namespace Go.Proofs.Ytdhdifoenladpaa.Pure
open Go.RowKit Go.Proofs.Ytdhdifoenladpaa.P Go.Proofs.YtdhdifoenladpaaW.PrintWords Go.Proofs.YtdhdifoenladpaaW.PrintLast

/-- One of the first of some numbers, how many of them being drawn as well. -/
theorem cut_ok {l : List Int} (hc : Code l) {a s : Int} {n : Nat} (h : At a n) (hn : n + 4 ≤ 1000000000) (xs : List Int) (p m : Int) (hp : 1 ≤ p) (hp2 : p ≤ 100) (hm : 1 ≤ m) (hx : m + (p - 1) / 11 ≤ xs.length) (hl : xs.length ≤ 100) :
    ∃ c a1 s1 b a' s', spec_l1Cur_pick.f l a s p = some (c, a1, s1) ∧ 0 ≤ wrap64 (m + wrap64 (Int.tdiv c 11)) ∧ wrap64 (m + wrap64 (Int.tdiv c 11)) ≤ (xs.length : Int) ∧ spec_l1Cur_among.f l a1 s1 (xs.take (wrap64 (m + wrap64 (Int.tdiv c 11))).toNat) = some (b, a', s') ∧ At a' (n + 4) := by
  obtain ⟨c, a1, s1, e1, h0, h1, h2⟩ := pick_ok hc (s := s) h (by omega) p (by omega)
  have ht : Int.tdiv c 11 = c / 11 := Int.tdiv_eq_ediv_of_nonneg h0
  have h3 : c / 11 ≤ (p - 1) / 11 := Int.ediv_le_ediv (by omega) (by omega)
  have h4 : 0 ≤ c / 11 := by omega
  have hw : wrap64 (m + wrap64 (Int.tdiv c 11)) = m + c / 11 := by rw [ht, w64 (x := c / 11) (by omega) (by omega), w64 (by omega) (by omega)]
  have hne : xs.take (m + c / 11).toNat ≠ [] := by
    intro he
    have := congrArg List.length he
    rw [List.length_take, List.length_nil] at this
    omega
  obtain ⟨b, a', s', e2, _, h5⟩ := among_ok hc (s := s1) h2 (by omega) (xs.take (m + c / 11).toNat) hne (by simp; omega)
  refine ⟨c, a1, s1, b, a', s', e1, ?_, ?_, ?_, h5.le (by omega) (by omega)⟩
  · rw [hw]; omega
  · rw [hw]; omega
  · rw [hw]; exact e2
end Go.Proofs.Ytdhdifoenladpaa.Pure

/- The laws' own helpers on lists of integers: a copy, an equality, marks and their check. -/
namespace Go.Proofs.Ytdhdifoenladpaa.Pure
open Go.RowKit Go.Proofs.Ytdhdifoenladpaa.P Go.Proofs.YtdhdifoenladpaaW.PrintWords Go.Proofs.YtdhdifoenladpaaW.PrintLast

end Go.Proofs.Ytdhdifoenladpaa.Pure

/- The reference's test of a series is the program's. -/
namespace Go.Proofs.Ytdhdifoenladpaa.Pure
open Go.RowKit Go.Proofs.Ytdhdifoenladpaa.P Go.Proofs.YtdhdifoenladpaaW.PrintWords Go.Proofs.YtdhdifoenladpaaW.PrintLast

theorem l1In_f (x a b : Int) : spec_l1In.f x a b = some (decide (a ≤ x) && decide (x ≤ b)) := by
  unfold spec_l1In.f
  by_cases h : x ≥ a
  · simp [h]
  · simp [h]
theorem within_f (x a b : Int) : impl_within.f x a b = some (decide (a ≤ x) && decide (x ≤ b)) := by
  unfold impl_within.f
  by_cases h : x ≥ a
  · simp [h]
  · simp [h]
theorem threshold_f (x : Int) : spec_l13Threshold.f x = some (decide (-9000 ≤ x) && decide (x ≤ 9000)) := by
  unfold spec_l13Threshold.f; rw [l1In_f]; rfl

theorem l24Good_l0 (l : List Int) (hl : l.length ≤ 1048576) : ∀ (d i : Nat), l.length - i = d → i ≤ l.length →
    Ev (fun k => spec_l24Good.l0 k l (i : Int)) ((l.drop i).all cellB && (decide (1 ≤ (l.length : Int)) && decide ((l.length : Int) ≤ 60))) := by
  intro d
  induction d with
  | zero =>
    intro i hd hi
    refine Ev.step (fun k => by rw [spec_l24Good.l0]) ?_
    refine Ev.neg (by omega) (Ev.const ?_)
    rw [l1In_f, List.drop_of_length_le (by omega)]; rfl
  | succ d ih =>
    intro i hd hi
    refine Ev.step (fun k => by rw [spec_l24Good.l0]) ?_
    refine Ev.pos (by omega) (Ev.pos (by omega) ?_)
    have e := ih (i + 1) (by omega) (by omega)
    rw [w64 (by omega) (by omega), show (i : Int) + 1 = ((i + 1 : Nat) : Int) from by omega, rd_lt l i (by omega), drop_cons' l i (by omega), List.all_cons]
    refine Ev.cases (fun h => ?_) (fun h => ?_)
    · exact Ev.eq e (by simp [cellB, h])
    · refine Ev.bindc (threshold_f _) ?_
      refine Ev.cases (fun h' => ?_) (fun h' => ?_)
      · exact Ev.eq e (by simp only [cellB, h', Bool.or_true, Bool.true_and])
      · refine Ev.const ?_
        have : cellB l[i] = false := by simp only [cellB]; simp at h' ⊢; exact ⟨h, h'⟩
        rw [this]; rfl
theorem l24Good (l : List Int) (hl : l.length ≤ 1048576) : Ev (fun k => spec_l24Good.f k l) (seriesB l) := by
  unfold spec_l24Good.f
  exact Ev.eq (l24Good_l0 l hl _ 0 rfl (by omega)) (by unfold seriesB; rw [List.drop_zero, Bool.and_comm])
end Go.Proofs.Ytdhdifoenladpaa.Pure

/- The longest spell: the program's and the reference's, and that all its days reach the threshold. -/
namespace Go.Proofs.Ytdhdifoenladpaa.Pure
open Go.RowKit Go.Proofs.Ytdhdifoenladpaa.P Go.Proofs.YtdhdifoenladpaaW.PrintWords Go.Proofs.YtdhdifoenladpaaW.PrintLast
set_option linter.unusedVariables false

/-- One day: the first day and the length of the longest spell so far, and where the present one began. -/
def stepS (th : Int) (s : Int × Int × Int) (d n : Int) : Int × Int × Int :=
  if n < th then (s.1, s.2.1, d + 1) else if d + 1 - s.2.2 > s.2.1 then (s.2.2, d + 1 - s.2.2, s.2.2) else s
def runS (th : Int) : List Int → Int → Int × Int × Int → Int × Int × Int
  | [], _, s => s
  | x :: xs, d, s => runS th xs (d + 1) (stepS th s d x)
def finS (s : Int × Int × Int) : Int × Int × Bool := if s.2.1 = 0 then (0, 0, false) else (s.1, s.1 + s.2.1 - 1, true)

theorem impl_spell (l : List Int) (hl : l.length ≤ 1048576) (th : Int) (hth : -9000 ≤ th) : ∀ (d i : Nat) (f L b : Int), l.length - i = d → i ≤ l.length → 0 ≤ f → f ≤ i → 0 ≤ L → L ≤ i → 0 ≤ b → b ≤ i →
    Ev (fun k => impl_LongestSpell.l0 k th f L b l (l.length : Int) (i : Int)) (finS (runS th (l.drop i) i (f, L, b))) := by
  intro d
  induction d with
  | zero =>
    intro i f L b hd hi _ _ _ _ _ _
    refine Ev.step (fun k => by rw [impl_LongestSpell.l0]) ?_
    rw [List.drop_of_length_le (by omega)]
    refine Ev.neg (by omega) ?_
    unfold runS finS
    refine Ev.cases (fun h => ?_) (fun h => ?_)
    · exact Ev.const (by simp [h])
    · exact Ev.const (by rw [w64 (x := f + L) (by omega) (by omega), w64 (by omega) (by omega)]; simp [h])
  | succ d ih =>
    intro i f L b hd hi h1 h2 h3 h4 h5 h6
    refine Ev.step (fun k => by rw [impl_LongestSpell.l0]) ?_
    refine Ev.pos (by omega) (Ev.pos (by omega) (Ev.pos (by omega) ?_))
    rw [rd_lt l i (by omega), drop_cons' l i (by omega)]
    have hb : Ev (fun k => impl_LongestSpell.j2 k th f L b (i : Int) l (l.length : Int) (i : Int) (decide (l[i] < th))) (finS (runS th (l[i] :: l.drop (i + 1)) i (f, L, b))) := by
      refine Ev.step (fun k => by rw [impl_LongestSpell.j2]) ?_
      simp only [runS, stepS]
      rw [w64 (x := (i : Int) + 1) (by omega) (by omega), show (i : Int) + 1 = ((i + 1 : Nat) : Int) from by omega, w64 (x := ((i + 1 : Nat) : Int) - b) (by omega) (by omega)]
      refine Ev.cases (fun h => ?_) (fun h => ?_)
      · have h : l[i] < th := by simpa using h
        rw [if_pos h]
        exact ih (i + 1) f L _ (by omega) (by omega) (by omega) (by omega) (by omega) (by omega) (by omega) (by omega)
      · have h : ¬ l[i] < th := by simpa using h
        rw [if_neg h]
        refine Ev.cases (fun h' => ?_) (fun h' => ?_)
        · rw [if_pos h']
          exact ih (i + 1) b _ b (by omega) (by omega) (by omega) (by omega) (by omega) (by omega) (by omega) (by omega)
        · rw [if_neg h']
          exact ih (i + 1) f L b (by omega) (by omega) (by omega) (by omega) (by omega) (by omega) (by omega) (by omega)
    refine Ev.cases (fun h => ?_) (fun h => hb)
    rw [show decide (l[i] < th) = true from decide_eq_true (by omega)] at hb
    exact hb

/-- The length of the spell that the reference has found. -/
def lenS (f t : Int) (found : Bool) : Int := if found = true then t - f + 1 else 0

theorem most_f (a b : Int) : spec_l1Most.f a b = some (if a > b then a else b) := by unfold spec_l1Most.f; split <;> rfl

theorem spec_spell (l : List Int) (hl : l.length ≤ 1048576) (th : Int) : ∀ (d i kk : Nat) (f t : Int) (found : Bool), 2 * (l.length - kk) + (if i < kk then 1 else 0) = d → i ≤ kk → kk ≤ l.length → i < l.length → 0 ≤ f → f ≤ t → t < i + 1 → (found = true → t < i) → (found = false → f = 0 ∧ t = 0) →
    Ev (fun k => spec_LongestSpell.l1 k l th f t found (i : Int) (kk : Int)) (finS (runS th (l.drop kk) kk (if (kk : Int) - i > lenS f t found then ((i : Int), (kk : Int) - i, (i : Int)) else (f, lenS f t found, (i : Int))))) := by
  intro d
  induction d using Nat.strongRecOn with
  | _ d ih =>
    intro i kk f t found hd hik hkk hil hf hft hti hfi hnf
    -- the outer loop, at a later day
    have outer : ∀ (j : Nat) (f' t' : Int) (found' : Bool), 2 * (l.length - j) < d → j ≤ l.length → 0 ≤ f' → f' ≤ t' → t' < j + 1 → (found' = true → t' < j) → (found' = false → f' = 0 ∧ t' = 0) →
        Ev (fun k => spec_LongestSpell.l0 k l th f' t' found' (j : Int)) (finS (runS th (l.drop j) j (f', lenS f' t' found', (j : Int)))) := by
      intro j f' t' found' hm hj g1 g2 g3 g4 g5
      refine Ev.step (fun k => by rw [spec_LongestSpell.l0]) ?_
      refine Ev.cases (fun h => ?_) (fun h => ?_)
      · have := ih (2 * (l.length - j)) hm j j f' t' found' (by rw [if_neg (by omega)]; omega) (by omega) hj (by omega) g1 g2 g3 g4 g5
        refine Ev.eq this ?_
        rw [if_neg (by unfold lenS; split <;> omega)]
      · refine Ev.const ?_
        rw [List.drop_of_length_le (by omega)]
        unfold runS finS lenS
        cases found' with
        | true => rw [if_pos rfl]; simp only; rw [if_neg (by omega)]; congr 2; simp; omega
        | false => simp only [Bool.false_eq_true, if_false, if_true]; rw [(g5 rfl).1, (g5 rfl).2]
    refine Ev.step (fun k => by rw [spec_LongestSpell.l1]) ?_
    -- what happens when the run ends at kk
    have ends : (kk < l.length → l[kk]! < th) → Ev (fun k => (if (kk : Int) > (i : Int) then (if found = true then (if (wrap64 ((wrap64 ((kk : Int) - 1)) - (i : Int))) > (wrap64 (t - f)) then ((spec_l1Most.f (i : Int) (wrap64 ((kk : Int) - 1))).bind fun t130 => (spec_LongestSpell.l0 k l th (i : Int) (wrap64 ((kk : Int) - 1)) true (wrap64 (t130 + 1)))) else ((spec_l1Most.f (i : Int) (wrap64 ((kk : Int) - 1))).bind fun t131 => (spec_LongestSpell.l0 k l th f t found (wrap64 (t131 + 1))))) else ((spec_l1Most.f (i : Int) (wrap64 ((kk : Int) - 1))).bind fun t132 => (spec_LongestSpell.l0 k l th (i : Int) (wrap64 ((kk : Int) - 1)) true (wrap64 (t132 + 1))))) else ((spec_l1Most.f (i : Int) (wrap64 ((kk : Int) - 1))).bind fun t133 => (spec_LongestSpell.l0 k l th f t found (wrap64 (t133 + 1))))))
        (finS (runS th (l.drop kk) kk (if (kk : Int) - i > lenS f t found then ((i : Int), (kk : Int) - i, (i : Int)) else (f, lenS f t found, (i : Int))))) := by
      intro hbad
      -- the day at kk is bad, so where the present spell began does not matter
      have free : ∀ (a b c c' : Int), runS th (l.drop kk) kk (a, b, c) = runS th (l.drop kk) kk (a, b, c') ∨ l.length ≤ kk := by
        intro a b c c'
        by_cases h : kk < l.length
        · left
          rw [drop_cons' l kk h]
          have hb := hbad h
          rw [getElem!_pos l kk h] at hb
          simp only [runS, stepS, if_pos hb]
        · right; omega
      have fin_free : ∀ (a b c c' : Int), finS (runS th (l.drop kk) kk (a, b, c)) = finS (runS th (l.drop kk) kk (a, b, c')) := by
        intro a b c c'
        rcases free a b c c' with h | h
        · rw [h]
        · rw [List.drop_of_length_le h]; rfl
      rw [w64 (x := (kk : Int) - 1) (by omega) (by omega), w64 (x := (kk : Int) - 1 - i) (by omega) (by omega), w64 (x := t - f) (by omega) (by omega)]
      refine Ev.cases (fun h => ?_) (fun h => ?_)
      · have hm : (if (i : Int) > (kk : Int) - 1 then (i : Int) else (kk : Int) - 1) = (kk : Int) - 1 := by split <;> omega
        have hd' : 2 * (l.length - kk) < d := by rw [if_pos (by omega)] at hd; omega
        cases found with
        | true =>
          refine Ev.pos rfl ?_
          have hlen : lenS f t true = t - f + 1 := rfl
          refine Ev.cases (fun h' => ?_) (fun h' => ?_)
          · refine Ev.bindc (most_f _ _) ?_
            rw [hm, Int.sub_add_cancel, w64 (by omega) (by omega)]
            refine Ev.eq (outer kk i ((kk : Int) - 1) true hd' (by omega) (by omega) (by omega) (by omega) (fun _ => by omega) (fun h => by cases h)) ?_
            rw [if_pos (by rw [hlen]; omega), show lenS (i : Int) ((kk : Int) - 1) true = (kk : Int) - i from by unfold lenS; rw [if_pos rfl]; omega]
            exact fin_free _ _ _ _
          · refine Ev.bindc (most_f _ _) ?_
            rw [hm, Int.sub_add_cancel, w64 (by omega) (by omega)]
            refine Ev.eq (outer kk f t true hd' (by omega) (by omega) (by omega) (by omega) (fun _ => by have := hfi rfl; omega) (fun h => by cases h)) ?_
            rw [if_neg (by rw [hlen]; omega)]
            exact fin_free _ _ _ _
        | false =>
          refine Ev.neg (by simp) ?_
          refine Ev.bindc (most_f _ _) ?_
          rw [hm, Int.sub_add_cancel, w64 (by omega) (by omega)]
          refine Ev.eq (outer kk i ((kk : Int) - 1) true hd' (by omega) (by omega) (by omega) (by omega) (fun _ => by omega) (fun h => by cases h)) ?_
          rw [if_pos (by unfold lenS; simp; omega), show lenS (i : Int) ((kk : Int) - 1) true = (kk : Int) - i from by unfold lenS; rw [if_pos rfl]; omega]
          exact fin_free _ _ _ _
      · have hk : kk = i := by omega
        subst hk
        refine Ev.bindc (most_f _ _) ?_
        rw [if_pos (by omega), w64 (by omega) (by omega), show (kk : Int) + 1 = ((kk + 1 : Nat) : Int) from by omega]
        have hd' : 2 * (l.length - (kk + 1)) < d := by rw [if_neg (by omega)] at hd; omega
        refine Ev.eq (outer (kk + 1) f t found hd' (by omega) (by omega) (by omega) (by omega) (fun h => by have := hfi h; omega) hnf) ?_
        have hb := hbad hil
        rw [getElem!_pos l kk hil] at hb
        rw [if_neg (by unfold lenS; split <;> omega), drop_cons' l kk hil]
        simp only [runS, stepS, if_pos hb]
        rfl
    refine Ev.cases (fun h => ?_) (fun h => ends (fun h' => by omega))
    refine Ev.pos (by omega) ?_
    have hlt : kk < l.length := by omega
    rw [rd_lt l kk hlt]
    refine Ev.cases (fun h' => ?_) (fun h' => ends (fun _ => by rw [getElem!_pos l kk hlt]; omega))
    rw [w64 (by omega) (by omega), show (kk : Int) + 1 = ((kk + 1 : Nat) : Int) from by omega]
    have hd' : 2 * (l.length - (kk + 1)) + (if i < kk + 1 then 1 else 0) < d := by rw [if_pos (by omega)]; split at hd <;> omega
    refine Ev.eq (ih _ hd' i (kk + 1) f t found rfl (by omega) (by omega) hil hf hft hti hfi hnf) ?_
    have e0 : ((kk + 1 : Nat) : Int) = (kk : Int) + 1 := by omega
    have hge : ¬ l[kk] < th := by omega
    rw [e0, drop_cons' l kk hlt]
    by_cases c1 : (kk : Int) - i > lenS f t found
    · rw [if_pos c1, if_pos (by omega)]
      simp only [runS, stepS, if_neg hge]
      rw [if_pos (by omega)]
    · rw [if_neg c1]
      simp only [runS, stepS, if_neg hge]

/-- All days of the spell found so far, and of the present one, reach the threshold. -/
def GoodS (l : List Int) (th : Int) (i : Nat) (s : Int × Int × Int) : Prop := 0 ≤ s.2.2 ∧ s.2.2 ≤ i ∧ (∀ j : Nat, s.2.2 ≤ (j : Int) → j < i → th ≤ l.getD j 0) ∧ 0 ≤ s.1 ∧ 0 ≤ s.2.1 ∧ s.1 + s.2.1 ≤ i ∧ (∀ j : Nat, s.1 ≤ (j : Int) → (j : Int) < s.1 + s.2.1 → th ≤ l.getD j 0)
theorem good_step (l : List Int) (th : Int) (i : Nat) (s : Int × Int × Int) (hi : i < l.length) (h : GoodS l th i s) : GoodS l th (i + 1) (stepS th s i l[i]) := by
  obtain ⟨h1, h2, h3, h4, h5, h6, h7⟩ := h
  have hd : l.getD i 0 = l[i] := by simp [hi]
  unfold stepS GoodS
  by_cases c1 : l[i] < th
  · rw [if_pos c1]
    refine ⟨by simp only; omega, by simp only; omega, fun j hj1 hj2 => ?_, h4, h5, by simp only; omega, h7⟩
    simp only at hj1; omega
  · rw [if_neg c1]
    have hnew : ∀ j : Nat, s.2.2 ≤ (j : Int) → j < i + 1 → th ≤ l.getD j 0 := fun j hj1 hj2 => by
      by_cases e : j = i
      · subst e; omega
      · exact h3 j hj1 (by omega)
    by_cases c2 : (i : Int) + 1 - s.2.2 > s.2.1
    · rw [if_pos c2]
      exact ⟨h1, by simp only; omega, hnew, h1, by simp only; omega, by simp only; omega, fun j hj1 hj2 => hnew j hj1 (by simp only at hj2; omega)⟩
    · rw [if_neg c2]
      exact ⟨h1, by omega, hnew, h4, h5, by omega, h7⟩
theorem good_run (l : List Int) (th : Int) : ∀ (d i : Nat) (s : Int × Int × Int), l.length - i = d → i ≤ l.length → GoodS l th i s → GoodS l th l.length (runS th (l.drop i) i s) := by
  intro d
  induction d with
  | zero =>
    intro i s hd hi h
    obtain rfl : i = l.length := by omega
    rw [List.drop_length]; exact h
  | succ d ih =>
    intro i s hd hi h
    have hlt : i < l.length := by omega
    rw [drop_cons' l i hlt]
    simp only [runS]
    have := ih (i + 1) _ (by omega) (by omega) (good_step l th i s hlt h)
    rw [show ((i + 1 : Nat) : Int) = (i : Int) + 1 by omega] at this
    exact this
theorem spell_told (l0 : List Int) (a1 : Int) : (finS (runS a1 (l0.drop 0) 0 (0, 0, 0))).2.2 = true → 0 ≤ (finS (runS a1 (l0.drop 0) 0 (0, 0, 0))).1 ∧ (finS (runS a1 (l0.drop 0) 0 (0, 0, 0))).2.1 < l0.length ∧ (finS (runS a1 (l0.drop 0) 0 (0, 0, 0))).1 ≤ (finS (runS a1 (l0.drop 0) 0 (0, 0, 0))).2.1 + 1 ∧
    ∀ j : Nat, (finS (runS a1 (l0.drop 0) 0 (0, 0, 0))).1 ≤ (j : Int) → (j : Int) ≤ (finS (runS a1 (l0.drop 0) 0 (0, 0, 0))).2.1 → a1 ≤ l0.getD j 0 := by
  have h := good_run l0 a1 _ 0 (0, 0, 0) rfl (by omega) ⟨by simp, by simp, fun j _ h => by omega, by simp, by simp, by simp, fun j h1 h2 => by simp only at h1 h2; omega⟩
  rw [show ((0 : Nat) : Int) = 0 from rfl] at h
  generalize runS a1 (l0.drop 0) 0 (0, 0, 0) = s at h ⊢
  obtain ⟨h1, h2, h3, h4, h5, h6, h7⟩ := h
  unfold finS
  by_cases c : s.2.1 = 0
  · rw [if_pos c]; intro h; cases h
  · rw [if_neg c]
    intro _
    exact ⟨h4, by simp only; omega, by simp only; omega, fun j hj1 hj2 => h7 j hj1 (by simp only at hj2; omega)⟩
theorem longestSpell (l0 : List Int) (hl : l0.length ≤ 1048576) (a1 : Int) : ∃ r : Int × Int × Bool, Ev (fun k => spec_LongestSpell.f k l0 a1) r ∧ Ev (fun k => impl_LongestSpell.f k l0 a1) r ∧
    (r.2.2 = true → 0 ≤ r.1 ∧ r.2.1 < l0.length ∧ r.1 ≤ r.2.1 + 1 ∧ ∀ j : Nat, r.1 ≤ (j : Int) → (j : Int) ≤ r.2.1 → a1 ≤ l0.getD j 0) := by
  unfold spec_LongestSpell.f impl_LongestSpell.f
  by_cases hs : seriesB l0 = true
  · by_cases ht : -9000 ≤ a1 ∧ a1 ≤ 9000
    · have hlen : 0 < l0.length := by
        unfold seriesB at hs; simp only [Bool.and_eq_true, decide_eq_true_eq] at hs; omega
      refine ⟨finS (runS a1 (l0.drop 0) 0 (0, 0, 0)), ?_, ?_, spell_told l0 a1⟩
      · refine Ev.bind (l24Good l0 hl) (Ev.pos hs (Ev.bindc (threshold_f a1) ?_))
        refine Ev.step (fun k => by rw [spec_LongestSpell.j0]) (Ev.neg (by simp [ht.1, ht.2]) ?_)
        refine Ev.step (fun k => by rw [spec_LongestSpell.l0]) (Ev.pos (by omega) ?_)
        refine Ev.eq (spec_spell l0 hl a1 _ 0 0 0 0 false rfl (by omega) (by omega) hlen (by omega) (by omega) (by omega) (fun h => by cases h) (fun _ => ⟨rfl, rfl⟩)) ?_
        rfl
      · refine Ev.bindc (show impl_IsValidSeries.f l0 = some (seriesB l0) from rfl) (Ev.pos hs (Ev.bindc (within_f a1 _ _) ?_))
        refine Ev.step (fun k => by rw [impl_LongestSpell.j0]) (Ev.neg (by simp [ht.1, ht.2]) ?_)
        exact impl_spell l0 hl a1 ht.1 _ 0 0 0 0 rfl (by omega) (by omega) (by omega) (by omega) (by omega) (by omega) (by omega)
    · have hb : (!(decide (-9000 ≤ a1) && decide (a1 ≤ 9000))) = true := by
        simp only [Bool.not_eq_true', Bool.and_eq_false_iff, decide_eq_false_iff_not]; omega
      refine ⟨(0, 0, false), ?_, ?_, fun h => by cases h⟩
      · refine Ev.bind (l24Good l0 hl) (Ev.pos hs (Ev.bindc (threshold_f a1) ?_))
        exact Ev.step (fun k => by rw [spec_LongestSpell.j0]) (Ev.pos hb (Ev.now _))
      · refine Ev.bindc (show impl_IsValidSeries.f l0 = some (seriesB l0) from rfl) (Ev.pos hs (Ev.bindc (within_f a1 _ _) ?_))
        exact Ev.step (fun k => by rw [impl_LongestSpell.j0]) (Ev.pos hb (Ev.now _))
  · refine ⟨(0, 0, false), ?_, ?_, fun h => by cases h⟩
    · refine Ev.bind (l24Good l0 hl) (Ev.neg hs ?_)
      exact Ev.step (fun k => by rw [spec_LongestSpell.j0]) (Ev.pos rfl (Ev.now _))
    · refine Ev.bindc (show impl_IsValidSeries.f l0 = some (seriesB l0) from rfl) (Ev.neg hs ?_)
      exact Ev.step (fun k => by rw [impl_LongestSpell.j0]) (Ev.pos rfl (Ev.now _))
end Go.Proofs.Ytdhdifoenladpaa.Pure

/- Sums over the days of a series, and whether a series has a value on a day. -/
namespace Go.Proofs.Ytdhdifoenladpaa.Pure
open Go.RowKit Go.Proofs.Ytdhdifoenladpaa.P Go.Proofs.YtdhdifoenladpaaW.PrintWords Go.Proofs.YtdhdifoenladpaaW.PrintLast

theorem cell_bd {n : Int} (h : cellB n = true) : -9999 ≤ n ∧ n ≤ 9000 := by
  unfold cellB at h
  simp only [Bool.or_eq_true, beq_iff_eq, Bool.and_eq_true, decide_eq_true_eq] at h
  omega
theorem cell_bd' {n : Int} (h : cellB n = true) (h2 : n ≠ -9999) : -9000 ≤ n ∧ n ≤ 9000 := by
  unfold cellB at h
  simp only [Bool.or_eq_true, beq_iff_eq, Bool.and_eq_true, decide_eq_true_eq] at h
  omega
theorem series_cell {l : List Int} (h : seriesB l = true) (x : Int) (hx : x ∈ l) : cellB x = true := by
  unfold seriesB at h
  simp only [Bool.and_eq_true, List.all_eq_true] at h
  exact h.2 x hx
theorem series_bd {l : List Int} (h : seriesB l = true) (i : Nat) (hi : i < l.length) : -9999 ≤ l[i] ∧ l[i] ≤ 9000 :=
  cell_bd (series_cell h _ (List.getElem_mem hi))
theorem series_60 {l : List Int} (h : seriesB l = true) : 1 ≤ l.length ∧ l.length ≤ 60 := by
  unfold seriesB at h
  simp only [Bool.and_eq_true, decide_eq_true_eq] at h
  omega

theorem known_cons (x : Int) (xs : List Int) : known (x :: xs) = if x = -9999 then known xs else x :: known xs := by
  unfold known
  rw [List.filter_cons]
  by_cases h : x = -9999
  · simp [h]
  · simp [h]
theorem known_le (l : List Int) : (known l).length ≤ l.length := List.length_filter_le _ _
theorem known_f (l : List Int) (h : l.length ≤ 1048576) : impl_knownValues.f l = some (known l) := by
  unfold impl_knownValues.f; rw [if_pos (by omega)]
theorem mem_known {x : Int} {l : List Int} : x ∈ known l ↔ x ∈ l ∧ x ≠ -9999 := by
  unfold known; simp

theorem l24Sum_l0 (l : List Int) (hs : ∀ i (h : i < l.length), -10000 ≤ l[i] ∧ l[i] ≤ 10000) (hl : l.length ≤ 1048576) (te : Int) (T : Nat) (hT : T ≤ l.length) (hto : ∀ j : Nat, j < l.length → ((j : Int) ≤ te ↔ j < T)) (htl : te ≤ 4611686018427387904) :
    ∀ (d i : Nat) (s n : Int), T - i = d → i ≤ T → -(10000 * (i : Int)) ≤ s → s ≤ 10000 * (i : Int) → 0 ≤ n → n ≤ i →
    Ev (fun k => spec_l24Sum.l0 k l te s n (i : Int)) (s + (known ((l.take T).drop i)).sum, n + ((known ((l.take T).drop i)).length : Int)) := by
  intro d
  induction d with
  | zero =>
    intro i s n hd hi _ _ _ _
    have hiT : i = T := by omega
    subst hiT
    have hj : Ev (fun k => spec_l24Sum.j1 k l te s n (i : Int) false) (s + (known ((l.take i).drop i)).sum, n + ((known ((l.take i).drop i)).length : Int)) := by
      refine Ev.step (fun k => by rw [spec_l24Sum.j1]) ?_
      refine Ev.neg (by simp) (Ev.const ?_)
      rw [List.drop_of_length_le (by simp; omega)]; simp [known]
    refine Ev.step (fun k => by rw [spec_l24Sum.l0]) ?_
    refine Ev.cases (fun h => ?_) (fun _ => hj)
    have : ¬ i < l.length := fun h' => by have := (hto i h').1 h; omega
    rw [show decide ((i : Int) < (l.length : Int)) = false from decide_eq_false (by omega)]
    exact hj
  | succ d ih =>
    intro i s n hd hi h1 h2 h3 h4
    have hlt : i < l.length := by omega
    have hle := (hto i hlt).2 (by omega)
    have hb := hs i hlt
    refine Ev.step (fun k => by rw [spec_l24Sum.l0]) ?_
    refine Ev.pos hle ?_
    rw [show decide ((i : Int) < (l.length : Int)) = true from decide_eq_true (by omega)]
    refine Ev.step (fun k => by rw [spec_l24Sum.j1]) ?_
    refine Ev.pos rfl (Ev.pos (by omega) (Ev.pos (by omega) ?_))
    have hdr : (l.take T).drop i = l[i] :: (l.take T).drop (i + 1) := by
      rw [drop_cons' _ i (by simp; omega)]; simp
    rw [rd_lt l i hlt, hdr, known_cons, w64 (x := (i : Int) + 1) (by omega) (by omega), show (i : Int) + 1 = ((i + 1 : Nat) : Int) from by omega]
    refine Ev.cases (fun h => ?_) (fun h => ?_)
    · rw [if_pos h]
      exact ih (i + 1) s n (by omega) (by omega) (by omega) (by omega) (by omega) (by omega)
    · rw [if_neg h, w64 (x := s + l[i]) (by omega) (by omega), w64 (x := n + 1) (by omega) (by omega)]
      refine Ev.eq (ih (i + 1) (s + l[i]) (n + 1) (by omega) (by omega) (by omega) (by omega) (by omega) (by omega)) ?_
      rw [List.sum_cons, List.length_cons]
      congr 1
      · omega
      · omega
theorem series_bd' {l : List Int} (h : seriesB l = true) : ∀ i (hi : i < l.length), -10000 ≤ l[i] ∧ l[i] ≤ 10000 := fun i hi => by
  have := series_bd h i hi; omega
/-- The reference's sum over the days from..te. -/
theorem l24Sum (l : List Int) (hs : seriesB l = true) (i : Nat) (te : Int) (T : Nat) (hi : i ≤ T) (hT : T ≤ l.length) (hto : ∀ j : Nat, j < l.length → ((j : Int) ≤ te ↔ j < T)) (htl : te ≤ 4611686018427387904) :
    Ev (fun k => spec_l24Sum.f k l (i : Int) te) ((known ((l.take T).drop i)).sum, ((known ((l.take T).drop i)).length : Int)) := by
  have h60 := series_60 hs
  unfold spec_l24Sum.f
  exact Ev.eq (l24Sum_l0 l (series_bd' hs) (by omega) te T hT hto htl _ i 0 0 rfl hi (by omega) (by omega) (by omega) (by omega)) (by simp)
/-- .. over all days. -/
theorem l24SumAll (l : List Int) (hs : seriesB l = true) : Ev (fun k => spec_l24Sum.f k l 0 (wrap64 ((l.length : Int) - 1))) ((known l).sum, ((known l).length : Int)) := by
  have h60 := series_60 hs
  rw [w64 (by omega) (by omega)]
  have := l24Sum l hs 0 ((l.length : Int) - 1) l.length (by omega) (Nat.le_refl _) (fun j hj => by omega) (by omega)
  rw [List.take_length, List.drop_zero] at this
  exact this

end Go.Proofs.Ytdhdifoenladpaa.Pure

/- Filled gaps: the program's loops are the reference's; what they make of a series. -/
namespace Go.Proofs.Ytdhdifoenladpaa.Pure
open Go.RowKit Go.Proofs.Ytdhdifoenladpaa.P Go.Proofs.YtdhdifoenladpaaW.PrintWords Go.Proofs.YtdhdifoenladpaaW.PrintLast

/-- a / b rounded to the nearest whole number, away from 0 in the middle. -/
def roundI (a b : Int) : Int := if a < 0 then -((-2 * a + b) / (2 * b)) else (2 * a + b) / (2 * b)
theorem round_f (a b : Int) (h1 : -1000000000000 ≤ a) (h2 : a ≤ 1000000000000) (h3 : 0 < b) (h4 : b ≤ 1000000000) : spec_l3Round.f a b = some (roundI a b) := by
  unfold spec_l3Round.f roundI
  rw [w64 (x := 2 * b) (by omega) (by omega)]
  by_cases h : a < 0
  · rw [if_pos h, if_neg (by omega), if_pos h, w64 (x := -2 * a) (by omega) (by omega), w64 (x := -2 * a + b) (by omega) (by omega)]
    rw [Int.tdiv_eq_ediv_of_nonneg (by omega)]
    have hq1 : 0 ≤ (-2 * a + b) / (2 * b) := Int.ediv_nonneg (by omega) (by omega)
    have hq2 : (-2 * a + b) / (2 * b) ≤ -2 * a + b := Int.ediv_le_self _ (by omega)
    rw [w64 (x := (-2 * a + b) / (2 * b)) (by omega) (by omega), w64 (by omega) (by omega)]
  · rw [if_neg h, if_neg (by omega), if_neg h, w64 (x := 2 * a) (by omega) (by omega), w64 (x := 2 * a + b) (by omega) (by omega)]
    rw [Int.tdiv_eq_ediv_of_nonneg (by omega)]
    have hq1 : 0 ≤ (2 * a + b) / (2 * b) := Int.ediv_nonneg (by omega) (by omega)
    have hq2 : (2 * a + b) / (2 * b) ≤ 2 * a + b := Int.ediv_le_self _ (by omega)
    rw [w64 (by omega) (by omega)]
theorem nearest_f (a b : Int) : impl_nearest.f a b = spec_l3Round.f a b := rfl
theorem round_bd (a b M : Int) (hb : 0 < b) (h1 : -(M * b) ≤ a) (h2 : a ≤ M * b) : -M ≤ roundI a b ∧ roundI a b ≤ M := by
  unfold roundI
  have hMb : (M + 1) * (2 * b) = 2 * (M * b) + 2 * b := by rw [Int.add_mul, Int.one_mul, Int.mul_left_comm]
  split
  · have h4 : (-2 * a + b) / (2 * b) < M + 1 := Int.ediv_lt_of_lt_mul (by omega) (by rw [hMb]; omega)
    have h5 : 0 ≤ (-2 * a + b) / (2 * b) := Int.ediv_nonneg (by omega) (by omega)
    omega
  · have h4 : (2 * a + b) / (2 * b) < M + 1 := Int.ediv_lt_of_lt_mul (by omega) (by rw [hMb]; omega)
    have h5 : 0 ≤ (2 * a + b) / (2 * b) := Int.ediv_nonneg (by omega) (by omega)
    omega

theorem fill_same (l : List Int) : ∀ k, (∀ (o : List Int) (t i : Int), impl_FillGaps.l0 k l o t l (l.length : Int) i = spec_FillGaps.l0 k l o t i) ∧
    (∀ (o : List Int) (t i g : Int), 0 ≤ i → i < l.length → impl_FillGaps.l1 k l o t i (rd l i) g l (l.length : Int) i = spec_FillGaps.l1 k l o t i g) := by
  intro k
  induction k with
  | zero => exact ⟨fun _ _ _ => rfl, fun _ _ _ _ _ _ => rfl⟩
  | succ k ih =>
    refine ⟨fun o t i => ?_, fun o t i g hi0 hi1 => ?_⟩
    · rw [impl_FillGaps.l0, spec_FillGaps.l0]
      by_cases h1 : i < (l.length : Int)
      · by_cases h2 : 0 ≤ i
        · simp only [if_pos h1, if_pos h2]
          rw [ih.1, ih.2 _ _ _ _ h2 h1]
        · simp only [if_pos h1, if_neg h2]
      · simp only [if_neg h1]
    · rw [impl_FillGaps.l1, spec_FillGaps.l1]
      by_cases h1 : t ≥ 0
      · rw [if_pos h1]
        by_cases h2 : g < i
        · rw [if_pos h2, if_pos h2, if_pos h1]
          by_cases h3 : t < (l.length : Int)
          · simp only [if_pos (show 0 ≤ t from h1), if_pos h3, if_pos hi0, if_pos hi1, nearest_f]
            congr 1
            funext x
            split <;> try rfl
            split <;> try rfl
            exact ih.2 _ _ _ _ hi0 hi1
          · simp only [if_pos (show 0 ≤ t from h1), if_neg h3]
        · rw [if_neg h2, if_neg h2, ih.1]
      · rw [if_neg h1]
        by_cases h2 : g < i
        · rw [if_pos h2, if_neg h1, ih.1]
        · rw [if_neg h2, ih.1]

/-- The values of l from the first to the last day with one are all there, the others all missing. -/
def Dense (l : List Int) : Prop := ∃ f m : Nat, f ≤ m ∧ m < l.length ∧ (∀ j, j < f → l.getD j 0 = -9999) ∧ (∀ j, f ≤ j → j ≤ m → l.getD j 0 ≠ -9999) ∧ (∀ j, m < j → j < l.length → l.getD j 0 = -9999)
def Filled (l o : List Int) : Prop := o.length = l.length ∧ (∀ j, j < l.length → l.getD j 0 ≠ -9999 → o.getD j 0 = l.getD j 0) ∧ (∀ j, j < l.length → cellB (o.getD j 0) = true) ∧ Dense o

theorem fill_dense (l : List Int) (hl : l.length ≤ 60) (f m : Nat) (hfm : f ≤ m) (hm : m < l.length) (h1 : ∀ j, j < f → l.getD j 0 = -9999) (h2 : ∀ j, f ≤ j → j ≤ m → l.getD j 0 ≠ -9999) (h3 : ∀ j, m < j → j < l.length → l.getD j 0 = -9999) :
    ∀ (d i : Nat) (t : Int), l.length - i = d → i ≤ l.length → (i ≤ f → t = -1) → (f < i → i ≤ m + 1 → t = (i : Int) - 1) → Ev (fun k => spec_FillGaps.l0 k l l t (i : Int)) (l, true) := by
  intro d
  induction d with
  | zero =>
    intro i t hd hi _ _
    refine Ev.step (fun k => by rw [spec_FillGaps.l0]) ?_
    exact Ev.neg (by omega) (Ev.now _)
  | succ d ih =>
    intro i t hd hi ht1 ht2
    have hlt : i < l.length := by omega
    refine Ev.step (fun k => by rw [spec_FillGaps.l0]) ?_
    refine Ev.pos (by omega) (Ev.pos (by omega) ?_)
    rw [rd_nat]
    by_cases hmis : l.getD i 0 = -9999
    · refine Ev.pos hmis ?_
      rw [w64 (by omega) (by omega), show (i : Int) + 1 = ((i + 1 : Nat) : Int) from by omega]
      refine ih (i + 1) t (by omega) (by omega) (fun h => ht1 (by omega)) (fun h h' => ?_)
      exact absurd hmis (h2 i (by omega) (by omega))
    · refine Ev.neg hmis ?_
      have hif : f ≤ i := by
        rcases Nat.lt_or_ge i f with h | h
        · exact absurd (h1 i h) hmis
        · exact h
      have him : i ≤ m := by
        rcases Nat.lt_or_ge m i with h | h
        · exact absurd (h3 i h hlt) hmis
        · exact h
      have nxt : Ev (fun k => spec_FillGaps.l0 k l l (i : Int) (wrap64 ((i : Int) + 1))) (l, true) := by
        rw [w64 (by omega) (by omega), show (i : Int) + 1 = ((i + 1 : Nat) : Int) from by omega]
        exact ih (i + 1) i (by omega) (by omega) (fun h => by omega) (fun _ _ => by omega)
      refine Ev.step (fun k => by rw [spec_FillGaps.l1]) ?_
      by_cases hif' : i = f
      · have ht := ht1 (by omega)
        rw [ht]
        exact Ev.cases (fun _ => Ev.neg (by omega) nxt) (fun _ => nxt)
      · have ht := ht2 (by omega) (by omega)
        refine Ev.neg ?_ nxt
        rw [ht, w64 (by omega) (by omega)]; omega

theorem getD_set (o : List Int) (g j : Nat) (v : Int) (hg : g < o.length) : (o.set g v).getD j 0 = if j = g then v else o.getD j 0 := by
  simp only [List.getD_eq_getElem?_getD]
  by_cases h : j = g
  · subst h; simp [hg]
  · rw [List.getElem?_set_ne (fun e => h e.symm), if_neg h]

theorem fill_some (l : List Int) (hs : ∀ j, j < l.length → cellB (l.getD j 0) = true) (hl : l.length ≤ 60) : ∀ (d i : Nat) (o : List Int) (f m : Nat), l.length - i = d → i ≤ l.length → o.length = l.length → f ≤ m → m < i → l.getD m 0 ≠ -9999 →
    (∀ j, j < f → l.getD j 0 = -9999) → (∀ j, f ≤ j → j ≤ m → o.getD j 0 ≠ -9999 ∧ cellB (o.getD j 0) = true) → (∀ j, j ≤ m → l.getD j 0 ≠ -9999 → o.getD j 0 = l.getD j 0) → (∀ j, j < f → o.getD j 0 = l.getD j 0) → (∀ j, m < j → j < l.length → o.getD j 0 = l.getD j 0) → (∀ j, m < j → j < i → l.getD j 0 = -9999) →
    ∃ r, Ev (fun k => spec_FillGaps.l0 k l o (m : Int) (i : Int)) (r, true) ∧ Filled l r := by
  intro d
  induction d with
  | zero =>
    intro i o f m hd hi ho hfm hmi hlm a1 a2 a3 a4 a5 a6
    refine ⟨o, ?_, ho, ?_, ?_, f, m, hfm, by omega, fun j hj => by rw [a4 j hj, a1 j hj], fun j h h' => (a2 j h h').1, fun j h h' => by rw [a5 j h (by omega), a6 j h (by omega)]⟩
    · refine Ev.step (fun k => by rw [spec_FillGaps.l0]) ?_
      exact Ev.neg (by omega) (Ev.now _)
    · intro j hj hne
      by_cases h : j ≤ m
      · exact a3 j h hne
      · exact a5 j (by omega) hj
    · intro j hj
      by_cases h : j ≤ m
      · by_cases h' : f ≤ j
        · exact (a2 j h' h).2
        · rw [a4 j (by omega)]; exact hs j hj
      · rw [a5 j (by omega) hj]; exact hs j hj
  | succ d ih =>
    intro i o f m hd hi ho hfm hmi hlm a1 a2 a3 a4 a5 a6
    have hlt : i < l.length := by omega
    by_cases hmis : l.getD i 0 = -9999
    · obtain ⟨r, hr, hF⟩ := ih (i + 1) o f m (by omega) (by omega) ho hfm (by omega) hlm a1 a2 a3 a4 a5 (fun j h h' => by
        by_cases e : j = i
        · rw [e]; exact hmis
        · exact a6 j h (by omega))
      refine ⟨r, ?_, hF⟩
      refine Ev.step (fun k => by rw [spec_FillGaps.l0]) ?_
      refine Ev.pos (by omega) (Ev.pos (by omega) ?_)
      rw [rd_nat]
      refine Ev.pos hmis ?_
      rw [w64 (by omega) (by omega), show (i : Int) + 1 = ((i + 1 : Nat) : Int) from by omega]
      exact hr
    · -- the gap from g on
      have inner : ∀ (e g : Nat) (o : List Int), i - g = e → m < g → g ≤ i → o.length = l.length → (∀ j, f ≤ j → j < g → o.getD j 0 ≠ -9999 ∧ cellB (o.getD j 0) = true) → (∀ j, j ≤ m → l.getD j 0 ≠ -9999 → o.getD j 0 = l.getD j 0) → (∀ j, j < f → o.getD j 0 = l.getD j 0) → (∀ j, g ≤ j → j < l.length → o.getD j 0 = l.getD j 0) →
          ∃ r, Ev (fun k => spec_FillGaps.l1 k l o (m : Int) (i : Int) (g : Int)) (r, true) ∧ Filled l r := by
        intro e
        induction e with
        | zero =>
          intro g o he hmg hgi ho b1 b2 b3 b4
          have hgi' : g = i := by omega
          subst hgi'
          obtain ⟨r, hr, hF⟩ := ih (g + 1) o f g (by omega) (by omega) ho (by omega) (by omega) hmis a1 (fun j h h' => by
              by_cases e : j = g
              · rw [e, b4 g (Nat.le_refl _) hlt]; exact ⟨hmis, hs g hlt⟩
              · exact b1 j h (by omega)) (fun j h hne => by
              by_cases e : j ≤ m
              · exact b2 j e hne
              · by_cases e' : j = g
                · rw [e', b4 g (Nat.le_refl _) hlt]
                · exact absurd (a6 j (by omega) (by omega)) hne) b3 (fun j h h' => b4 j (by omega) h') (fun j h h' => by omega)
          refine ⟨r, ?_, hF⟩
          refine Ev.step (fun k => by rw [spec_FillGaps.l1]) ?_
          refine Ev.neg (by omega) ?_
          rw [w64 (by omega) (by omega), show (g : Int) + 1 = ((g + 1 : Nat) : Int) from by omega]
          exact hr
        | succ e ihe =>
          intro g o he hmg hgi ho b1 b2 b3 b4
          have hc1 := cell_bd' (hs m (by omega)) hlm
          have hc2 := cell_bd' (hs i hlt) hmis
          -- the value on the line
          have hA1 : -(9000 * ((i : Int) - m)) ≤ l.getD m 0 * ((i : Int) - g) + l.getD i 0 * ((g : Int) - m) := by
            have p1 := Int.mul_le_mul_of_nonneg_right hc1.1 (show (0 : Int) ≤ (i : Int) - g by omega)
            have p2 := Int.mul_le_mul_of_nonneg_right hc2.1 (show (0 : Int) ≤ (g : Int) - m by omega)
            omega
          have hA2 : l.getD m 0 * ((i : Int) - g) + l.getD i 0 * ((g : Int) - m) ≤ 9000 * ((i : Int) - m) := by
            have p1 := Int.mul_le_mul_of_nonneg_right hc1.2 (show (0 : Int) ≤ (i : Int) - g by omega)
            have p2 := Int.mul_le_mul_of_nonneg_right hc2.2 (show (0 : Int) ≤ (g : Int) - m by omega)
            omega
          have q1 : -9000 * ((i : Int) - g) ≤ l.getD m 0 * ((i : Int) - g) := Int.mul_le_mul_of_nonneg_right hc1.1 (show (0 : Int) ≤ (i : Int) - g by omega)
          have q2 : l.getD m 0 * ((i : Int) - g) ≤ 9000 * ((i : Int) - g) := Int.mul_le_mul_of_nonneg_right hc1.2 (show (0 : Int) ≤ (i : Int) - g by omega)
          have q3 : -9000 * ((g : Int) - m) ≤ l.getD i 0 * ((g : Int) - m) := Int.mul_le_mul_of_nonneg_right hc2.1 (show (0 : Int) ≤ (g : Int) - m by omega)
          have q4 : l.getD i 0 * ((g : Int) - m) ≤ 9000 * ((g : Int) - m) := Int.mul_le_mul_of_nonneg_right hc2.2 (show (0 : Int) ≤ (g : Int) - m by omega)
          have hv := round_bd _ ((i : Int) - m) 9000 (by omega) hA1 hA2
          have hcell : cellB (roundI (l.getD m 0 * ((i : Int) - g) + l.getD i 0 * ((g : Int) - m)) ((i : Int) - m)) = true := by
            unfold cellB; simp only [Bool.or_eq_true, Bool.and_eq_true, decide_eq_true_eq]; right; exact hv
          have hrf := round_f (l.getD m 0 * ((i : Int) - g) + l.getD i 0 * ((g : Int) - m)) ((i : Int) - m) (by omega) (by omega) (by omega) (by omega)
          have hgo : g < o.length := by omega
          obtain ⟨r, hr, hF⟩ := ihe (g + 1) (o.set g (roundI (l.getD m 0 * ((i : Int) - g) + l.getD i 0 * ((g : Int) - m)) ((i : Int) - m))) (by omega) (by omega) (by omega) (by simpa using ho) (fun j h h' => by
              rw [getD_set _ _ _ _ hgo]
              split
              · exact ⟨by omega, hcell⟩
              · exact b1 j h (by omega)) (fun j h hne => by rw [getD_set _ _ _ _ hgo, if_neg (by omega)]; exact b2 j h hne) (fun j h => by rw [getD_set _ _ _ _ hgo, if_neg (by omega)]; exact b3 j h) (fun j h h' => by rw [getD_set _ _ _ _ hgo, if_neg (by omega)]; exact b4 j (by omega) h')
          refine ⟨r, ?_, hF⟩
          refine Ev.step (fun k => by rw [spec_FillGaps.l1]) ?_
          refine Ev.pos (by omega) (Ev.pos (by omega) (Ev.pos (by omega) (Ev.pos (by omega) (Ev.pos (by omega) (Ev.pos (by omega) ?_)))))
          rw [rd_nat, rd_nat, w64 (x := (i : Int) - g) (by omega) (by omega), w64 (x := (g : Int) - m) (by omega) (by omega), w64 (x := (i : Int) - m) (by omega) (by omega), w64 (x := l.getD m 0 * ((i : Int) - g)) (by omega) (by omega), w64 (x := l.getD i 0 * ((g : Int) - m)) (by omega) (by omega), w64 (x := l.getD m 0 * ((i : Int) - g) + l.getD i 0 * ((g : Int) - m)) (by omega) (by omega)]
          refine Ev.bindc hrf (Ev.pos (by omega) (Ev.pos (by omega) ?_))
          rw [w64 (by omega) (by omega), show (g : Int) + 1 = ((g + 1 : Nat) : Int) from by omega, Int.toNat_natCast]
          exact hr
      obtain ⟨r, hr, hF⟩ := inner _ (m + 1) o rfl (by omega) (by omega) ho (fun j h h' => a2 j h (by omega)) a3 a4 (fun j h h' => a5 j (by omega) h')
      refine ⟨r, ?_, hF⟩
      refine Ev.step (fun k => by rw [spec_FillGaps.l0]) ?_
      refine Ev.pos (by omega) (Ev.pos (by omega) ?_)
      rw [rd_nat]
      refine Ev.neg hmis ?_
      rw [w64 (by omega) (by omega), show (m : Int) + 1 = ((m + 1 : Nat) : Int) from by omega]
      exact hr

theorem fill_none (l : List Int) (hs : ∀ j, j < l.length → cellB (l.getD j 0) = true) (hl : l.length ≤ 60) : ∀ (d i : Nat), l.length - i = d → i ≤ l.length → (∀ j, j < i → l.getD j 0 = -9999) → (∃ j, i ≤ j ∧ j < l.length ∧ l.getD j 0 ≠ -9999) →
    ∃ r, Ev (fun k => spec_FillGaps.l0 k l l (-1) (i : Int)) (r, true) ∧ Filled l r := by
  intro d
  induction d with
  | zero => intro i hd hi _ ⟨j, h1, h2, _⟩; omega
  | succ d ih =>
    intro i hd hi a ⟨j0, j1, j2, j3⟩
    have hlt : i < l.length := by omega
    by_cases hmis : l.getD i 0 = -9999
    · obtain ⟨r, hr, hF⟩ := ih (i + 1) (by omega) (by omega) (fun j h => by
        by_cases e : j = i
        · rw [e]; exact hmis
        · exact a j (by omega)) ⟨j0, by
          by_cases e : j0 = i
          · rw [e] at j3; exact absurd hmis j3
          · omega, j2, j3⟩
      refine ⟨r, ?_, hF⟩
      refine Ev.step (fun k => by rw [spec_FillGaps.l0]) ?_
      refine Ev.pos (by omega) (Ev.pos (by omega) ?_)
      rw [rd_nat]
      refine Ev.pos hmis ?_
      rw [w64 (by omega) (by omega), show (i : Int) + 1 = ((i + 1 : Nat) : Int) from by omega]
      exact hr
    · obtain ⟨r, hr, hF⟩ := fill_some l hs hl _ (i + 1) l i i rfl (by omega) rfl (Nat.le_refl _) (by omega) hmis a (fun j h h' => by
          have : j = i := by omega
          rw [this]; exact ⟨hmis, hs i hlt⟩) (fun _ _ _ => rfl) (fun _ _ => rfl) (fun _ _ _ => rfl) (fun j h h' => by omega)
      have hr' : Ev (fun k => spec_FillGaps.l0 k l l (i : Int) (wrap64 ((i : Int) + 1))) (r, true) := by
        rw [w64 (by omega) (by omega), show (i : Int) + 1 = ((i + 1 : Nat) : Int) from by omega]
        exact hr
      refine ⟨r, ?_, hF⟩
      refine Ev.step (fun k => by rw [spec_FillGaps.l0]) ?_
      refine Ev.pos (by omega) (Ev.pos (by omega) ?_)
      rw [rd_nat]
      refine Ev.neg hmis ?_
      refine Ev.step (fun k => by rw [spec_FillGaps.l1]) ?_
      exact Ev.cases (fun _ => Ev.neg (by omega) hr') (fun _ => hr')

theorem fill_ev {l : List Int} {r : List Int × Bool} {t : Int} (h : Ev (fun k => spec_FillGaps.l0 k l l t 0) r) : Ev (fun k => impl_FillGaps.l0 k l l t l (l.length : Int) 0) r :=
  h.congr fun k => (fill_same l k).1 l t 0
theorem series_getD {l : List Int} (hs : seriesB l = true) (j : Nat) (hj : j < l.length) : cellB (l.getD j 0) = true := by
  rw [show l.getD j 0 = l[j] from by simp [hj]]; exact series_cell hs _ (List.getElem_mem hj)

/-- Filled gaps: both come to one, and what it is. -/
theorem fillGaps (l : List Int) (hl : l.length ≤ 1048576) : ∃ (r : List Int) (b : Bool), Ev (fun k => spec_FillGaps.f k l) (r, b) ∧ Ev (fun k => impl_FillGaps.f k l) (r, b) ∧ r.length ≤ 1048576 ∧
    ((b = false ∧ r = []) ∨ (b = true ∧ seriesB l = true ∧ Filled l r)) := by
  unfold spec_FillGaps.f impl_FillGaps.f
  by_cases hs : seriesB l = true
  · have h60 := series_60 hs
    have hv : impl_IsValidSeries.f l = some (seriesB l) := rfl
    by_cases hk : known l = []
    · refine ⟨[], false, ?_, ?_, by simp, .inl ⟨rfl, rfl⟩⟩
      · exact Ev.bind (l24Good l hl) (Ev.pos hs (Ev.bind (l24SumAll l hs) (Ev.pos (by simp [hk]) (Ev.now _))))
      · refine Ev.bindc hv (Ev.pos hs (Ev.bindc (known_f l hl) ?_))
        rw [hk]
        refine Ev.step (fun k => by rw [impl_FillGaps.j0]) ?_
        exact Ev.pos rfl (Ev.now _)
    · have hpos := List.length_pos_iff.2 hk
      obtain ⟨x, hx⟩ := List.exists_mem_of_ne_nil _ hk
      obtain ⟨hx1, hx2⟩ := mem_known.1 hx
      obtain ⟨j, hj, e⟩ := List.getElem_of_mem hx1
      obtain ⟨r, hr, hF⟩ := fill_none l (series_getD hs) h60.2 _ 0 rfl (by omega) (fun j h => by omega) ⟨j, by omega, hj, by rw [show l.getD j 0 = l[j] from by simp [hj], e]; exact hx2⟩
      refine ⟨r, true, ?_, ?_, by rw [hF.1]; omega, .inr ⟨rfl, hs, hF⟩⟩
      · refine Ev.bind (l24Good l hl) (Ev.pos hs (Ev.bind (l24SumAll l hs) (Ev.neg (by simp only; omega) (Ev.bindc (show spec_l1Own.f l = some l from ?_) hr))))
        unfold spec_l1Own.f
        simp only [Option.bind_some, List.length_nil, List.nil_append]
        rw [if_pos (by omega)]
      · refine Ev.bindc hv (Ev.pos hs (Ev.bindc (known_f l hl) ?_))
        refine Ev.step (fun k => by rw [impl_FillGaps.j0]) ?_
        refine Ev.neg (by simpa using hk) (Ev.bindc (show slices_Clone_int_int.f l = some l by unfold slices_Clone_int_int.f; rw [if_pos (by omega)]) (fill_ev hr))
  · refine ⟨[], false, Ev.bind (l24Good l hl) (Ev.neg hs (Ev.now _)), ?_, by simp, .inl ⟨rfl, rfl⟩⟩
    refine Ev.bindc (show impl_IsValidSeries.f l = some (seriesB l) from rfl) (Ev.neg hs ?_)
    refine Ev.step (fun k => by rw [impl_FillGaps.j0]) ?_
    exact Ev.pos rfl (Ev.now _)
end Go.Proofs.Ytdhdifoenladpaa.Pure

/- Fractions in lowest terms: the reference's and the program's greatest common divisor and sum. -/
namespace Go.Proofs.Ytdhdifoenladpaa.Pure
open Go.RowKit Go.Proofs.Ytdhdifoenladpaa.P Go.Proofs.YtdhdifoenladpaaW.PrintWords Go.Proofs.YtdhdifoenladpaaW.PrintLast

theorem sumOf_l0 (l : List Int) (hl : l.length ≤ 1048576) (hb : ∀ i (h : i < l.length), -10000000 ≤ l[i] ∧ l[i] ≤ 10000000) : ∀ (d i : Nat) (s : Int), l.length - i = d → i ≤ l.length → -(10000000 * (i : Int)) ≤ s → s ≤ 10000000 * (i : Int) →
    Ev (fun k => impl_sumOf.l0 k s l (l.length : Int) (i : Int)) (s + (l.drop i).sum) := by
  intro d
  induction d with
  | zero =>
    intro i s hd hi _ _
    refine Ev.step (fun k => by rw [impl_sumOf.l0]) ?_
    refine Ev.neg (by omega) (Ev.const ?_)
    rw [List.drop_of_length_le (by omega)]; simp
  | succ d ih =>
    intro i s hd hi h1 h2
    have hlt : i < l.length := by omega
    have b := hb i hlt
    refine Ev.step (fun k => by rw [impl_sumOf.l0]) ?_
    refine Ev.pos (by omega) (Ev.pos (by omega) (Ev.pos (by omega) ?_))
    rw [rd_lt l i hlt, w64 (x := s + l[i]) (by omega) (by omega), w64 (by omega) (by omega), show (i : Int) + 1 = ((i + 1 : Nat) : Int) from by omega, drop_cons' l i hlt, List.sum_cons]
    exact Ev.eq (ih (i + 1) (s + l[i]) (by omega) (by omega) (by omega) (by omega)) (by omega)
theorem sumOf (l : List Int) (hl : l.length ≤ 1048576) (hb : ∀ x ∈ l, -10000000 ≤ x ∧ x ≤ 10000000) : Ev (fun k => impl_sumOf.f k l) l.sum := by
  unfold impl_sumOf.f
  exact Ev.eq (sumOf_l0 l hl (fun i h => hb _ (List.getElem_mem h)) _ 0 0 rfl (by omega) (by omega) (by omega)) (by simp)
theorem sum_bd (l : List Int) (B : Int) (hb : ∀ x ∈ l, -B ≤ x ∧ x ≤ B) : -(B * (l.length : Int)) ≤ l.sum ∧ l.sum ≤ B * (l.length : Int) := by
  induction l with
  | nil => simp
  | cons x xs ih =>
    have h1 := ih (fun y hy => hb y (List.mem_cons_of_mem _ hy))
    have h2 := hb x (List.mem_cons_self ..)
    rw [List.sum_cons, List.length_cons, Int.natCast_add, Int.mul_add]
    simp only [Int.natCast_one, Int.mul_one]
    omega
end Go.Proofs.Ytdhdifoenladpaa.Pure

/- Means and anomalies: the reference's and the program's come to one. -/
namespace Go.Proofs.Ytdhdifoenladpaa.Pure
open Go.RowKit Go.Proofs.Ytdhdifoenladpaa.P Go.Proofs.YtdhdifoenladpaaW.PrintWords Go.Proofs.YtdhdifoenladpaaW.PrintLast

theorem known_bd {l : List Int} (hs : seriesB l = true) (xs : List Int) (hx : ∀ x ∈ xs, x ∈ l) : ∀ x ∈ known xs, -9000 ≤ x ∧ x ≤ 9000 := by
  intro x h
  obtain ⟨h1, h2⟩ := mem_known.1 h
  exact cell_bd' (series_cell hs x (hx x h1)) h2
theorem known_sum_bd {l : List Int} (hs : seriesB l = true) (xs : List Int) (hx : ∀ x ∈ xs, x ∈ l) (hl : xs.length ≤ 60) : -540000 ≤ (known xs).sum ∧ (known xs).sum ≤ 540000 := by
  have h := sum_bd (known xs) 9000 (known_bd hs xs hx)
  have h2 := known_le xs
  omega

end Go.Proofs.Ytdhdifoenladpaa.Pure

/- The means of ten days each. -/
namespace Go.Proofs.Ytdhdifoenladpaa.Pure
open Go.RowKit Go.Proofs.Ytdhdifoenladpaa.P Go.Proofs.YtdhdifoenladpaaW.PrintWords Go.Proofs.YtdhdifoenladpaaW.PrintLast
set_option linter.unusedVariables false

def roundT (c : List Int) : Int := if known c = [] then -9999 else roundI (known c).sum ((known c).length : Int)
def tensT (l : List Int) : List Int := (parts10 l).map roundT
theorem tensT_len (l : List Int) : (tensT l).length = (l.length + 9) / 10 := by simp [tensT, parts10]
theorem part_sub (l : List Int) (j : Nat) : ∀ x ∈ partN l j, x ∈ l := fun x hx => List.mem_of_mem_drop (List.mem_of_mem_take hx)
theorem part_len (l : List Int) (j : Nat) : (partN l j).length ≤ 10 := by unfold partN; rw [List.length_take]; omega
theorem part_ev {l : List Int} (hs : seriesB l = true) (j : Nat) : Ev (fun k => partM k (partN l j)) (roundT (partN l j)) := by
  have hp := part_len l j
  have hk := known_le (partN l j)
  unfold partM roundT
  by_cases h : known (partN l j) = []
  · rw [if_pos h]; exact Ev.pos h (Ev.now _)
  · rw [if_neg h]
    refine Ev.neg h ?_
    have hpos := List.length_pos_iff.2 h
    have hb := known_sum_bd hs (partN l j) (part_sub l j) (by omega)
    unfold impl_meanOf.f
    refine Ev.bind (sumOf _ (by omega) (fun x hx => by have := known_bd hs _ (part_sub l j) x hx; omega)) ?_
    exact Ev.bindc (by rw [nearest_f]; exact round_f _ _ (by omega) (by omega) (by omega) (by omega)) (Ev.now _)
theorem tensM_ev {l : List Int} (hs : seriesB l = true) : ∀ js : List Nat, Ev (fun k => tensM k (js.map (partN l))) ((js.map (partN l)).map roundT)
  | [] => Ev.now _
  | j :: js => by
    simp only [List.map_cons, tensM]
    exact Ev.bind (part_ev hs j) (Ev.bind (tensM_ev hs js) (Ev.now _))
theorem tens_impl (l : List Int) : Ev (fun k => impl_TenDayMeans.f k l) (if seriesB l = true then (tensT l, true) else ([], false)) := by
  unfold impl_TenDayMeans.f
  refine Ev.cases (fun h => ?_) (fun h => ?_)
  · rw [if_pos h]
    exact Ev.bind (tensM_ev h (List.range ((l.length + 9) / 10))) (Ev.now _)
  · rw [if_neg h]; exact Ev.now _
theorem part_eq (l : List Int) (j : Nat) : (l.take (min (10 * j + 10) l.length)).drop (10 * j) = partN l j := by
  unfold partN
  rw [List.drop_take]
  by_cases h : 10 * j + 10 ≤ l.length
  · rw [Nat.min_eq_left h, show 10 * j + 10 - 10 * j = 10 by omega]
  · rw [Nat.min_eq_right (by omega), List.take_of_length_le (by simp), List.take_of_length_le (by simp; omega)]
theorem tensS_l0 (l : List Int) (hs : seriesB l = true) : ∀ (d j : Nat), (l.length + 9) / 10 - j = d → j ≤ (l.length + 9) / 10 →
    Ev (fun k => spec_TenDayMeans.l0 k l (((List.range j).map (partN l)).map roundT) ((10 * j : Nat) : Int)) (tensT l, true) := by
  have h60 := series_60 hs
  intro d
  induction d with
  | zero =>
    intro j hd hj
    obtain rfl : j = (l.length + 9) / 10 := by omega
    refine Ev.step (fun k => by rw [spec_TenDayMeans.l0]) ?_
    exact Ev.neg (by omega) (Ev.now _)
  | succ d ih =>
    intro j hd hj
    have hlt : 10 * j < l.length := by omega
    have hih := ih (j + 1) (by omega) (by omega)
    rw [List.range_succ, List.map_append, List.map_append] at hih
    have hsum := l24Sum l hs (10 * j) (((10 * j : Nat) : Int) + 9) (min (10 * j + 10) l.length) (by omega) (by omega) (fun i hi => by omega) (by omega)
    rw [part_eq] at hsum
    have hlen : (((List.range j).map (partN l)).map roundT).length = j := by simp
    refine Ev.step (fun k => by rw [spec_TenDayMeans.l0]) ?_
    rw [w64 (x := ((10 * j : Nat) : Int) + 9) (by omega) (by omega), w64 (x := ((10 * j : Nat) : Int) + 10) (by omega) (by omega), show ((10 * j : Nat) : Int) + 10 = ((10 * (j + 1) : Nat) : Int) by omega]
    refine Ev.pos (by omega) (Ev.bind hsum ?_)
    have hp := part_len l j
    have hk := known_le (partN l j)
    by_cases h : known (partN l j) = []
    · have e : roundT (partN l j) = -9999 := by unfold roundT; rw [if_pos h]
      refine Ev.pos (by rw [h]; rfl) (Ev.pos (by omega) ?_)
      have := hih
      simp only [List.map_cons, List.map_nil, e] at this
      exact this
    · have e : roundT (partN l j) = roundI (known (partN l j)).sum ((known (partN l j)).length : Int) := by unfold roundT; rw [if_neg h]
      have hpos := List.length_pos_iff.2 h
      have hb := known_sum_bd hs (partN l j) (part_sub l j) (by omega)
      refine Ev.neg (by simp only; omega) (Ev.bindc (round_f _ _ (by simp only; omega) (by simp only; omega) (by simp only; omega) (by simp only; omega)) (Ev.pos (by omega) ?_))
      have := hih
      simp only [List.map_cons, List.map_nil, e] at this
      exact this
theorem tens_spec (l : List Int) (hl : l.length ≤ 1048576) : Ev (fun k => spec_TenDayMeans.f k l) (if seriesB l = true then (tensT l, true) else ([], false)) := by
  unfold spec_TenDayMeans.f
  refine Ev.bindc rfl (Ev.bind (l24Good l hl) (Ev.cases (fun h => ?_) (fun h => ?_)))
  · rw [if_pos h]
    exact tensS_l0 l h _ 0 rfl (by omega)
  · rw [if_neg h]; exact Ev.now _
theorem tenDayMeans (l : List Int) (hl : l.length ≤ 1048576) : ∃ (r : List Int) (b : Bool), Ev (fun k => spec_TenDayMeans.f k l) (r, b) ∧ Ev (fun k => impl_TenDayMeans.f k l) (r, b) ∧ r.length ≤ 1048576 ∧ (b = true → r.length = (l.length + 9) / 10) := by
  have h1 := tens_spec l hl
  have h2 := tens_impl l
  by_cases h : seriesB l = true
  · rw [if_pos h] at h1 h2
    exact ⟨_, _, h1, h2, by rw [tensT_len]; omega, fun _ => tensT_len l⟩
  · rw [if_neg h] at h1 h2
    exact ⟨_, _, h1, h2, by simp, fun h => by cases h⟩
end Go.Proofs.Ytdhdifoenladpaa.Pure

/- The reference's record days are the program's. -/
namespace Go.Proofs.Ytdhdifoenladpaa.Pure
open Go.RowKit Go.Proofs.Ytdhdifoenladpaa.P Go.Proofs.YtdhdifoenladpaaW.PrintWords Go.Proofs.YtdhdifoenladpaaW.PrintLast

theorem cell_ge {n : Int} (h : cellB n = true) : -9999 ≤ n := by
  unfold cellB at h
  simp only [Bool.or_eq_true, beq_iff_eq, Bool.and_eq_true, decide_eq_true_eq] at h
  omega
theorem series_ge {l : List Int} (h : seriesB l = true) (i : Nat) (hi : i < l.length) : -9999 ≤ l[i] := by
  unfold seriesB at h
  simp only [Bool.and_eq_true, List.all_eq_true] at h
  exact cell_ge (h.2 _ (List.getElem_mem hi))
theorem series_len {l : List Int} (h : seriesB l = true) : 1 ≤ l.length ∧ l.length ≤ 60 := by
  unfold seriesB at h
  simp only [Bool.and_eq_true, decide_eq_true_eq] at h
  omega

/-- The greatest of the first days' values, -9999 if there is none. -/
def mostL (l : List Int) (i : Nat) : Int := (l.take i).foldl max (-9999)
theorem most_succ (l : List Int) (i : Nat) (h : i < l.length) : mostL l (i + 1) = max (mostL l i) l[i] := by
  unfold mostL; rw [take_succ' l i h, List.foldl_append]; rfl
theorem foldl_max_le (xs : List Int) : ∀ (a b : Int), xs.foldl max a < b ↔ a < b ∧ ∀ x ∈ xs, x < b := by
  induction xs with
  | nil => intro a b; simp
  | cons x xs ih =>
    intro a b
    rw [List.foldl_cons, ih]
    simp only [List.mem_cons, forall_eq_or_imp]
    constructor
    · rintro ⟨h1, h2⟩; exact ⟨by omega, by omega, h2⟩
    · rintro ⟨h1, h2, h3⟩; exact ⟨by omega, h3⟩
theorem record_iff (l : List Int) (hs : seriesB l = true) (i : Nat) (h : i < l.length) : recordB l i = true ↔ mostL l i < l[i] := by
  unfold recordB mostL
  rw [foldl_max_le]
  have hd : l.getD i 0 = l[i] := by simp [h]
  rw [hd]
  simp only [Bool.and_eq_true, bne_iff_ne, Bool.not_eq_true', List.any_eq_false, decide_eq_true_eq]
  have hge := series_ge hs i h
  constructor
  · rintro ⟨h1, h2⟩
    refine ⟨by omega, fun x hx => ?_⟩
    have h3 := h2 x hx
    have hx' : x ∈ l := List.mem_of_mem_take hx
    by_cases e : x = -9999
    · omega
    · have : ¬ l[i] ≤ x := fun h4 => h3 ⟨e, h4⟩
      omega
  · rintro ⟨h1, h2⟩
    exact ⟨by omega, fun x hx h3 => by have := h2 x hx; omega⟩

theorem spec_rec (l : List Int) (hs : seriesB l = true) : ∀ (d i : Nat), l.length - i = d → i ≤ l.length →
    Ev (fun k => spec_RecordDays.l0 k l (recs l i) (mostL l i) (i : Int)) (recs l l.length, true) := by
  have hlen := series_len hs
  intro d
  induction d with
  | zero =>
    intro i hd hi
    refine Ev.step (fun k => by rw [spec_RecordDays.l0]) (Ev.neg (by omega) (Ev.const ?_))
    rw [show i = l.length from by omega]
  | succ d ih =>
    intro i hd hi
    have hlt : i < l.length := by omega
    refine Ev.step (fun k => by rw [spec_RecordDays.l0]) (Ev.pos (by omega) (Ev.pos (by omega) ?_))
    have e := ih (i + 1) (by omega) (by omega)
    have hrec := record_iff l hs i hlt
    have hl := recs_len l i
    rw [rd_lt l i hlt, w64 (by omega) (by omega), show (i : Int) + 1 = ((i + 1 : Nat) : Int) from by omega]
    rw [recs_succ, most_succ l i hlt] at e
    refine Ev.cases (fun h => ?_) (fun h => ?_)
    · refine Ev.pos (by omega) ?_
      rw [if_pos (hrec.2 h), show max (mostL l i) l[i] = l[i] from by omega] at e
      exact e
    · rw [if_neg (fun hh => h (hrec.1 hh)), show max (mostL l i) l[i] = mostL l i from by omega] at e
      exact e

theorem recordDays (l : List Int) (hl : l.length ≤ 1048576) : ∃ (r : List Int) (b : Bool), impl_RecordDays.f l = some (r, b) ∧ Ev (fun k => spec_RecordDays.f k l) (r, b) ∧ r.length ≤ 1048576 := by
  unfold impl_RecordDays.f spec_RecordDays.f
  by_cases hs : seriesB l = true
  · refine ⟨recs l l.length, true, by rw [if_pos hs], ?_, by have := recs_len l l.length; omega⟩
    refine Ev.bindc rfl (Ev.bind (l24Good l hl) (Ev.pos hs ?_))
    exact spec_rec l hs _ 0 rfl (by omega)
  · refine ⟨[], false, by rw [if_neg hs], ?_, by simp⟩
    exact Ev.bindc rfl (Ev.bind (l24Good l hl) (Ev.neg hs (Ev.now _)))
end Go.Proofs.Ytdhdifoenladpaa.Pure

/- The laws' own comparison of lists of numbers. -/
namespace Go.Proofs.Ytdhdifoenladpaa.Pure
open Go.RowKit Go.Proofs.Ytdhdifoenladpaa.P Go.Proofs.YtdhdifoenladpaaW.PrintWords Go.Proofs.YtdhdifoenladpaaW.PrintLast
set_option linter.unusedVariables false

theorem rInts_l0 (a : List Int) (hl : a.length ≤ 1048576) : ∀ (d i : Nat), a.length - i = d → i ≤ a.length → Ev (fun k => laws_rInts.l0 k a a (i : Int)) true := by
  intro d
  induction d with
  | zero =>
    intro i hd hi
    refine Ev.step (fun k => by rw [laws_rInts.l0]) ?_
    exact Ev.neg (by omega) (Ev.now _)
  | succ d ih =>
    intro i hd hi
    refine Ev.step (fun k => by rw [laws_rInts.l0]) ?_
    refine Ev.pos (by omega) (Ev.pos (by omega) (Ev.pos (by omega) (Ev.pos rfl ?_)))
    rw [w64 (by omega) (by omega), show (i : Int) + 1 = ((i + 1 : Nat) : Int) from by omega]
    exact ih (i + 1) (by omega) (by omega)
theorem rInts_refl (a : List Int) (hl : a.length ≤ 1048576) : Ev (fun k => laws_rInts.f k a a) true := by
  unfold laws_rInts.f
  exact Ev.pos rfl (rInts_l0 a hl _ 0 rfl (by omega))
end Go.Proofs.Ytdhdifoenladpaa.Pure

namespace Go.Proofs.Ytdhdifoenladpaa.Pure
open Go.RowKit Go.Proofs.Ytdhdifoenladpaa.P Go.Proofs.YtdhdifoenladpaaW.PrintWords Go.Proofs.YtdhdifoenladpaaW.PrintLast
set_option linter.unusedVariables false

theorem drawSpell {l : List Int} (hc : Code l) : ∃ r x, Ev (fun k => spec_DrawLongestSpell.f k l) (r, x) ∧ r.length ≤ 100 := by
  obtain ⟨r, a, s, e, hr, h1⟩ := series_ok hc (s := 0) at0 (by omega)
  obtain ⟨c, a1, s1, b, a', s', e1, g1, g2, e2, _⟩ := cut_ok hc (s := s) h1 (by omega) [0, 3, 8, 10, 25, (-9000), 9000, (-9999), 9001] 24 7 (by omega) (by omega) (by omega) (by simp) (by simp)
  refine ⟨r, b, ?_, hr⟩
  unfold spec_DrawLongestSpell.f
  exact Ev.bindc (b := (l, 0, 0)) rfl (Ev.bind e (Ev.bindc rfl (Ev.bindc e1 (Ev.pos g1 (Ev.pos g2 (Ev.bindc e2 (Ev.now _)))))))
theorem drawGaps {l : List Int} (hc : Code l) : ∃ r, Ev (fun k => spec_DrawFillGaps.f k l) r ∧ r.length ≤ 100 := by
  obtain ⟨r, e, hr⟩ := drawSeries hc
  refine ⟨r, ?_, hr⟩
  unfold spec_DrawFillGaps.f
  exact Ev.bind e (Ev.now _)
theorem drawTens {l : List Int} (hc : Code l) : ∃ r, Ev (fun k => spec_DrawTenDayMeans.f k l) r ∧ r.length ≤ 100 := by
  obtain ⟨r, e, hr⟩ := drawSeries hc
  refine ⟨r, ?_, hr⟩
  unfold spec_DrawTenDayMeans.f
  exact Ev.bind e (Ev.now _)
theorem drawRecs {l : List Int} (hc : Code l) : ∃ r, Ev (fun k => spec_DrawRecordDays.f k l) r ∧ r.length ≤ 100 := by
  obtain ⟨r, e, hr⟩ := drawSeries hc
  refine ⟨r, ?_, hr⟩
  unfold spec_DrawRecordDays.f
  exact Ev.bind e (Ev.now _)

/-- The records rise. -/
theorem recs_asc (l : List Int) (hs : seriesB l = true) : ∀ k, k ≤ l.length → (∀ x ∈ recs l k, 0 ≤ x ∧ x < (k : Int)) ∧ (recs l k).Pairwise (fun x y => rd l x < rd l y) := by
  intro k
  induction k with
  | zero => intro _; exact ⟨by simp [recs], by simp [recs]⟩
  | succ k ih =>
    intro hk
    obtain ⟨h1, h2⟩ := ih (by omega)
    rw [recs_succ]
    by_cases hr : recordB l k = true
    · rw [if_pos hr]
      have hm := (record_iff l hs k (by omega)).1 hr
      unfold mostL at hm
      rw [foldl_max_le] at hm
      refine ⟨fun x hx => ?_, List.pairwise_append.2 ⟨h2, List.pairwise_singleton _ _, fun x hx y hy => ?_⟩⟩
      · rcases List.mem_append.1 hx with hx | hx
        · have := h1 x hx; omega
        · rw [List.mem_singleton.1 hx]; omega
      · rw [List.mem_singleton.1 hy]
        obtain ⟨g1, g2⟩ := h1 x hx
        obtain ⟨n, rfl⟩ : ∃ n : Nat, x = n := ⟨x.toNat, by omega⟩
        rw [rd_lt l n (by omega), rd_lt l k (by omega)]
        refine hm.2 _ ?_
        rw [List.mem_iff_getElem]
        exact ⟨n, by simp; omega, by simp⟩
    · rw [if_neg hr]
      exact ⟨fun x hx => by have := h1 x hx; omega, h2⟩
theorem spells_l2 (l r : List Int) (hl : l.length ≤ 100) (hr : r.length ≤ 100) (hb : ∀ x ∈ r, 0 ≤ x ∧ x < (l.length : Int)) (ha : r.Pairwise (fun x y => rd l x < rd l y)) : ∀ (d i : Nat), r.length + 1 - i = d → 1 ≤ i → i ≤ r.length + 1 →
    Ev (fun k => laws_FnSpells.l2 k l r (i : Int)) true := by
  intro d
  induction d with
  | zero =>
    intro i hd h1 hi
    refine Ev.step (fun k => by rw [laws_FnSpells.l2]) ?_
    exact Ev.neg (by omega) (Ev.now _)
  | succ d ih =>
    intro i hd h1 hi
    refine Ev.step (fun k => by rw [laws_FnSpells.l2]) ?_
    by_cases hlt : i < r.length
    · have e1 : wrap64 ((i : Int) - 1) = ((i - 1 : Nat) : Int) := by rw [w64 (by omega) (by omega)]; omega
      have hi1 : i - 1 < r.length := by omega
      have q1 := hb r[i - 1] (List.getElem_mem hi1)
      have q2 := hb r[i] (List.getElem_mem hlt)
      have q3 := List.pairwise_iff_getElem.1 ha (i - 1) i hi1 hlt (by omega)
      rw [e1, rd_lt r (i - 1) hi1, rd_lt r i hlt, w64 (x := (i : Int) + 1) (by omega) (by omega), show (i : Int) + 1 = ((i + 1 : Nat) : Int) from by omega]
      exact Ev.pos (by omega) (Ev.pos (by omega) (Ev.pos (by omega) (Ev.pos q1.1 (Ev.pos q1.2 (Ev.pos (by omega) (Ev.pos q2.1 (Ev.pos q2.2 (Ev.neg (by omega) (ih (i + 1) (by omega) (by omega) (by omega))))))))))
    · exact Ev.neg (by omega) (Ev.now _)
theorem spells_j7 {l0 : List Int} (hc : Code l0) : Ev (fun k => laws_FnSpells.j7 k l0 false) true := by
  obtain ⟨l, hd, hl⟩ := drawRecs hc
  obtain ⟨r, b, hi, hr, hlen⟩ := recordDays l (by omega)
  refine Ev.step (fun k => by rw [laws_FnSpells.j7]) (Ev.neg (by simp) ?_)
  refine Ev.bind hd (Ev.bindc hi (Ev.bind hr (Ev.neg (by simp) (Ev.bind (rInts_refl r hlen) ?_))))
  refine Ev.step (fun k => by rw [laws_FnSpells.j8]) (Ev.neg (by simp) ?_)
  simp only
  unfold impl_RecordDays.f at hi
  by_cases hs : seriesB l = true
  · rw [if_pos hs] at hi
    obtain ⟨rfl, rfl⟩ := Prod.mk.inj (Option.some.inj hi)
    obtain ⟨g1, g2⟩ := recs_asc l hs l.length (Nat.le_refl _)
    exact spells_l2 l _ hl (by have := recs_len l l.length; omega) g1 g2 _ 1 rfl (by omega) (by omega)
  · rw [if_neg hs] at hi
    obtain ⟨rfl, rfl⟩ := Prod.mk.inj (Option.some.inj hi)
    exact spells_l2 l [] hl (by simp) (by simp) List.Pairwise.nil _ 1 rfl (by omega) (by simp)
theorem spells_j6 {l0 : List Int} (hc : Code l0) : Ev (fun k => laws_FnSpells.j6 k l0) true := by
  obtain ⟨l, hd, hl⟩ := drawTens hc
  obtain ⟨r, b, hs, hi, hlen, ht⟩ := tenDayMeans l (by omega)
  refine Ev.step (fun k => by rw [laws_FnSpells.j6]) ?_
  refine Ev.bind hd (Ev.bind hi (Ev.bind hs (Ev.neg (by simp) (Ev.bind (rInts_refl r hlen) (Ev.pos rfl ?_)))))
  refine Ev.cases (fun h => ?_) (fun _ => spells_j7 hc)
  have e := ht h
  have ew : wrap64 (Int.tdiv (wrap64 ((l.length : Int) + 9)) 10) = ((r.length : Nat) : Int) := by
    rw [w64 (x := (l.length : Int) + 9) (by omega) (by omega), Int.tdiv_eq_ediv_of_nonneg (by omega), w64 (by omega) (by omega), e]
    omega
  simp only [ew]
  rw [show (((r.length : Nat) : Int) != ((r.length : Nat) : Int)) = false by simp]
  exact spells_j7 hc
theorem spells_l1 {l0 : List Int} (hc : Code l0) (t o : List Int) (ht : t.length ≤ 100) (ho : o.length = t.length) (hk : ∀ j, j < t.length → t.getD j 0 ≠ -9999 → o.getD j 0 = t.getD j 0) : ∀ (d i : Nat), t.length - i = d → i ≤ t.length →
    Ev (fun k => laws_FnSpells.l1 k l0 t o (i : Int)) true := by
  intro d
  induction d with
  | zero =>
    intro i hd hi
    refine Ev.step (fun k => by rw [laws_FnSpells.l1]) ?_
    exact Ev.neg (by omega) (spells_j6 hc)
  | succ d ih =>
    intro i hd hi
    have hlt : i < t.length := by omega
    refine Ev.step (fun k => by rw [laws_FnSpells.l1]) ?_
    rw [rd_lt t i hlt, rd_lt o i (by omega), w64 (x := (i : Int) + 1) (by omega) (by omega), show (i : Int) + 1 = ((i + 1 : Nat) : Int) from by omega]
    have hih := ih (i + 1) (by omega) (by omega)
    refine Ev.pos (by omega) (Ev.pos (by omega) (Ev.cases (fun _ => hih) (fun h => Ev.pos (by omega) (Ev.pos ?_ hih))))
    have := hk i hlt (by rw [show t.getD i 0 = t[i] from by simp [hlt]]; exact h)
    rw [show t.getD i 0 = t[i] from by simp [hlt], show o.getD i 0 = o[i]'(by omega) from by simp [show i < o.length by omega]] at this
    exact this
theorem fill_again {l r : List Int} (hs : seriesB l = true) (hF : Filled l r) : seriesB r = true ∧ Ev (fun k => impl_FillGaps.f k r) (r, true) := by
  have h60 := series_60 hs
  obtain ⟨h1, h2, h3, f, m, hfm, hm, d1, d2, d3⟩ := hF
  have hsr : seriesB r = true := by
    unfold seriesB
    simp only [Bool.and_eq_true, decide_eq_true_eq, List.all_eq_true]
    refine ⟨⟨by omega, by omega⟩, fun x hx => ?_⟩
    obtain ⟨j, hj, rfl⟩ := List.getElem_of_mem hx
    have := h3 j (by omega)
    rwa [show r.getD j 0 = r[j] from by simp [hj]] at this
  refine ⟨hsr, ?_⟩
  have hmem : r[m] ∈ known r := mem_known.2 ⟨List.getElem_mem hm, by have := d2 m hfm (Nat.le_refl _); rwa [show r.getD m 0 = r[m] from by simp [hm]] at this⟩
  have hk := List.ne_nil_of_mem hmem
  have hd := fill_dense r (by omega) f m hfm hm d1 d2 d3 _ 0 (-1) rfl (by omega) (fun _ => rfl) (fun h => by omega)
  unfold impl_FillGaps.f
  refine Ev.bindc (show impl_IsValidSeries.f r = some (seriesB r) from rfl) (Ev.pos hsr (Ev.bindc (known_f r (by omega)) ?_))
  refine Ev.step (fun k => by rw [impl_FillGaps.j0]) ?_
  refine Ev.neg (by simpa using hk) (Ev.bindc (show slices_Clone_int_int.f r = some r by unfold slices_Clone_int_int.f; rw [if_pos (by omega)]) (fill_ev hd))
theorem spells_gaps {l0 : List Int} (hc : Code l0) (s : List Int) (th t : Int) (o : Bool) (i : Int) : Ev (fun k => laws_FnSpells.j2 k l0 s th t o i false) true := by
  obtain ⟨l, hd, hl⟩ := drawGaps hc
  obtain ⟨r, b, hs, hi, hlen, hcase⟩ := fillGaps l (by omega)
  refine Ev.step (fun k => by rw [laws_FnSpells.j2]) (Ev.neg (by simp) ?_)
  refine Ev.bind hd (Ev.bind hi (Ev.bind hs (Ev.neg (by simp) (Ev.bind (rInts_refl r hlen) ?_))))
  refine Ev.step (fun k => by rw [laws_FnSpells.j3]) (Ev.neg (by simp) ?_)
  simp only
  rcases hcase with ⟨rfl, rfl⟩ | ⟨rfl, hv, hF⟩
  · exact Ev.neg (by simp) (spells_j6 hc)
  · obtain ⟨g1, g2⟩ := fill_again hv hF
    refine Ev.pos rfl (Ev.bind g2 (Ev.pos rfl (Ev.bind (rInts_refl r hlen) (Ev.pos rfl (Ev.bindc (show impl_IsValidSeries.f r = some (seriesB r) from rfl) ?_)))))
    rw [g1]
    refine Ev.step (fun k => by rw [laws_FnSpells.j4]) (Ev.neg (by simp) ?_)
    exact spells_l1 hc l r hl hF.1 hF.2.1 _ 0 rfl (by omega)
theorem spells_l0 {l0 : List Int} (hc : Code l0) (s : List Int) (hs : s.length ≤ 100) (th f t : Int) (hf : 0 ≤ f) (ht : t < s.length) (hg : ∀ j : Nat, f ≤ (j : Int) → (j : Int) ≤ t → th ≤ s.getD j 0) : ∀ (n : Nat) (i : Int), (t + 1 - i).toNat = n → f ≤ i → i ≤ t + 1 →
    Ev (fun k => laws_FnSpells.l0 k l0 s th t true i) true := by
  intro n
  induction n with
  | zero =>
    intro i hn h1 h2
    refine Ev.step (fun k => by rw [laws_FnSpells.l0]) (Ev.pos rfl ?_)
    rw [decide_eq_false (by omega)]
    exact spells_gaps hc s th t true i
  | succ n ih =>
    intro i hn h1 h2
    refine Ev.step (fun k => by rw [laws_FnSpells.l0]) (Ev.pos rfl ?_)
    rw [decide_eq_true (by omega)]
    refine Ev.step (fun k => by rw [laws_FnSpells.j2]) (Ev.pos rfl ?_)
    obtain ⟨j, rfl⟩ : ∃ j : Nat, i = j := ⟨i.toNat, by omega⟩
    have hlt : j < s.length := by omega
    have hj := hg j h1 (by omega)
    rw [show s.getD j 0 = s[j] from by simp [hlt]] at hj
    rw [rd_lt s j hlt, w64 (x := (j : Int) + 1) (by omega) (by omega)]
    exact Ev.pos (by omega) (Ev.pos (by omega) (Ev.neg (by omega) (ih ((j : Int) + 1) (by omega) (by omega) (by omega))))
theorem FnSpells : laws_FnSpells.Pure := by
  intro l0 _ _ hwf
  apply Ev.rounds
  have hc : Code l0 := code_of hwf
  unfold laws_FnSpells.f
  refine Ev.bindc (show laws_rBig.f l0 = some (decide ((l0.length : Int) > 65536)) from rfl) ?_
  refine Ev.cases (fun _ => Ev.now _) (fun _ => ?_)
  obtain ⟨s, th, hd, hs⟩ := drawSpell hc
  obtain ⟨r, h1, h2, h3⟩ := longestSpell s (by omega) th
  refine Ev.bind hd (Ev.bind h2 (Ev.bind h1 (Ev.pos rfl (Ev.pos rfl ?_))))
  refine Ev.step (fun k => by rw [laws_FnSpells.j0]) (Ev.neg (by simp) ?_)
  obtain ⟨f, t, b⟩ := r
  cases b with
  | true =>
    obtain ⟨g1, g2, g3, g4⟩ := h3 rfl
    exact spells_l0 hc s hs th f t g1 g2 g4 _ f rfl (by omega) g3
  | false =>
    refine Ev.step (fun k => by rw [laws_FnSpells.l0]) (Ev.neg (by simp) ?_)
    exact spells_gaps hc s th t false f
end Go.Proofs.Ytdhdifoenladpaa.Pure
