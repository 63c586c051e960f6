/- Anomalies add up to nothing, the highest day has the rank 1, and the last record is the highest value. Conditions: none beyond the given statement's. -/
import Derived.Test.YtdhdifoenladpaaPx0
import Derived.Test.YtdhdifoenladpaaPx37
import Derived.Test.YtdhdifoenladpaaPx39
import Derived.Test.YtdhdifoenladpaaPx38
import Derived.Test.YtdhdifoenladpaaPx3
import Derived.Test.YtdhdifoenladpaaPx5
import Derived.Test.YtdhdifoenladpaaPx4
import Derived.Test.YtdhdifoenladpaaPx13
import Derived.Test.YtdhdifoenladpaaPx15
import Derived.Test.YtdhdifoenladpaaPx18
import Derived.Test.YtdhdifoenladpaaPx20
import Derived.Test.YtdhdifoenladpaaPx22
import Derived.Test.YtdhdifoenladpaaPx24
import Derived.Test.YtdhdifoenladpaaPx29
import Derived.Test.YtdhdifoenladpaaPx7
import Derived.Test.YtdhdifoenladpaaPx30
import Derived.Test.YtdhdifoenladpaaPx32
import Derived.Test.YtdhdifoenladpaaPx16
import Derived.Test.YtdhdifoenladpaaPx9
import Derived.Test.YtdhdifoenladpaaPx10
import Derived.Test.YtdhdifoenladpaaPx40
/- Small laws on "with enough rounds the function answers r" (Ev) and on wrapping sums; used by every plain law of this seat. -/
namespace Go.Proofs.Ytdhdifoenladpaa.Pure
open Go.RowKit Go.Proofs.YtdhdifoenladpaaW.PrintWords Go.Proofs.YtdhdifoenladpaaW.PrintLast

section
variable {α β : Type} {r : α} {f g : Nat → Option α}
theorem Ev.pos {c : Prop} [Decidable c] (h : c) (e : Ev f r) : Ev (fun k => if c then f k else g k) r := e.congr fun _ => if_pos h
theorem Ev.neg {c : Prop} [Decidable c] (h : ¬ c) (e : Ev g r) : Ev (fun k => if c then f k else g k) r := e.congr fun _ => if_neg h
theorem Ev.const {a : Option α} (h : a = some r) : Ev (fun _ => a) r := ⟨0, fun _ _ => h⟩
theorem Ev.bindc {a : Option β} {b : β} {f : Nat → β → Option α} (h : a = some b) (k : Ev (fun n => f n b) r) : Ev (fun n => a.bind (f n)) r := Ev.bind (Ev.const h) k
theorem Ev.eq {r' : α} (h : Ev f r) (e : r = r') : Ev f r' := e ▸ h
theorem Ev.cases {c : Prop} [Decidable c] (h1 : c → Ev f r) (h2 : ¬ c → Ev g r) : Ev (fun k => if c then f k else g k) r := by
  by_cases h : c
  · exact Ev.pos h (h1 h)
  · exact Ev.neg h (h2 h)
/-- Two answers of one function are one. -/
theorem Ev.uniq {r' : α} (h : Ev f r) (h' : Ev f r') : r = r' := by
  obtain ⟨K, hK⟩ := h
  obtain ⟨K', hK'⟩ := h'
  have a := hK (max K K') (Nat.le_max_left _ _)
  have b := hK' (max K K') (Nat.le_max_right _ _)
  rw [a] at b
  exact Option.some.inj b
end

theorem w64 {x : Int} (h1 : -9223372036854775808 ≤ x) (h2 : x ≤ 9223372036854775807) : wrap64 x = x := by unfold wrap64; omega

theorem rd_nat (l : List Int) (i : Nat) : rd l (i : Int) = l.getD i 0 := by simp [rd]
theorem rd_lt (l : List Int) (i : Nat) (h : i < l.length) : rd l (i : Int) = l[i] := by simp [rd, h]
theorem take_succ' {α : Type} (l : List α) (i : Nat) (h : i < l.length) : l.take (i + 1) = l.take i ++ [l[i]] := by
  rw [List.take_succ_eq_append_getElem h]
theorem drop_cons' {α : Type} (l : List α) (i : Nat) (h : i < l.length) : l.drop i = l[i] :: l.drop (i + 1) := List.drop_eq_getElem_cons h
end Go.Proofs.Ytdhdifoenladpaa.Pure

/- The reader of choices: it always gives a choice in its range and goes on by a bounded step. -/
namespace Go.Proofs.Ytdhdifoenladpaa.Pure
open Go.RowKit Go.Proofs.Ytdhdifoenladpaa.P Go.Proofs.YtdhdifoenladpaaW.PrintWords Go.Proofs.YtdhdifoenladpaaW.PrintLast

/-- The bytes that are read. -/
def Code (l : List Int) : Prop := ∀ x ∈ l, 0 ≤ x ∧ x ≤ 255
theorem code_of {l : List Int} (h : ∀ x ∈ l, (Lit.int .u8 x).wf = true) : Code l := fun x hx => by
  have := h x hx
  simp only [Lit.wf, Bool.and_eq_true, decide_eq_true_eq] at this
  exact this
theorem rd_code {l : List Int} (h : Code l) (i : Int) (h0 : 0 ≤ i) (h1 : i < l.length) : 0 ≤ rd l i ∧ rd l i ≤ 255 := by
  obtain ⟨n, rfl⟩ : ∃ n : Nat, i = n := ⟨i.toNat, by omega⟩
  rw [rd_lt l n (by omega)]
  exact h _ (List.getElem_mem (by omega))
theorem wrap_u64' (n : Int) : IntKind.u64.wrap n = n % 18446744073709551616 := by simp [IntKind.wrap, IntKind.bits, IntKind.signed]
theorem byte_of (n : Int) : 0 ≤ Go.bits .and .u64 (IntKind.u64.wrap n / 1099511627776) 255 ∧ Go.bits .and .u64 (IntKind.u64.wrap n / 1099511627776) 255 ≤ 255 := by
  rw [wrap_u64']
  have h := bits_mask .u64 24 (by decide) (fun n h0 h1 => by rw [wrap_u64']; omega) 8 (by decide) (n % 18446744073709551616 / 1099511627776) (by omega) (by omega)
  simp only [show ((2 : Int) ^ 8) = 256 from by decide, show ((256 : Int) - 1) = 255 from by decide] at h
  rw [h]; omega

/-- Where the reader stands: not far from the begin. -/
def At (a : Int) (n : Nat) : Prop := 0 ≤ a ∧ a ≤ n ∧ n ≤ 1000000000
theorem At.le {a : Int} {n m : Nat} (h : At a n) (hn : n ≤ m) (hm : m ≤ 1000000000) : At a m := ⟨h.1, by have := h.2.1; omega, hm⟩

theorem next_ok {l : List Int} (hc : Code l) {a s : Int} {n : Nat} (h : At a n) (hn : n + 1 ≤ 1000000000) : ∃ b a' s', spec_l1Cur_next.f l a s = some (b, a', s') ∧ 0 ≤ b ∧ b ≤ 255 ∧ At a' (n + 1) := by
  obtain ⟨h0, h1, h2⟩ := h
  have hw : wrap64 (a + 1) = a + 1 := w64 (by omega) (by omega)
  have ha : At (a + 1) (n + 1) := ⟨by omega, by omega, hn⟩
  unfold spec_l1Cur_next.f
  rw [hw]
  by_cases c1 : a < (l.length : Int)
  · have hr := rd_code hc a h0 c1
    rw [if_pos c1, if_pos h0, if_pos (by omega), w64 (x := rd l a) (by omega) (by omega)]
    exact ⟨_, _, _, rfl, hr.1, hr.2, ha⟩
  · rw [if_neg c1, if_neg (by omega)]
    have hb := byte_of (IntKind.u64.wrap (IntKind.u64.wrap (s * 6364136223846793005) + 0) + 889889)
    rw [w64 (x := Go.bits .and .u64 _ 255) (by omega) (by omega)]
    exact ⟨_, _, _, rfl, hb.1, hb.2, ha⟩
theorem pick_ok {l : List Int} (hc : Code l) {a s : Int} {n : Nat} (h : At a n) (hn : n + 2 ≤ 1000000000) (m : Int) (hm : m ≤ 1000000) : ∃ b a' s', spec_l1Cur_pick.f l a s m = some (b, a', s') ∧ 0 ≤ b ∧ (b < m ∨ b = 0) ∧ At a' (n + 2) := by
  unfold spec_l1Cur_pick.f
  by_cases c : m ≤ 1
  · rw [if_pos c]; exact ⟨_, _, _, rfl, by omega, .inr rfl, h.le (by omega) hn⟩
  · rw [if_neg c]
    obtain ⟨b, a', s', e, hb0, hb1, h'⟩ := next_ok hc (s := s) h (by omega)
    rw [e]
    simp only [Option.bind_some]
    by_cases c2 : m > 200
    · rw [if_pos c2]
      obtain ⟨b2, a2, s2, e2, hc0, hc1, h2⟩ := next_ok hc (s := s') h' (by omega)
      rw [e2]
      simp only [Option.bind_some]
      rw [if_neg (by omega), w64 (x := b * 256) (by omega) (by omega), w64 (x := b * 256 + b2) (by omega) (by omega)]
      refine ⟨_, _, _, rfl, Int.tmod_nonneg _ (by omega), .inl (Int.tmod_lt_of_pos _ (by omega)), h2.le (by omega) (by omega)⟩
    · rw [if_neg c2, if_neg (by omega)]
      exact ⟨_, _, _, rfl, Int.tmod_nonneg _ hb0, .inl (Int.tmod_lt_of_pos _ (by omega)), h'.le (by omega) (by omega)⟩
theorem one_ok {l : List Int} (hc : Code l) {a s : Int} {n : Nat} (h : At a n) (hn : n + 2 ≤ 1000000000) (m : Int) (hm : m ≤ 1000000) : ∃ b a' s', spec_l1Cur_one.f l a s m = some (b, a', s') ∧ At a' (n + 2) := by
  unfold spec_l1Cur_one.f
  obtain ⟨b, a', s', e, _, _, h'⟩ := pick_ok hc (s := s) h hn m hm
  rw [e]
  exact ⟨_, _, _, rfl, h'⟩
theorem among_ok {l : List Int} (hc : Code l) {a s : Int} {n : Nat} (h : At a n) (hn : n + 2 ≤ 1000000000) (xs : List Int) (hx : xs ≠ []) (hm : xs.length ≤ 1000000) : ∃ b a' s', spec_l1Cur_among.f l a s xs = some (b, a', s') ∧ b ∈ xs ∧ At a' (n + 2) := by
  unfold spec_l1Cur_among.f
  obtain ⟨b, a', s', e, h0, h1, h'⟩ := pick_ok hc (s := s) h hn (xs.length : Int) (by omega)
  have hp := List.length_pos_iff.2 hx
  rw [e]
  simp only [Option.bind_some]
  obtain ⟨j, rfl⟩ : ∃ j : Nat, b = j := ⟨b.toNat, by omega⟩
  rw [if_pos h0, if_pos (by omega), rd_lt xs j (by omega)]
  exact ⟨_, _, _, rfl, List.getElem_mem (by omega), h'⟩
end Go.Proofs.Ytdhdifoenladpaa.Pure

/- The drawn series and days. -/
namespace Go.Proofs.Ytdhdifoenladpaa.Pure
open Go.RowKit Go.Proofs.Ytdhdifoenladpaa.P Go.Proofs.YtdhdifoenladpaaW.PrintWords Go.Proofs.YtdhdifoenladpaaW.PrintLast

theorem series_l1 {l : List Int} (hc : Code l) : ∀ (d : Nat) (x : List Int) (a s : Int) (n : Nat), 100 - x.length = d → At a n → n + 1000 ≤ 1000000000 + 2 * x.length → x.length ≤ 100 → n ≤ 900000000 + 2 * x.length →
    ∃ r a' s', Ev (fun k => spec_l1Cur_series.l1 k x l a s) (r, a', s') ∧ r.length ≤ 100 ∧ At a' (n + 2 * (d + 1)) := by
  intro d
  induction d with
  | zero =>
    intro x a s n hd h h1 hx h2
    obtain ⟨b, a', s', e, hb0, hb1, h'⟩ := pick_ok hc (s := s) h (by omega) 2 (by omega)
    refine ⟨x, a', s', ?_, hx, h'⟩
    refine Ev.step (fun k => by rw [spec_l1Cur_series.l1]) ?_
    refine Ev.bindc e (Ev.neg ?_ (Ev.now _))
    simp only
    rw [w64 (by omega) (by omega)]; omega
  | succ d ih =>
    intro x a s n hd h h1 hx h2
    obtain ⟨b, a', s', e, hb0, hb1, h'⟩ := pick_ok hc (s := s) h (by omega) 2 (by omega)
    by_cases c : (x.length : Int) < wrap64 (60 + b)
    · obtain ⟨r, a2, s2, e2, hr, h3⟩ := ih (x ++ [(x.length : Int) % 7]) a' s' (n + 2) (by simp; omega) h' (by simp; omega) (by simp; omega) (by simp; omega)
      refine ⟨r, a2, s2, ?_, hr, h3.le (by omega) (by omega)⟩
      refine Ev.step (fun k => by rw [spec_l1Cur_series.l1]) ?_
      exact Ev.bindc e (Ev.pos c (Ev.pos (by omega) e2))
    · refine ⟨x, a', s', ?_, hx, h'.le (by omega) (by omega)⟩
      refine Ev.step (fun k => by rw [spec_l1Cur_series.l1]) ?_
      exact Ev.bindc e (Ev.neg c (Ev.now _))
theorem series_l2 (l : List Int) (a s : Int) : ∀ (d i : Nat) (x : List Int), x.length - i = d → x.length ≤ 100 → ∃ r, Ev (fun k => spec_l1Cur_series.l2 k x (i : Int) l a s) (r, a, s) ∧ r.length ≤ 100 := by
  intro d
  induction d with
  | zero =>
    intro i x hd hx
    refine ⟨x, ?_, hx⟩
    refine Ev.step (fun k => by rw [spec_l1Cur_series.l2]) ?_
    exact Ev.neg (by omega) (Ev.now _)
  | succ d ih =>
    intro i x hd hx
    obtain ⟨r, e, hr⟩ := ih (i + 1) (x.set i (-9999)) (by simp; omega) (by simpa using hx)
    refine ⟨r, ?_, hr⟩
    refine Ev.step (fun k => by rw [spec_l1Cur_series.l2]) ?_
    refine Ev.pos (by omega) (Ev.pos (by omega) ?_)
    rw [w64 (by omega) (by omega), show (i : Int) + 1 = ((i + 1 : Nat) : Int) from by omega, Int.toNat_natCast]
    exact e
theorem series_l0 {l : List Int} (hc : Code l) : ∀ (d : Nat) (x : List Int) (a s : Int) (n : Nat), x ≠ [] ∨ 0 < d → x.length + d ≤ 50 → At a n → n ≤ 800000000 + 2 * x.length →
    ∃ r a' s', Ev (fun k => spec_l1Cur_series.l0 k x (d : Int) l a s) (r, a', s') ∧ r.length ≤ 100 ∧ At a' (n + 2 * d + 500) := by
  intro d
  induction d with
  | zero =>
    intro x a s n hne hx h hn
    have hxp : 0 < x.length := by
      rcases hne with h | h
      · exact List.length_pos_iff.2 h
      · omega
    obtain ⟨b, a1, s1, e1, hb0, hb1, h1⟩ := pick_ok hc (s := s) h (by omega) 30 (by omega)
    by_cases c0 : b = 0
    · obtain ⟨b2, a2, s2, e2, hc0, hc1, h2⟩ := pick_ok hc (s := s1) h1 (by omega) (x.length : Int) (by omega)
      obtain ⟨b3, a3, s3, e3, hm, h3⟩ := among_ok hc (s := s2) h2 (by omega) [9000, (-9000), 9001, (-9001)] (by simp) (by simp)
      refine ⟨x.set b2.toNat b3, a3, s3, ?_, by simp; omega, h3.le (by omega) (by omega)⟩
      refine Ev.step (fun k => by rw [spec_l1Cur_series.l0]) ?_
      exact Ev.neg (by omega) (Ev.bindc e1 (Ev.pos c0 (Ev.bindc e2 (Ev.bindc e3 (Ev.pos hc0 (Ev.pos (by simp only; omega) (Ev.now _)))))))
    · by_cases c1 : b = 1
      · obtain ⟨r, a2, s2, e2, hr, h2⟩ := series_l1 hc _ x a1 s1 (n + 2) rfl h1 (by omega) (by omega) (by omega)
        refine ⟨r, a2, s2, ?_, hr, h2.le (by omega) (by omega)⟩
        refine Ev.step (fun k => by rw [spec_l1Cur_series.l0]) ?_
        exact Ev.neg (by omega) (Ev.bindc e1 (Ev.neg c0 (Ev.pos c1 e2)))
      · by_cases c2 : b = 2
        · obtain ⟨r, e2, hr⟩ := series_l2 l a1 s1 _ 0 x rfl (by omega)
          refine ⟨r, a1, s1, ?_, hr, h1.le (by omega) (by omega)⟩
          refine Ev.step (fun k => by rw [spec_l1Cur_series.l0]) ?_
          exact Ev.neg (by omega) (Ev.bindc e1 (Ev.neg c0 (Ev.neg c1 (Ev.pos c2 e2))))
        · by_cases c3 : b = 3
          · refine ⟨x.take (0 : Int).toNat, a1, s1, ?_, by simp, h1.le (by omega) (by omega)⟩
            refine Ev.step (fun k => by rw [spec_l1Cur_series.l0]) ?_
            exact Ev.neg (by omega) (Ev.bindc e1 (Ev.neg c0 (Ev.neg c1 (Ev.neg c2 (Ev.pos c3 (Ev.pos (by omega) (Ev.now _)))))))
          · refine ⟨x, a1, s1, ?_, by omega, h1.le (by omega) (by omega)⟩
            refine Ev.step (fun k => by rw [spec_l1Cur_series.l0]) ?_
            exact Ev.neg (by omega) (Ev.bindc e1 (Ev.neg c0 (Ev.neg c1 (Ev.neg c2 (Ev.neg c3 (Ev.now _))))))
  | succ d ih =>
    intro x a s n _ hx h hn
    obtain ⟨b, a1, s1, e1, hm, h1⟩ := among_ok hc (s := s) h (by omega) [(-5), 0, 3, 10, 10, 25, (-9999), (-9999), 7] (by simp) (by simp)
    obtain ⟨r, a2, s2, e2, hr, h2⟩ := ih (x ++ [b]) a1 s1 (n + 2) (.inl (by simp)) (by simp; omega) h1 (by simp; omega)
    refine ⟨r, a2, s2, ?_, hr, h2.le (by omega) (by omega)⟩
    refine Ev.step (fun k => by rw [spec_l1Cur_series.l0]) ?_
    refine Ev.pos (by omega) (Ev.bindc e1 (Ev.pos (by omega) ?_))
    rw [w64 (by omega) (by omega), show ((d + 1 : Nat) : Int) - 1 = (d : Int) from by omega]
    exact e2
theorem series_ok {l : List Int} (hc : Code l) {a s : Int} {n : Nat} (h : At a n) (hn : n ≤ 700000000) : ∃ r a' s', Ev (fun k => spec_l1Cur_series.f k l a s) (r, a', s') ∧ r.length ≤ 100 ∧ At a' (n + 1000) := by
  obtain ⟨b, a1, s1, e1, hb0, hb1, h1⟩ := pick_ok hc (s := s) h (by omega) 14 (by omega)
  obtain ⟨r, a2, s2, e2, hr, h2⟩ := series_l0 hc (b.toNat + 1) [] a1 s1 (n + 2) (.inr (by omega)) (by simp; omega) h1 (by simp; omega)
  refine ⟨r, a2, s2, ?_, hr, h2.le (by omega) (by omega)⟩
  unfold spec_l1Cur_series.f
  refine Ev.bindc e1 ?_
  rw [w64 (by simp only; omega) (by simp only; omega), show (1 : Int) + b = ((b.toNat + 1 : Nat) : Int) from by omega]
  exact e2
theorem day24_ok {l : List Int} (hc : Code l) {a s : Int} {n : Nat} (h : At a n) (hn : n ≤ 700000000) (x : List Int) (hx : x.length ≤ 100) : ∃ r a' s', Ev (fun k => spec_l1Cur_day24.f k l a s x) (r, a', s') ∧ At a' (n + 10) := by
  obtain ⟨b, a1, s1, e1, h1⟩ := one_ok hc (s := s) h (by omega) 12 (by omega)
  have hj : ∀ c : Bool, ∃ r a' s', Ev (fun k => spec_l1Cur_day24.j0 k x c l a1 s1) (r, a', s') ∧ At a' (n + 10) := by
    intro c
    cases c with
    | true =>
      obtain ⟨r, a2, s2, e2, _, h2⟩ := among_ok hc (s := s1) h1 (by omega) [(-1), (x.length : Int), 0] (by simp) (by simp)
      refine ⟨r, a2, s2, ?_, h2.le (by omega) (by omega)⟩
      refine Ev.step (fun k => by rw [spec_l1Cur_day24.j0]) ?_
      exact Ev.pos rfl (Ev.bindc e2 (Ev.now _))
    | false =>
      obtain ⟨r, a2, s2, e2, _, _, h2⟩ := pick_ok hc (s := s1) h1 (by omega) (x.length : Int) (by omega)
      refine ⟨r, a2, s2, ?_, h2.le (by omega) (by omega)⟩
      refine Ev.step (fun k => by rw [spec_l1Cur_day24.j0]) ?_
      exact Ev.neg (by simp) (Ev.bindc e2 (Ev.now _))
  unfold spec_l1Cur_day24.f
  cases b with
  | true =>
    obtain ⟨r, a2, s2, e2, h2⟩ := hj true
    exact ⟨r, a2, s2, Ev.bindc e1 (Ev.pos rfl e2), h2⟩
  | false =>
    obtain ⟨r, a2, s2, e2, h2⟩ := hj ((x.length : Int) == 0)
    exact ⟨r, a2, s2, Ev.bindc e1 (Ev.neg (by simp) e2), h2⟩
theorem at0 : At 0 0 := ⟨by omega, by omega, by omega⟩
theorem drawSeries {l : List Int} (hc : Code l) : ∃ r, Ev (fun k => spec_DrawIsValidSeries.f k l) r ∧ r.length ≤ 100 := by
  obtain ⟨r, a, s, e, hr, _⟩ := series_ok hc (s := 0) at0 (by omega)
  refine ⟨r, ?_, hr⟩
  unfold spec_DrawIsValidSeries.f
  exact Ev.bindc (b := (l, 0, 0)) rfl (Ev.bind e (Ev.now _))
theorem drawHighest {l : List Int} (hc : Code l) : ∃ r, Ev (fun k => spec_DrawHighestDay.f k l) r ∧ r.length ≤ 100 := by
  obtain ⟨r, e, hr⟩ := drawSeries hc
  refine ⟨r, ?_, hr⟩
  unfold spec_DrawHighestDay.f
  exact Ev.bind e (Ev.now _)
theorem drawMean {l : List Int} (hc : Code l) : ∃ r x y, Ev (fun k => spec_DrawSeriesMean.f k l) (r, x, y) ∧ r.length ≤ 100 := by
  obtain ⟨r, a, s, e, hr, h1⟩ := series_ok hc (s := 0) at0 (by omega)
  obtain ⟨x, a2, s2, e2, h2⟩ := day24_ok hc (s := s) h1 (by omega) r hr
  obtain ⟨y, a3, s3, e3, h3⟩ := day24_ok hc (s := s2) h2 (by omega) r hr
  obtain ⟨b, a4, s4, e4, _⟩ := one_ok hc (s := s3) h3 (by omega) 6 (by omega)
  have hpre : ∀ z, Ev (fun k => if x > y then ((spec_l1Cur_one.f l a3 s3 6).bind fun bt621 => (if bt621.1 = true then (some (r, x, y)) else (some (r, y, x)))) else (some (r, x, y))) z → Ev (fun k => spec_DrawSeriesMean.f k l) z := by
    intro z hz
    unfold spec_DrawSeriesMean.f
    exact Ev.bindc (b := (l, 0, 0)) rfl (Ev.bind e (Ev.bind e2 (Ev.bind e3 hz)))
  by_cases c : x > y
  · cases b with
    | true => exact ⟨r, x, y, hpre _ (Ev.pos c (Ev.bindc e4 (Ev.pos rfl (Ev.now _)))), hr⟩
    | false => exact ⟨r, y, x, hpre _ (Ev.pos c (Ev.bindc e4 (Ev.neg (by simp) (Ev.now _)))), hr⟩
  · exact ⟨r, x, y, hpre _ (Ev.neg c (Ev.now _)), hr⟩
theorem drawRank {l : List Int} (hc : Code l) : ∃ r x, Ev (fun k => spec_DrawRankOfDay.f k l) (r, x) ∧ r.length ≤ 100 := by
  obtain ⟨r, a, s, e, hr, h1⟩ := series_ok hc (s := 0) at0 (by omega)
  obtain ⟨x, a2, s2, e2, h2⟩ := day24_ok hc (s := s) h1 (by omega) r hr
  refine ⟨r, x, ?_, hr⟩
  unfold spec_DrawRankOfDay.f
  refine Ev.bind (a := (r, x)) ?_ (Ev.now _)
  unfold spec_DrawAnomalyOf.f
  exact Ev.bindc (b := (l, 0, 0)) rfl (Ev.bind e (Ev.bind e2 (Ev.now _)))
end Go.Proofs.Ytdhdifoenladpaa.Pure

/- The laws' own helpers on lists of integers: a copy, an equality, marks and their check. -/
namespace Go.Proofs.Ytdhdifoenladpaa.Pure
open Go.RowKit Go.Proofs.Ytdhdifoenladpaa.P Go.Proofs.YtdhdifoenladpaaW.PrintWords Go.Proofs.YtdhdifoenladpaaW.PrintLast

theorem toIntS_l0 (l : List Int) (hl : l.length ≤ 1048576) : ∀ (d i : Nat) (o : List Int), l.length - i = d → i ≤ l.length → o.length = l.length → o.take i = l.take i →
    Ev (fun k => laws_toIntS.l0 k l o (i : Int)) l := by
  intro d
  induction d with
  | zero =>
    intro i o hd hi ho ht
    refine Ev.step (fun k => by rw [laws_toIntS.l0]) ?_
    refine Ev.neg (by omega) (Ev.const ?_)
    have hi' : i = l.length := by omega
    subst hi'
    rw [List.take_of_length_le (by omega), List.take_of_length_le (by omega)] at ht
    rw [ht]
  | succ d ih =>
    intro i o hd hi ho ht
    refine Ev.step (fun k => by rw [laws_toIntS.l0]) ?_
    refine Ev.pos (by omega) (Ev.pos (by omega) (Ev.pos (by omega) ?_))
    rw [w64 (by omega) (by omega), show (i : Int) + 1 = ((i + 1 : Nat) : Int) from by omega]
    refine ih (i + 1) _ (by omega) (by omega) (by simpa using ho) ?_
    rw [rd_lt l i (by omega), Int.toNat_natCast, take_succ' _ _ (by simp; omega), take_succ' l _ (by omega)]
    rw [List.take_set_of_le (Nat.le_refl i), ht]; simp
theorem toIntS (l : List Int) (hl : l.length ≤ 1048576) : Ev (fun k => laws_toIntS.f k l) l := by
  unfold laws_toIntS.f
  refine Ev.pos (by omega) (Ev.pos (by omega) ?_)
  exact toIntS_l0 l hl _ 0 _ rfl (by omega) (by simp) (by simp)

theorem eqIntS_l0 (a b : List Int) (hl : a.length ≤ 4611686018427387904) (hab : a.length = b.length) : ∀ (d i : Nat), a.length - i = d → i ≤ a.length →
    Ev (fun k => laws_eqIntS.l0 k a b (i : Int)) (decide (a.drop i = b.drop i)) := by
  intro d
  induction d with
  | zero =>
    intro i hd hi
    refine Ev.step (fun k => by rw [laws_eqIntS.l0]) ?_
    refine Ev.neg (by omega) (Ev.const ?_)
    rw [List.drop_of_length_le (by omega), List.drop_of_length_le (by omega)]; simp
  | succ d ih =>
    intro i hd hi
    refine Ev.step (fun k => by rw [laws_eqIntS.l0]) ?_
    refine Ev.pos (by omega) (Ev.pos (by omega) (Ev.pos (by omega) ?_))
    rw [w64 (by omega) (by omega), show (i : Int) + 1 = ((i + 1 : Nat) : Int) from by omega, rd_lt a i (by omega), rd_lt b i (by omega), drop_cons' a i (by omega), drop_cons' b i (by omega)]
    refine Ev.cases (fun h => ?_) (fun h => ?_)
    · exact Ev.eq (ih (i + 1) (by omega) (by omega)) (by rw [h]; simp only [List.cons.injEq, true_and])
    · exact Ev.const (by rw [decide_eq_false (fun e => h (List.cons.inj e).1)])
theorem eqIntS (a b : List Int) (hl : a.length ≤ 4611686018427387904) : Ev (fun k => laws_eqIntS.f k a b) (decide (a = b)) := by
  unfold laws_eqIntS.f
  refine Ev.cases (fun h => ?_) (fun h => ?_)
  · exact Ev.eq (eqIntS_l0 a b hl (by omega) _ 0 rfl (by omega)) (by simp)
  · refine Ev.const ?_
    congr 1
    refine (decide_eq_false fun e => h ?_).symm
    rw [e]
end Go.Proofs.Ytdhdifoenladpaa.Pure

/- The reference's test of a series is the program's. -/
namespace Go.Proofs.Ytdhdifoenladpaa.Pure
open Go.RowKit Go.Proofs.Ytdhdifoenladpaa.P Go.Proofs.YtdhdifoenladpaaW.PrintWords Go.Proofs.YtdhdifoenladpaaW.PrintLast

theorem l1In_f (x a b : Int) : spec_l1In.f x a b = some (decide (a ≤ x) && decide (x ≤ b)) := by
  unfold spec_l1In.f
  by_cases h : x ≥ a
  · simp [h]
  · simp [h]
theorem within_f (x a b : Int) : impl_within.f x a b = some (decide (a ≤ x) && decide (x ≤ b)) := by
  unfold impl_within.f
  by_cases h : x ≥ a
  · simp [h]
  · simp [h]
theorem threshold_f (x : Int) : spec_l13Threshold.f x = some (decide (-9000 ≤ x) && decide (x ≤ 9000)) := by
  unfold spec_l13Threshold.f; rw [l1In_f]; rfl

theorem l24Good_l0 (l : List Int) (hl : l.length ≤ 1048576) : ∀ (d i : Nat), l.length - i = d → i ≤ l.length →
    Ev (fun k => spec_l24Good.l0 k l (i : Int)) ((l.drop i).all cellB && (decide (1 ≤ (l.length : Int)) && decide ((l.length : Int) ≤ 60))) := by
  intro d
  induction d with
  | zero =>
    intro i hd hi
    refine Ev.step (fun k => by rw [spec_l24Good.l0]) ?_
    refine Ev.neg (by omega) (Ev.const ?_)
    rw [l1In_f, List.drop_of_length_le (by omega)]; rfl
  | succ d ih =>
    intro i hd hi
    refine Ev.step (fun k => by rw [spec_l24Good.l0]) ?_
    refine Ev.pos (by omega) (Ev.pos (by omega) ?_)
    have e := ih (i + 1) (by omega) (by omega)
    rw [w64 (by omega) (by omega), show (i : Int) + 1 = ((i + 1 : Nat) : Int) from by omega, rd_lt l i (by omega), drop_cons' l i (by omega), List.all_cons]
    refine Ev.cases (fun h => ?_) (fun h => ?_)
    · exact Ev.eq e (by simp [cellB, h])
    · refine Ev.bindc (threshold_f _) ?_
      refine Ev.cases (fun h' => ?_) (fun h' => ?_)
      · exact Ev.eq e (by simp only [cellB, h', Bool.or_true, Bool.true_and])
      · refine Ev.const ?_
        have : cellB l[i] = false := by simp only [cellB]; simp at h' ⊢; exact ⟨h, h'⟩
        rw [this]; rfl
theorem l24Good (l : List Int) (hl : l.length ≤ 1048576) : Ev (fun k => spec_l24Good.f k l) (seriesB l) := by
  unfold spec_l24Good.f
  exact Ev.eq (l24Good_l0 l hl _ 0 rfl (by omega)) (by unfold seriesB; rw [List.drop_zero, Bool.and_comm])
end Go.Proofs.Ytdhdifoenladpaa.Pure

/- Sums over the days of a series, and whether a series has a value on a day. -/
namespace Go.Proofs.Ytdhdifoenladpaa.Pure
open Go.RowKit Go.Proofs.Ytdhdifoenladpaa.P Go.Proofs.YtdhdifoenladpaaW.PrintWords Go.Proofs.YtdhdifoenladpaaW.PrintLast

theorem cell_bd {n : Int} (h : cellB n = true) : -9999 ≤ n ∧ n ≤ 9000 := by
  unfold cellB at h
  simp only [Bool.or_eq_true, beq_iff_eq, Bool.and_eq_true, decide_eq_true_eq] at h
  omega
theorem cell_bd' {n : Int} (h : cellB n = true) (h2 : n ≠ -9999) : -9000 ≤ n ∧ n ≤ 9000 := by
  unfold cellB at h
  simp only [Bool.or_eq_true, beq_iff_eq, Bool.and_eq_true, decide_eq_true_eq] at h
  omega
theorem series_cell {l : List Int} (h : seriesB l = true) (x : Int) (hx : x ∈ l) : cellB x = true := by
  unfold seriesB at h
  simp only [Bool.and_eq_true, List.all_eq_true] at h
  exact h.2 x hx
theorem series_bd {l : List Int} (h : seriesB l = true) (i : Nat) (hi : i < l.length) : -9999 ≤ l[i] ∧ l[i] ≤ 9000 :=
  cell_bd (series_cell h _ (List.getElem_mem hi))
theorem series_60 {l : List Int} (h : seriesB l = true) : 1 ≤ l.length ∧ l.length ≤ 60 := by
  unfold seriesB at h
  simp only [Bool.and_eq_true, decide_eq_true_eq] at h
  omega

theorem known_cons (x : Int) (xs : List Int) : known (x :: xs) = if x = -9999 then known xs else x :: known xs := by
  unfold known
  rw [List.filter_cons]
  by_cases h : x = -9999
  · simp [h]
  · simp [h]
theorem known_le (l : List Int) : (known l).length ≤ l.length := List.length_filter_le _ _
theorem known_f (l : List Int) (h : l.length ≤ 1048576) : impl_knownValues.f l = some (known l) := by
  unfold impl_knownValues.f; rw [if_pos (by omega)]
theorem mem_known {x : Int} {l : List Int} : x ∈ known l ↔ x ∈ l ∧ x ≠ -9999 := by
  unfold known; simp

theorem l24Sum_l0 (l : List Int) (hs : ∀ i (h : i < l.length), -10000 ≤ l[i] ∧ l[i] ≤ 10000) (hl : l.length ≤ 1048576) (te : Int) (T : Nat) (hT : T ≤ l.length) (hto : ∀ j : Nat, j < l.length → ((j : Int) ≤ te ↔ j < T)) (htl : te ≤ 4611686018427387904) :
    ∀ (d i : Nat) (s n : Int), T - i = d → i ≤ T → -(10000 * (i : Int)) ≤ s → s ≤ 10000 * (i : Int) → 0 ≤ n → n ≤ i →
    Ev (fun k => spec_l24Sum.l0 k l te s n (i : Int)) (s + (known ((l.take T).drop i)).sum, n + ((known ((l.take T).drop i)).length : Int)) := by
  intro d
  induction d with
  | zero =>
    intro i s n hd hi _ _ _ _
    have hiT : i = T := by omega
    subst hiT
    have hj : Ev (fun k => spec_l24Sum.j1 k l te s n (i : Int) false) (s + (known ((l.take i).drop i)).sum, n + ((known ((l.take i).drop i)).length : Int)) := by
      refine Ev.step (fun k => by rw [spec_l24Sum.j1]) ?_
      refine Ev.neg (by simp) (Ev.const ?_)
      rw [List.drop_of_length_le (by simp; omega)]; simp [known]
    refine Ev.step (fun k => by rw [spec_l24Sum.l0]) ?_
    refine Ev.cases (fun h => ?_) (fun _ => hj)
    have : ¬ i < l.length := fun h' => by have := (hto i h').1 h; omega
    rw [show decide ((i : Int) < (l.length : Int)) = false from decide_eq_false (by omega)]
    exact hj
  | succ d ih =>
    intro i s n hd hi h1 h2 h3 h4
    have hlt : i < l.length := by omega
    have hle := (hto i hlt).2 (by omega)
    have hb := hs i hlt
    refine Ev.step (fun k => by rw [spec_l24Sum.l0]) ?_
    refine Ev.pos hle ?_
    rw [show decide ((i : Int) < (l.length : Int)) = true from decide_eq_true (by omega)]
    refine Ev.step (fun k => by rw [spec_l24Sum.j1]) ?_
    refine Ev.pos rfl (Ev.pos (by omega) (Ev.pos (by omega) ?_))
    have hdr : (l.take T).drop i = l[i] :: (l.take T).drop (i + 1) := by
      rw [drop_cons' _ i (by simp; omega)]; simp
    rw [rd_lt l i hlt, hdr, known_cons, w64 (x := (i : Int) + 1) (by omega) (by omega), show (i : Int) + 1 = ((i + 1 : Nat) : Int) from by omega]
    refine Ev.cases (fun h => ?_) (fun h => ?_)
    · rw [if_pos h]
      exact ih (i + 1) s n (by omega) (by omega) (by omega) (by omega) (by omega) (by omega)
    · rw [if_neg h, w64 (x := s + l[i]) (by omega) (by omega), w64 (x := n + 1) (by omega) (by omega)]
      refine Ev.eq (ih (i + 1) (s + l[i]) (n + 1) (by omega) (by omega) (by omega) (by omega) (by omega) (by omega)) ?_
      rw [List.sum_cons, List.length_cons]
      congr 1
      · omega
      · omega
theorem series_bd' {l : List Int} (h : seriesB l = true) : ∀ i (hi : i < l.length), -10000 ≤ l[i] ∧ l[i] ≤ 10000 := fun i hi => by
  have := series_bd h i hi; omega
/-- The reference's sum over the days from..te. -/
theorem l24Sum (l : List Int) (hs : seriesB l = true) (i : Nat) (te : Int) (T : Nat) (hi : i ≤ T) (hT : T ≤ l.length) (hto : ∀ j : Nat, j < l.length → ((j : Int) ≤ te ↔ j < T)) (htl : te ≤ 4611686018427387904) :
    Ev (fun k => spec_l24Sum.f k l (i : Int) te) ((known ((l.take T).drop i)).sum, ((known ((l.take T).drop i)).length : Int)) := by
  have h60 := series_60 hs
  unfold spec_l24Sum.f
  exact Ev.eq (l24Sum_l0 l (series_bd' hs) (by omega) te T hT hto htl _ i 0 0 rfl hi (by omega) (by omega) (by omega) (by omega)) (by simp)
/-- .. over all days. -/
theorem l24SumAll (l : List Int) (hs : seriesB l = true) : Ev (fun k => spec_l24Sum.f k l 0 (wrap64 ((l.length : Int) - 1))) ((known l).sum, ((known l).length : Int)) := by
  have h60 := series_60 hs
  rw [w64 (by omega) (by omega)]
  have := l24Sum l hs 0 ((l.length : Int) - 1) l.length (by omega) (Nat.le_refl _) (fun j hj => by omega) (by omega)
  rw [List.take_length, List.drop_zero] at this
  exact this

theorem l24Day (l : List Int) (hl : l.length ≤ 1048576) (d : Int) : Ev (fun k => spec_l24Day.f k l d) (seriesB l && (decide (0 ≤ d) && decide (d ≤ (l.length : Int) - 1))) := by
  unfold spec_l24Day.f
  refine Ev.bind (l24Good l hl) (Ev.cases (fun h => ?_) (fun h => ?_))
  · have := series_60 h
    rw [w64 (by omega) (by omega)]
    refine Ev.bindc (l1In_f _ _ _) (Ev.const ?_)
    rw [h, Bool.true_and]
  · exact Ev.const (by rw [Bool.eq_false_iff.mpr h]; rfl)
theorem hasDay_yes (l : List Int) (hs : seriesB l = true) (d : Nat) (hd : d < l.length) : impl_hasDay.f l (d : Int) = some (l[d] != -9999) := by
  have h60 := series_60 hs
  unfold impl_hasDay.f
  rw [show impl_IsValidSeries.f l = some (seriesB l) from rfl]
  simp only [Option.bind_some]
  rw [if_pos hs, within_f, w64 (by omega) (by omega)]
  simp only [Option.bind_some]
  rw [if_pos (by simp only [Bool.and_eq_true, decide_eq_true_eq]; omega), if_pos (by omega), if_pos (by omega), rd_lt l d hd]
theorem hasDay_no (l : List Int) (hl : l.length ≤ 1048576) (d : Int) (h : ¬ (seriesB l = true ∧ 0 ≤ d ∧ d < l.length)) : impl_hasDay.f l d = some false := by
  unfold impl_hasDay.f
  rw [show impl_IsValidSeries.f l = some (seriesB l) from rfl]
  simp only [Option.bind_some]
  by_cases hs : seriesB l = true
  · have h60 := series_60 hs
    rw [if_pos hs, within_f, w64 (by omega) (by omega)]
    simp only [Option.bind_some]
    rw [if_neg (by simp only [Bool.and_eq_true, decide_eq_true_eq]; intro h2; exact h ⟨hs, h2.1, by omega⟩)]
  · rw [if_neg hs]
end Go.Proofs.Ytdhdifoenladpaa.Pure

/- The highest and the lowest day of a series: the reference's scan and the program's Max, Min and Index come to the same. -/
namespace Go.Proofs.Ytdhdifoenladpaa.Pure
open Go.RowKit Go.Proofs.Ytdhdifoenladpaa.P Go.Proofs.YtdhdifoenladpaaW.PrintWords Go.Proofs.YtdhdifoenladpaaW.PrintLast

theorem index_l0 (l : List Int) (hl : l.length ≤ 1048576) (v : Int) (b : Nat) (hb : b < l.length) (he : l[b] = v) (hf : ∀ j (h : j < b), l[j] ≠ v) : ∀ (d i : Nat), b - i = d → i ≤ b →
    Ev (fun k => slices_Index_int_int.l0 k l v (l.length : Int) (i : Int)) (b : Int) := by
  intro d
  induction d with
  | zero =>
    intro i hd hi
    have hib : i = b := by omega
    subst hib
    refine Ev.step (fun k => by rw [slices_Index_int_int.l0]) ?_
    refine Ev.pos (by omega) (Ev.pos (by omega) (Ev.pos (by omega) ?_))
    rw [rd_lt l i hb]
    exact Ev.pos he.symm (Ev.now _)
  | succ d ih =>
    intro i hd hi
    refine Ev.step (fun k => by rw [slices_Index_int_int.l0]) ?_
    refine Ev.pos (by omega) (Ev.pos (by omega) (Ev.pos (by omega) ?_))
    rw [rd_lt l i (by omega)]
    refine Ev.neg (fun h => hf i (by omega) h.symm) ?_
    rw [w64 (by omega) (by omega), show (i : Int) + 1 = ((i + 1 : Nat) : Int) from by omega]
    exact ih (i + 1) (by omega) (by omega)
theorem index_first (l : List Int) (hl : l.length ≤ 1048576) (v : Int) (b : Nat) (hb : b < l.length) (he : l[b] = v) (hf : ∀ j (h : j < b), l[j] ≠ v) : Ev (fun k => slices_Index_int_int.f k l v) (b : Int) := by
  unfold slices_Index_int_int.f
  exact index_l0 l hl v b hb he hf _ 0 rfl (by omega)

theorem foldMax_mem (xs : List Int) : ∀ a : Int, (xs.foldl (fun a b => if a < b then b else a) a = a ∨ xs.foldl (fun a b => if a < b then b else a) a ∈ xs) ∧ a ≤ xs.foldl (fun a b => if a < b then b else a) a ∧ ∀ x ∈ xs, x ≤ xs.foldl (fun a b => if a < b then b else a) a := by
  induction xs with
  | nil => intro a; simp
  | cons x xs ih =>
    intro a
    rw [List.foldl_cons]
    obtain ⟨h1, h2, h3⟩ := ih (if a < x then x else a)
    by_cases h : a < x
    · rw [if_pos h] at h1 h2 h3 ⊢
      refine ⟨.inr ?_, by omega, ?_⟩
      · rcases h1 with h1 | h1
        · rw [h1]; simp
        · exact List.mem_cons_of_mem _ h1
      · intro y hy
        rcases List.mem_cons.1 hy with rfl | hy
        · exact h2
        · exact h3 y hy
    · rw [if_neg h] at h1 h2 h3 ⊢
      refine ⟨?_, h2, ?_⟩
      · rcases h1 with h1 | h1
        · exact .inl h1
        · exact .inr (List.mem_cons_of_mem _ h1)
      · intro y hy
        rcases List.mem_cons.1 hy with rfl | hy
        · omega
        · exact h3 y hy
theorem foldMin_mem (xs : List Int) : ∀ a : Int, (xs.foldl (fun a b => if b < a then b else a) a = a ∨ xs.foldl (fun a b => if b < a then b else a) a ∈ xs) ∧ xs.foldl (fun a b => if b < a then b else a) a ≤ a ∧ ∀ x ∈ xs, xs.foldl (fun a b => if b < a then b else a) a ≤ x := by
  induction xs with
  | nil => intro a; simp
  | cons x xs ih =>
    intro a
    rw [List.foldl_cons]
    obtain ⟨h1, h2, h3⟩ := ih (if x < a then x else a)
    by_cases h : x < a
    · rw [if_pos h] at h1 h2 h3 ⊢
      refine ⟨.inr ?_, by omega, ?_⟩
      · rcases h1 with h1 | h1
        · rw [h1]; simp
        · exact List.mem_cons_of_mem _ h1
      · intro y hy
        rcases List.mem_cons.1 hy with rfl | hy
        · exact h2
        · exact h3 y hy
    · rw [if_neg h] at h1 h2 h3 ⊢
      refine ⟨?_, h2, ?_⟩
      · rcases h1 with h1 | h1
        · exact .inl h1
        · exact .inr (List.mem_cons_of_mem _ h1)
      · intro y hy
        rcases List.mem_cons.1 hy with rfl | hy
        · omega
        · exact h3 y hy
theorem maxL_spec {l : List Int} (h : l ≠ []) : maxL l ∈ l ∧ ∀ x ∈ l, x ≤ maxL l := by
  cases l with
  | nil => exact absurd rfl h
  | cons x xs =>
    obtain ⟨h1, h2, h3⟩ := foldMax_mem xs x
    refine ⟨?_, ?_⟩
    · rcases h1 with h1 | h1
      · show xs.foldl _ x ∈ _
        rw [h1]; simp
      · exact List.mem_cons_of_mem _ h1
    · intro y hy
      rcases List.mem_cons.1 hy with rfl | hy
      · exact h2
      · exact h3 y hy
theorem minL_spec {l : List Int} (h : l ≠ []) : minL l ∈ l ∧ ∀ x ∈ l, minL l ≤ x := by
  cases l with
  | nil => exact absurd rfl h
  | cons x xs =>
    obtain ⟨h1, h2, h3⟩ := foldMin_mem xs x
    refine ⟨?_, ?_⟩
    · rcases h1 with h1 | h1
      · show xs.foldl _ x ∈ _
        rw [h1]; simp
      · exact List.mem_cons_of_mem _ h1
    · intro y hy
      rcases List.mem_cons.1 hy with rfl | hy
      · exact h2
      · exact h3 y hy

theorem spec_high (l : List Int) (hl : l.length ≤ 1048576) : ∀ (d i b : Nat), l.length - i = d → i ≤ l.length → (hbi : b < i) → (hi : i ≤ l.length) → (∀ j (h : j < i), l[j] ≤ l[b]) → (∀ j (h : j < b), l[j] < l[b]) →
    ∃ (c : Nat) (hc : c < l.length), (∀ j (h : j < l.length), l[j] ≤ l[c]) ∧ (∀ j (h : j < c), l[j] < l[c]) ∧
      Ev (fun k => spec_HighestDay.l0 k l (b : Int) (i : Int)) (if l[c] = -9999 then (0, 0, false) else (l[c], (c : Int), true)) := by
  intro d
  induction d with
  | zero =>
    intro i b hd _ hbi hi h1 h2
    have hil : i = l.length := by omega
    subst hil
    refine ⟨b, hbi, h1, h2, ?_⟩
    refine Ev.step (fun k => by rw [spec_HighestDay.l0]) ?_
    refine Ev.neg (by omega) (Ev.pos (by omega) (Ev.pos (by omega) ?_))
    rw [rd_lt l b hbi]
    refine Ev.cases (fun h => ?_) (fun h => ?_)
    · exact Ev.const (by rw [if_pos h])
    · exact Ev.const (by rw [if_neg h])
  | succ d ih =>
    intro i b hd hi' hbi hi h1 h2
    have hlt : i < l.length := by omega
    by_cases hc : l[i] > l[b]
    · obtain ⟨c, hc1, h3, h4, h5⟩ := ih (i + 1) i (by omega) (by omega) (by omega) (by omega) (fun j hj => by
          by_cases e : j = i
          · subst e; exact Int.le_refl _
          · have := h1 j (by omega); omega) (fun j hj => by have := h1 j hj; omega)
      refine ⟨c, hc1, h3, h4, ?_⟩
      refine Ev.step (fun k => by rw [spec_HighestDay.l0]) ?_
      refine Ev.pos (by omega) (Ev.pos (by omega) (Ev.pos (by omega) (Ev.pos (by omega) ?_)))
      rw [rd_lt l i hlt, rd_lt l b (by omega), w64 (by omega) (by omega), show (i : Int) + 1 = ((i + 1 : Nat) : Int) from by omega]
      exact Ev.pos hc h5
    · obtain ⟨c, hc1, h3, h4, h5⟩ := ih (i + 1) b (by omega) (by omega) (by omega) (by omega) (fun j hj => by
          by_cases e : j = i
          · subst e; omega
          · exact h1 j (by omega)) h2
      refine ⟨c, hc1, h3, h4, ?_⟩
      refine Ev.step (fun k => by rw [spec_HighestDay.l0]) ?_
      refine Ev.pos (by omega) (Ev.pos (by omega) (Ev.pos (by omega) (Ev.pos (by omega) ?_)))
      rw [rd_lt l i hlt, rd_lt l b (by omega), w64 (by omega) (by omega), show (i : Int) + 1 = ((i + 1 : Nat) : Int) from by omega]
      exact Ev.neg hc h5

/-- A highest day: the first of the days with the greatest value. -/
def IsHigh (l : List Int) (c : Nat) : Prop := ∃ hc : c < l.length, (∀ j (h : j < l.length), l[j] ≤ l[c]) ∧ (∀ j (h : j < c), l[j] < l[c]) ∧ l[c] ≠ -9999
/-- A lowest day: the first of the days with the smallest value. -/
def IsLow (l : List Int) (c : Nat) : Prop := ∃ hc : c < l.length, (∀ j (h : j < l.length), l[j] ≠ -9999 → l[c] ≤ l[j]) ∧ (∀ j (h : j < c), l[j] ≠ -9999 → l[c] < l[j]) ∧ l[c] ≠ -9999

theorem known_nil_of {l : List Int} (h : ∀ x ∈ l, x = -9999) : known l = [] := by
  unfold known; rw [List.filter_eq_nil_iff]; intro x hx; simp [h x hx]

theorem highestDay (l : List Int) (hl : l.length ≤ 1048576) : ∃ r, Ev (fun k => spec_HighestDay.f k l) r ∧ Ev (fun k => impl_HighestDay.f k l) r ∧
    ((r = (0, 0, false) ∧ (seriesB l = true → known l = [])) ∨ ∃ c : Nat, seriesB l = true ∧ IsHigh l c ∧ r = (l.getD c 0, (c : Int), true)) := by
  unfold spec_HighestDay.f impl_HighestDay.f
  by_cases hs : seriesB l = true
  · have h60 := series_60 hs
    obtain ⟨c, hc, h1, h2, h3⟩ := spec_high l hl _ 1 0 rfl (by omega) (by omega) (by omega) (fun j hj => by
      have : j = 0 := by omega
      subst this; exact Int.le_refl _) (fun j hj => by omega)
    have hspec : Ev (fun k => (spec_l24Good.f k l).bind fun t240 => (if t240 = true then (spec_HighestDay.l0 k l 0 1) else (some (0, 0, false)))) (if l[c] = -9999 then (0, 0, false) else (l[c], (c : Int), true)) := Ev.bind (l24Good l hl) (Ev.pos hs h3)
    by_cases hm : l[c] = -9999
    · have hk : known l = [] := known_nil_of (fun x hx => by
        obtain ⟨j, hj, rfl⟩ := List.getElem_of_mem hx
        have := h1 j hj
        have := series_bd hs j hj
        omega)
      refine ⟨(0, 0, false), Ev.eq hspec (by rw [if_pos hm]), ?_, .inl ⟨rfl, fun _ => hk⟩⟩
      refine Ev.bindc (show impl_IsValidSeries.f l = some (seriesB l) from rfl) (Ev.pos hs (Ev.bindc (known_f l hl) ?_))
      rw [hk]
      refine Ev.step (fun k => by rw [impl_HighestDay.j0]) ?_
      exact Ev.pos (by simp) (Ev.now _)
    · refine ⟨(l[c], (c : Int), true), Ev.eq hspec (by rw [if_neg hm]), ?_, .inr ⟨c, hs, ⟨hc, h1, h2, hm⟩, by simp [hc]⟩⟩
      have hmem : l[c] ∈ known l := mem_known.2 ⟨List.getElem_mem hc, hm⟩
      have hne : known l ≠ [] := List.ne_nil_of_mem hmem
      have hmx : maxL (known l) = l[c] := by
        obtain ⟨g1, g2⟩ := maxL_spec hne
        have g3 := g2 _ hmem
        obtain ⟨j, hj, e⟩ := List.getElem_of_mem (mem_known.1 g1).1
        have := h1 j hj
        omega
      refine Ev.bindc (show impl_IsValidSeries.f l = some (seriesB l) from rfl) (Ev.pos hs (Ev.bindc (known_f l hl) ?_))
      refine Ev.step (fun k => by rw [impl_HighestDay.j0]) ?_
      have hlen : ((known l).length : Int) ≠ 0 := by
        have := List.length_pos_iff.2 hne; omega
      refine Ev.neg (by simpa using hne) (Ev.bindc (known_f l hl) (Ev.bindc (show slices_Max_int_int.f (known l) = some (l[c]) by unfold slices_Max_int_int.f; rw [if_neg hne, hmx]) ?_))
      exact Ev.bind (index_first l hl l[c] c hc rfl (fun j hj => by have := h2 j hj; omega)) (Ev.now _)
  · refine ⟨(0, 0, false), Ev.bind (l24Good l hl) (Ev.neg hs (Ev.now _)), ?_, .inl ⟨rfl, fun h => absurd h hs⟩⟩
    refine Ev.bindc (show impl_IsValidSeries.f l = some (seriesB l) from rfl) (Ev.neg hs ?_)
    refine Ev.step (fun k => by rw [impl_HighestDay.j0]) ?_
    exact Ev.pos rfl (Ev.now _)

theorem spec_low_some (l : List Int) (hl : l.length ≤ 1048576) : ∀ (d i b : Nat), l.length - i = d → (hbi : b < i) → (hi : i ≤ l.length) → l[b] ≠ -9999 → (∀ j (h : j < i), l[j] ≠ -9999 → l[b] ≤ l[j]) → (∀ j (h : j < b), l[j] ≠ -9999 → l[b] < l[j]) →
    ∃ (c : Nat) (hc : c < l.length), IsLow l c ∧ Ev (fun k => spec_LowestDay.l0 k l (b : Int) (i : Int)) (l[c], (c : Int), true) := by
  intro d
  induction d with
  | zero =>
    intro i b hd hbi hi h0 h1 h2
    have hil : i = l.length := by omega
    subst hil
    refine ⟨b, hbi, ⟨hbi, h1, h2, h0⟩, ?_⟩
    refine Ev.step (fun k => by rw [spec_LowestDay.l0]) ?_
    refine Ev.neg (by omega) (Ev.neg (by omega) (Ev.pos (by omega) (Ev.pos (by omega) ?_)))
    rw [rd_lt l b hbi]
    exact Ev.now _
  | succ d ih =>
    intro i b hd hbi hi h0 h1 h2
    have hlt : i < l.length := by omega
    by_cases hm : l[i] = -9999
    · obtain ⟨c, hc1, h3, h5⟩ := ih (i + 1) b (by omega) (by omega) (by omega) h0 (fun j hj hne => by
          by_cases e : j = i
          · subst e; exact absurd hm hne
          · exact h1 j (by omega) hne) h2
      refine ⟨c, hc1, h3, ?_⟩
      refine Ev.step (fun k => by rw [spec_LowestDay.l0]) ?_
      refine Ev.pos (by omega) (Ev.pos (by omega) ?_)
      rw [rd_lt l i hlt, w64 (by omega) (by omega), show (i : Int) + 1 = ((i + 1 : Nat) : Int) from by omega]
      exact Ev.pos hm h5
    · by_cases hc : l[i] < l[b]
      · obtain ⟨c, hc1, h3, h5⟩ := ih (i + 1) i (by omega) (by omega) (by omega) hm (fun j hj hne => by
            by_cases e : j = i
            · subst e; exact Int.le_refl _
            · have := h1 j (by omega) hne; omega) (fun j hj hne => by have := h1 j hj hne; omega)
        refine ⟨c, hc1, h3, ?_⟩
        refine Ev.step (fun k => by rw [spec_LowestDay.l0]) ?_
        refine Ev.pos (by omega) (Ev.pos (by omega) ?_)
        rw [rd_lt l i hlt, w64 (by omega) (by omega), show (i : Int) + 1 = ((i + 1 : Nat) : Int) from by omega]
        refine Ev.neg hm (Ev.neg (by omega) (Ev.pos (by omega) (Ev.pos (by omega) ?_)))
        rw [rd_lt l b (by omega)]
        exact Ev.pos hc h5
      · obtain ⟨c, hc1, h3, h5⟩ := ih (i + 1) b (by omega) (by omega) (by omega) h0 (fun j hj hne => by
            by_cases e : j = i
            · subst e; omega
            · exact h1 j (by omega) hne) h2
        refine ⟨c, hc1, h3, ?_⟩
        refine Ev.step (fun k => by rw [spec_LowestDay.l0]) ?_
        refine Ev.pos (by omega) (Ev.pos (by omega) ?_)
        rw [rd_lt l i hlt, w64 (by omega) (by omega), show (i : Int) + 1 = ((i + 1 : Nat) : Int) from by omega]
        refine Ev.neg hm (Ev.neg (by omega) (Ev.pos (by omega) (Ev.pos (by omega) ?_)))
        rw [rd_lt l b (by omega)]
        exact Ev.neg hc h5

theorem spec_low_none (l : List Int) (hl : l.length ≤ 1048576) : ∀ (d i : Nat), l.length - i = d → (hi : i ≤ l.length) → (∀ j (h : j < i), l[j] = -9999) →
    (known l = [] ∧ Ev (fun k => spec_LowestDay.l0 k l (-1) (i : Int)) (0, 0, false)) ∨
    ∃ (c : Nat) (hc : c < l.length), IsLow l c ∧ Ev (fun k => spec_LowestDay.l0 k l (-1) (i : Int)) (l[c], (c : Int), true) := by
  intro d
  induction d with
  | zero =>
    intro i hd hi h0
    have hil : i = l.length := by omega
    subst hil
    refine .inl ⟨known_nil_of (fun x hx => by
      obtain ⟨j, hj, rfl⟩ := List.getElem_of_mem hx
      exact h0 j hj), ?_⟩
    refine Ev.step (fun k => by rw [spec_LowestDay.l0]) ?_
    exact Ev.neg (by omega) (Ev.pos (by omega) (Ev.now _))
  | succ d ih =>
    intro i hd hi h0
    have hlt : i < l.length := by omega
    by_cases hm : l[i] = -9999
    · have st : ∀ r, Ev (fun k => spec_LowestDay.l0 k l (-1) ((i + 1 : Nat) : Int)) r → Ev (fun k => spec_LowestDay.l0 k l (-1) (i : Int)) r := by
        intro r hr
        refine Ev.step (fun k => by rw [spec_LowestDay.l0]) ?_
        refine Ev.pos (by omega) (Ev.pos (by omega) ?_)
        rw [rd_lt l i hlt, w64 (by omega) (by omega), show (i : Int) + 1 = ((i + 1 : Nat) : Int) from by omega]
        exact Ev.pos hm hr
      rcases ih (i + 1) (by omega) (by omega) (fun j hj => by
          by_cases e : j = i
          · subst e; exact hm
          · exact h0 j (by omega)) with ⟨h1, h2⟩ | ⟨c, hc, h1, h2⟩
      · exact .inl ⟨h1, st _ h2⟩
      · exact .inr ⟨c, hc, h1, st _ h2⟩
    · obtain ⟨c, hc, h1, h2⟩ := spec_low_some l hl _ (i + 1) i rfl (by omega) (by omega) hm (fun j hj hne => by
          by_cases e : j = i
          · subst e; exact Int.le_refl _
          · exact absurd (h0 j (by omega)) hne) (fun j hj hne => absurd (h0 j (by omega)) hne)
      refine .inr ⟨c, hc, h1, ?_⟩
      refine Ev.step (fun k => by rw [spec_LowestDay.l0]) ?_
      refine Ev.pos (by omega) (Ev.pos (by omega) ?_)
      rw [rd_lt l i hlt, w64 (by omega) (by omega), show (i : Int) + 1 = ((i + 1 : Nat) : Int) from by omega]
      exact Ev.neg hm (Ev.pos (by omega) h2)

theorem lowestDay (l : List Int) (hl : l.length ≤ 1048576) : ∃ r, Ev (fun k => spec_LowestDay.f k l) r ∧ Ev (fun k => impl_LowestDay.f k l) r ∧
    ((r = (0, 0, false) ∧ (seriesB l = true → known l = [])) ∨ ∃ c : Nat, seriesB l = true ∧ IsLow l c ∧ r = (l.getD c 0, (c : Int), true)) := by
  unfold spec_LowestDay.f impl_LowestDay.f
  by_cases hs : seriesB l = true
  · rcases spec_low_none l hl _ 0 rfl (by omega) (fun j hj => by omega) with ⟨hk, h3⟩ | ⟨c, hc, hlow, h3⟩
    · refine ⟨(0, 0, false), Ev.bind (l24Good l hl) (Ev.pos hs h3), ?_, .inl ⟨rfl, fun _ => hk⟩⟩
      refine Ev.bindc (show impl_IsValidSeries.f l = some (seriesB l) from rfl) (Ev.pos hs (Ev.bindc (known_f l hl) ?_))
      rw [hk]
      refine Ev.step (fun k => by rw [impl_LowestDay.j0]) ?_
      exact Ev.pos (by simp) (Ev.now _)
    · obtain ⟨_, h1, h2, hm⟩ := hlow
      refine ⟨(l[c], (c : Int), true), Ev.bind (l24Good l hl) (Ev.pos hs h3), ?_, .inr ⟨c, hs, ⟨hc, h1, h2, hm⟩, by simp [hc]⟩⟩
      have hmem : l[c] ∈ known l := mem_known.2 ⟨List.getElem_mem hc, hm⟩
      have hne : known l ≠ [] := List.ne_nil_of_mem hmem
      have hmx : minL (known l) = l[c] := by
        obtain ⟨g1, g2⟩ := minL_spec hne
        have g3 := g2 _ hmem
        obtain ⟨g4, g5⟩ := mem_known.1 g1
        obtain ⟨j, hj, e⟩ := List.getElem_of_mem g4
        have := h1 j hj (by omega)
        omega
      refine Ev.bindc (show impl_IsValidSeries.f l = some (seriesB l) from rfl) (Ev.pos hs (Ev.bindc (known_f l hl) ?_))
      refine Ev.step (fun k => by rw [impl_LowestDay.j0]) ?_
      refine Ev.neg (by simpa using hne) (Ev.bindc (known_f l hl) (Ev.bindc (show slices_Min_int_int.f (known l) = some (l[c]) by unfold slices_Min_int_int.f; rw [if_neg hne, hmx]) ?_))
      exact Ev.bind (index_first l hl l[c] c hc rfl (fun j hj e => by have := h2 j hj (by omega); omega)) (Ev.now _)
  · refine ⟨(0, 0, false), Ev.bind (l24Good l hl) (Ev.neg hs (Ev.now _)), ?_, .inl ⟨rfl, fun h => absurd h hs⟩⟩
    refine Ev.bindc (show impl_IsValidSeries.f l = some (seriesB l) from rfl) (Ev.neg hs ?_)
    refine Ev.step (fun k => by rw [impl_LowestDay.j0]) ?_
    exact Ev.pos rfl (Ev.now _)
end Go.Proofs.Ytdhdifoenladpaa.Pure

/- Fractions in lowest terms: the reference's and the program's greatest common divisor and sum. -/
namespace Go.Proofs.Ytdhdifoenladpaa.Pure
open Go.RowKit Go.Proofs.Ytdhdifoenladpaa.P Go.Proofs.YtdhdifoenladpaaW.PrintWords Go.Proofs.YtdhdifoenladpaaW.PrintLast

theorem gcd_step (a b : Int) (hb : 0 < b) (ha : 0 ≤ a) : (Int.gcd b (Int.tmod a b) : Int) = Int.gcd a b := by
  obtain ⟨m, rfl⟩ := Int.eq_ofNat_of_zero_le ha
  obtain ⟨n, rfl⟩ := Int.eq_ofNat_of_zero_le (Int.le_of_lt hb)
  have h : Nat.gcd n (m % n) = Nat.gcd m n := by rw [Nat.gcd_comm n, ← Nat.gcd_rec, Nat.gcd_comm]
  rw [← Int.ofNat_tmod]
  exact congrArg Int.ofNat h
theorem common_l0 : ∀ (n : Nat) (a b : Int), b.toNat ≤ n → 0 ≤ a → 0 ≤ b → Ev (fun k => spec_l21Common.l0 k a b) (Int.gcd a b : Int) := by
  intro n
  induction n with
  | zero =>
    intro a b hn ha hb
    have : b = 0 := by omega
    subst this
    refine Ev.step (fun k => by rw [spec_l21Common.l0]) ?_
    refine Ev.pos rfl (Ev.const ?_)
    rw [Int.gcd_zero_right]; congr 1; omega
  | succ n ih =>
    intro a b hn ha hb
    refine Ev.step (fun k => by rw [spec_l21Common.l0]) ?_
    refine Ev.cases (fun h => ?_) (fun h => ?_)
    · subst h
      refine Ev.const ?_
      rw [Int.gcd_zero_right]; congr 1; omega
    · have hb' : 0 < b := by omega
      have h1 := Int.tmod_nonneg b ha
      have h2 := Int.tmod_lt_of_pos a hb'
      exact Ev.eq (ih b (Int.tmod a b) (by omega) hb h1) (gcd_step a b hb' ha)
theorem divisor_l0 : ∀ (n : Nat) (a b : Int), b.toNat ≤ n → 0 ≤ a → 0 ≤ b → Ev (fun k => impl_divisorOf.l0 k a b) (Int.gcd a b : Int) := by
  intro n
  induction n with
  | zero =>
    intro a b hn ha hb
    have : b = 0 := by omega
    subst this
    refine Ev.step (fun k => by rw [impl_divisorOf.l0]) ?_
    refine Ev.neg (by omega) (Ev.const ?_)
    rw [Int.gcd_zero_right]; congr 1; omega
  | succ n ih =>
    intro a b hn ha hb
    refine Ev.step (fun k => by rw [impl_divisorOf.l0]) ?_
    refine Ev.cases (fun h => ?_) (fun h => ?_)
    · refine Ev.neg (by omega) ?_
      have h1 := Int.tmod_nonneg b ha
      have h2 := Int.tmod_lt_of_pos a h
      exact Ev.eq (ih b (Int.tmod a b) (by omega) hb h1) (gcd_step a b h ha)
    · have : b = 0 := by omega
      subst this
      refine Ev.const ?_
      rw [Int.gcd_zero_right]; congr 1; omega
theorem abs_f (a : Int) (h1 : -4611686018427387904 ≤ a) : impl_absOf.f a = some (a.natAbs : Int) := by
  unfold impl_absOf.f
  by_cases h : a < 0
  · rw [if_pos h, w64 (by omega) (by omega)]; congr 1; omega
  · rw [if_neg h]; congr 1; omega
theorem most_neg (a : Int) (h1 : -4611686018427387904 ≤ a) (h2 : a ≤ 4611686018427387904) : spec_l1Most.f a (wrap64 (-a)) = some (a.natAbs : Int) := by
  unfold spec_l1Most.f
  rw [w64 (by omega) (by omega)]
  split <;> (congr 1; omega)
/-- A fraction in lowest terms. -/
def lowest (n d : Int) : Int × Int := (Int.tdiv n (Int.gcd n d : Int), Int.tdiv d (Int.gcd n d : Int))
theorem tdiv_bd (n d : Int) : -(n.natAbs : Int) ≤ Int.tdiv n d ∧ Int.tdiv n d ≤ n.natAbs := by
  have h := Int.natAbs_tdiv_le_natAbs n d
  omega
theorem reduce_ev (n d : Int) (h1 : -4611686018427387904 ≤ n) (h2 : n ≤ 4611686018427387904) (h3 : 0 < d) (h4 : d ≤ 4611686018427387904) : Ev (fun k => spec_l21Reduce.f k n d) (lowest n d) := by
  unfold spec_l21Reduce.f spec_l21Common.f
  have hg : (Int.gcd n d : Int) ≠ 0 := by
    intro h
    have := Int.gcd_eq_zero_iff.1 (Int.ofNat.inj h)
    omega
  refine Ev.bind (a := (Int.gcd n d : Int)) ?_ ?_
  · refine Ev.bindc (most_neg n h1 h2) (Ev.bindc (most_neg d (by omega) h4) ?_)
    exact Ev.eq (common_l0 _ _ _ (Nat.le_refl _) (by omega) (by omega)) (by simp only [Int.gcd, Int.natAbs_natCast])
  · refine Ev.neg hg (Ev.const ?_)
    have b1 := tdiv_bd n (Int.gcd n d : Int)
    have b2 := tdiv_bd d (Int.gcd n d : Int)
    rw [w64 (by omega) (by omega), w64 (by omega) (by omega)]; rfl
theorem fraction_ev (n d : Int) (h1 : -4611686018427387904 ≤ n) (h2 : n ≤ 4611686018427387904) (h3 : 0 < d) (h4 : d ≤ 4611686018427387904) : Ev (fun k => impl_fraction.f k n d) ((lowest n d).1, (lowest n d).2, true) := by
  unfold impl_fraction.f impl_ratioOf.f impl_divisorOf.f
  have hg : (Int.gcd n d : Int) ≠ 0 := by
    intro h
    have := Int.gcd_eq_zero_iff.1 (Int.ofNat.inj h)
    omega
  refine Ev.bind (a := ((lowest n d).1, (lowest n d).2, true)) ?_ (Ev.now _)
  refine Ev.neg (by omega) (Ev.neg (by omega) (Ev.bindc (abs_f n h1) ?_))
  refine Ev.bind (Ev.eq (divisor_l0 _ _ _ (Nat.le_refl _) (by omega) (by omega)) (show _ = (Int.gcd n d : Int) by rw [Int.gcd_comm]; simp only [Int.gcd, Int.natAbs_natCast])) ?_
  refine Ev.neg hg (Ev.const ?_)
  have b1 := tdiv_bd n (Int.gcd n d : Int)
  have b2 := tdiv_bd d (Int.gcd n d : Int)
  rw [w64 (by omega) (by omega), w64 (by omega) (by omega)]; rfl
theorem fraction_zero (n : Int) : Ev (fun k => impl_fraction.f k n 0) (0, 0, false) := by
  unfold impl_fraction.f impl_ratioOf.f
  exact Ev.bind (a := (0, 0, false)) (Ev.pos rfl (Ev.now _)) (Ev.now _)

theorem sumOf_l0 (l : List Int) (hl : l.length ≤ 1048576) (hb : ∀ i (h : i < l.length), -10000000 ≤ l[i] ∧ l[i] ≤ 10000000) : ∀ (d i : Nat) (s : Int), l.length - i = d → i ≤ l.length → -(10000000 * (i : Int)) ≤ s → s ≤ 10000000 * (i : Int) →
    Ev (fun k => impl_sumOf.l0 k s l (l.length : Int) (i : Int)) (s + (l.drop i).sum) := by
  intro d
  induction d with
  | zero =>
    intro i s hd hi _ _
    refine Ev.step (fun k => by rw [impl_sumOf.l0]) ?_
    refine Ev.neg (by omega) (Ev.const ?_)
    rw [List.drop_of_length_le (by omega)]; simp
  | succ d ih =>
    intro i s hd hi h1 h2
    have hlt : i < l.length := by omega
    have b := hb i hlt
    refine Ev.step (fun k => by rw [impl_sumOf.l0]) ?_
    refine Ev.pos (by omega) (Ev.pos (by omega) (Ev.pos (by omega) ?_))
    rw [rd_lt l i hlt, w64 (x := s + l[i]) (by omega) (by omega), w64 (by omega) (by omega), show (i : Int) + 1 = ((i + 1 : Nat) : Int) from by omega, drop_cons' l i hlt, List.sum_cons]
    exact Ev.eq (ih (i + 1) (s + l[i]) (by omega) (by omega) (by omega) (by omega)) (by omega)
theorem sumOf (l : List Int) (hl : l.length ≤ 1048576) (hb : ∀ x ∈ l, -10000000 ≤ x ∧ x ≤ 10000000) : Ev (fun k => impl_sumOf.f k l) l.sum := by
  unfold impl_sumOf.f
  exact Ev.eq (sumOf_l0 l hl (fun i h => hb _ (List.getElem_mem h)) _ 0 0 rfl (by omega) (by omega) (by omega)) (by simp)
theorem sum_bd (l : List Int) (B : Int) (hb : ∀ x ∈ l, -B ≤ x ∧ x ≤ B) : -(B * (l.length : Int)) ≤ l.sum ∧ l.sum ≤ B * (l.length : Int) := by
  induction l with
  | nil => simp
  | cons x xs ih =>
    have h1 := ih (fun y hy => hb y (List.mem_cons_of_mem _ hy))
    have h2 := hb x (List.mem_cons_self ..)
    rw [List.sum_cons, List.length_cons, Int.natCast_add, Int.mul_add]
    simp only [Int.natCast_one, Int.mul_one]
    omega
end Go.Proofs.Ytdhdifoenladpaa.Pure

/- Means and anomalies: the reference's and the program's come to one. -/
namespace Go.Proofs.Ytdhdifoenladpaa.Pure
open Go.RowKit Go.Proofs.Ytdhdifoenladpaa.P Go.Proofs.YtdhdifoenladpaaW.PrintWords Go.Proofs.YtdhdifoenladpaaW.PrintLast

theorem known_bd {l : List Int} (hs : seriesB l = true) (xs : List Int) (hx : ∀ x ∈ xs, x ∈ l) : ∀ x ∈ known xs, -9000 ≤ x ∧ x ≤ 9000 := by
  intro x h
  obtain ⟨h1, h2⟩ := mem_known.1 h
  exact cell_bd' (series_cell hs x (hx x h1)) h2
theorem known_sum_bd {l : List Int} (hs : seriesB l = true) (xs : List Int) (hx : ∀ x ∈ xs, x ∈ l) (hl : xs.length ≤ 60) : -540000 ≤ (known xs).sum ∧ (known xs).sum ≤ 540000 := by
  have h := sum_bd (known xs) 9000 (known_bd hs xs hx)
  have h2 := known_le xs
  omega

/-- The mean of the values of some days, as a fraction. -/
def meanF (xs : List Int) : Int × Int × Bool := if known xs = [] then (0, 0, false) else ((lowest (known xs).sum (known xs).length).1, (lowest (known xs).sum (known xs).length).2, true)

theorem seriesMean (l : List Int) (hl : l.length ≤ 1048576) (a b : Int) : ∃ r, Ev (fun k => spec_SeriesMean.f k l a b) r ∧ Ev (fun k => impl_SeriesMean.f k l a b) r ∧
    ((r = (0, 0, false) ∧ ¬ (seriesB l = true ∧ 0 ≤ a ∧ a ≤ b ∧ b < l.length)) ∨ (seriesB l = true ∧ 0 ≤ a ∧ a ≤ b ∧ b < l.length ∧ r = meanF ((l.take (b.toNat + 1)).drop a.toNat))) := by
  unfold spec_SeriesMean.f impl_SeriesMean.f
  have hsj : Ev (fun k => spec_SeriesMean.j0 k l a b true) (0, 0, false) := by
    refine Ev.step (fun k => by rw [spec_SeriesMean.j0]) ?_
    exact Ev.pos rfl (Ev.now _)
  have hij : Ev (fun k => impl_SeriesMean.j0 k l a b true) (0, 0, false) := by
    refine Ev.step (fun k => by rw [impl_SeriesMean.j0]) ?_
    exact Ev.pos rfl (Ev.now _)
  have hdA := l24Day l hl a
  have hdB := l24Day l hl b
  by_cases hs : seriesB l = true
  · have h60 := series_60 hs
    have hw : wrap64 ((l.length : Int) - 1) = (l.length : Int) - 1 := w64 (by omega) (by omega)
    rw [hw]
    by_cases hA : 0 ≤ a ∧ a < l.length
    · by_cases hB : a ≤ b ∧ b < l.length
      · obtain ⟨i, rfl⟩ : ∃ i : Nat, a = i := ⟨a.toNat, by omega⟩
        obtain ⟨j, rfl⟩ : ∃ j : Nat, b = j := ⟨b.toNat, by omega⟩
        have hsub : ∀ x ∈ (l.take (j + 1)).drop i, x ∈ l := fun x hx => List.mem_of_mem_take (List.mem_of_mem_drop hx)
        have hlen : ((l.take (j + 1)).drop i).length ≤ 60 := by simp; omega
        have hsum := known_sum_bd hs _ hsub hlen
        have hkl := known_le ((l.take (j + 1)).drop i)
        refine ⟨meanF ((l.take (j + 1)).drop i), ?_, ?_, .inr ⟨hs, by omega, hB.1, by omega, rfl⟩⟩
        · refine Ev.bind hdA (Ev.pos (by rw [hs]; simp; omega) (Ev.bind hdB (Ev.pos (by rw [hs]; simp; omega) ?_)))
          refine Ev.step (fun k => by rw [spec_SeriesMean.j0]) ?_
          refine Ev.neg (by simp; omega) (Ev.bind (l24Sum l hs i (j : Int) (j + 1) (by omega) (by omega) (fun m hm => by omega) (by omega)) ?_)
          unfold meanF
          by_cases hk : known ((l.take (j + 1)).drop i) = []
          · rw [if_pos hk, hk]
            exact Ev.pos rfl (Ev.now _)
          · rw [if_neg hk]
            have := List.length_pos_iff.2 hk
            exact Ev.neg (by simp only; omega) (Ev.bind (reduce_ev _ _ (by omega) (by omega) (by omega) (by omega)) (Ev.now _))
        · refine Ev.bindc (show impl_IsValidSeries.f l = some (seriesB l) from rfl) (Ev.pos hs (Ev.bindc (within_f _ _ _) (Ev.pos (by simp; omega) (Ev.bindc (within_f _ _ _) ?_))))
          refine Ev.step (fun k => by rw [impl_SeriesMean.j0]) ?_
          refine Ev.neg (by simp; omega) (Ev.pos (by omega) ?_)
          rw [w64 (x := (j : Int) + 1) (by omega) (by omega)]
          refine Ev.pos (by omega) (Ev.pos (by omega) ?_)
          rw [show ((j : Int) + 1).toNat = j + 1 from by omega, Int.toNat_natCast]
          refine Ev.bindc (known_f _ (by omega)) (Ev.bind (sumOf _ (by omega) (fun x hx => by have := known_bd hs _ hsub x hx; omega)) ?_)
          unfold meanF
          by_cases hk : known ((l.take (j + 1)).drop i) = []
          · rw [if_pos hk, hk]
            exact Ev.bind (fraction_zero _) (Ev.now _)
          · rw [if_neg hk]
            have := List.length_pos_iff.2 hk
            exact Ev.bind (fraction_ev _ _ (by omega) (by omega) (by omega) (by omega)) (Ev.now _)
      · refine ⟨(0, 0, false), ?_, ?_, .inl ⟨rfl, fun h => hB ⟨h.2.2.1, h.2.2.2⟩⟩⟩
        · refine Ev.bind hdA (Ev.pos (by rw [hs]; simp; omega) (Ev.bind hdB (Ev.cases (fun h => ?_) (fun _ => hsj))))
          rw [hs, Bool.true_and] at h
          simp only [Bool.and_eq_true, decide_eq_true_eq] at h
          rw [show decide (a > b) = true from decide_eq_true (by omega)]
          exact hsj
        · refine Ev.bindc (show impl_IsValidSeries.f l = some (seriesB l) from rfl) (Ev.pos hs (Ev.bindc (within_f _ _ _) (Ev.pos (by simp; omega) (Ev.bindc (within_f _ _ _) ?_))))
          rw [show (!(decide (a ≤ b) && decide (b ≤ (l.length : Int) - 1))) = true from by
            simp only [Bool.not_eq_true', Bool.and_eq_false_iff, decide_eq_false_iff_not]; omega]
          exact hij
    · have hA' : ¬ (decide (0 ≤ a) && decide (a ≤ (l.length : Int) - 1)) = true := by
        simp only [Bool.and_eq_true, decide_eq_true_eq]; omega
      refine ⟨(0, 0, false), ?_, ?_, .inl ⟨rfl, fun h => hA ⟨h.2.1, by omega⟩⟩⟩
      · exact Ev.bind hdA (Ev.neg (by rw [hs, Bool.true_and]; exact hA') hsj)
      · exact Ev.bindc (show impl_IsValidSeries.f l = some (seriesB l) from rfl) (Ev.pos hs (Ev.bindc (within_f _ _ _) (Ev.neg hA' hij)))
  · refine ⟨(0, 0, false), Ev.bind hdA (Ev.neg (by rw [Bool.eq_false_iff.mpr hs]; simp) hsj), ?_, .inl ⟨rfl, fun h => hs h.1⟩⟩
    exact Ev.bindc (show impl_IsValidSeries.f l = some (seriesB l) from rfl) (Ev.neg hs hij)

/-- A day's value minus the mean, as a fraction. -/
def anomF (l : List Int) (v : Int) : Int × Int × Bool := ((lowest (v * (known l).length - (known l).sum) (known l).length).1, (lowest (v * (known l).length - (known l).sum) (known l).length).2, true)

theorem anomalyOf (l : List Int) (hl : l.length ≤ 1048576) (a : Int) : ∃ r, Ev (fun k => spec_AnomalyOf.f k l a) r ∧ Ev (fun k => impl_AnomalyOf.f k l a) r ∧
    ((r = (0, 0, false)) ∨ ∃ d : Nat, ∃ hd : d < l.length, seriesB l = true ∧ a = d ∧ l[d] ≠ -9999 ∧ r = anomF l l[d]) ∧ (seriesB l = true → ∀ d : Nat, ∀ hd : d < l.length, a = d → l[d] ≠ -9999 → r = anomF l l[d]) := by
  unfold spec_AnomalyOf.f impl_AnomalyOf.f
  have hsj : Ev (fun k => spec_AnomalyOf.j0 k l a true) (0, 0, false) := by
    refine Ev.step (fun k => by rw [spec_AnomalyOf.j0]) ?_
    exact Ev.pos rfl (Ev.now _)
  have hdA := l24Day l hl a
  by_cases hv : seriesB l = true ∧ 0 ≤ a ∧ a < l.length
  · obtain ⟨hs, h0, hlt⟩ := hv
    have h60 := series_60 hs
    obtain ⟨d, rfl⟩ : ∃ d : Nat, a = d := ⟨a.toNat, by omega⟩
    have hd : d < l.length := by omega
    have hyes := hasDay_yes l hs d hd
    by_cases hm : l[d] = -9999
    · refine ⟨(0, 0, false), ?_, ?_, .inl rfl, fun _ d' hd' e hne => ?_⟩
      · refine Ev.bind hdA (Ev.pos (by rw [hs]; simp; omega) (Ev.pos (by omega) (Ev.pos (by omega) ?_)))
        rw [rd_lt l d hd, hm]
        exact hsj
      · exact Ev.bindc hyes (Ev.neg (by simp [hm]) (Ev.now _))
      · have : d' = d := by omega
        subst this
        exact absurd hm hne
    · have hmem : l[d] ∈ known l := mem_known.2 ⟨List.getElem_mem hd, hm⟩
      have hkpos := List.length_pos_of_mem hmem
      have hkl := known_le l
      have hsum := known_sum_bd hs l (fun _ h => h) h60.2
      have hb := cell_bd' (series_cell hs _ (List.getElem_mem hd)) hm
      have hp : -540000 ≤ l[d] * ((known l).length : Int) ∧ l[d] * ((known l).length : Int) ≤ 540000 := by
        have h1 : (known l).length ≤ 60 := by omega
        generalize (known l).length = n at h1
        generalize l[d] = v at hb
        constructor
        · have := Int.mul_le_mul_of_nonneg_right hb.1 (Int.natCast_nonneg n); omega
        · have := Int.mul_le_mul_of_nonneg_right hb.2 (Int.natCast_nonneg n); omega
      refine ⟨anomF l l[d], ?_, ?_, .inr ⟨d, hd, hs, rfl, hm, rfl⟩, fun _ d' hd' e _ => by
        have : d' = d := by omega
        subst this; rfl⟩
      · refine Ev.bind hdA (Ev.pos (by rw [hs]; simp; omega) (Ev.pos (by omega) (Ev.pos (by omega) ?_)))
        rw [rd_lt l d hd, show (l[d] == -9999) = false from by simpa using hm]
        refine Ev.step (fun k => by rw [spec_AnomalyOf.j0]) ?_
        refine Ev.neg (by simp) (Ev.bind (l24SumAll l hs) (Ev.pos (by omega) (Ev.pos (by omega) ?_)))
        rw [rd_lt l d hd, w64 (x := l[d] * ((known l).length : Int)) (by omega) (by omega), w64 (by simp only; omega) (by simp only; omega)]
        exact Ev.bind (reduce_ev _ _ (by simp only; omega) (by simp only; omega) (by simp only; omega) (by simp only; omega)) (Ev.now _)
      · refine Ev.bindc hyes (Ev.pos (by simpa using hm) (Ev.bindc (known_f l hl) (Ev.pos (by omega) (Ev.pos (by omega) ?_))))
        refine Ev.bind (sumOf _ (by omega) (fun x hx => by have := known_bd hs l (fun _ h => h) x hx; omega)) ?_
        rw [rd_lt l d hd, w64 (x := l[d] * ((known l).length : Int)) (by omega) (by omega), w64 (by omega) (by omega)]
        exact Ev.bind (fraction_ev _ _ (by omega) (by omega) (by omega) (by omega)) (Ev.now _)
  · refine ⟨(0, 0, false), ?_, ?_, .inl rfl, fun hs d hd e _ => absurd ⟨hs, by omega, by omega⟩ hv⟩
    · refine Ev.bind hdA (Ev.neg ?_ hsj)
      simp only [Bool.and_eq_true, decide_eq_true_eq]
      intro h; exact hv ⟨h.1, h.2.1, by omega⟩
    · exact Ev.bindc (hasDay_no l hl a hv) (Ev.neg (by simp) (Ev.now _))
end Go.Proofs.Ytdhdifoenladpaa.Pure

/- The rank of a day: the reference's and the program's, and what it is. -/
namespace Go.Proofs.Ytdhdifoenladpaa.Pure
open Go.RowKit Go.Proofs.Ytdhdifoenladpaa.P Go.Proofs.YtdhdifoenladpaaW.PrintWords Go.Proofs.YtdhdifoenladpaaW.PrintLast

def above (v : Int) (l : List Int) : Nat := l.countP fun x => decide (x > v)
theorem above_known (v : Int) (hv : -9999 ≤ v) (l : List Int) : above v (known l) = above v l := by
  induction l with
  | nil => rfl
  | cons x xs ih =>
    rw [known_cons]
    unfold above at ih ⊢
    by_cases h : x = -9999
    · rw [if_pos h, ih, List.countP_cons, if_neg (by simp; omega)]; rfl
    · rw [if_neg h, List.countP_cons, List.countP_cons, ih]
theorem above_le (v : Int) (l : List Int) : above v l ≤ l.length := List.countP_le_length
theorem above_cons (v x : Int) (l : List Int) : above v (x :: l) = above v l + if x > v then 1 else 0 := by
  unfold above; rw [List.countP_cons]; simp

theorem spec_rank (l : List Int) (hs : seriesB l = true) (d : Nat) (hd : d < l.length) : ∀ (m i : Nat) (r : Int), l.length - i = m → i ≤ l.length → 1 ≤ r → r ≤ i + 1 →
    Ev (fun k => spec_RankOfDay.l0 k l (d : Int) r (i : Int)) (r + (above l[d] (l.drop i) : Int), ((known l).length : Int), true) := by
  have h60 := series_60 hs
  intro m
  induction m with
  | zero =>
    intro i r hm hi _ _
    refine Ev.step (fun k => by rw [spec_RankOfDay.l0]) ?_
    refine Ev.neg (by omega) (Ev.bind (l24SumAll l hs) (Ev.const ?_))
    rw [List.drop_of_length_le (by omega)]; simp [above]
  | succ m ih =>
    intro i r hm hi h1 h2
    have hlt : i < l.length := by omega
    refine Ev.step (fun k => by rw [spec_RankOfDay.l0]) ?_
    refine Ev.pos (by omega) (Ev.pos (by omega) (Ev.pos (by omega) (Ev.pos (by omega) ?_)))
    rw [rd_lt l i hlt, rd_lt l d hd, drop_cons' l i hlt, above_cons, w64 (x := (i : Int) + 1) (by omega) (by omega), w64 (x := r + 1) (by omega) (by omega), show (i : Int) + 1 = ((i + 1 : Nat) : Int) from by omega]
    refine Ev.cases (fun h => ?_) (fun h => ?_)
    · refine Ev.eq (ih (i + 1) (r + 1) (by omega) (by omega) (by omega) (by omega)) ?_
      rw [if_pos h]; congr 1; omega
    · refine Ev.eq (ih (i + 1) r (by omega) (by omega) (by omega) (by omega)) ?_
      rw [if_neg h]; rfl
theorem impl_rank (l : List Int) (hl : l.length ≤ 60) (d : Nat) (hd : d < l.length) (xs : List Int) (hx : xs.length ≤ 60) : ∀ (m i : Nat) (r : Int), xs.length - i = m → i ≤ xs.length → 1 ≤ r → r ≤ i + 1 →
    Ev (fun k => impl_RankOfDay.l0 k l (d : Int) r xs (xs.length : Int) (i : Int)) (r + (above l[d] (xs.drop i) : Int), ((known l).length : Int), true) := by
  intro m
  induction m with
  | zero =>
    intro i r hm hi _ _
    refine Ev.step (fun k => by rw [impl_RankOfDay.l0]) ?_
    refine Ev.neg (by omega) (Ev.bindc (known_f l (by omega)) (Ev.const ?_))
    rw [List.drop_of_length_le (by omega)]; simp [above]
  | succ m ih =>
    intro i r hm hi h1 h2
    have hlt : i < xs.length := by omega
    refine Ev.step (fun k => by rw [impl_RankOfDay.l0]) ?_
    refine Ev.pos (by omega) (Ev.pos (by omega) (Ev.pos (by omega) (Ev.pos (by omega) (Ev.pos (by omega) ?_))))
    rw [rd_lt xs i hlt, rd_lt l d hd, drop_cons' xs i hlt, above_cons, w64 (x := (i : Int) + 1) (by omega) (by omega), w64 (x := r + 1) (by omega) (by omega), show (i : Int) + 1 = ((i + 1 : Nat) : Int) from by omega]
    refine Ev.cases (fun h => ?_) (fun h => ?_)
    · refine Ev.eq (ih (i + 1) (r + 1) (by omega) (by omega) (by omega) (by omega)) ?_
      rw [if_pos h]; congr 1; omega
    · refine Ev.eq (ih (i + 1) r (by omega) (by omega) (by omega) (by omega)) ?_
      rw [if_neg h]; rfl

/-- The rank of a day's value. -/
def rankF (l : List Int) (v : Int) : Int × Int × Bool := (1 + (above v l : Int), ((known l).length : Int), true)
theorem rankOfDay (l : List Int) (hl : l.length ≤ 1048576) (a : Int) : ∃ r, Ev (fun k => spec_RankOfDay.f k l a) r ∧ Ev (fun k => impl_RankOfDay.f k l a) r ∧
    (r = (0, 0, false) ∨ ∃ d : Nat, ∃ hd : d < l.length, l[d] ≠ -9999 ∧ r = rankF l l[d]) ∧ (seriesB l = true → ∀ d : Nat, ∀ hd : d < l.length, a = d → l[d] ≠ -9999 → r = rankF l l[d]) := by
  unfold spec_RankOfDay.f impl_RankOfDay.f
  by_cases hv : seriesB l = true ∧ 0 ≤ a ∧ a < l.length
  · obtain ⟨hs, h0, hlt⟩ := hv
    have h60 := series_60 hs
    obtain ⟨d, rfl⟩ : ∃ d : Nat, a = d := ⟨a.toNat, by omega⟩
    have hd : d < l.length := by omega
    have hday := l24Day l hl (d : Int)
    have hyes := hasDay_yes l hs d hd
    by_cases hm : l[d] = -9999
    · refine ⟨(0, 0, false), ?_, ?_, .inl rfl, fun _ d' hd' e hne => by
        have : d' = d := by omega
        subst this; exact absurd hm hne⟩
      · refine Ev.bind hday (Ev.pos (by rw [hs]; simp; omega) (Ev.pos (by omega) (Ev.pos (by omega) ?_)))
        rw [rd_lt l d hd]
        refine Ev.step (fun k => by rw [spec_RankOfDay.j0]) ?_
        exact Ev.pos (by simp [hm]) (Ev.now _)
      · exact Ev.bindc hyes (Ev.neg (by simp [hm]) (Ev.now _))
    · refine ⟨rankF l l[d], ?_, ?_, .inr ⟨d, hd, hm, rfl⟩, fun _ d' hd' e _ => by
        have : d' = d := by omega
        subst this; rfl⟩
      · refine Ev.bind hday (Ev.pos (by rw [hs]; simp; omega) (Ev.pos (by omega) (Ev.pos (by omega) ?_)))
        rw [rd_lt l d hd]
        refine Ev.step (fun k => by rw [spec_RankOfDay.j0]) ?_
        refine Ev.neg (by simp [hm]) ?_
        exact spec_rank l hs d hd _ 0 1 rfl (by omega) (by omega) (by omega)
      · refine Ev.bindc hyes (Ev.pos (by simp [hm]) (Ev.bindc (known_f l hl) ?_))
        refine Ev.eq (impl_rank l h60.2 d hd (known l) (by have := known_le l; omega) _ 0 1 rfl (by omega) (by omega) (by omega)) ?_
        rw [List.drop_zero, above_known _ (by have := series_bd hs d hd; omega)]; rfl
  · refine ⟨(0, 0, false), ?_, ?_, .inl rfl, fun hs d hd e _ => absurd ⟨hs, by omega, by omega⟩ hv⟩
    · have hj : Ev (fun k => spec_RankOfDay.j0 k l a true) (0, 0, false) := by
        refine Ev.step (fun k => by rw [spec_RankOfDay.j0]) ?_
        exact Ev.pos rfl (Ev.now _)
      refine Ev.bind (l24Day l hl a) (Ev.neg ?_ hj)
      simp only [Bool.and_eq_true, decide_eq_true_eq]
      intro h; exact hv ⟨h.1, h.2.1, by omega⟩
    · exact Ev.bindc (hasDay_no l hl a hv) (Ev.neg (by simp) (Ev.now _))
theorem above_lt (l : List Int) (d : Nat) (hd : d < l.length) (hm : l[d] ≠ -9999) (hs : ∀ x ∈ l, -9999 ≤ x) : above l[d] l + 1 ≤ (known l).length := by
  rw [← above_known l[d] (hs _ (List.getElem_mem hd))]
  have hmem : l[d] ∈ known l := mem_known.2 ⟨List.getElem_mem hd, hm⟩
  generalize l[d] = v at hmem
  generalize known l = ks at hmem
  clear hs hm hd d l
  induction ks with
  | nil => simp at hmem
  | cons x xs ih =>
    rw [above_cons, List.length_cons]
    rcases List.mem_cons.1 hmem with rfl | h
    · rw [if_neg (by omega)]
      have := above_le v xs
      omega
    · have := ih h
      split <;> omega
end Go.Proofs.Ytdhdifoenladpaa.Pure

/- The reference's record days are the program's. -/
namespace Go.Proofs.Ytdhdifoenladpaa.Pure
open Go.RowKit Go.Proofs.Ytdhdifoenladpaa.P Go.Proofs.YtdhdifoenladpaaW.PrintWords Go.Proofs.YtdhdifoenladpaaW.PrintLast

theorem cell_ge {n : Int} (h : cellB n = true) : -9999 ≤ n := by
  unfold cellB at h
  simp only [Bool.or_eq_true, beq_iff_eq, Bool.and_eq_true, decide_eq_true_eq] at h
  omega
theorem series_ge {l : List Int} (h : seriesB l = true) (i : Nat) (hi : i < l.length) : -9999 ≤ l[i] := by
  unfold seriesB at h
  simp only [Bool.and_eq_true, List.all_eq_true] at h
  exact cell_ge (h.2 _ (List.getElem_mem hi))
theorem series_len {l : List Int} (h : seriesB l = true) : 1 ≤ l.length ∧ l.length ≤ 60 := by
  unfold seriesB at h
  simp only [Bool.and_eq_true, decide_eq_true_eq] at h
  omega

/-- The greatest of the first days' values, -9999 if there is none. -/
def mostL (l : List Int) (i : Nat) : Int := (l.take i).foldl max (-9999)
theorem most_succ (l : List Int) (i : Nat) (h : i < l.length) : mostL l (i + 1) = max (mostL l i) l[i] := by
  unfold mostL; rw [take_succ' l i h, List.foldl_append]; rfl
theorem foldl_max_le (xs : List Int) : ∀ (a b : Int), xs.foldl max a < b ↔ a < b ∧ ∀ x ∈ xs, x < b := by
  induction xs with
  | nil => intro a b; simp
  | cons x xs ih =>
    intro a b
    rw [List.foldl_cons, ih]
    simp only [List.mem_cons, forall_eq_or_imp]
    constructor
    · rintro ⟨h1, h2⟩; exact ⟨by omega, by omega, h2⟩
    · rintro ⟨h1, h2, h3⟩; exact ⟨by omega, h3⟩
theorem record_iff (l : List Int) (hs : seriesB l = true) (i : Nat) (h : i < l.length) : recordB l i = true ↔ mostL l i < l[i] := by
  unfold recordB mostL
  rw [foldl_max_le]
  have hd : l.getD i 0 = l[i] := by simp [h]
  rw [hd]
  simp only [Bool.and_eq_true, bne_iff_ne, Bool.not_eq_true', List.any_eq_false, decide_eq_true_eq]
  have hge := series_ge hs i h
  constructor
  · rintro ⟨h1, h2⟩
    refine ⟨by omega, fun x hx => ?_⟩
    have h3 := h2 x hx
    have hx' : x ∈ l := List.mem_of_mem_take hx
    by_cases e : x = -9999
    · omega
    · have : ¬ l[i] ≤ x := fun h4 => h3 ⟨e, h4⟩
      omega
  · rintro ⟨h1, h2⟩
    exact ⟨by omega, fun x hx h3 => by have := h2 x hx; omega⟩

theorem spec_rec (l : List Int) (hs : seriesB l = true) : ∀ (d i : Nat), l.length - i = d → i ≤ l.length →
    Ev (fun k => spec_RecordDays.l0 k l (recs l i) (mostL l i) (i : Int)) (recs l l.length, true) := by
  have hlen := series_len hs
  intro d
  induction d with
  | zero =>
    intro i hd hi
    refine Ev.step (fun k => by rw [spec_RecordDays.l0]) (Ev.neg (by omega) (Ev.const ?_))
    rw [show i = l.length from by omega]
  | succ d ih =>
    intro i hd hi
    have hlt : i < l.length := by omega
    refine Ev.step (fun k => by rw [spec_RecordDays.l0]) (Ev.pos (by omega) (Ev.pos (by omega) ?_))
    have e := ih (i + 1) (by omega) (by omega)
    have hrec := record_iff l hs i hlt
    have hl := recs_len l i
    rw [rd_lt l i hlt, w64 (by omega) (by omega), show (i : Int) + 1 = ((i + 1 : Nat) : Int) from by omega]
    rw [recs_succ, most_succ l i hlt] at e
    refine Ev.cases (fun h => ?_) (fun h => ?_)
    · refine Ev.pos (by omega) ?_
      rw [if_pos (hrec.2 h), show max (mostL l i) l[i] = l[i] from by omega] at e
      exact e
    · rw [if_neg (fun hh => h (hrec.1 hh)), show max (mostL l i) l[i] = mostL l i from by omega] at e
      exact e

theorem recordDays (l : List Int) (hl : l.length ≤ 1048576) : ∃ (r : List Int) (b : Bool), impl_RecordDays.f l = some (r, b) ∧ Ev (fun k => spec_RecordDays.f k l) (r, b) ∧ r.length ≤ 1048576 := by
  unfold impl_RecordDays.f spec_RecordDays.f
  by_cases hs : seriesB l = true
  · refine ⟨recs l l.length, true, by rw [if_pos hs], ?_, by have := recs_len l l.length; omega⟩
    refine Ev.bindc rfl (Ev.bind (l24Good l hl) (Ev.pos hs ?_))
    exact spec_rec l hs _ 0 rfl (by omega)
  · refine ⟨[], false, by rw [if_neg hs], ?_, by simp⟩
    exact Ev.bindc rfl (Ev.bind (l24Good l hl) (Ev.neg hs (Ev.now _)))
end Go.Proofs.Ytdhdifoenladpaa.Pure

namespace Go.Proofs.Ytdhdifoenladpaa.Pure
open Go.RowKit Go.Proofs.Ytdhdifoenladpaa.P Go.Proofs.YtdhdifoenladpaaW.PrintWords Go.Proofs.YtdhdifoenladpaaW.PrintLast

theorem lowest_mul (m n : Int) (hn : 0 < n) : (lowest m n).2 ≠ 0 ∧ 0 < (lowest m n).2 ∧ (lowest m n).2 ≤ n ∧ Int.tmod n (lowest m n).2 = 0 ∧ 0 ≤ Int.tdiv n (lowest m n).2 ∧ Int.tdiv n (lowest m n).2 ≤ n ∧ (lowest m n).1 * Int.tdiv n (lowest m n).2 = m ∧ m = (lowest m n).1 * (Int.gcd m n : Int) ∧ n = (lowest m n).2 * (Int.gcd m n : Int) ∧ 0 < (Int.gcd m n : Int) := by
  unfold lowest
  have hg : 0 < (Int.gcd m n : Int) := by
    rcases Nat.eq_zero_or_pos (Int.gcd m n) with h | h
    · have := Int.gcd_eq_zero_iff.1 h; omega
    · omega
  obtain ⟨a, ha⟩ : (Int.gcd m n : Int) ∣ m := Int.gcd_dvd_left ..
  obtain ⟨b, hb⟩ : (Int.gcd m n : Int) ∣ n := Int.gcd_dvd_right ..
  generalize hG : (Int.gcd m n : Int) = g at hg ha hb ⊢
  clear hG
  subst ha
  subst hb
  have hb0 : 0 < b := by
    rcases Int.lt_trichotomy b 0 with h | h | h
    · have := Int.mul_neg_of_pos_of_neg hg h; omega
    · subst h; simp at hn
    · exact h
  have e1 : Int.tdiv (g * a) g = a := Int.mul_tdiv_cancel_left _ (by omega)
  have e2 : Int.tdiv (g * b) g = b := Int.mul_tdiv_cancel_left _ (by omega)
  have e3 : Int.tdiv (g * b) b = g := Int.mul_tdiv_cancel _ (by omega)
  have hbn : b ≤ g * b := by
    have := Int.mul_le_mul_of_nonneg_right (show (1 : Int) ≤ g by omega) (show 0 ≤ b by omega); omega
  have hgn : g ≤ g * b := by
    have := Int.mul_le_mul_of_nonneg_left (show (1 : Int) ≤ b by omega) (show 0 ≤ g by omega); omega
  simp only [e1, e2, e3]
  refine ⟨by omega, hb0, hbn, ?_, by omega, hgn, Int.mul_comm _ _, Int.mul_comm _ _, Int.mul_comm _ _, hg⟩
  rw [Int.tmod_eq_emod_of_nonneg (by omega)]
  exact Int.mul_emod_left _ _

/-- The sum of the anomalies of the first days, times the number of values. -/
def anomSum (s : List Int) (i : Nat) : Int := ((known s).length : Int) * (known (s.take i)).sum - (known s).sum * ((known (s.take i)).length : Int)
theorem known_append (a b : List Int) : known (a ++ b) = known a ++ known b := List.filter_append ..
theorem sum_append' (a b : List Int) : (a ++ b).sum = a.sum + b.sum := List.sum_append ..
theorem anomSum_step (s : List Int) (i : Nat) (h : i < s.length) : anomSum s (i + 1) = if s[i] = -9999 then anomSum s i else anomSum s i + (s[i] * ((known s).length : Int) - (known s).sum) := by
  unfold anomSum
  rw [take_succ' s i h, known_append, known_cons]
  by_cases c : s[i] = -9999
  · rw [if_pos c, if_pos c]; simp [known]
  · rw [if_neg c, if_neg c, sum_append', List.length_append]
    have e : known [] = [] := rfl
    rw [e]
    simp only [List.sum_cons, List.sum_nil, List.length_cons, List.length_nil, Int.add_zero, Int.natCast_add, Nat.zero_add, Int.natCast_one]
    rw [Int.mul_add, Int.mul_add, Int.mul_one, Int.mul_comm s[i]]
    omega

theorem recs_last (s : List Int) (hs : seriesB s = true) (c : Nat) (hH : IsHigh s c) : recs s s.length ≠ [] ∧ rd (recs s s.length) (((recs s s.length).length : Int) - 1) = c ∧ ((recs s s.length).length : Int) ≠ 0 := by
  obtain ⟨hc, h1, h2, h3⟩ := hH
  -- beyond the highest day there is no record
  have hbey : ∀ d, c < c + 1 + d → c + 1 + d ≤ s.length → recs s (c + 1 + d) = recs s (c + 1) := by
    intro d
    induction d with
    | zero => intro _ _; rfl
    | succ d ih =>
      intro _ hl
      rw [show c + 1 + (d + 1) = (c + 1 + d) + 1 from by omega, recs_succ, if_neg, ih (by omega) (by omega)]
      intro hr
      have h4 := (record_iff s hs (c + 1 + d) (by omega)).1 hr
      have h5 := h1 (c + 1 + d) (by omega)
      unfold mostL at h4
      rw [foldl_max_le] at h4
      have h6 := h4.2 s[c] (by
        rw [List.mem_iff_getElem]
        exact ⟨c, by simp; omega, by simp⟩)
      omega
  have hrec : recordB s c = true := by
    rw [record_iff s hs c hc]
    unfold mostL
    rw [foldl_max_le]
    refine ⟨by have := series_ge hs c hc; omega, fun x hx => ?_⟩
    obtain ⟨j, hj, e⟩ := List.getElem_of_mem hx
    have hjc : j < c := by simp at hj; omega
    have := h2 j hjc
    simp at e
    omega
  have e := hbey (s.length - (c + 1)) (by omega) (by omega)
  rw [show c + 1 + (s.length - (c + 1)) = s.length from by omega, recs_succ, if_pos hrec] at e
  rw [e]
  refine ⟨by simp, ?_, by simp; omega⟩
  have hlen : (((recs s c ++ [(c : Int)]).length : Int) - 1) = ((recs s c).length : Int) := by simp
  rw [hlen, rd_lt _ _ (by simp)]
  simp

theorem FnSeries_loop (code s : List Int) (hs : seriesB s = true) (c c' : Nat) (hH : IsHigh s c) (hL : IsLow s c') (hj3 : Ev (fun k => laws_FnSeries.j3 k code) true) : ∀ (d i : Nat), s.length - i = d → i ≤ s.length →
    Ev (fun k => laws_FnSeries.l0 k code s (s.getD c 0) (c : Int) (s.getD c' 0) 1 ((known s).length : Int) true (recs s s.length) true (anomSum s i) (i : Int)) true := by
  have h60 := series_60 hs
  have hkl := known_le s
  obtain ⟨hc, h1, h2, h3⟩ := id hH
  obtain ⟨hc', g1, g2, g3⟩ := id hL
  have hmem : s[c] ∈ known s := mem_known.2 ⟨List.getElem_mem hc, h3⟩
  have hkpos := List.length_pos_of_mem hmem
  have hS := known_sum_bd hs s (fun _ h => h) h60.2
  have anom_bd : ∀ j, j ≤ s.length → -65000000 ≤ anomSum s j ∧ anomSum s j ≤ 65000000 := by
    intro j hj
    unfold anomSum
    have a1 := known_sum_bd hs (s.take j) (fun x hx => List.mem_of_mem_take hx) (by simp; omega)
    have a2 := known_le (s.take j)
    have a3 : (s.take j).length ≤ 60 := by simp; omega
    have q1 : ((known s).length : Int) * (known (s.take j)).sum ≤ 60 * 540000 := by
      have := Int.mul_le_mul_of_nonneg_left a1.2 (show (0 : Int) ≤ ((known s).length : Int) by omega)
      have := Int.mul_le_mul_of_nonneg_right (show ((known s).length : Int) ≤ 60 by omega) (show (0 : Int) ≤ 540000 by omega)
      omega
    have q2 : -(60 * 540000) ≤ ((known s).length : Int) * (known (s.take j)).sum := by
      have := Int.mul_le_mul_of_nonneg_left a1.1 (show (0 : Int) ≤ ((known s).length : Int) by omega)
      have := Int.mul_le_mul_of_nonneg_right (show ((known s).length : Int) ≤ 60 by omega) (show (0 : Int) ≤ 540000 by omega)
      omega
    have q3 : (known s).sum * ((known (s.take j)).length : Int) ≤ 540000 * 60 := by
      have := Int.mul_le_mul_of_nonneg_right hS.2 (show (0 : Int) ≤ ((known (s.take j)).length : Int) by omega)
      omega
    have q4 : -(540000 * 60) ≤ (known s).sum * ((known (s.take j)).length : Int) := by
      have := Int.mul_le_mul_of_nonneg_right hS.1 (show (0 : Int) ≤ ((known (s.take j)).length : Int) by omega)
      omega
    omega
  have hgc : s.getD c 0 = s[c] := by simp [hc]
  have hgc' : s.getD c' 0 = s[c'] := by simp [hc']
  intro d
  induction d with
  | zero =>
    intro i hd hi
    have hil : i = s.length := by omega
    subst hil
    refine Ev.step (fun k => by rw [laws_FnSeries.l0]) ?_
    refine Ev.neg (by omega) ?_
    obtain ⟨rm, _, m2, m3⟩ := seriesMean s (by omega) 0 ((s.length : Int) - 1)
    have hrm : rm = meanF s := by
      rcases m3 with ⟨_, h⟩ | ⟨_, _, _, _, h⟩
      · exact absurd ⟨hs, by omega, by omega, by omega⟩ h
      · rw [h, show ((s.length : Int) - 1).toNat + 1 = s.length from by omega]; simp
    rw [w64 (x := (s.length : Int) - 1) (by omega) (by omega)]
    subst hrm
    have hne : known s ≠ [] := List.ne_nil_of_mem hmem
    have hmf : meanF s = ((lowest (known s).sum (known s).length).1, (lowest (known s).sum (known s).length).2, true) := by unfold meanF; rw [if_neg hne]
    rw [hmf] at m2
    refine Ev.bind m2 (Ev.pos rfl (Ev.pos rfl (Ev.pos rfl (Ev.pos rfl ?_))))
    have hz : anomSum s s.length = 0 := by
      unfold anomSum; rw [List.take_length, Int.mul_comm]; omega
    rw [hz]
    obtain ⟨r1, r2, r3⟩ := recs_last s hs c hH
    have hrl := recs_len s s.length
    refine Ev.pos rfl (Ev.neg r3 ?_)
    rw [w64 (x := ((recs s s.length).length : Int) - 1) (by omega) (by omega), r2]
    refine Ev.pos (by omega) (Ev.pos (by omega) (Ev.pos rfl ?_))
    obtain ⟨_, b1, b2, _, _, _, _, b3, b4, b5⟩ := lowest_mul (known s).sum ((known s).length : Int) (by omega)
    have hcb := cell_bd' (series_cell hs _ (List.getElem_mem hc)) h3
    have hcb' := cell_bd' (series_cell hs _ (List.getElem_mem hc')) g3
    have hup : (known s).sum ≤ s[c] * ((known s).length : Int) := by
      have : ∀ ks : List Int, (∀ x ∈ ks, x ≤ s[c]) → ks.sum ≤ s[c] * (ks.length : Int) := by
        intro ks
        induction ks with
        | nil => intro _; simp
        | cons x xs ih =>
          intro h
          have q := ih (fun y hy => h y (List.mem_cons_of_mem _ hy))
          have q2 := h x (List.mem_cons_self ..)
          rw [List.sum_cons, List.length_cons, Int.natCast_add, Int.mul_add]; simp only [Int.natCast_one, Int.mul_one]; omega
      refine this _ (fun x hx => ?_)
      obtain ⟨j, hj, e⟩ := List.getElem_of_mem (mem_known.1 hx).1
      have := h1 j hj
      omega
    have hlo : s[c'] * ((known s).length : Int) ≤ (known s).sum := by
      have : ∀ ks : List Int, (∀ x ∈ ks, s[c'] ≤ x) → s[c'] * (ks.length : Int) ≤ ks.sum := by
        intro ks
        induction ks with
        | nil => intro _; simp
        | cons x xs ih =>
          intro h
          have q := ih (fun y hy => h y (List.mem_cons_of_mem _ hy))
          have q2 := h x (List.mem_cons_self ..)
          rw [List.sum_cons, List.length_cons, Int.natCast_add, Int.mul_add]; simp only [Int.natCast_one, Int.mul_one]; omega
      refine this _ (fun x hx => ?_)
      obtain ⟨k1, k2⟩ := mem_known.1 hx
      obtain ⟨j, hj, e⟩ := List.getElem_of_mem k1
      have := g1 j hj (by omega)
      omega
    generalize (lowest (known s).sum ((known s).length : Int)).1 = M at b3 ⊢
    generalize (lowest (known s).sum ((known s).length : Int)).2 = D at b1 b2 b4 ⊢
    generalize (Int.gcd (known s).sum ((known s).length : Int) : Int) = g at b3 b4 b5
    generalize (known s).sum = S at b3 hup hlo
    have hn : ((known s).length : Int) ≤ 60 := by omega
    generalize ((known s).length : Int) = n at b4 hup hlo b2 hn
    subst b3
    subst b4
    rw [hgc, hgc']
    have u1 : M ≤ s[c] * D := by
      have : M * g ≤ (s[c] * D) * g := by rw [Int.mul_assoc]; exact hup
      exact Int.le_of_mul_le_mul_right this b5
    have u2 : s[c'] * D ≤ M := by
      have : (s[c'] * D) * g ≤ M * g := by rw [Int.mul_assoc]; exact hlo
      exact Int.le_of_mul_le_mul_right this b5
    have v1 : -(9000 * 60) ≤ s[c] * D ∧ s[c] * D ≤ 9000 * 60 := by
      have p1 := Int.mul_le_mul_of_nonneg_right hcb.1 (show (0 : Int) ≤ D by omega)
      have p2 := Int.mul_le_mul_of_nonneg_right hcb.2 (show (0 : Int) ≤ D by omega)
      omega
    have v2 : -(9000 * 60) ≤ s[c'] * D ∧ s[c'] * D ≤ 9000 * 60 := by
      have p1 := Int.mul_le_mul_of_nonneg_right hcb'.1 (show (0 : Int) ≤ D by omega)
      have p2 := Int.mul_le_mul_of_nonneg_right hcb'.2 (show (0 : Int) ≤ D by omega)
      omega
    rw [w64 (x := s[c] * D) (by omega) (by omega), w64 (x := s[c'] * D) (by omega) (by omega)]
    exact Ev.neg (by omega) (Ev.neg (by omega) hj3)
  | succ d ih =>
    intro i hd hi
    have hlt : i < s.length := by omega
    have e := ih (i + 1) (by omega) (by omega)
    have hst := anomSum_step s i hlt
    have bd1 := anom_bd i (by omega)
    have bd2 := anom_bd (i + 1) (by omega)
    refine Ev.step (fun k => by rw [laws_FnSeries.l0]) ?_
    refine Ev.pos (by omega) (Ev.pos (by omega) ?_)
    rw [rd_lt s i hlt, w64 (x := (i : Int) + 1) (by omega) (by omega), show (i : Int) + 1 = ((i + 1 : Nat) : Int) from by omega]
    by_cases hm : s[i] = -9999
    · refine Ev.pos hm ?_
      rw [if_pos hm] at hst
      rw [← hst]
      exact e
    · refine Ev.neg hm ?_
      rw [if_neg hm] at hst
      obtain ⟨ra, _, a2, _, a4⟩ := anomalyOf s (by omega) (i : Int)
      have ha := a4 hs i hlt rfl hm
      subst ha
      obtain ⟨q1, q2, q3, q4, q5, q6, q7, _, _, _⟩ := lowest_mul (s[i] * ((known s).length : Int) - (known s).sum) ((known s).length : Int) (by omega)
      refine Ev.bind a2 (Ev.pos rfl (Ev.neg q1 (Ev.pos q4 ?_)))
      have hst2 : anomSum s (i + 1) - anomSum s i = s[i] * ((known s).length : Int) - (known s).sum := by omega
      simp only [anomF]
      rw [w64 (x := Int.tdiv ((known s).length : Int) _) (by omega) (by omega), q7, w64 (x := s[i] * ((known s).length : Int) - (known s).sum) (by omega) (by omega), w64 (x := anomSum s i + (s[i] * ((known s).length : Int) - (known s).sum)) (by omega) (by omega), ← hst]
      exact e

theorem FnSeries : laws_FnSeries.Pure := by
  intro l0 _ _ hwf
  apply Ev.rounds
  have hc : Code l0 := code_of hwf
  unfold laws_FnSeries.f
  refine Ev.bindc (show laws_rBig.f l0 = some (decide ((l0.length : Int) > 65536)) from rfl) ?_
  refine Ev.cases (fun _ => Ev.now _) (fun _ => ?_)
  obtain ⟨s, hs, hsl⟩ := drawHighest hc
  obtain ⟨rh, h1, h2, h3⟩ := highestDay s (by omega)
  obtain ⟨rl, g1, g2, g3⟩ := lowestDay s (by omega)
  have hfo : rl.2.2 = rh.2.2 := by
    rcases h3 with ⟨e, h⟩ | ⟨c, hv, ⟨hc1, _, _, hne⟩, e⟩
    · rcases g3 with ⟨e', _⟩ | ⟨c', hv', ⟨hc', _, _, hne'⟩, e'⟩
      · rw [e, e']
      · have := h hv'
        have hm : s[c'] ∈ known s := mem_known.2 ⟨List.getElem_mem hc', hne'⟩
        rw [this] at hm; simp at hm
    · rcases g3 with ⟨e', h⟩ | ⟨c', _, _, e'⟩
      · have := h hv
        have hm : s[c] ∈ known s := mem_known.2 ⟨List.getElem_mem hc1, hne⟩
        rw [this] at hm; simp at hm
      · rw [e, e']
  have hj3 : Ev (fun k => laws_FnSeries.j3 k l0) true := by
    obtain ⟨t, x, y, hd, htl⟩ := drawMean hc
    obtain ⟨rm, m1, m2, _⟩ := seriesMean t (by omega) x y
    obtain ⟨u, z, hd2, hul⟩ := drawRank hc
    obtain ⟨rr, r1, r2, r3, _⟩ := rankOfDay u (by omega) z
    refine Ev.step (fun k => by rw [laws_FnSeries.j3]) ?_
    refine Ev.bind hd (Ev.bind m2 (Ev.bind m1 (Ev.pos rfl (Ev.pos rfl ?_))))
    refine Ev.step (fun k => by rw [laws_FnSeries.j4]) ?_
    refine Ev.neg (by simp) (Ev.bind hd2 (Ev.bind r2 (Ev.bind r1 (Ev.pos rfl (Ev.pos rfl (Ev.pos (by simp) ?_))))))
    rcases r3 with rfl | ⟨d, hd', hne, rfl⟩
    · exact Ev.neg (by simp) (Ev.now _)
    · refine Ev.pos rfl (Ev.const ?_)
      by_cases hv : seriesB u = true
      · have := above_lt u d hd' hne (fun x hx => (cell_bd (series_cell hv x hx)).1)
        rw [decide_eq_true (by simp only [rankF]; omega)]
      · exfalso
        have hn : Ev (fun k => spec_RankOfDay.f k u z) (0, 0, false) := by
          unfold spec_RankOfDay.f
          refine Ev.bind (l24Day u (by omega) z) (Ev.neg (by rw [Bool.eq_false_iff.mpr hv]; simp) ?_)
          refine Ev.step (fun k => by rw [spec_RankOfDay.j0]) ?_
          exact Ev.pos rfl (Ev.now _)
        have := Ev.uniq r1 hn
        simp [rankF] at this
  refine Ev.bind hs (Ev.bind h2 (Ev.bind g2 (Ev.bind h1 ?_)))
  refine Ev.pos rfl (Ev.pos rfl (Ev.neg (by simp) ?_))
  rw [show (rl.2.2 != rh.2.2) = false from by rw [hfo]; simp]
  refine Ev.step (fun k => by rw [laws_FnSeries.j0]) ?_
  refine Ev.neg (by simp) (Ev.bind g1 (Ev.pos rfl ?_))
  rw [show (rl.2.1 != rl.2.1) = false from by simp]
  refine Ev.step (fun k => by rw [laws_FnSeries.j1]) ?_
  refine Ev.neg (by simp) (Ev.cases (fun hok => ?_) (fun _ => hj3))
  rcases h3 with ⟨rfl, _⟩ | ⟨c, hv, hH, rfl⟩
  · simp at hok
  rcases g3 with ⟨rfl, _⟩ | ⟨c', _, hL, rfl⟩
  · simp at hfo
  obtain ⟨hc1, w1, w2, w3⟩ := id hH
  obtain ⟨rr, _, r2, _, r4⟩ := rankOfDay s (by omega) (c : Int)
  have hr := r4 hv c hc1 rfl w3
  subst hr
  have habove : above s[c] s = 0 := by
    unfold above
    rw [List.countP_eq_zero]
    intro x hx
    obtain ⟨j, hj, e⟩ := List.getElem_of_mem hx
    have := w1 j hj
    simp; omega
  refine Ev.bind r2 (Ev.bindc (show impl_RecordDays.f s = some (recs s s.length, true) by unfold impl_RecordDays.f; rw [if_pos hv]) ?_)
  have := FnSeries_loop l0 s hv c c' hH hL hj3 _ 0 rfl (by omega)
  simp only [rankF]
  rw [habove]
  have hz : anomSum s 0 = 0 := by unfold anomSum; simp [known]
  rw [hz] at this
  exact this
end Go.Proofs.Ytdhdifoenladpaa.Pure
