/- Lowered and raised fields keep the slope, and a field that keeps it is not changed. Conditions: none beyond the given statement's. -/
import Derived.Test.YtdmkbfjipgaloaaPx0
import Derived.Test.YtdmkbfjipgaloaaPx16
import Derived.Test.YtdmkbfjipgaloaaPx18
import Derived.Test.YtdmkbfjipgaloaaPx30
import Derived.Test.YtdmkbfjipgaloaaPx29
import Derived.Test.YtdmkbfjipgaloaaPx7
import Derived.Test.YtdmkbfjipgaloaaPx4
import Derived.Test.YtdmkbfjipgaloaaPx9
import Derived.Test.YtdmkbfjipgaloaaPx6
import Derived.Test.YtdmkbfjipgaloaaPx10
import Derived.Test.YtdmkbfjipgaloaaPx20
import Derived.Test.YtdmkbfjipgaloaaPx11
import Derived.Test.YtdmkbfjipgaloaaPx13
import Derived.Test.YtdmkbfjipgaloaaPx12
import Derived.Test.YtdmkbfjipgaloaaPx14
import Derived.Test.YtdmkbfjipgaloaaPx15
import Derived.Test.YtdmkbfjipgaloaaPx31
/- Small laws on "with enough rounds the function answers r" (Ev) and on wrapping sums; used by every plain law of this seat. -/
namespace Go.Proofs.Ytdmkbfjipgaloaa.Pure
open Go.RowKit Go.Proofs.YtdmkbfjipgaloaaW.PrintWords Go.Proofs.YtdmkbfjipgaloaaW.PrintLast

section
variable {α β : Type} {r : α} {f g : Nat → Option α}
theorem Ev.pos {c : Prop} [Decidable c] (h : c) (e : Ev f r) : Ev (fun k => if c then f k else g k) r := e.congr fun _ => if_pos h
theorem Ev.neg {c : Prop} [Decidable c] (h : ¬ c) (e : Ev g r) : Ev (fun k => if c then f k else g k) r := e.congr fun _ => if_neg h
theorem Ev.const {a : Option α} (h : a = some r) : Ev (fun _ => a) r := ⟨0, fun _ _ => h⟩
theorem Ev.bindc {a : Option β} {b : β} {f : Nat → β → Option α} (h : a = some b) (k : Ev (fun n => f n b) r) : Ev (fun n => a.bind (f n)) r := Ev.bind (Ev.const h) k
theorem Ev.eq {r' : α} (h : Ev f r) (e : r = r') : Ev f r' := e ▸ h
theorem Ev.cases {c : Prop} [Decidable c] (h1 : c → Ev f r) (h2 : ¬ c → Ev g r) : Ev (fun k => if c then f k else g k) r := by
  by_cases h : c
  · exact Ev.pos h (h1 h)
  · exact Ev.neg h (h2 h)
end

theorem w64 {x : Int} (h1 : -9223372036854775808 ≤ x) (h2 : x ≤ 9223372036854775807) : wrap64 x = x := by unfold wrap64; omega

theorem rd_nat (l : List Int) (i : Nat) : rd l (i : Int) = l.getD i 0 := by simp [rd]
theorem rd_lt (l : List Int) (i : Nat) (h : i < l.length) : rd l (i : Int) = l[i] := by simp [rd, h]
theorem drop_cons' {α : Type} (l : List α) (i : Nat) (h : i < l.length) : l.drop i = l[i] :: l.drop (i + 1) := List.drop_eq_getElem_cons h
end Go.Proofs.Ytdmkbfjipgaloaa.Pure

/- The reader of choices: it always gives a choice in its range and goes on by a bounded step. -/
namespace Go.Proofs.Ytdmkbfjipgaloaa.Pure
open Go.RowKit Go.Proofs.Ytdmkbfjipgaloaa.P Go.Proofs.YtdmkbfjipgaloaaW.PrintWords Go.Proofs.YtdmkbfjipgaloaaW.PrintLast

/-- The bytes that are read. -/
def Code (l : List Int) : Prop := ∀ x ∈ l, 0 ≤ x ∧ x ≤ 255
theorem code_of {l : List Int} (h : ∀ x ∈ l, (Lit.int .u8 x).wf = true) : Code l := fun x hx => by
  have := h x hx
  simp only [Lit.wf, Bool.and_eq_true, decide_eq_true_eq] at this
  exact this
theorem rd_code {l : List Int} (h : Code l) (i : Int) (h0 : 0 ≤ i) (h1 : i < l.length) : 0 ≤ rd l i ∧ rd l i ≤ 255 := by
  obtain ⟨n, rfl⟩ : ∃ n : Nat, i = n := ⟨i.toNat, by omega⟩
  rw [rd_lt l n (by omega)]
  exact h _ (List.getElem_mem (by omega))
theorem wrap_u64' (n : Int) : IntKind.u64.wrap n = n % 18446744073709551616 := by simp [IntKind.wrap, IntKind.bits, IntKind.signed]
theorem byte_of (n : Int) : 0 ≤ Go.bits .and .u64 (IntKind.u64.wrap n / 1099511627776) 255 ∧ Go.bits .and .u64 (IntKind.u64.wrap n / 1099511627776) 255 ≤ 255 := by
  rw [wrap_u64']
  have h := bits_mask .u64 24 (by decide) (fun n h0 h1 => by rw [wrap_u64']; omega) 8 (by decide) (n % 18446744073709551616 / 1099511627776) (by omega) (by omega)
  simp only [show ((2 : Int) ^ 8) = 256 from by decide, show ((256 : Int) - 1) = 255 from by decide] at h
  rw [h]; omega

/-- Where the reader stands: not far from the begin. -/
def At (a : Int) (n : Nat) : Prop := 0 ≤ a ∧ a ≤ n ∧ n ≤ 1000000000
theorem At.le {a : Int} {n m : Nat} (h : At a n) (hn : n ≤ m) (hm : m ≤ 1000000000) : At a m := ⟨h.1, by have := h.2.1; omega, hm⟩

theorem next_ok {l : List Int} (hc : Code l) {a s : Int} {n : Nat} (h : At a n) (hn : n + 1 ≤ 1000000000) : ∃ b a' s', spec_l1Cur_next.f l a s = some (b, a', s') ∧ 0 ≤ b ∧ b ≤ 255 ∧ At a' (n + 1) := by
  obtain ⟨h0, h1, h2⟩ := h
  have hw : wrap64 (a + 1) = a + 1 := w64 (by omega) (by omega)
  have ha : At (a + 1) (n + 1) := ⟨by omega, by omega, hn⟩
  unfold spec_l1Cur_next.f
  rw [hw]
  by_cases c1 : a < (l.length : Int)
  · have hr := rd_code hc a h0 c1
    rw [if_pos c1, if_pos h0, if_pos (by omega), w64 (x := rd l a) (by omega) (by omega)]
    exact ⟨_, _, _, rfl, hr.1, hr.2, ha⟩
  · rw [if_neg c1, if_neg (by omega)]
    have hb := byte_of (IntKind.u64.wrap (IntKind.u64.wrap (s * 6364136223846793005) + 0) + 889889)
    rw [w64 (x := Go.bits .and .u64 _ 255) (by omega) (by omega)]
    exact ⟨_, _, _, rfl, hb.1, hb.2, ha⟩
theorem pick_ok {l : List Int} (hc : Code l) {a s : Int} {n : Nat} (h : At a n) (hn : n + 2 ≤ 1000000000) (m : Int) (hm : m ≤ 1000000) : ∃ b a' s', spec_l1Cur_pick.f l a s m = some (b, a', s') ∧ 0 ≤ b ∧ (b < m ∨ b = 0) ∧ At a' (n + 2) := by
  unfold spec_l1Cur_pick.f
  by_cases c : m ≤ 1
  · rw [if_pos c]; exact ⟨_, _, _, rfl, by omega, .inr rfl, h.le (by omega) hn⟩
  · rw [if_neg c]
    obtain ⟨b, a', s', e, hb0, hb1, h'⟩ := next_ok hc (s := s) h (by omega)
    rw [e]
    simp only [Option.bind_some]
    by_cases c2 : m > 200
    · rw [if_pos c2]
      obtain ⟨b2, a2, s2, e2, hc0, hc1, h2⟩ := next_ok hc (s := s') h' (by omega)
      rw [e2]
      simp only [Option.bind_some]
      rw [if_neg (by omega), w64 (x := b * 256) (by omega) (by omega), w64 (x := b * 256 + b2) (by omega) (by omega)]
      refine ⟨_, _, _, rfl, Int.tmod_nonneg _ (by omega), .inl (Int.tmod_lt_of_pos _ (by omega)), h2.le (by omega) (by omega)⟩
    · rw [if_neg c2, if_neg (by omega)]
      exact ⟨_, _, _, rfl, Int.tmod_nonneg _ hb0, .inl (Int.tmod_lt_of_pos _ (by omega)), h'.le (by omega) (by omega)⟩
theorem one_ok {l : List Int} (hc : Code l) {a s : Int} {n : Nat} (h : At a n) (hn : n + 2 ≤ 1000000000) (m : Int) (hm : m ≤ 1000000) : ∃ b a' s', spec_l1Cur_one.f l a s m = some (b, a', s') ∧ At a' (n + 2) := by
  unfold spec_l1Cur_one.f
  obtain ⟨b, a', s', e, _, _, h'⟩ := pick_ok hc (s := s) h hn m hm
  rw [e]
  exact ⟨_, _, _, rfl, h'⟩
end Go.Proofs.Ytdmkbfjipgaloaa.Pure

/- The reader of choices: one of some numbers. -/
namespace Go.Proofs.Ytdmkbfjipgaloaa.Pure
open Go.RowKit Go.Proofs.Ytdmkbfjipgaloaa.P Go.Proofs.YtdmkbfjipgaloaaW.PrintWords Go.Proofs.YtdmkbfjipgaloaaW.PrintLast

theorem among_ok {l : List Int} (hc : Code l) {a s : Int} {n : Nat} (h : At a n) (hn : n + 2 ≤ 1000000000) (xs : List Int) (hx : xs ≠ []) (hm : xs.length ≤ 1000000) : ∃ b a' s', spec_l1Cur_among.f l a s xs = some (b, a', s') ∧ b ∈ xs ∧ At a' (n + 2) := by
  unfold spec_l1Cur_among.f
  obtain ⟨b, a', s', e, h0, h1, h'⟩ := pick_ok hc (s := s) h hn (xs.length : Int) (by omega)
  have hp := List.length_pos_iff.2 hx
  rw [e]
  simp only [Option.bind_some]
  obtain ⟨j, rfl⟩ : ∃ j : Nat, b = j := ⟨b.toNat, by omega⟩
  rw [if_pos h0, if_pos (by omega), rd_lt xs j (by omega)]
  exact ⟨_, _, _, rfl, List.getElem_mem (by omega), h'⟩
end Go.Proofs.Ytdmkbfjipgaloaa.Pure

/- The drawn field without missing cells and its slope. -/
namespace Go.Proofs.Ytdmkbfjipgaloaa.Pure
open Go.RowKit Go.Proofs.Ytdmkbfjipgaloaa.P Go.Proofs.YtdmkbfjipgaloaaW.PrintWords Go.Proofs.YtdmkbfjipgaloaaW.PrintLast

theorem l2Fill88 : ∀ (d i : Nat) (x : List Int), 64 - i = d → i ≤ 64 → x.length = i → ∃ r, r.length = 64 ∧ Ev (fun k => spec_l2Fill.l0 k 8 8 3 (i : Int) 8 8 x) (8, 8, r) := by
  intro d
  induction d with
  | zero =>
    intro i x hd hi hx
    exact ⟨x, by omega, Ev.step (fun k => by rw [spec_l2Fill.l0]) (Ev.neg (by rw [w64 (by omega) (by omega)]; omega) (Ev.now _))⟩
  | succ d ih =>
    intro i x hd hi hx
    obtain ⟨r, hr, e⟩ := ih (i + 1) (x ++ [3]) (by omega) (by omega) (by simp; omega)
    refine ⟨r, hr, Ev.step (fun k => by rw [spec_l2Fill.l0]) (Ev.pos (by rw [w64 (by omega) (by omega)]; omega) (Ev.pos (by omega) ?_))⟩
    rw [w64 (by omega) (by omega), show (i : Int) + 1 = ((i + 1 : Nat) : Int) from by omega]
    exact e
theorem field_j1 {l : List Int} (hc : Code l) {a s : Int} {n : Nat} (h : At a n) (hn : n ≤ 700000000) (p q : Int) (x : List Int) (hx : 1 ≤ x.length ∧ x.length ≤ 64) :
    ∃ p' q' r a' s', Ev (fun k => spec_l1Cur_field.j1 k l a s p q x) (p', q', r, a', s') ∧ (1 ≤ r.length ∧ r.length ≤ 64) ∧ At a' (n + 10) := by
  obtain ⟨b, a1, s1, e1, h1⟩ := one_ok hc (s := s) h (by omega) 24 (by omega)
  cases b with
  | true =>
    obtain ⟨r, hr, e⟩ := l2Fill88 64 0 [] rfl (by omega) rfl
    refine ⟨8, 8, r, a1, s1, ?_, by omega, h1.le (by omega) (by omega)⟩
    refine Ev.step (fun k => by rw [spec_l1Cur_field.j1]) ?_
    refine Ev.bindc e1 (Ev.pos rfl ?_)
    refine Ev.bind (a := (8, 8, r)) ?_ (Ev.now _)
    unfold spec_l2Fill.f
    exact e
  | false =>
    refine ⟨p, q, x, a1, s1, ?_, hx, h1.le (by omega) (by omega)⟩
    refine Ev.step (fun k => by rw [spec_l1Cur_field.j1]) ?_
    exact Ev.bindc e1 (Ev.neg (by simp) (Ev.now _))
theorem field_l0 {l : List Int} (hc : Code l) (base p q : Int) (m : Nat) (hm : wrap64 (p * q) = (m : Int)) (hm1 : 1 ≤ m ∧ m ≤ 64) : ∀ (d i : Nat) (x : List Int) (a s : Int) (n : Nat), m - i = d → i ≤ m → x.length = i → At a n → n ≤ 600000000 + 8 * i →
    ∃ p' q' r a' s', Ev (fun k => spec_l1Cur_field.l0 k base (i : Int) l a s p q x) (p', q', r, a', s') ∧ (1 ≤ r.length ∧ r.length ≤ 64) ∧ At a' (n + 8 * d + 30) := by
  intro d
  induction d with
  | zero =>
    intro i x a s n hd hi hx h hn
    obtain ⟨b, a1, s1, e1, h1⟩ := one_ok hc (s := s) h (by omega) 10 (by omega)
    cases b with
    | true =>
      obtain ⟨b2, a2, s2, e2, hb0, hb1, h2⟩ := pick_ok hc (s := s1) h1 (by omega) (x.length : Int) (by omega)
      obtain ⟨b3, a3, s3, e3, _, h3⟩ := among_ok hc (s := s2) h2 (by omega) [9000, (-9000), 0] (by simp) (by simp)
      obtain ⟨p', q', r, a', s', e4, hr, h4⟩ := field_j1 hc (s := s3) h3 (by omega) p q (x.set b2.toNat b3) (by simp; omega)
      refine ⟨p', q', r, a', s', ?_, hr, h4.le (by omega) (by omega)⟩
      refine Ev.step (fun k => by rw [spec_l1Cur_field.l0]) ?_
      exact Ev.neg (by omega) (Ev.bindc e1 (Ev.pos rfl (Ev.bindc e2 (Ev.bindc e3 (Ev.pos hb0 (Ev.pos (by simp only; omega) e4))))))
    | false =>
      obtain ⟨p', q', r, a', s', e4, hr, h4⟩ := field_j1 hc (s := s1) h1 (by omega) p q x (by omega)
      refine ⟨p', q', r, a', s', ?_, hr, h4.le (by omega) (by omega)⟩
      refine Ev.step (fun k => by rw [spec_l1Cur_field.l0]) ?_
      exact Ev.neg (by omega) (Ev.bindc e1 (Ev.neg (by simp) e4))
  | succ d ih =>
    intro i x a s n hd hi hx h hn
    obtain ⟨b, a1, s1, e1, hb0, hb1, h1⟩ := pick_ok hc (s := s) h (by omega) 40 (by omega)
    obtain ⟨c, a2, s2, e2, h2⟩ := one_ok hc (s := s1) h1 (by omega) 12 (by omega)
    cases c with
    | true =>
      obtain ⟨p', q', r, a', s', e4, hr, h4⟩ := ih (i + 1) (x ++ [-9999]) a2 s2 _ (by omega) (by omega) (by simp; omega) h2 (by omega)
      refine ⟨p', q', r, a', s', ?_, hr, h4.le (by omega) (by omega)⟩
      refine Ev.step (fun k => by rw [spec_l1Cur_field.l0]) ?_
      refine Ev.pos (by omega) (Ev.bindc e1 (Ev.bindc e2 (Ev.pos rfl (Ev.pos (by omega) ?_))))
      rw [w64 (by omega) (by omega), show (i : Int) + 1 = ((i + 1 : Nat) : Int) from by omega]
      exact e4
    | false =>
      obtain ⟨p', q', r, a', s', e4, hr, h4⟩ := ih (i + 1) (x ++ [wrap64 (base + b)]) a2 s2 _ (by omega) (by omega) (by simp; omega) h2 (by omega)
      refine ⟨p', q', r, a', s', ?_, hr, h4.le (by omega) (by omega)⟩
      refine Ev.step (fun k => by rw [spec_l1Cur_field.l0]) ?_
      refine Ev.pos (by omega) (Ev.bindc e1 (Ev.bindc e2 (Ev.neg (by simp) (Ev.pos (by omega) ?_))))
      rw [w64 (x := (i : Int) + 1) (by omega) (by omega), show (i : Int) + 1 = ((i + 1 : Nat) : Int) from by omega]
      exact e4
theorem field_ok {l : List Int} (hc : Code l) {a s : Int} {n : Nat} (h : At a n) (hn : n ≤ 500000000) : ∃ p q r a' s', Ev (fun k => spec_l1Cur_field.f k l a s) (p, q, r, a', s') ∧ (1 ≤ r.length ∧ r.length ≤ 64) ∧ At a' (n + 1000) := by
  obtain ⟨b, a1, s1, e1, hb0, hb1, h1⟩ := pick_ok hc (s := s) h (by omega) 5 (by omega)
  obtain ⟨c, a2, s2, e2, hc0, hc1, h2⟩ := pick_ok hc (s := s1) h1 (by omega) 5 (by omega)
  obtain ⟨g, a3, s3, e3, _, h3⟩ := among_ok hc (s := s2) h2 (by omega) [0, 10, 100, (-50)] (by simp) (by simp)
  obtain ⟨b', rfl⟩ : ∃ j : Nat, b = j := ⟨b.toNat, by omega⟩
  obtain ⟨c', rfl⟩ : ∃ j : Nat, c = j := ⟨c.toNat, by omega⟩
  have hmul : 1 ≤ (1 + b') * (1 + c') ∧ (1 + b') * (1 + c') ≤ 25 :=
    ⟨Nat.mul_pos (by omega) (by omega), Nat.mul_le_mul (show 1 + b' ≤ 5 by omega) (show 1 + c' ≤ 5 by omega)⟩
  obtain ⟨p', q', r, a', s', e4, hr, h4⟩ := field_l0 hc g (1 + (b' : Int)) (1 + (c' : Int)) ((1 + b') * (1 + c')) (by
    rw [show (1 + (b' : Int)) * (1 + (c' : Int)) = (((1 + b') * (1 + c') : Nat) : Int) from by push_cast; rfl, w64 (by omega) (by omega)]) (by omega) _ 0 [] a3 s3 _ rfl (by omega) rfl h3 (by omega)
  refine ⟨p', q', r, a', s', ?_, hr, h4.le (by omega) (by omega)⟩
  unfold spec_l1Cur_field.f
  refine Ev.bindc e1 (Ev.bindc e2 (Ev.bindc e3 ?_))
  simp only
  rw [w64 (x := 1 + (b' : Int)) (by omega) (by omega), w64 (x := 1 + (c' : Int)) (by omega) (by omega)]
  exact e4
theorem anyField_ok {l : List Int} (hc : Code l) {a s : Int} {n : Nat} (h : At a n) (hn : n ≤ 400000000) : ∃ p q r a' s', Ev (fun k => spec_l1Cur_anyField.f k l a s) (p, q, r, a', s') ∧ r.length ≤ 64 ∧ At a' (n + 1010) := by
  obtain ⟨p, q, r, a1, s1, e1, hr, h1⟩ := field_ok hc (s := s) h (by omega)
  obtain ⟨b, a2, s2, e2, hb0, hb1, h2⟩ := pick_ok hc (s := s1) h1 (by omega) 24 (by omega)
  by_cases c0 : b = 0
  · obtain ⟨g, a3, s3, e3, _, h3⟩ := among_ok hc (s := s2) h2 (by omega) [0, 9, 8, q] (by simp) (by simp)
    refine ⟨g, q, r, a3, s3, ?_, hr.2, h3.le (by omega) (by omega)⟩
    unfold spec_l1Cur_anyField.f
    exact Ev.bind e1 (Ev.bindc e2 (Ev.pos c0 (Ev.bindc e3 (Ev.now _))))
  · by_cases c1 : b = 1
    · obtain ⟨c, a3, s3, e3, hc0, hc1, h3⟩ := pick_ok hc (s := s2) h2 (by omega) (r.length : Int) (by omega)
      obtain ⟨g, a4, s4, e4, _, h4⟩ := among_ok hc (s := s3) h3 (by omega) [9001, (-9001), (-9998), (-9999)] (by simp) (by simp)
      refine ⟨p, q, r.set c.toNat g, a4, s4, ?_, by simp; omega, h4.le (by omega) (by omega)⟩
      unfold spec_l1Cur_anyField.f
      exact Ev.bind e1 (Ev.bindc e2 (Ev.neg c0 (Ev.pos c1 (Ev.bindc e3 (Ev.bindc e4 (Ev.pos hc0 (Ev.pos (by simp only; omega) (Ev.now _))))))))
    · by_cases c2 : b = 2
      · refine ⟨p, q, r.drop (1 : Int).toNat, a2, s2, ?_, by simp; omega, h2.le (by omega) (by omega)⟩
        unfold spec_l1Cur_anyField.f
        exact Ev.bind e1 (Ev.bindc e2 (Ev.neg c0 (Ev.neg c1 (Ev.pos c2 (Ev.pos (by simp only; omega) (Ev.now _))))))
      · refine ⟨p, q, r, a2, s2, ?_, hr.2, h2.le (by omega) (by omega)⟩
        unfold spec_l1Cur_anyField.f
        exact Ev.bind e1 (Ev.bindc e2 (Ev.neg c0 (Ev.neg c1 (Ev.neg c2 (Ev.now _)))))
theorem full_l0 {l : List Int} (hc : Code l) (p q : Int) : ∀ (d i : Nat) (x : List Int) (a s : Int) (n : Nat), x.length - i = d → i ≤ x.length → x.length ≤ 64 → At a n → n ≤ 500000000 + 8 * i →
    ∃ r a' s', Ev (fun k => spec_l1Cur_full.l0 k (i : Int) l a s p q x) (p, q, r, a', s') ∧ r.length ≤ 64 ∧ At a' (n + 8 * d) := by
  intro d
  induction d with
  | zero =>
    intro i x a s n hd hi hx h hn
    exact ⟨x, a, s, Ev.step (fun k => by rw [spec_l1Cur_full.l0]) (Ev.neg (by omega) (Ev.now _)), hx, h.le (by omega) (by omega)⟩
  | succ d ih =>
    intro i x a s n hd hi hx h hn
    by_cases c : rd x (i : Int) = -9999
    · obtain ⟨b, a1, s1, e1, h1⟩ := one_ok hc (s := s) h (by omega) 30 (by omega)
      cases b with
      | true =>
        obtain ⟨r, a', s', e4, hr, h4⟩ := ih (i + 1) x a1 s1 _ (by omega) (by omega) hx h1 (by omega)
        refine ⟨r, a', s', ?_, hr, h4.le (by omega) (by omega)⟩
        refine Ev.step (fun k => by rw [spec_l1Cur_full.l0]) ?_
        refine Ev.pos (by omega) (Ev.pos (by omega) (Ev.pos c (Ev.bindc e1 (Ev.pos rfl ?_))))
        rw [w64 (by omega) (by omega), show (i : Int) + 1 = ((i + 1 : Nat) : Int) from by omega]
        exact e4
      | false =>
        obtain ⟨g, a2, s2, e2, _, _, h2⟩ := pick_ok hc (s := s1) h1 (by omega) 90 (by omega)
        obtain ⟨r, a', s', e4, hr, h4⟩ := ih (i + 1) (x.set i (wrap64 (g - 40))) a2 s2 _ (by simp; omega) (by simp; omega) (by simpa using hx) h2 (by omega)
        refine ⟨r, a', s', ?_, hr, h4.le (by omega) (by omega)⟩
        refine Ev.step (fun k => by rw [spec_l1Cur_full.l0]) ?_
        refine Ev.pos (by omega) (Ev.pos (by omega) (Ev.pos c (Ev.bindc e1 (Ev.neg (by simp) (Ev.bindc e2 ?_)))))
        rw [w64 (x := (i : Int) + 1) (by omega) (by omega), show (i : Int) + 1 = ((i + 1 : Nat) : Int) from by omega, Int.toNat_natCast]
        exact e4
    · obtain ⟨r, a', s', e4, hr, h4⟩ := ih (i + 1) x a s n (by omega) (by omega) hx h (by omega)
      refine ⟨r, a', s', ?_, hr, h4.le (by omega) (by omega)⟩
      refine Ev.step (fun k => by rw [spec_l1Cur_full.l0]) ?_
      refine Ev.pos (by omega) (Ev.pos (by omega) (Ev.neg c ?_))
      rw [w64 (by omega) (by omega), show (i : Int) + 1 = ((i + 1 : Nat) : Int) from by omega]
      exact e4
theorem full_ok {l : List Int} (hc : Code l) {a s : Int} {n : Nat} (h : At a n) (hn : n ≤ 300000000) : ∃ p q r a' s', Ev (fun k => spec_l1Cur_full.f k l a s) (p, q, r, a', s') ∧ r.length ≤ 64 ∧ At a' (n + 1600) := by
  obtain ⟨p, q, r, a1, s1, e1, hr, h1⟩ := anyField_ok hc (s := s) h (by omega)
  obtain ⟨r2, a', s', e2, hr2, h2⟩ := full_l0 hc p q _ 0 r a1 s1 _ rfl (by omega) hr h1 (by omega)
  refine ⟨p, q, r2, a', s', ?_, hr2, h2.le (by omega) (by omega)⟩
  unfold spec_l1Cur_full.f
  exact Ev.bind e1 e2
theorem drawLower {l : List Int} (hc : Code l) : ∃ p q r v, Ev (fun k => spec_DrawLowerSlopes.f k l) (p, q, r, v) ∧ r.length ≤ 64 := by
  obtain ⟨p, q, r, a1, s1, e1, hr, h1⟩ := full_ok hc (s := 0) (a := 0) (n := 0) ⟨by omega, by omega, by omega⟩ (by omega)
  obtain ⟨g, a2, s2, e2, _, h2⟩ := among_ok hc (s := s1) h1 (by omega) [0, 1, 3, 5, 10, 20, 1000, 1001, (-1)] (by simp) (by simp)
  refine ⟨p, q, r, g, ?_, hr⟩
  unfold spec_DrawLowerSlopes.f
  exact Ev.bindc (b := (l, 0, 0)) rfl (Ev.bind e1 (Ev.bindc e2 (Ev.now _)))
end Go.Proofs.Ytdmkbfjipgaloaa.Pure

/- The laws' own helpers on lists of integers: a copy, an equality, marks and their check. -/
namespace Go.Proofs.Ytdmkbfjipgaloaa.Pure
open Go.RowKit Go.Proofs.Ytdmkbfjipgaloaa.P Go.Proofs.YtdmkbfjipgaloaaW.PrintWords Go.Proofs.YtdmkbfjipgaloaaW.PrintLast

end Go.Proofs.Ytdmkbfjipgaloaa.Pure

/- Fields and regions: the program's tests and the reference's are the same. -/
namespace Go.Proofs.Ytdmkbfjipgaloaa.Pure
open Go.RowKit Go.Proofs.Ytdmkbfjipgaloaa.P Go.Proofs.YtdmkbfjipgaloaaW.PrintWords Go.Proofs.YtdmkbfjipgaloaaW.PrintLast

theorem l1In_f (x a b : Int) : spec_l1In.f x a b = some (decide (a ≤ x) && decide (x ≤ b)) := by
  unfold spec_l1In.f
  by_cases h : x ≥ a
  · simp [h]
  · simp [h]
theorem within_f (x a b : Int) : impl_within.f x a b = some (decide (a ≤ x) && decide (x ≤ b)) := by
  unfold impl_within.f
  by_cases h : x ≥ a
  · simp [h]
  · simp [h]
theorem l2Shape_f (a b : Int) : spec_l2Shape.f a b = some (sideB a && sideB b) := by
  unfold spec_l2Shape.f sideB
  rw [l1In_f, l1In_f]
  cases h : (decide (1 ≤ a) && decide (a ≤ 8)) <;> simp
theorem l2Value_f (n : Int) : spec_l2Value.f n = some (cellB n) := by
  unfold spec_l2Value.f cellB
  rw [l1In_f]
  by_cases h : n = -9999
  · simp [h]
  · simp [h]
theorem isValidField_f (a b : Int) (l : List Int) : impl_IsValidField.f a b l = some (fieldB a b l) := rfl
theorem fieldB_len {a b : Int} {l : List Int} (h : fieldB a b l = true) : (l.length : Int) = a * b ∧ sideB a = true ∧ sideB b = true ∧ l.all cellB = true ∧ l.length ≤ 64 ∧ 1 ≤ l.length := by
  simp only [fieldB, Bool.and_eq_true] at h
  obtain ⟨⟨h1, h2⟩, h3, h4⟩ := h
  have h5 := side_mul h1 h2
  have h6 : (l.length : Int) = a * b := by simpa using h3
  exact ⟨h6, h1, h2, h4, by omega, by omega⟩

theorem l2Good_l0 (a b : Int) (l : List Int) (hl : l.length ≤ 1048576) : ∀ (d i : Nat), l.length - i = d → i ≤ l.length →
    Ev (fun k => spec_l2Good.l0 k (i : Int) a b l) ((l.drop i).all cellB) := by
  intro d
  induction d with
  | zero =>
    intro i hd hi
    refine Ev.step (fun k => by rw [spec_l2Good.l0]) ?_
    refine Ev.neg (by omega) (Ev.const ?_)
    rw [List.drop_of_length_le (by omega)]; rfl
  | succ d ih =>
    intro i hd hi
    refine Ev.step (fun k => by rw [spec_l2Good.l0]) ?_
    refine Ev.pos (by omega) (Ev.pos (by omega) ?_)
    have e := ih (i + 1) (by omega) (by omega)
    rw [w64 (by omega) (by omega), show (i : Int) + 1 = ((i + 1 : Nat) : Int) from by omega, rd_lt l i (by omega), drop_cons' l i (by omega), List.all_cons]
    refine Ev.bindc (l2Value_f _) ?_
    refine Ev.cases (fun h => ?_) (fun h => ?_)
    · exact Ev.eq e (by rw [h, Bool.true_and])
    · exact Ev.const (by rw [Bool.eq_false_iff.mpr h, Bool.false_and])
theorem l2Good (a b : Int) (l : List Int) (hl : l.length ≤ 1048576) : Ev (fun k => spec_l2Good.f k a b l) (fieldB a b l) := by
  unfold spec_l2Good.f
  refine Ev.bindc (l2Shape_f a b) ?_
  refine Ev.cases (fun h => ?_) (fun h => ?_)
  · simp only [Bool.and_eq_true] at h
    have h5 := side_mul h.1 h.2
    rw [w64 (by omega) (by omega)]
    refine Ev.step (fun k => by rw [spec_l2Good.j0]) ?_
    refine Ev.cases (fun h2 => ?_) (fun h2 => ?_)
    · refine Ev.const ?_
      have : ((l.length : Int) == a * b) = false := by simpa using h2
      simp [fieldB, this]
    · have h3 : ((l.length : Int) == a * b) = true := by simpa using h2
      refine Ev.eq (l2Good_l0 a b l hl _ 0 rfl (by omega)) ?_
      simp [fieldB, h.1, h.2, h3]
  · refine Ev.step (fun k => by rw [spec_l2Good.j0]) ?_
    refine Ev.pos rfl (Ev.const ?_)
    rw [fieldB, Bool.eq_false_iff.mpr h, Bool.false_and]

def inB (lo hi x : Int) : Bool := decide (lo ≤ x) && decide (x ≤ hi)
end Go.Proofs.Ytdmkbfjipgaloaa.Pure

/- The laws' marks on a list of integers and their check. -/
namespace Go.Proofs.Ytdmkbfjipgaloaa.Pure
open Go.RowKit Go.Proofs.Ytdmkbfjipgaloaa.P Go.Proofs.YtdmkbfjipgaloaaW.PrintWords Go.Proofs.YtdmkbfjipgaloaaW.PrintLast

/-- The marks a, a + 1, .. -/
def iota (a : Int) : Nat → List Int
  | 0 => []
  | n + 1 => a :: iota (a + 1) n
theorem iota_length : ∀ (n : Nat) (a : Int), (iota a n).length = n
  | 0, _ => rfl
  | n + 1, a => by simp [iota, iota_length n]
theorem iota_get : ∀ (n : Nat) (a : Int) (i : Nat) (h : i < (iota a n).length), (iota a n)[i] = a + i
  | 0, _, i, h => by simp [iota] at h
  | n + 1, a, 0, _ => by simp [iota]
  | n + 1, a, i + 1, h => by
    simp only [iota, List.getElem_cons_succ]
    rw [iota_get n (a + 1) i (by simpa [iota] using h)]; omega
theorem held_l0 (n : Nat) (a : Int) (ha : 0 ≤ a) (hb : a + n ≤ 4611686018427387904) : ∀ (d i : Nat), n - i = d → i ≤ n →
    Ev (fun k => laws_heldIntS.l0 k (iota a n) (a + i) (i : Int)) (a + n) := by
  intro d
  induction d with
  | zero =>
    intro i hd hi
    refine Ev.step (fun k => by rw [laws_heldIntS.l0]) (Ev.neg (by rw [iota_length]; omega) (Ev.const ?_))
    rw [show i = n from by omega]
  | succ d ih =>
    intro i hd hi
    refine Ev.step (fun k => by rw [laws_heldIntS.l0]) (Ev.pos (by rw [iota_length]; omega) (Ev.pos (by omega) ?_))
    rw [rd_lt _ i (by rw [iota_length]; omega), iota_get]
    refine Ev.pos rfl ?_
    rw [w64 (x := a + i + 1) (by omega) (by omega), w64 (by omega) (by omega), show (i : Int) + 1 = ((i + 1 : Nat) : Int) from by omega, show a + (i : Int) + 1 = a + ((i + 1 : Nat) : Int) from by omega]
    exact ih (i + 1) (by omega) (by omega)
theorem held (n : Nat) (hb : n ≤ 2305843009213693952) : Ev (fun k => laws_heldIntS.f k (iota 1 n) 1) (1 + (n : Int)) := by
  unfold laws_heldIntS.f
  exact Ev.eq (held_l0 n 1 (by omega) (by omega) _ 0 rfl (by omega)) (by simp)
end Go.Proofs.Ytdmkbfjipgaloaa.Pure

/- Edited fields: the program's loop over a region with a function, and the reference's loop with a value; copies; what the laws do to a field. -/
namespace Go.Proofs.Ytdmkbfjipgaloaa.Pure
open Go.RowKit Go.Proofs.Ytdmkbfjipgaloaa.P Go.Proofs.YtdmkbfjipgaloaaW.PrintWords Go.Proofs.YtdmkbfjipgaloaaW.PrintLast

theorem cloneField_f (a b : Int) (l : List Int) (hl : l.length ≤ 1048576) : impl_cloneField.f a b l = some (a, b, l) := by
  unfold impl_cloneField.f slices_Clone_int_int.f
  rw [if_pos (by omega)]; rfl
theorem l2Own_f (a b : Int) (l : List Int) (hl : l.length ≤ 1048576) : spec_l2Own.f a b l = some (a, b, l) := by
  unfold spec_l2Own.f spec_l1Own.f
  simp only [Option.bind_some, List.length_nil, List.nil_append]
  rw [if_pos (by omega)]; rfl
/-- What a check of a made field gives. -/
def checkedT (a b : Int) (l : List Int) : Int × Int × List Int × Bool := if fieldB a b l = true then (a, b, l, true) else (0, 0, [], false)
theorem checkedField_f (a b : Int) (l : List Int) : impl_checkedField.f a b l = some (checkedT a b l) := by
  unfold impl_checkedField.f checkedT
  rw [isValidField_f, Option.bind_some]
  cases fieldB a b l <;> rfl
end Go.Proofs.Ytdmkbfjipgaloaa.Pure

/- Slopes: full fields, distances, and the double loop of the program and of the reference. -/
namespace Go.Proofs.Ytdmkbfjipgaloaa.Pure
open Go.RowKit Go.Proofs.Ytdmkbfjipgaloaa.P Go.Proofs.YtdmkbfjipgaloaaW.PrintWords Go.Proofs.YtdmkbfjipgaloaaW.PrintLast

theorem contains_l0 (l : List Int) (c : Int) (hl : l.length ≤ 1048576) : ∀ (d i : Nat), l.length - i = d → i ≤ l.length →
    ∃ t, Ev (fun k => slices_Index_int_int.l0 k l c (l.length : Int) (i : Int)) t ∧ decide (t ≥ 0) = (l.drop i).any (fun n => n == c) := by
  intro d
  induction d with
  | zero =>
    intro i hd hi
    refine ⟨-1, Ev.step (fun k => by rw [slices_Index_int_int.l0]) (Ev.neg (by omega) (Ev.const rfl)), ?_⟩
    rw [List.drop_of_length_le (by omega)]; rfl
  | succ d ih =>
    intro i hd hi
    obtain ⟨t, e, ht⟩ := ih (i + 1) (by omega) (by omega)
    rw [drop_cons' l i (by omega), List.any_cons]
    by_cases h : c = l[i]
    · refine ⟨(i : Int), Ev.step (fun k => by rw [slices_Index_int_int.l0]) (Ev.pos (by omega) (Ev.pos (by omega) (Ev.pos (by omega) (Ev.pos (by rw [rd_lt l i (by omega)]; exact h) (Ev.const rfl))))), ?_⟩
      rw [decide_eq_true (by omega), show (l[i] == c) = true by simpa using h.symm, Bool.true_or]
    · refine ⟨t, Ev.step (fun k => by rw [slices_Index_int_int.l0]) (Ev.pos (by omega) (Ev.pos (by omega) (Ev.pos (by omega) (Ev.neg (by rw [rd_lt l i (by omega)]; exact h) ?_)))), ?_⟩
      · rw [w64 (by omega) (by omega), show (i : Int) + 1 = ((i + 1 : Nat) : Int) from by omega]; exact e
      · rw [ht, show (l[i] == c) = false by simpa using fun e => h e.symm, Bool.false_or]
def fullB (a b : Int) (l : List Int) : Bool := fieldB a b l && !l.any (fun n => n == -9999)
theorem isFull (a b : Int) (l : List Int) (hl : l.length ≤ 1048576) : Ev (fun k => impl_isFull.f k a b l) (fullB a b l) := by
  unfold impl_isFull.f
  refine Ev.bindc (isValidField_f a b l) ?_
  refine Ev.cases (fun h => ?_) (fun h => ?_)
  · obtain ⟨t, e, ht⟩ := contains_l0 l (-9999) hl _ 0 rfl (by omega)
    refine Ev.eq (Ev.bind (a := decide (t ≥ 0)) (r := !decide (t ≥ 0)) ?_ (Ev.const rfl)) ?_
    · unfold slices_Contains_int_int.f slices_Index_int_int.f
      exact Ev.bind e (Ev.const rfl)
    · rw [ht, fullB, h, List.drop_zero, Bool.true_and]
  · exact Ev.const (by rw [fullB, Bool.eq_false_iff.mpr h, Bool.false_and])
theorem l7Full_l0 (a b : Int) (l : List Int) (hl : l.length ≤ 1048576) : ∀ (d i : Nat), l.length - i = d → i ≤ l.length →
    Ev (fun k => spec_l7Full.l0 k (i : Int) a b l) (fieldB a b l && !(l.drop i).any (fun n => n == -9999)) := by
  intro d
  induction d with
  | zero =>
    intro i hd hi
    refine Ev.step (fun k => by rw [spec_l7Full.l0]) ?_
    refine Ev.neg (by omega) (Ev.bind (l2Good a b l hl) (Ev.const ?_))
    rw [List.drop_of_length_le (by omega)]; simp
  | succ d ih =>
    intro i hd hi
    refine Ev.step (fun k => by rw [spec_l7Full.l0]) ?_
    refine Ev.pos (by omega) (Ev.pos (by omega) ?_)
    rw [w64 (by omega) (by omega), show (i : Int) + 1 = ((i + 1 : Nat) : Int) from by omega, rd_lt l i (by omega), drop_cons' l i (by omega), List.any_cons]
    refine Ev.cases (fun h => ?_) (fun h => ?_)
    · exact Ev.const (by rw [show (l[i] == -9999) = true by simpa using h, Bool.true_or]; simp)
    · exact Ev.eq (ih (i + 1) (by omega) (by omega)) (by rw [show (l[i] == -9999) = false by simpa using h, Bool.false_or])
theorem l7Full (a b : Int) (l : List Int) (hl : l.length ≤ 1048576) : Ev (fun k => spec_l7Full.f k a b l) (fullB a b l) := by
  unfold spec_l7Full.f
  exact Ev.eq (l7Full_l0 a b l hl _ 0 rfl (by omega)) (by rw [List.drop_zero]; rfl)
theorem l23Slope_f (v : Int) : spec_l23Slope.f v = some (inB 0 1000 v) := by unfold spec_l23Slope.f; rw [l1In_f]; rfl
theorem isSlope_f (v : Int) : impl_isSlope.f v = some (inB 0 1000 v) := by unfold impl_isSlope.f; rw [within_f]; rfl
def absI (x : Int) : Int := if x < 0 then -x else x
theorem absOf_f (x : Int) (h1 : -1000 ≤ x) (h2 : x ≤ 1000) : impl_absOf.f x = some (absI x) := by
  unfold impl_absOf.f absI
  rw [w64 (by omega) (by omega)]
  by_cases h : x < 0
  · rw [if_pos h, if_pos h]
  · rw [if_neg h, if_neg h]
theorem l11Abs_f (x : Int) (h1 : -1000 ≤ x) (h2 : x ≤ 1000) : spec_l11Abs.f x = some (absI x) := by
  unfold spec_l11Abs.f spec_l1Most.f absI
  rw [w64 (by omega) (by omega)]
  by_cases h : x < 0
  · rw [if_neg (by omega), if_pos h]; rfl
  · rw [if_neg h]
    by_cases h3 : x > -x
    · rw [if_pos h3]; rfl
    · rw [if_neg h3, show -x = x by omega]; rfl
theorem absI_bound {x n : Int} (h1 : -n ≤ x) (h2 : x ≤ n) : 0 ≤ absI x ∧ absI x ≤ n := by unfold absI; split <;> omega
/-- The distance of two cells of a field of width w. -/
def distI (w i k : Int) : Int := absI (Int.tmod i w - Int.tmod k w) + absI (Int.tdiv i w - Int.tdiv k w)
theorem cell_div (w i : Int) (hw : 1 ≤ w ∧ w ≤ 8) (hi : 0 ≤ i ∧ i ≤ 64) : 0 ≤ Int.tmod i w ∧ Int.tmod i w ≤ 7 ∧ 0 ≤ Int.tdiv i w ∧ Int.tdiv i w ≤ 64 := by
  have h1 := Int.tmod_nonneg w hi.1
  have h2 := Int.tmod_lt_of_pos i (show 0 < w by omega)
  have h3 := Int.tdiv_nonneg hi.1 (show 0 ≤ w by omega)
  have h4 := Int.tdiv_le_self w hi.1
  omega
theorem distI_bound (w i k : Int) (hw : 1 ≤ w ∧ w ≤ 8) (hi : 0 ≤ i ∧ i ≤ 64) (hk : 0 ≤ k ∧ k ≤ 64) : 0 ≤ distI w i k ∧ distI w i k ≤ 200 := by
  have a := cell_div w i hw hi
  have b := cell_div w k hw hk
  have c := absI_bound (x := Int.tmod i w - Int.tmod k w) (n := 64) (by omega) (by omega)
  have d := absI_bound (x := Int.tdiv i w - Int.tdiv k w) (n := 64) (by omega) (by omega)
  unfold distI; omega
theorem distance_f (w i k : Int) (hw : 1 ≤ w ∧ w ≤ 8) (hi : 0 ≤ i ∧ i ≤ 64) (hk : 0 ≤ k ∧ k ≤ 64) : spec_l23Distance.f w i k = some (distI w i k) := by
  have a := cell_div w i hw hi
  have b := cell_div w k hw hk
  have e := distI_bound w i k hw hi hk
  unfold spec_l23Distance.f
  rw [if_neg (by omega), w64 (x := Int.tdiv i w) (by omega) (by omega), w64 (x := Int.tdiv k w) (by omega) (by omega), w64 (x := Int.tmod i w - Int.tmod k w) (by omega) (by omega), w64 (x := Int.tdiv i w - Int.tdiv k w) (by omega) (by omega), l11Abs_f _ (by omega) (by omega), l11Abs_f _ (by omega) (by omega)]
  simp only [Option.bind_some]
  unfold distI at e ⊢
  rw [w64 (by omega) (by omega)]
theorem mulb {v d : Int} (hv : 0 ≤ v ∧ v ≤ 1000) (hd : 0 ≤ d ∧ d ≤ 200) : 0 ≤ v * d ∧ v * d ≤ 200000 := by
  have h1 := Int.mul_nonneg hv.1 hd.1
  have h2 := Int.mul_le_mul hv.2 hd.2 hd.1 (by omega)
  omega
/-- The better of two. -/
def bestI (up : Bool) (v best n d : Int) : Int := if up then (if best < n + v * d then best else n + v * d) else (if best > n - v * d then best else n - v * d)
theorem bestI_bound (up : Bool) {v best n d : Int} (hv : 0 ≤ v ∧ v ≤ 1000) (hd : 0 ≤ d ∧ d ≤ 200) (hb : -9000 ≤ best ∧ best ≤ 9000) (hn : -9000 ≤ n ∧ n ≤ 9000) : -9000 ≤ bestI up v best n d ∧ bestI up v best n d ≤ 9000 := by
  have := mulb hv hd
  cases up <;> simp only [bestI, if_true, Bool.false_eq_true, if_false] <;> split <;> omega
/-- Cells in the bounds. -/
def inBounds (o : List Int) : Prop := ∀ n ∈ o, -9000 ≤ n ∧ n ≤ 9000
theorem inBounds_rd {o : List Int} (h : inBounds o) (i : Nat) (hi : i < o.length) : -9000 ≤ rd o (i : Int) ∧ rd o (i : Int) ≤ 9000 := by
  rw [rd_lt o i hi]; exact h _ (List.getElem_mem _)
theorem inBounds_set {o : List Int} (h : inBounds o) (i : Nat) {v : Int} (hv : -9000 ≤ v ∧ v ≤ 9000) : inBounds (o.set i v) := by
  intro n hn
  rcases List.mem_or_eq_of_mem_set hn with h1 | h1
  · exact h n h1
  · rw [h1]; exact hv
/-- Both loops from row i on, and from the pair (i, k) on. -/
theorem sloped (up : Bool) (F : Int → Int → Int → Option Int) (a b v sg : Int) (l : List Int) (hsg : sg = if up then 1 else -1) (hw : 1 ≤ a ∧ a ≤ 8) (hv : 0 ≤ v ∧ v ≤ 1000) (hl : l.length ≤ 64) (hb : inBounds l)
    (hF : ∀ best n d, -9000 ≤ best ∧ best ≤ 9000 → -9000 ≤ n ∧ n ≤ 9000 → 0 ≤ d ∧ d ≤ 200 → F best n d = some (bestI up v best n d))
    (Q : Nat → Nat → List Int → Prop) (hQ : ∀ i k o, i < l.length → k < l.length → o.length = l.length → Q i k o → Q i (k + 1) (o.set i (bestI up v (rd o i) (rd l k) (distI a i k))))
    (hQ' : ∀ i o, i < l.length → Q i l.length o → Q (i + 1) 0 o) :
    ∀ (di i : Nat) (o : List Int), l.length - i = di → i ≤ l.length → o.length = l.length → inBounds o → Q i 0 o →
      ∃ res, res.length = l.length ∧ (inBounds res ∧ Q l.length 0 res) ∧ Ev (fun k => spec_l23Bound.l0 k v sg (i : Int) a b l a b o) (a, b, res) ∧ Ev (fun k => impl_slopedField.l0 k F (l.length : Int) (i : Int) a b l a b o) (checkedT a b res) := by
  intro di
  induction di with
  | zero =>
    intro i o hd hi ho hbo hq
    refine ⟨o, ho, ⟨hbo, by rw [show i = l.length by omega] at hq; exact hq⟩, ?_, ?_⟩
    · exact Ev.step (fun k => by rw [spec_l23Bound.l0]) (Ev.neg (by omega) (Ev.const rfl))
    · exact Ev.step (fun k => by rw [impl_slopedField.l0]) (Ev.neg (by omega) (Ev.bindc (checkedField_f a b o) (Ev.const rfl)))
  | succ di ih =>
    intro i o hd hi ho hbo hq
    have inner : ∀ (dk k : Nat) (o : List Int), l.length - k = dk → k ≤ l.length → o.length = l.length → inBounds o → Q i k o →
        ∃ res, res.length = l.length ∧ (inBounds res ∧ Q l.length 0 res) ∧ Ev (fun q => spec_l23Bound.l1 q v sg (i : Int) (k : Int) a b l a b o) (a, b, res) ∧ Ev (fun q => impl_slopedField.l1 q F (i : Int) (l.length : Int) (i : Int) l (l.length : Int) (k : Int) a b l a b o) (checkedT a b res) := by
      intro dk
      induction dk with
      | zero =>
        intro k o hdk hk ho hbo hq
        obtain ⟨res, h1, h2, h3, h4⟩ := ih (i + 1) o (by omega) (by omega) ho hbo (hQ' i o (by omega) (by rw [show k = l.length by omega] at hq; exact hq))
        refine ⟨res, h1, h2, ?_, ?_⟩
        · refine Ev.step (fun k => by rw [spec_l23Bound.l1]) ?_
          refine (Ev.neg (by omega) ?_)
          rw [w64 (by omega) (by omega), show (i : Int) + 1 = ((i + 1 : Nat) : Int) from by omega]; exact h3
        · refine Ev.step (fun k => by rw [impl_slopedField.l1]) ?_
          refine (Ev.neg (by omega) ?_)
          rw [w64 (by omega) (by omega), show (i : Int) + 1 = ((i + 1 : Nat) : Int) from by omega]; exact h4
      | succ dk ihk =>
        intro k o hdk hk ho hbo hq
        have hcd := cell_div a i hw (by omega)
        have hck := cell_div a k hw (by omega)
        have hdist := distI_bound a i k hw (by omega) (by omega)
        have ho1 := inBounds_rd hbo i (by omega)
        have hl1 := inBounds_rd hb k (by omega)
        have hm := mulb hv hdist
        have hbb := bestI_bound up hv hdist ho1 hl1
        obtain ⟨res, h1, h2, h3, h4⟩ := ihk (k + 1) (o.set i (bestI up v (rd o i) (rd l k) (distI a i k))) (by omega) (by omega) (by simpa using ho) (inBounds_set hbo i hbb) (hQ i k o (by omega) (by omega) ho hq)
        refine ⟨res, h1, h2, ?_, ?_⟩
        · refine Ev.step (fun k => by rw [spec_l23Bound.l1]) ?_
          refine (Ev.pos (by omega) (Ev.pos (by omega) (Ev.bindc (distance_f a i k hw (by omega) (by omega)) ?_)))
          rw [w64 (x := (k : Int) + 1) (by omega) (by omega), show (k : Int) + 1 = ((k + 1 : Nat) : Int) from by omega, Int.toNat_natCast]
          cases up with
          | true =>
            simp only [if_true] at hsg
            subst hsg
            refine Ev.pos (by omega) (Ev.pos (by omega) (Ev.pos (by omega) ?_))
            rw [Int.one_mul, w64 (x := v) (by omega) (by omega), w64 (x := v * distI a i k) (by omega) (by omega), w64 (by omega) (by omega)]
            refine Ev.bindc (b := bestI true v (rd o i) (rd l k) (distI a i k)) ?_ h3
            simp only [spec_l1Least.f, bestI, if_true]; split <;> rfl
          | false =>
            simp only [Bool.false_eq_true, if_false] at hsg
            subst hsg
            refine Ev.neg (by omega) (Ev.pos (by omega) (Ev.pos (by omega) ?_))
            have e : -1 * v * distI a i k = -(v * distI a i k) := by rw [Int.neg_mul, Int.one_mul, Int.neg_mul]
            rw [w64 (x := -1 * v) (by omega) (by omega), e, w64 (x := -(v * distI a i k)) (by omega) (by omega), w64 (by omega) (by omega), ← Int.sub_eq_add_neg]
            refine Ev.bindc (b := bestI false v (rd o i) (rd l k) (distI a i k)) ?_ h3
            simp only [spec_l1Most.f, bestI, Bool.false_eq_true, if_false]; split <;> rfl
        · refine Ev.step (fun k => by rw [impl_slopedField.l1]) ?_
          refine (Ev.pos (by omega) (Ev.pos (by omega) (Ev.pos (by omega) (Ev.neg (by omega) ?_))))
          rw [w64 (x := Int.tdiv i a) (by omega) (by omega), w64 (x := Int.tdiv k a) (by omega) (by omega), w64 (x := Int.tmod i a - Int.tmod k a) (by omega) (by omega), w64 (x := Int.tdiv i a - Int.tdiv k a) (by omega) (by omega)]
          refine Ev.bindc (absOf_f _ (by omega) (by omega)) (Ev.bindc (absOf_f _ (by omega) (by omega)) (Ev.pos (by omega) (Ev.pos (by omega) ?_)))
          have hdd : wrap64 (absI (Int.tmod i a - Int.tmod k a) + absI (Int.tdiv i a - Int.tdiv k a)) = distI a i k := by
            have := hdist
            unfold distI at this ⊢
            exact w64 (by omega) (by omega)
          rw [hdd, w64 (x := (k : Int) + 1) (by omega) (by omega), show (k : Int) + 1 = ((k + 1 : Nat) : Int) from by omega, Int.toNat_natCast]
          exact Ev.bindc (hF _ _ _ ho1 hl1 hdist) h4
    obtain ⟨res, h1, h2, h3, h4⟩ := inner l.length 0 o (by omega) (by omega) ho hbo hq
    refine ⟨res, h1, h2, ?_, ?_⟩
    · refine Ev.step (fun k => by rw [spec_l23Bound.l0]) ?_
      exact Ev.pos (by omega) h3
    · refine Ev.step (fun k => by rw [impl_slopedField.l0]) ?_
      exact Ev.pos (by omega) h4
/-- A cell that is the best of what the cells below K allow. -/
def sgn (up : Bool) (x : Int) : Int := if up then x else -x
def EnvC (up : Bool) (v a : Int) (l o : List Int) (j K : Nat) : Prop := sgn up (rd o j) ≤ sgn up (rd l j) ∧ (∀ m : Nat, m < K → sgn up (rd o j) ≤ sgn up (rd l m) + v * distI a j m) ∧ ∃ m : Nat, m < l.length ∧ sgn up (rd o j) = sgn up (rd l m) + v * distI a j m
def EnvQ (up : Bool) (v a : Int) (l : List Int) (i k : Nat) (o : List Int) : Prop := (∀ j, j < i → EnvC up v a l o j l.length) ∧ (i < l.length → EnvC up v a l o i k) ∧ ∀ j : Nat, i < j → j < l.length → rd o j = rd l j
theorem rd_set_ne (o : List Int) (i j : Nat) (x : Int) (h : j ≠ i) : rd (o.set i x) (j : Int) = rd o (j : Int) := by
  rw [rd_nat, rd_nat]; simp [Ne.symm h]
theorem rd_set_eq (o : List Int) (i : Nat) (x : Int) (h : i < o.length) : rd (o.set i x) (i : Int) = x := by
  rw [rd_nat]; simp [h]
theorem distI_self (a i : Int) : distI a i i = 0 := by unfold distI absI; rw [Int.sub_self, Int.sub_self]; rfl
theorem envC_start (up : Bool) (v a : Int) (l o : List Int) (j : Nat) (hj : j < l.length) (h : rd o j = rd l j) : EnvC up v a l o j 0 :=
  ⟨by rw [h]; exact Int.le_refl _, fun m hm => absurd hm (by omega), j, hj, by rw [h, distI_self, Int.mul_zero, Int.add_zero]⟩
theorem envQ_start (up : Bool) (v a : Int) (l : List Int) : EnvQ up v a l 0 0 l :=
  ⟨fun j hj => absurd hj (by omega), fun h => envC_start up v a l l 0 h rfl, fun _ _ _ => rfl⟩
theorem envQ_step (up : Bool) (v a : Int) (l : List Int) (i k : Nat) (o : List Int) (hi : i < l.length) (hk : k < l.length) (ho : o.length = l.length) (h : EnvQ up v a l i k o) :
    EnvQ up v a l i (k + 1) (o.set i (bestI up v (rd o i) (rd l k) (distI a i k))) := by
  obtain ⟨h1, h2, h3⟩ := h
  refine ⟨fun j hj => ?_, fun _ => ?_, fun j hj hjl => ?_⟩
  · have := h1 j hj
    unfold EnvC at this ⊢
    rw [rd_set_ne _ _ _ _ (by omega)]; exact this
  · obtain ⟨g1, g2, m, g3, g4⟩ := h2 hi
    unfold EnvC
    rw [rd_set_eq _ _ _ (by omega)]
    have hb : (sgn up (bestI up v (rd o i) (rd l k) (distI a i k)) ≤ sgn up (rd o i) ∧ sgn up (bestI up v (rd o i) (rd l k) (distI a i k)) ≤ sgn up (rd l k) + v * distI a i k) ∧ (sgn up (bestI up v (rd o i) (rd l k) (distI a i k)) = sgn up (rd o i) ∨ sgn up (bestI up v (rd o i) (rd l k) (distI a i k)) = sgn up (rd l k) + v * distI a i k) := by
      cases up <;> simp only [bestI, sgn, if_true, Bool.false_eq_true, if_false] <;> split <;> omega
    refine ⟨by omega, fun m' hm => ?_, ?_⟩
    · by_cases c : m' = k
      · subst c; exact hb.1.2
      · have := g2 m' (by omega); omega
    · rcases hb.2 with hb | hb
      · exact ⟨m, g3, by omega⟩
      · exact ⟨k, hk, hb⟩
  · rw [rd_set_ne _ _ _ _ (by omega)]; exact h3 j hj hjl
theorem envQ_row (up : Bool) (v a : Int) (l : List Int) (i : Nat) (o : List Int) (hi : i < l.length) (h : EnvQ up v a l i l.length o) : EnvQ up v a l (i + 1) 0 o := by
  obtain ⟨h1, h2, h3⟩ := h
  refine ⟨fun j hj => ?_, fun h => envC_start up v a l o _ h (h3 _ (by omega) h), fun j hj hjl => h3 j (by omega) hjl⟩
  by_cases c : j = i
  · subst c; exact h2 hi
  · exact h1 j (by omega)
/-- What the slopes' fields are. -/
def SlopeAns (up : Bool) (a b : Int) (l : List Int) (v : Int) (q : Int × Int × List Int × Bool) : Prop :=
  (fullB a b l = true ∧ inB 0 1000 v = true ∧ ∃ res : List Int, q = (a, b, res, true) ∧ res.length = l.length ∧ inBounds res ∧ ∀ j, j < l.length → EnvC up v a l res j l.length) ∨ (¬ (fullB a b l = true ∧ inB 0 1000 v = true) ∧ q = (0, 0, [], false))
theorem full_parts {a b : Int} {l : List Int} (h : fullB a b l = true) : fieldB a b l = true ∧ inBounds l := by
  simp only [fullB, Bool.and_eq_true, Bool.not_eq_true'] at h
  refine ⟨h.1, fun n hn => ?_⟩
  have h1 := List.all_eq_true.mp (fieldB_len h.1).2.2.2.1 n hn
  have h2 : ¬ n = -9999 := by
    intro e
    have := List.any_eq_false.mp h.2 n hn
    exact this (by simpa using e)
  simp only [cellB, Bool.or_eq_true, Bool.and_eq_true, decide_eq_true_eq, beq_iff_eq] at h1
  rcases h1 with h1 | h1
  · exact absurd h1 h2
  · exact h1
theorem bounds_valid {a b : Int} {l o : List Int} (h : fieldB a b l = true) (ho : o.length = l.length) (hb : inBounds o) : fieldB a b o = true := by
  simp only [fieldB, Bool.and_eq_true] at h ⊢
  rw [ho]
  refine ⟨h.1, h.2.1, List.all_eq_true.mpr fun n hn => ?_⟩
  have := hb n hn
  simp [cellB, this.1, this.2]
end Go.Proofs.Ytdmkbfjipgaloaa.Pure

/- LowerSlopes: the program's and the reference's answer. -/
namespace Go.Proofs.Ytdmkbfjipgaloaa.Pure
open Go.RowKit Go.Proofs.Ytdmkbfjipgaloaa.P Go.Proofs.YtdmkbfjipgaloaaW.PrintWords Go.Proofs.YtdmkbfjipgaloaaW.PrintLast

theorem lowerSlopes (a b : Int) (l : List Int) (v : Int) (hl : l.length ≤ 1048576) : ∃ q : Int × Int × List Int × Bool, q.2.2.1.length ≤ 1048576 ∧ SlopeAns true a b l v q ∧ Ev (fun k => spec_LowerSlopes.f k a b l v) q ∧ Ev (fun k => impl_LowerSlopes.f k a b l v) q := by
  by_cases h : fullB a b l = true
  · by_cases hv : inB 0 1000 v = true
    · have hp := full_parts h
      have hf := fieldB_len hp.1
      have hw : 1 ≤ a ∧ a ≤ 8 := by simpa [sideB] using hf.2.1
      have hv' : 0 ≤ v ∧ v ≤ 1000 := by simpa [inB] using hv
      obtain ⟨res, h1, h2, h3, h4⟩ := sloped true (fun b n d => some (mn b (wrap64 (n + wrap64 (v * d))))) a b v 1 l rfl hw hv' hf.2.2.2.2.1 hp.2 (fun best n d hb hn hd => by
        have := mulb hv' hd
        rw [w64 (x := v * d) (by omega) (by omega), w64 (by omega) (by omega)]
        simp only [mn, bestI, if_true]; congr 1; split <;> split <;> omega) (EnvQ true v a l) (envQ_step true v a l) (envQ_row true v a l) _ 0 l rfl (by omega) rfl hp.2 (envQ_start true v a l)
      refine ⟨(a, b, res, true), by simp only; omega, .inl ⟨h, hv, res, rfl, h1, h2.1, h2.2.1⟩, ?_, ?_⟩
      · unfold spec_LowerSlopes.f
        refine Ev.bind (l7Full a b l hl) (Ev.pos h (Ev.bindc (l23Slope_f v) (Ev.pos hv ?_)))
        refine Ev.bind (a := (a, b, res)) ?_ (Ev.const rfl)
        unfold spec_l23Bound.f
        exact Ev.bindc (l2Own_f a b l hl) h3
      · unfold impl_LowerSlopes.f
        refine Ev.bind (isFull a b l hl) (Ev.pos h (Ev.bindc (isSlope_f v) ?_))
        refine Ev.step (fun k => by rw [impl_LowerSlopes.j0]) ?_
        refine (Ev.neg (by rw [hv]; simp) (Ev.bindc rfl ?_))
        rw [checkedT, if_pos (bounds_valid hp.1 h1 h2.1)] at h4
        refine Ev.bind (a := (a, b, res, true)) ?_ (Ev.const rfl)
        unfold impl_slopedField.f
        exact Ev.bindc (cloneField_f a b l hl) h4
    · refine ⟨(0, 0, [], false), by simp, .inr ⟨fun g => hv g.2, rfl⟩, ?_, ?_⟩
      · unfold spec_LowerSlopes.f
        exact Ev.bind (l7Full a b l hl) (Ev.pos h (Ev.bindc (l23Slope_f v) (Ev.neg hv (Ev.const rfl))))
      · unfold impl_LowerSlopes.f
        refine Ev.bind (isFull a b l hl) (Ev.pos h (Ev.bindc (isSlope_f v) ?_))
        exact Ev.step (fun k => by rw [impl_LowerSlopes.j0]) (Ev.pos (by rw [Bool.eq_false_iff.mpr hv]; rfl) (Ev.const rfl))
  · refine ⟨(0, 0, [], false), by simp, .inr ⟨fun g => h g.1, rfl⟩, ?_, ?_⟩
    · unfold spec_LowerSlopes.f
      exact Ev.bind (l7Full a b l hl) (Ev.neg h (Ev.const rfl))
    · unfold impl_LowerSlopes.f
      refine Ev.bind (isFull a b l hl) (Ev.neg h ?_)
      exact Ev.step (fun k => by rw [impl_LowerSlopes.j0]) (Ev.pos rfl (Ev.const rfl))
end Go.Proofs.Ytdmkbfjipgaloaa.Pure

/- RaiseSlopes: the program's and the reference's answer. -/
namespace Go.Proofs.Ytdmkbfjipgaloaa.Pure
open Go.RowKit Go.Proofs.Ytdmkbfjipgaloaa.P Go.Proofs.YtdmkbfjipgaloaaW.PrintWords Go.Proofs.YtdmkbfjipgaloaaW.PrintLast

theorem raiseSlopes (a b : Int) (l : List Int) (v : Int) (hl : l.length ≤ 1048576) : ∃ q : Int × Int × List Int × Bool, q.2.2.1.length ≤ 1048576 ∧ SlopeAns false a b l v q ∧ Ev (fun k => spec_RaiseSlopes.f k a b l v) q ∧ Ev (fun k => impl_RaiseSlopes.f k a b l v) q := by
  by_cases h : fullB a b l = true
  · by_cases hv : inB 0 1000 v = true
    · have hp := full_parts h
      have hf := fieldB_len hp.1
      have hw : 1 ≤ a ∧ a ≤ 8 := by simpa [sideB] using hf.2.1
      have hv' : 0 ≤ v ∧ v ≤ 1000 := by simpa [inB] using hv
      obtain ⟨res, h1, h2, h3, h4⟩ := sloped false (fun b n d => some (mx b (wrap64 (n - wrap64 (v * d))))) a b v (-1) l rfl hw hv' hf.2.2.2.2.1 hp.2 (fun best n d hb hn hd => by
        have := mulb hv' hd
        rw [w64 (x := v * d) (by omega) (by omega), w64 (by omega) (by omega)]
        simp only [mx, bestI, Bool.false_eq_true, if_false]; congr 1; split <;> split <;> omega) (EnvQ false v a l) (envQ_step false v a l) (envQ_row false v a l) _ 0 l rfl (by omega) rfl hp.2 (envQ_start false v a l)
      refine ⟨(a, b, res, true), by simp only; omega, .inl ⟨h, hv, res, rfl, h1, h2.1, h2.2.1⟩, ?_, ?_⟩
      · unfold spec_RaiseSlopes.f
        refine Ev.bind (l7Full a b l hl) (Ev.pos h (Ev.bindc (l23Slope_f v) (Ev.pos hv ?_)))
        refine Ev.bind (a := (a, b, res)) ?_ (Ev.const rfl)
        unfold spec_l23Bound.f
        exact Ev.bindc (l2Own_f a b l hl) h3
      · unfold impl_RaiseSlopes.f
        refine Ev.bind (isFull a b l hl) (Ev.pos h (Ev.bindc (isSlope_f v) ?_))
        refine Ev.step (fun k => by rw [impl_RaiseSlopes.j0]) ?_
        refine (Ev.neg (by rw [hv]; simp) (Ev.bindc rfl ?_))
        rw [checkedT, if_pos (bounds_valid hp.1 h1 h2.1)] at h4
        refine Ev.bind (a := (a, b, res, true)) ?_ (Ev.const rfl)
        unfold impl_slopedField.f
        exact Ev.bindc (cloneField_f a b l hl) h4
    · refine ⟨(0, 0, [], false), by simp, .inr ⟨fun g => hv g.2, rfl⟩, ?_, ?_⟩
      · unfold spec_RaiseSlopes.f
        exact Ev.bind (l7Full a b l hl) (Ev.pos h (Ev.bindc (l23Slope_f v) (Ev.neg hv (Ev.const rfl))))
      · unfold impl_RaiseSlopes.f
        refine Ev.bind (isFull a b l hl) (Ev.pos h (Ev.bindc (isSlope_f v) ?_))
        exact Ev.step (fun k => by rw [impl_RaiseSlopes.j0]) (Ev.pos (by rw [Bool.eq_false_iff.mpr hv]; rfl) (Ev.const rfl))
  · refine ⟨(0, 0, [], false), by simp, .inr ⟨fun g => h g.1, rfl⟩, ?_, ?_⟩
    · unfold spec_RaiseSlopes.f
      exact Ev.bind (l7Full a b l hl) (Ev.neg h (Ev.const rfl))
    · unfold impl_RaiseSlopes.f
      refine Ev.bind (isFull a b l hl) (Ev.neg h ?_)
      exact Ev.step (fun k => by rw [impl_RaiseSlopes.j0]) (Ev.pos rfl (Ev.const rfl))
end Go.Proofs.Ytdmkbfjipgaloaa.Pure

/- The steepest slope of a field; the lowered and raised fields keep the slope, and a field that keeps it is not changed. -/
namespace Go.Proofs.Ytdmkbfjipgaloaa.Pure
open Go.RowKit Go.Proofs.Ytdmkbfjipgaloaa.P Go.Proofs.YtdmkbfjipgaloaaW.PrintWords Go.Proofs.YtdmkbfjipgaloaaW.PrintLast

theorem absOf_g (x : Int) (h1 : -1000000 ≤ x) (h2 : x ≤ 1000000) : impl_absOf.f x = some (absI x) := by
  unfold impl_absOf.f absI
  rw [w64 (by omega) (by omega)]
  by_cases h : x < 0
  · rw [if_pos h, if_pos h]
  · rw [if_neg h, if_neg h]
theorem areConnected_f (w i k : Int) (hw : 1 ≤ w ∧ w ≤ 8) (hi : 0 ≤ i ∧ i ≤ 64) (hk : 0 ≤ k ∧ k ≤ 64) : impl_areConnected.f w i k = some (distI w i k == 1) := by
  have a := cell_div w i hw hi
  have b := cell_div w k hw hk
  have e := distI_bound w i k hw hi hk
  unfold impl_areConnected.f
  rw [if_neg (by omega), w64 (x := Int.tdiv i w) (by omega) (by omega), w64 (x := Int.tdiv k w) (by omega) (by omega), w64 (x := Int.tmod i w - Int.tmod k w) (by omega) (by omega), w64 (x := Int.tdiv i w - Int.tdiv k w) (by omega) (by omega), absOf_f _ (by omega) (by omega), absOf_f _ (by omega) (by omega)]
  simp only [Option.bind_some]
  unfold distI at e ⊢
  rw [w64 (by omega) (by omega)]
theorem steepest_l0 (a b : Int) (l : List Int) (hw : 1 ≤ a ∧ a ≤ 8) (hl : l.length ≤ 64) (hb : inBounds l) : ∀ (d i : Nat) (x : Int), l.length - i = d → i ≤ l.length → 0 ≤ x →
    ∃ t, Ev (fun k => impl_steepestSlope.l0 k x l (l.length : Int) (i : Int) a b l) t ∧ 0 ≤ t ∧ ∀ v, t ≤ v ↔ x ≤ v ∧ ∀ j : Nat, i ≤ j → j < l.length → ∀ m : Nat, m < j → distI a j m = 1 → absI (rd l j - rd l m) ≤ v := by
  intro d
  induction d with
  | zero =>
    intro i x hd hi hx
    refine ⟨x, Ev.step (fun k => by rw [impl_steepestSlope.l0]) (Ev.neg (by omega) (Ev.const rfl)), hx, fun v => ⟨fun h => ⟨h, fun j h1 h2 => absurd h2 (by omega)⟩, fun h => h.1⟩⟩
  | succ d ih =>
    intro i x hd hi hx
    have hxi := inBounds_rd hb i (by omega)
    have inner : ∀ (dk k : Nat) (x : Int), i - k = dk → k ≤ i → 0 ≤ x →
        ∃ t, Ev (fun q => impl_steepestSlope.l1 q x (i : Int) (rd l i) l (l.length : Int) (i : Int) (l.take i) ((l.take i).length : Int) (k : Int) a b l) t ∧ 0 ≤ t ∧
          ∀ v, t ≤ v ↔ x ≤ v ∧ (∀ m : Nat, k ≤ m → m < i → distI a i m = 1 → absI (rd l i - rd l m) ≤ v) ∧ ∀ j : Nat, i + 1 ≤ j → j < l.length → ∀ m : Nat, m < j → distI a j m = 1 → absI (rd l j - rd l m) ≤ v := by
      have htl : (l.take i).length = i := by simp; omega
      intro dk
      induction dk with
      | zero =>
        intro k x hdk hk hx
        obtain ⟨t, e, h0, h1⟩ := ih (i + 1) x (by omega) (by omega) hx
        refine ⟨t, ?_, h0, fun v => ⟨fun h => ?_, fun h => (h1 v).2 ⟨h.1, h.2.2⟩⟩⟩
        · refine Ev.step (fun k => by rw [impl_steepestSlope.l1]) (Ev.neg (by rw [htl]; omega) ?_)
          rw [w64 (by omega) (by omega), show (i : Int) + 1 = ((i + 1 : Nat) : Int) from by omega]; exact e
        · have := (h1 v).1 h
          exact ⟨this.1, fun m h2 h3 => absurd h3 (by omega), this.2⟩
      | succ dk ihk =>
        intro k x hdk hk hx
        have hxk := inBounds_rd hb k (by omega)
        have hrk : rd (l.take i) (k : Int) = rd l (k : Int) := by
          rw [rd_lt _ _ (by omega), rd_lt _ _ (by omega), List.getElem_take]
        have hcon := areConnected_f a i k hw (by omega) (by omega)
        have hab := absI_bound (x := rd l i - rd l k) (n := 18000) (by omega) (by omega)
        by_cases c : distI a i k = 1
        · obtain ⟨t, e, h0, h1⟩ := ihk (k + 1) (mx x (absI (rd l i - rd l k))) (by omega) (by omega) (by unfold mx; split <;> omega)
          refine ⟨t, ?_, h0, fun v => ?_⟩
          · refine Ev.step (fun k => by rw [impl_steepestSlope.l1]) (Ev.pos (by rw [htl]; omega) (Ev.pos (by omega) (Ev.pos (by rw [htl]; omega) ?_)))
            rw [hrk, w64 (x := (k : Int) + 1) (by omega) (by omega), show (k : Int) + 1 = ((k + 1 : Nat) : Int) from by omega, w64 (x := rd l i - rd l k) (by omega) (by omega)]
            exact Ev.bindc hcon (Ev.pos (by simpa using c) (Ev.bindc (absOf_g _ (by omega) (by omega)) e))
          · rw [h1 v]
            have hmx : mx x (absI (rd l i - rd l k)) ≤ v ↔ x ≤ v ∧ absI (rd l i - rd l k) ≤ v := by unfold mx; split <;> omega
            rw [hmx]
            constructor
            · rintro ⟨⟨g1, g2⟩, g3, g4⟩
              refine ⟨g1, fun m q1 q2 q3 => ?_, g4⟩
              by_cases c2 : m = k
              · subst c2; exact g2
              · exact g3 m (by omega) q2 q3
            · rintro ⟨g1, g3, g4⟩
              exact ⟨⟨g1, g3 k (by omega) (by omega) c⟩, fun m q1 q2 q3 => g3 m (by omega) q2 q3, g4⟩
        · obtain ⟨t, e, h0, h1⟩ := ihk (k + 1) x (by omega) (by omega) hx
          refine ⟨t, ?_, h0, fun v => ?_⟩
          · refine Ev.step (fun k => by rw [impl_steepestSlope.l1]) (Ev.pos (by rw [htl]; omega) (Ev.pos (by omega) (Ev.pos (by rw [htl]; omega) ?_)))
            rw [hrk, w64 (x := (k : Int) + 1) (by omega) (by omega), show (k : Int) + 1 = ((k + 1 : Nat) : Int) from by omega]
            exact Ev.bindc hcon (Ev.neg (by simpa using c) e)
          · rw [h1 v]
            constructor
            · rintro ⟨g1, g3, g4⟩
              refine ⟨g1, fun m q1 q2 q3 => ?_, g4⟩
              by_cases c2 : m = k
              · subst c2; exact absurd q3 c
              · exact g3 m (by omega) q2 q3
            · rintro ⟨g1, g3, g4⟩
              exact ⟨g1, fun m q1 q2 q3 => g3 m (by omega) q2 q3, g4⟩
    obtain ⟨t, e, h0, h1⟩ := inner i 0 x (by omega) (by omega) hx
    refine ⟨t, ?_, h0, fun v => ?_⟩
    · refine Ev.step (fun k => by rw [impl_steepestSlope.l0]) (Ev.pos (by omega) (Ev.pos (by omega) (Ev.pos (by omega) (Ev.pos (by omega) ?_))))
      rw [Int.toNat_natCast]; exact e
    · rw [h1 v]
      constructor
      · rintro ⟨g1, g3, g4⟩
        refine ⟨g1, fun j q1 q2 m q3 q4 => ?_⟩
        by_cases c : j = i
        · subst c; exact g3 m (by omega) q3 q4
        · exact g4 j (by omega) q2 m q3 q4
      · rintro ⟨g1, g2⟩
        exact ⟨g1, fun m _ q2 q3 => g2 i (by omega) (by omega) m q2 q3, fun j q1 q2 => g2 j (by omega) q2⟩
/-- The field keeps the slope v. -/
def Keeps (a : Int) (l : List Int) (v : Int) : Prop := ∀ j : Nat, j < l.length → ∀ m : Nat, m < j → distI a j m = 1 → absI (rd l j - rd l m) ≤ v
theorem steepest (a b : Int) (l : List Int) (hw : 1 ≤ a ∧ a ≤ 8) (hl : l.length ≤ 64) (hb : inBounds l) : ∃ t, Ev (fun k => impl_steepestSlope.f k a b l) t ∧ ∀ v, 0 ≤ v → (t ≤ v ↔ Keeps a l v) := by
  obtain ⟨t, e, h0, h1⟩ := steepest_l0 a b l hw hl hb _ 0 0 rfl (by omega) (by omega)
  refine ⟨t, ?_, fun v hv => ?_⟩
  · unfold impl_steepestSlope.f; exact e
  · rw [h1 v]
    exact ⟨fun h j => h.2 j (by omega), fun h => ⟨hv, fun j _ => h j⟩⟩
theorem absI_tri (x y z : Int) : absI (x - z) ≤ absI (x - y) + absI (y - z) := by
  unfold absI; split <;> split <;> split <;> omega
theorem absI_sym (x y : Int) : absI (x - y) = absI (y - x) := by
  unfold absI; split <;> split <;> omega
theorem distI_sym (a i k : Int) : distI a i k = distI a k i := by unfold distI; rw [absI_sym (Int.tmod i a), absI_sym (Int.tdiv i a)]
theorem distI_tri (a i k m : Int) : distI a i m ≤ distI a i k + distI a k m := by
  have h1 := absI_tri (Int.tmod i a) (Int.tmod k a) (Int.tmod m a)
  have h2 := absI_tri (Int.tdiv i a) (Int.tdiv k a) (Int.tdiv m a)
  unfold distI; omega
theorem env_le (up : Bool) (v a : Int) (hv : 0 ≤ v) (l res : List Int) (_hl : res.length = l.length) (h : ∀ j, j < l.length → EnvC up v a l res j l.length) (i k : Nat) (hi : i < l.length) (hk : k < l.length) (hd : distI a i k = 1) : sgn up (rd res i) ≤ sgn up (rd res k) + v := by
  obtain ⟨_, h1, _⟩ := h i hi
  obtain ⟨_, _, m, hm, h2⟩ := h k hk
  have g := h1 m hm
  have t := distI_tri a i k m
  rw [hd] at t
  have := Int.mul_le_mul_of_nonneg_left t hv
  rw [Int.mul_add, Int.mul_one] at this
  omega
theorem env_keeps (up : Bool) (v a : Int) (hv : 0 ≤ v) (l res : List Int) (hl : res.length = l.length) (h : ∀ j, j < l.length → EnvC up v a l res j l.length) : Keeps a res v := by
  intro j hj m hm hd
  have h1 := env_le up v a hv l res hl h j m (by omega) (by omega) hd
  have h2 := env_le up v a hv l res hl h m j (by omega) (by omega) (by rw [distI_sym]; exact hd)
  unfold absI
  cases up <;> simp only [sgn, if_true, Bool.false_eq_true, if_false] at h1 h2 <;> split <;> omega
theorem distN (w i k : Nat) : distI (w : Int) (i : Int) (k : Int) = absI (((i % w : Nat) : Int) - ((k % w : Nat) : Int)) + absI (((i / w : Nat) : Int) - ((k / w : Nat) : Int)) := by
  unfold distI
  rw [← Int.ofNat_tmod, ← Int.ofNat_tmod, ← Int.ofNat_tdiv, ← Int.ofNat_tdiv]
theorem cell_at (w x y : Nat) (hx : x < w) : (y * w + x) % w = x ∧ (y * w + x) / w = y := by
  constructor
  · rw [Nat.mul_add_mod_self_right, Nat.mod_eq_of_lt hx]
  · rw [Nat.mul_comm, Nat.mul_add_div (by omega), Nat.div_eq_of_lt hx, Nat.add_zero]
theorem cell_in (w h x y : Nat) (hx : x < w) (hy : y < h) : y * w + x < w * h := by
  have := Nat.mul_le_mul_right w (show y + 1 ≤ h by omega)
  rw [Nat.add_mul, Nat.one_mul, Nat.mul_comm h w] at this
  omega
theorem keeps_step (w h : Nat) (l : List Int) (hl : l.length = w * h) (v : Int) (hk : Keeps (w : Int) l v) (x y x' y' : Nat) (hx : x < w) (_hy : y < h) (hx' : x' < w) (hy' : y' < h) (hlt : y * w + x < y' * w + x') (hd : absI ((x' : Int) - (x : Int)) + absI ((y' : Int) - (y : Int)) = 1) : absI (rd l ((y' * w + x' : Nat) : Int) - rd l ((y * w + x : Nat) : Int)) ≤ v := by
  refine hk _ (by rw [hl]; exact cell_in w h x' y' hx' hy') _ hlt ?_
  rw [distN, (cell_at w x y hx).1, (cell_at w x y hx).2, (cell_at w x' y' hx').1, (cell_at w x' y' hx').2]
  exact hd
theorem keeps_row (w h : Nat) (l : List Int) (hl : l.length = w * h) (v : Int) (hk : Keeps (w : Int) l v) (y : Nat) (hy : y < h) : ∀ (d x : Nat), x + d < w → absI (rd l ((y * w + (x + d) : Nat) : Int) - rd l ((y * w + x : Nat) : Int)) ≤ v * (d : Int) := by
  intro d
  induction d with
  | zero => intro x _; rw [Nat.add_zero, Int.sub_self]; simp [absI]
  | succ d ih =>
    intro x hx
    have h1 := ih x (by omega)
    have h2 := keeps_step w h l hl v hk (x + d) y (x + (d + 1)) y (by omega) hy (by omega) hy (by omega) (by rw [Int.sub_self]; unfold absI; split <;> split <;> omega)
    have h3 := absI_tri (rd l ((y * w + (x + (d + 1)) : Nat) : Int)) (rd l ((y * w + (x + d) : Nat) : Int)) (rd l ((y * w + x : Nat) : Int))
    rw [show ((d + 1 : Nat) : Int) = (d : Int) + 1 from by omega, Int.mul_add, Int.mul_one]
    omega
theorem keeps_col (w h : Nat) (l : List Int) (hl : l.length = w * h) (v : Int) (hk : Keeps (w : Int) l v) (x : Nat) (hx : x < w) : ∀ (d y : Nat), y + d < h → absI (rd l (((y + d) * w + x : Nat) : Int) - rd l ((y * w + x : Nat) : Int)) ≤ v * (d : Int) := by
  intro d
  induction d with
  | zero => intro y _; rw [Nat.add_zero, Int.sub_self]; simp [absI]
  | succ d ih =>
    intro y hy
    have h1 := ih y (by omega)
    have h2 := keeps_step w h l hl v hk x (y + d) x (y + (d + 1)) hx (by omega) hx (by omega) (by
      have : (y + (d + 1)) * w = (y + d) * w + w := by rw [← Nat.add_assoc, Nat.add_mul, Nat.one_mul]
      omega) (by rw [Int.sub_self]; unfold absI; split <;> split <;> omega)
    have h3 := absI_tri (rd l (((y + (d + 1)) * w + x : Nat) : Int)) (rd l (((y + d) * w + x : Nat) : Int)) (rd l ((y * w + x : Nat) : Int))
    rw [show ((d + 1 : Nat) : Int) = (d : Int) + 1 from by omega, Int.mul_add, Int.mul_one]
    omega
theorem keeps_rows (w h : Nat) (l : List Int) (hl : l.length = w * h) (v : Int) (hk : Keeps (w : Int) l v) (y : Nat) (hy : y < h) (x x' : Nat) (hx : x < w) (hx' : x' < w) : absI (rd l ((y * w + x : Nat) : Int) - rd l ((y * w + x' : Nat) : Int)) ≤ v * absI ((x : Int) - (x' : Int)) := by
  by_cases c : x' ≤ x
  · have := keeps_row w h l hl v hk y hy (x - x') x' (by omega)
    rw [show x' + (x - x') = x by omega] at this
    rw [show absI ((x : Int) - (x' : Int)) = ((x - x' : Nat) : Int) by unfold absI; split <;> omega]; exact this
  · have := keeps_row w h l hl v hk y hy (x' - x) x (by omega)
    rw [show x + (x' - x) = x' by omega] at this
    rw [absI_sym, show absI ((x : Int) - (x' : Int)) = ((x' - x : Nat) : Int) by unfold absI; split <;> omega]; exact this
theorem keeps_cols (w h : Nat) (l : List Int) (hl : l.length = w * h) (v : Int) (hk : Keeps (w : Int) l v) (x : Nat) (hx : x < w) (y y' : Nat) (hy : y < h) (hy' : y' < h) : absI (rd l ((y * w + x : Nat) : Int) - rd l ((y' * w + x : Nat) : Int)) ≤ v * absI ((y : Int) - (y' : Int)) := by
  by_cases c : y' ≤ y
  · have := keeps_col w h l hl v hk x hx (y - y') y' (by omega)
    rw [show y' + (y - y') = y by omega] at this
    rw [show absI ((y : Int) - (y' : Int)) = ((y - y' : Nat) : Int) by unfold absI; split <;> omega]; exact this
  · have := keeps_col w h l hl v hk x hx (y' - y) y (by omega)
    rw [show y + (y' - y) = y' by omega] at this
    rw [absI_sym, show absI ((y : Int) - (y' : Int)) = ((y' - y : Nat) : Int) by unfold absI; split <;> omega]; exact this
theorem keeps_all (w h : Nat) (hw : 0 < w) (l : List Int) (hl : l.length = w * h) (v : Int) (hk : Keeps (w : Int) l v) (i k : Nat) (hi : i < l.length) (hk' : k < l.length) : absI (rd l i - rd l k) ≤ v * distI (w : Int) i k := by
  have ei : i = i / w * w + i % w := by rw [Nat.mul_comm]; exact (Nat.div_add_mod i w).symm
  have ek : k = k / w * w + k % w := by rw [Nat.mul_comm]; exact (Nat.div_add_mod k w).symm
  have mi := Nat.mod_lt i hw
  have mk := Nat.mod_lt k hw
  have di : i / w < h := Nat.div_lt_of_lt_mul (by omega)
  have dk : k / w < h := Nat.div_lt_of_lt_mul (by omega)
  rw [distN, Int.mul_add]
  have h1 := keeps_rows w h l hl v hk (i / w) di (i % w) (k % w) mi mk
  have h2 := keeps_cols w h l hl v hk (k % w) mk (i / w) (k / w) di dk
  have h3 := absI_tri (rd l ((i / w * w + i % w : Nat) : Int)) (rd l ((i / w * w + k % w : Nat) : Int)) (rd l ((k / w * w + k % w : Nat) : Int))
  rw [← ei, ← ek] at h3
  rw [← ei] at h1
  rw [← ek] at h2
  omega
theorem env_same (up : Bool) (w h : Nat) (hw : 0 < w) (l res : List Int) (hl : l.length = w * h) (v : Int) (hk : Keeps (w : Int) l v) (hr : res.length = l.length) (he : ∀ j, j < l.length → EnvC up v (w : Int) l res j l.length) : res = l := by
  refine List.ext_getElem hr fun j h1 h2 => ?_
  obtain ⟨g1, _, m, hm, g2⟩ := he j h2
  have g3 := keeps_all w h hw l hl v hk j m h2 hm
  rw [rd_lt _ _ h1, rd_lt _ _ h2] at g1
  rw [rd_lt _ _ h1] at g2
  rw [rd_lt _ _ h2] at g3
  unfold absI at g3
  cases up <;> simp only [sgn, if_true, Bool.false_eq_true, if_false] at g1 g2 <;> split at g3 <;> omega
theorem full_of {a b : Int} {l o : List Int} (h : fieldB a b l = true) (ho : o.length = l.length) (hb : inBounds o) : fullB a b o = true := by
  unfold fullB
  rw [bounds_valid h ho hb, Bool.true_and, Bool.not_eq_true', List.any_eq_false]
  intro n hn
  have := hb n hn
  simp; omega
theorem impl_keeps (a b : Int) (l : List Int) (v : Int) (hv : inB 0 1000 v = true) (h : fullB a b l = true) : ∃ t, Ev (fun k => impl_steepestSlope.f k a b l) t ∧ (t ≤ v ↔ Keeps a l v) ∧ Ev (fun k => impl_KeepsSlope.f k a b l v) (decide (t ≤ v), true) ∧ Ev (fun k => impl_SteepestSlope.f k a b l) (t, true) := by
  have hp := full_parts h
  have hf := fieldB_len hp.1
  have hw : 1 ≤ a ∧ a ≤ 8 := by simpa [sideB] using hf.2.1
  have hv' : 0 ≤ v ∧ v ≤ 1000 := by simpa [inB] using hv
  obtain ⟨t, e, ht⟩ := steepest a b l hw hf.2.2.2.2.1 hp.2
  refine ⟨t, e, ht v hv'.1, ?_, ?_⟩
  · unfold impl_KeepsSlope.f
    exact Ev.bind (isFull a b l (by omega)) (Ev.pos h (Ev.bindc (isSlope_f v) (Ev.pos hv (Ev.bind e (Ev.const rfl)))))
  · unfold impl_SteepestSlope.f
    exact Ev.bind (isFull a b l (by omega)) (Ev.pos h (Ev.bind e (Ev.const rfl)))
end Go.Proofs.Ytdmkbfjipgaloaa.Pure

namespace Go.Proofs.Ytdmkbfjipgaloaa.Pure
open Go.RowKit Go.Proofs.Ytdmkbfjipgaloaa.P Go.Proofs.YtdmkbfjipgaloaaW.PrintWords Go.Proofs.YtdmkbfjipgaloaaW.PrintLast

theorem vInts_l0 (a : List Int) (hl : a.length ≤ 1048576) : ∀ (d i : Nat), a.length - i = d → i ≤ a.length → Ev (fun k => laws_vInts.l0 k a a (i : Int)) true := by
  intro d
  induction d with
  | zero =>
    intro i hd hi
    exact Ev.step (fun k => by rw [laws_vInts.l0]) (Ev.neg (by omega) (Ev.const rfl))
  | succ d ih =>
    intro i hd hi
    refine Ev.step (fun k => by rw [laws_vInts.l0]) ?_
    refine Ev.pos (by omega) (Ev.pos (by omega) (Ev.pos (by omega) (Ev.pos rfl ?_)))
    rw [w64 (by omega) (by omega), show (i : Int) + 1 = ((i + 1 : Nat) : Int) from by omega]
    exact ih (i + 1) (by omega) (by omega)
theorem vField_refl (a b : Int) (l : List Int) (hl : l.length ≤ 1048576) : Ev (fun k => laws_vField.f k a b l a b l) true := by
  unfold laws_vField.f
  refine Ev.pos rfl (Ev.pos rfl (Ev.bind (a := true) ?_ (Ev.const rfl)))
  unfold laws_vInts.f
  exact Ev.pos rfl (vInts_l0 l hl _ 0 rfl (by omega))
theorem slopes_l0 (s : Bool) (a b : Int) (l lo hi : List Int) (hl : l.length ≤ 64) (h1 : lo.length = l.length) (h2 : hi.length = l.length) (hlo : ∀ j : Nat, j < l.length → rd lo j ≤ rd l j) (hhi : ∀ j : Nat, j < l.length → rd l j ≤ rd hi j) (hs : s = true → lo = l ∧ hi = l) :
    ∀ (d i : Nat), l.length - i = d → i ≤ l.length → Ev (fun k => laws_FnSlopes.l0 k s (i : Int) a b l a b lo a b hi) true := by
  intro d
  induction d with
  | zero =>
    intro i hd hi'
    refine Ev.step (fun k => by rw [laws_FnSlopes.l0]) (Ev.neg (by omega) ?_)
    cases s with
    | false => exact Ev.neg (by simp) (Ev.const rfl)
    | true =>
      obtain ⟨g1, g2⟩ := hs rfl
      rw [g1, g2]
      exact Ev.pos rfl (Ev.bind (vField_refl a b l (by omega)) (Ev.pos rfl (Ev.bind (vField_refl a b l (by omega)) (Ev.const rfl))))
  | succ d ih =>
    intro i hd hi'
    have := hlo i (by omega)
    have := hhi i (by omega)
    refine Ev.step (fun k => by rw [laws_FnSlopes.l0]) ?_
    refine Ev.pos (by omega) (Ev.pos (by omega) (Ev.pos (by omega) (Ev.neg (by omega) (Ev.pos (by omega) (Ev.neg (by omega) ?_)))))
    rw [w64 (by omega) (by omega), show (i : Int) + 1 = ((i + 1 : Nat) : Int) from by omega]
    exact ih (i + 1) (by omega) (by omega)
theorem FnSlopes : laws_FnSlopes.Pure := by
  intro l0 _ _ hwf
  apply Ev.rounds
  have hc : Code l0 := code_of hwf
  unfold laws_FnSlopes.f
  refine Ev.bindc (show laws_vBig.f l0 = some (decide ((l0.length : Int) > 65536)) from rfl) ?_
  refine Ev.cases (fun _ => Ev.now _) (fun _ => ?_)
  obtain ⟨a, b, l, v, hd, hl⟩ := drawLower hc
  obtain ⟨q, hq1, hq2, hq3, hq4⟩ := lowerSlopes a b l v (by omega)
  obtain ⟨p, hp1, hp2, hp3, hp4⟩ := raiseSlopes a b l v (by omega)
  rcases hq2 with ⟨c1, c2, lo, rfl, glo, blo, elo⟩ | ⟨c, rfl⟩
  · rcases hp2 with ⟨_, _, hi, rfl, ghi, bhi, ehi⟩ | ⟨c, _⟩
    · refine Ev.bind hd (Ev.bind hq4 (Ev.bind hp4 (Ev.bind hq3 (Ev.neg (by simp) (Ev.neg (by simp) (Ev.bind (vField_refl a b lo (by omega)) ?_))))))
      refine Ev.step (fun k => by rw [laws_FnSlopes.j0]) (Ev.neg (by simp) (Ev.bind hp3 (Ev.bind (vField_refl a b hi (by omega)) (Ev.pos rfl (Ev.pos rfl ?_)))))
      have hfp := full_parts c1
      have hf := fieldB_len hfp.1
      have hw : 1 ≤ a ∧ a ≤ 8 := by simpa [sideB] using hf.2.1
      have hh : 1 ≤ b ∧ b ≤ 8 := by simpa [sideB] using hf.2.2.1
      have hv' : 0 ≤ v ∧ v ≤ 1000 := by simpa [inB] using c2
      obtain ⟨t1, _, i1, k1, _⟩ := impl_keeps a b lo v c2 (full_of hfp.1 glo blo)
      obtain ⟨t2, _, i2, k2, _⟩ := impl_keeps a b hi v c2 (full_of hfp.1 ghi bhi)
      obtain ⟨t3, _, i3, k3, s3⟩ := impl_keeps a b l v c2 c1
      have m1 := decide_eq_true (i1.2 (env_keeps true v a hv'.1 l lo glo elo))
      have m2 := decide_eq_true (i2.2 (env_keeps false v a hv'.1 l hi ghi ehi))
      refine Ev.bind k1 (Ev.bind k2 (Ev.bind k3 (Ev.bind s3 (Ev.pos rfl (Ev.pos m1 (Ev.pos rfl (Ev.pos m2 (Ev.pos rfl (Ev.pos rfl ?_)))))))))
      refine Ev.step (fun k => by rw [laws_FnSlopes.j1]) (Ev.neg (by simp) ?_)
      refine slopes_l0 _ a b l lo hi hl glo ghi (fun j hj => ?_) (fun j hj => ?_) (fun hs => ?_) _ 0 rfl (by omega)
      · have := (elo j hj).1
        simpa only [sgn, if_true] using this
      · have := (ehi j hj).1
        simp only [sgn, Bool.false_eq_true, if_false] at this
        omega
      · have hk := i3.1 (by simpa using hs)
        obtain ⟨w, rfl⟩ : ∃ w : Nat, a = (w : Int) := ⟨a.toNat, by omega⟩
        obtain ⟨h, rfl⟩ : ∃ h : Nat, b = (h : Int) := ⟨b.toNat, by omega⟩
        have hlen : l.length = w * h := by have := hf.1; rw [← Int.natCast_mul] at this; omega
        exact ⟨env_same true w h (by omega) l lo hlen v hk glo elo, env_same false w h (by omega) l hi hlen v hk ghi ehi⟩
    · exact absurd ⟨c1, c2⟩ c
  · rcases hp2 with ⟨c1, c2, _⟩ | ⟨_, rfl⟩
    · exact absurd ⟨c1, c2⟩ c
    · refine Ev.bind hd (Ev.bind hq4 (Ev.bind hp4 (Ev.bind hq3 (Ev.neg (by simp) (Ev.neg (by simp) (Ev.bind (vField_refl 0 0 [] (by simp)) ?_))))))
      refine Ev.step (fun k => by rw [laws_FnSlopes.j0]) (Ev.neg (by simp) (Ev.bind hp3 (Ev.bind (vField_refl 0 0 [] (by simp)) (Ev.pos rfl (Ev.neg Bool.false_ne_true (Ev.now _))))))
end Go.Proofs.Ytdmkbfjipgaloaa.Pure
