/- An edited region contains the cells that differ, and spreading the mean keeps the total. Conditions: none beyond the given statement's. -/
import Derived.Test.YtdmkbfjipgaloaaPx0
import Derived.Test.YtdmkbfjipgaloaaPx16
import Derived.Test.YtdmkbfjipgaloaaPx18
import Derived.Test.YtdmkbfjipgaloaaPx29
import Derived.Test.YtdmkbfjipgaloaaPx39
import Derived.Test.YtdmkbfjipgaloaaPx40
import Derived.Test.YtdmkbfjipgaloaaPx7
import Derived.Test.YtdmkbfjipgaloaaPx4
import Derived.Test.YtdmkbfjipgaloaaPx9
import Derived.Test.YtdmkbfjipgaloaaPx6
import Derived.Test.YtdmkbfjipgaloaaPx10
import Derived.Test.YtdmkbfjipgaloaaPx20
import Derived.Test.YtdmkbfjipgaloaaPx22
import Derived.Test.YtdmkbfjipgaloaaPx25
import Derived.Test.YtdmkbfjipgaloaaPx24
import Derived.Test.YtdmkbfjipgaloaaPx28
import Derived.Test.YtdmkbfjipgaloaaPx27
import Derived.Test.YtdmkbfjipgaloaaPx42
import Derived.Test.YtdmkbfjipgaloaaPx43
/- Small laws on "with enough rounds the function answers r" (Ev) and on wrapping sums; used by every plain law of this seat. -/
namespace Go.Proofs.Ytdmkbfjipgaloaa.Pure
open Go.RowKit Go.Proofs.YtdmkbfjipgaloaaW.PrintWords Go.Proofs.YtdmkbfjipgaloaaW.PrintLast

section
variable {α β : Type} {r : α} {f g : Nat → Option α}
theorem Ev.pos {c : Prop} [Decidable c] (h : c) (e : Ev f r) : Ev (fun k => if c then f k else g k) r := e.congr fun _ => if_pos h
theorem Ev.neg {c : Prop} [Decidable c] (h : ¬ c) (e : Ev g r) : Ev (fun k => if c then f k else g k) r := e.congr fun _ => if_neg h
theorem Ev.const {a : Option α} (h : a = some r) : Ev (fun _ => a) r := ⟨0, fun _ _ => h⟩
theorem Ev.bindc {a : Option β} {b : β} {f : Nat → β → Option α} (h : a = some b) (k : Ev (fun n => f n b) r) : Ev (fun n => a.bind (f n)) r := Ev.bind (Ev.const h) k
theorem Ev.eq {r' : α} (h : Ev f r) (e : r = r') : Ev f r' := e ▸ h
theorem Ev.cases {c : Prop} [Decidable c] (h1 : c → Ev f r) (h2 : ¬ c → Ev g r) : Ev (fun k => if c then f k else g k) r := by
  by_cases h : c
  · exact Ev.pos h (h1 h)
  · exact Ev.neg h (h2 h)
end

theorem w64 {x : Int} (h1 : -9223372036854775808 ≤ x) (h2 : x ≤ 9223372036854775807) : wrap64 x = x := by unfold wrap64; omega

theorem rd_lt (l : List Int) (i : Nat) (h : i < l.length) : rd l (i : Int) = l[i] := by simp [rd, h]
theorem drop_cons' {α : Type} (l : List α) (i : Nat) (h : i < l.length) : l.drop i = l[i] :: l.drop (i + 1) := List.drop_eq_getElem_cons h
end Go.Proofs.Ytdmkbfjipgaloaa.Pure

/- The reader of choices: it always gives a choice in its range and goes on by a bounded step. -/
namespace Go.Proofs.Ytdmkbfjipgaloaa.Pure
open Go.RowKit Go.Proofs.Ytdmkbfjipgaloaa.P Go.Proofs.YtdmkbfjipgaloaaW.PrintWords Go.Proofs.YtdmkbfjipgaloaaW.PrintLast

/-- The bytes that are read. -/
def Code (l : List Int) : Prop := ∀ x ∈ l, 0 ≤ x ∧ x ≤ 255
theorem code_of {l : List Int} (h : ∀ x ∈ l, (Lit.int .u8 x).wf = true) : Code l := fun x hx => by
  have := h x hx
  simp only [Lit.wf, Bool.and_eq_true, decide_eq_true_eq] at this
  exact this
theorem rd_code {l : List Int} (h : Code l) (i : Int) (h0 : 0 ≤ i) (h1 : i < l.length) : 0 ≤ rd l i ∧ rd l i ≤ 255 := by
  obtain ⟨n, rfl⟩ : ∃ n : Nat, i = n := ⟨i.toNat, by omega⟩
  rw [rd_lt l n (by omega)]
  exact h _ (List.getElem_mem (by omega))
theorem wrap_u64' (n : Int) : IntKind.u64.wrap n = n % 18446744073709551616 := by simp [IntKind.wrap, IntKind.bits, IntKind.signed]
theorem byte_of (n : Int) : 0 ≤ Go.bits .and .u64 (IntKind.u64.wrap n / 1099511627776) 255 ∧ Go.bits .and .u64 (IntKind.u64.wrap n / 1099511627776) 255 ≤ 255 := by
  rw [wrap_u64']
  have h := bits_mask .u64 24 (by decide) (fun n h0 h1 => by rw [wrap_u64']; omega) 8 (by decide) (n % 18446744073709551616 / 1099511627776) (by omega) (by omega)
  simp only [show ((2 : Int) ^ 8) = 256 from by decide, show ((256 : Int) - 1) = 255 from by decide] at h
  rw [h]; omega

/-- Where the reader stands: not far from the begin. -/
def At (a : Int) (n : Nat) : Prop := 0 ≤ a ∧ a ≤ n ∧ n ≤ 1000000000
theorem At.le {a : Int} {n m : Nat} (h : At a n) (hn : n ≤ m) (hm : m ≤ 1000000000) : At a m := ⟨h.1, by have := h.2.1; omega, hm⟩

theorem next_ok {l : List Int} (hc : Code l) {a s : Int} {n : Nat} (h : At a n) (hn : n + 1 ≤ 1000000000) : ∃ b a' s', spec_l1Cur_next.f l a s = some (b, a', s') ∧ 0 ≤ b ∧ b ≤ 255 ∧ At a' (n + 1) := by
  obtain ⟨h0, h1, h2⟩ := h
  have hw : wrap64 (a + 1) = a + 1 := w64 (by omega) (by omega)
  have ha : At (a + 1) (n + 1) := ⟨by omega, by omega, hn⟩
  unfold spec_l1Cur_next.f
  rw [hw]
  by_cases c1 : a < (l.length : Int)
  · have hr := rd_code hc a h0 c1
    rw [if_pos c1, if_pos h0, if_pos (by omega), w64 (x := rd l a) (by omega) (by omega)]
    exact ⟨_, _, _, rfl, hr.1, hr.2, ha⟩
  · rw [if_neg c1, if_neg (by omega)]
    have hb := byte_of (IntKind.u64.wrap (IntKind.u64.wrap (s * 6364136223846793005) + 0) + 889889)
    rw [w64 (x := Go.bits .and .u64 _ 255) (by omega) (by omega)]
    exact ⟨_, _, _, rfl, hb.1, hb.2, ha⟩
theorem pick_ok {l : List Int} (hc : Code l) {a s : Int} {n : Nat} (h : At a n) (hn : n + 2 ≤ 1000000000) (m : Int) (hm : m ≤ 1000000) : ∃ b a' s', spec_l1Cur_pick.f l a s m = some (b, a', s') ∧ 0 ≤ b ∧ (b < m ∨ b = 0) ∧ At a' (n + 2) := by
  unfold spec_l1Cur_pick.f
  by_cases c : m ≤ 1
  · rw [if_pos c]; exact ⟨_, _, _, rfl, by omega, .inr rfl, h.le (by omega) hn⟩
  · rw [if_neg c]
    obtain ⟨b, a', s', e, hb0, hb1, h'⟩ := next_ok hc (s := s) h (by omega)
    rw [e]
    simp only [Option.bind_some]
    by_cases c2 : m > 200
    · rw [if_pos c2]
      obtain ⟨b2, a2, s2, e2, hc0, hc1, h2⟩ := next_ok hc (s := s') h' (by omega)
      rw [e2]
      simp only [Option.bind_some]
      rw [if_neg (by omega), w64 (x := b * 256) (by omega) (by omega), w64 (x := b * 256 + b2) (by omega) (by omega)]
      refine ⟨_, _, _, rfl, Int.tmod_nonneg _ (by omega), .inl (Int.tmod_lt_of_pos _ (by omega)), h2.le (by omega) (by omega)⟩
    · rw [if_neg c2, if_neg (by omega)]
      exact ⟨_, _, _, rfl, Int.tmod_nonneg _ hb0, .inl (Int.tmod_lt_of_pos _ (by omega)), h'.le (by omega) (by omega)⟩
end Go.Proofs.Ytdmkbfjipgaloaa.Pure

/- The reader of choices: one of some numbers. -/
namespace Go.Proofs.Ytdmkbfjipgaloaa.Pure
open Go.RowKit Go.Proofs.Ytdmkbfjipgaloaa.P Go.Proofs.YtdmkbfjipgaloaaW.PrintWords Go.Proofs.YtdmkbfjipgaloaaW.PrintLast

theorem among_ok {l : List Int} (hc : Code l) {a s : Int} {n : Nat} (h : At a n) (hn : n + 2 ≤ 1000000000) (xs : List Int) (hx : xs ≠ []) (hm : xs.length ≤ 1000000) : ∃ b a' s', spec_l1Cur_among.f l a s xs = some (b, a', s') ∧ b ∈ xs ∧ At a' (n + 2) := by
  unfold spec_l1Cur_among.f
  obtain ⟨b, a', s', e, h0, h1, h'⟩ := pick_ok hc (s := s) h hn (xs.length : Int) (by omega)
  have hp := List.length_pos_iff.2 hx
  rw [e]
  simp only [Option.bind_some]
  obtain ⟨j, rfl⟩ : ∃ j : Nat, b = j := ⟨b.toNat, by omega⟩
  rw [if_pos h0, if_pos (by omega), rd_lt xs j (by omega)]
  exact ⟨_, _, _, rfl, List.getElem_mem (by omega), h'⟩
end Go.Proofs.Ytdmkbfjipgaloaa.Pure

/- The reader of choices: yes or no. -/
namespace Go.Proofs.Ytdmkbfjipgaloaa.Pure
open Go.RowKit Go.Proofs.Ytdmkbfjipgaloaa.P Go.Proofs.YtdmkbfjipgaloaaW.PrintWords Go.Proofs.YtdmkbfjipgaloaaW.PrintLast

theorem one_ok {l : List Int} (hc : Code l) {a s : Int} {n : Nat} (h : At a n) (hn : n + 2 ≤ 1000000000) (m : Int) (hm : m ≤ 1000000) : ∃ b a' s', spec_l1Cur_one.f l a s m = some (b, a', s') ∧ At a' (n + 2) := by
  unfold spec_l1Cur_one.f
  obtain ⟨b, a', s', e, _, _, h'⟩ := pick_ok hc (s := s) h hn m hm
  rw [e]
  exact ⟨_, _, _, rfl, h'⟩
end Go.Proofs.Ytdmkbfjipgaloaa.Pure

/- The drawn field without missing cells and its slope. -/
namespace Go.Proofs.Ytdmkbfjipgaloaa.Pure
open Go.RowKit Go.Proofs.Ytdmkbfjipgaloaa.P Go.Proofs.YtdmkbfjipgaloaaW.PrintWords Go.Proofs.YtdmkbfjipgaloaaW.PrintLast

theorem l2Fill88 : ∀ (d i : Nat) (x : List Int), 64 - i = d → i ≤ 64 → x.length = i → ∃ r, r.length = 64 ∧ Ev (fun k => spec_l2Fill.l0 k 8 8 3 (i : Int) 8 8 x) (8, 8, r) := by
  intro d
  induction d with
  | zero =>
    intro i x hd hi hx
    exact ⟨x, by omega, Ev.step (fun k => by rw [spec_l2Fill.l0]) (Ev.neg (by rw [w64 (by omega) (by omega)]; omega) (Ev.now _))⟩
  | succ d ih =>
    intro i x hd hi hx
    obtain ⟨r, hr, e⟩ := ih (i + 1) (x ++ [3]) (by omega) (by omega) (by simp; omega)
    refine ⟨r, hr, Ev.step (fun k => by rw [spec_l2Fill.l0]) (Ev.pos (by rw [w64 (by omega) (by omega)]; omega) (Ev.pos (by omega) ?_))⟩
    rw [w64 (by omega) (by omega), show (i : Int) + 1 = ((i + 1 : Nat) : Int) from by omega]
    exact e
theorem field_j1 {l : List Int} (hc : Code l) {a s : Int} {n : Nat} (h : At a n) (hn : n ≤ 700000000) (p q : Int) (x : List Int) (hx : 1 ≤ x.length ∧ x.length ≤ 64) :
    ∃ p' q' r a' s', Ev (fun k => spec_l1Cur_field.j1 k l a s p q x) (p', q', r, a', s') ∧ (1 ≤ r.length ∧ r.length ≤ 64) ∧ At a' (n + 10) := by
  obtain ⟨b, a1, s1, e1, h1⟩ := one_ok hc (s := s) h (by omega) 24 (by omega)
  cases b with
  | true =>
    obtain ⟨r, hr, e⟩ := l2Fill88 64 0 [] rfl (by omega) rfl
    refine ⟨8, 8, r, a1, s1, ?_, by omega, h1.le (by omega) (by omega)⟩
    refine Ev.step (fun k => by rw [spec_l1Cur_field.j1]) ?_
    refine Ev.bindc e1 (Ev.pos rfl ?_)
    refine Ev.bind (a := (8, 8, r)) ?_ (Ev.now _)
    unfold spec_l2Fill.f
    exact e
  | false =>
    refine ⟨p, q, x, a1, s1, ?_, hx, h1.le (by omega) (by omega)⟩
    refine Ev.step (fun k => by rw [spec_l1Cur_field.j1]) ?_
    exact Ev.bindc e1 (Ev.neg (by simp) (Ev.now _))
theorem field_l0 {l : List Int} (hc : Code l) (base p q : Int) (m : Nat) (hm : wrap64 (p * q) = (m : Int)) (hm1 : 1 ≤ m ∧ m ≤ 64) : ∀ (d i : Nat) (x : List Int) (a s : Int) (n : Nat), m - i = d → i ≤ m → x.length = i → At a n → n ≤ 600000000 + 8 * i →
    ∃ p' q' r a' s', Ev (fun k => spec_l1Cur_field.l0 k base (i : Int) l a s p q x) (p', q', r, a', s') ∧ (1 ≤ r.length ∧ r.length ≤ 64) ∧ At a' (n + 8 * d + 30) := by
  intro d
  induction d with
  | zero =>
    intro i x a s n hd hi hx h hn
    obtain ⟨b, a1, s1, e1, h1⟩ := one_ok hc (s := s) h (by omega) 10 (by omega)
    cases b with
    | true =>
      obtain ⟨b2, a2, s2, e2, hb0, hb1, h2⟩ := pick_ok hc (s := s1) h1 (by omega) (x.length : Int) (by omega)
      obtain ⟨b3, a3, s3, e3, _, h3⟩ := among_ok hc (s := s2) h2 (by omega) [9000, (-9000), 0] (by simp) (by simp)
      obtain ⟨p', q', r, a', s', e4, hr, h4⟩ := field_j1 hc (s := s3) h3 (by omega) p q (x.set b2.toNat b3) (by simp; omega)
      refine ⟨p', q', r, a', s', ?_, hr, h4.le (by omega) (by omega)⟩
      refine Ev.step (fun k => by rw [spec_l1Cur_field.l0]) ?_
      exact Ev.neg (by omega) (Ev.bindc e1 (Ev.pos rfl (Ev.bindc e2 (Ev.bindc e3 (Ev.pos hb0 (Ev.pos (by simp only; omega) e4))))))
    | false =>
      obtain ⟨p', q', r, a', s', e4, hr, h4⟩ := field_j1 hc (s := s1) h1 (by omega) p q x (by omega)
      refine ⟨p', q', r, a', s', ?_, hr, h4.le (by omega) (by omega)⟩
      refine Ev.step (fun k => by rw [spec_l1Cur_field.l0]) ?_
      exact Ev.neg (by omega) (Ev.bindc e1 (Ev.neg (by simp) e4))
  | succ d ih =>
    intro i x a s n hd hi hx h hn
    obtain ⟨b, a1, s1, e1, hb0, hb1, h1⟩ := pick_ok hc (s := s) h (by omega) 40 (by omega)
    obtain ⟨c, a2, s2, e2, h2⟩ := one_ok hc (s := s1) h1 (by omega) 12 (by omega)
    cases c with
    | true =>
      obtain ⟨p', q', r, a', s', e4, hr, h4⟩ := ih (i + 1) (x ++ [-9999]) a2 s2 _ (by omega) (by omega) (by simp; omega) h2 (by omega)
      refine ⟨p', q', r, a', s', ?_, hr, h4.le (by omega) (by omega)⟩
      refine Ev.step (fun k => by rw [spec_l1Cur_field.l0]) ?_
      refine Ev.pos (by omega) (Ev.bindc e1 (Ev.bindc e2 (Ev.pos rfl (Ev.pos (by omega) ?_))))
      rw [w64 (by omega) (by omega), show (i : Int) + 1 = ((i + 1 : Nat) : Int) from by omega]
      exact e4
    | false =>
      obtain ⟨p', q', r, a', s', e4, hr, h4⟩ := ih (i + 1) (x ++ [wrap64 (base + b)]) a2 s2 _ (by omega) (by omega) (by simp; omega) h2 (by omega)
      refine ⟨p', q', r, a', s', ?_, hr, h4.le (by omega) (by omega)⟩
      refine Ev.step (fun k => by rw [spec_l1Cur_field.l0]) ?_
      refine Ev.pos (by omega) (Ev.bindc e1 (Ev.bindc e2 (Ev.neg (by simp) (Ev.pos (by omega) ?_))))
      rw [w64 (x := (i : Int) + 1) (by omega) (by omega), show (i : Int) + 1 = ((i + 1 : Nat) : Int) from by omega]
      exact e4
theorem field_ok {l : List Int} (hc : Code l) {a s : Int} {n : Nat} (h : At a n) (hn : n ≤ 500000000) : ∃ p q r a' s', Ev (fun k => spec_l1Cur_field.f k l a s) (p, q, r, a', s') ∧ (1 ≤ r.length ∧ r.length ≤ 64) ∧ At a' (n + 1000) := by
  obtain ⟨b, a1, s1, e1, hb0, hb1, h1⟩ := pick_ok hc (s := s) h (by omega) 5 (by omega)
  obtain ⟨c, a2, s2, e2, hc0, hc1, h2⟩ := pick_ok hc (s := s1) h1 (by omega) 5 (by omega)
  obtain ⟨g, a3, s3, e3, _, h3⟩ := among_ok hc (s := s2) h2 (by omega) [0, 10, 100, (-50)] (by simp) (by simp)
  obtain ⟨b', rfl⟩ : ∃ j : Nat, b = j := ⟨b.toNat, by omega⟩
  obtain ⟨c', rfl⟩ : ∃ j : Nat, c = j := ⟨c.toNat, by omega⟩
  have hmul : 1 ≤ (1 + b') * (1 + c') ∧ (1 + b') * (1 + c') ≤ 25 :=
    ⟨Nat.mul_pos (by omega) (by omega), Nat.mul_le_mul (show 1 + b' ≤ 5 by omega) (show 1 + c' ≤ 5 by omega)⟩
  obtain ⟨p', q', r, a', s', e4, hr, h4⟩ := field_l0 hc g (1 + (b' : Int)) (1 + (c' : Int)) ((1 + b') * (1 + c')) (by
    rw [show (1 + (b' : Int)) * (1 + (c' : Int)) = (((1 + b') * (1 + c') : Nat) : Int) from by push_cast; rfl, w64 (by omega) (by omega)]) (by omega) _ 0 [] a3 s3 _ rfl (by omega) rfl h3 (by omega)
  refine ⟨p', q', r, a', s', ?_, hr, h4.le (by omega) (by omega)⟩
  unfold spec_l1Cur_field.f
  refine Ev.bindc e1 (Ev.bindc e2 (Ev.bindc e3 ?_))
  simp only
  rw [w64 (x := 1 + (b' : Int)) (by omega) (by omega), w64 (x := 1 + (c' : Int)) (by omega) (by omega)]
  exact e4
theorem anyField_ok {l : List Int} (hc : Code l) {a s : Int} {n : Nat} (h : At a n) (hn : n ≤ 400000000) : ∃ p q r a' s', Ev (fun k => spec_l1Cur_anyField.f k l a s) (p, q, r, a', s') ∧ r.length ≤ 64 ∧ At a' (n + 1010) := by
  obtain ⟨p, q, r, a1, s1, e1, hr, h1⟩ := field_ok hc (s := s) h (by omega)
  obtain ⟨b, a2, s2, e2, hb0, hb1, h2⟩ := pick_ok hc (s := s1) h1 (by omega) 24 (by omega)
  by_cases c0 : b = 0
  · obtain ⟨g, a3, s3, e3, _, h3⟩ := among_ok hc (s := s2) h2 (by omega) [0, 9, 8, q] (by simp) (by simp)
    refine ⟨g, q, r, a3, s3, ?_, hr.2, h3.le (by omega) (by omega)⟩
    unfold spec_l1Cur_anyField.f
    exact Ev.bind e1 (Ev.bindc e2 (Ev.pos c0 (Ev.bindc e3 (Ev.now _))))
  · by_cases c1 : b = 1
    · obtain ⟨c, a3, s3, e3, hc0, hc1, h3⟩ := pick_ok hc (s := s2) h2 (by omega) (r.length : Int) (by omega)
      obtain ⟨g, a4, s4, e4, _, h4⟩ := among_ok hc (s := s3) h3 (by omega) [9001, (-9001), (-9998), (-9999)] (by simp) (by simp)
      refine ⟨p, q, r.set c.toNat g, a4, s4, ?_, by simp; omega, h4.le (by omega) (by omega)⟩
      unfold spec_l1Cur_anyField.f
      exact Ev.bind e1 (Ev.bindc e2 (Ev.neg c0 (Ev.pos c1 (Ev.bindc e3 (Ev.bindc e4 (Ev.pos hc0 (Ev.pos (by simp only; omega) (Ev.now _))))))))
    · by_cases c2 : b = 2
      · refine ⟨p, q, r.drop (1 : Int).toNat, a2, s2, ?_, by simp; omega, h2.le (by omega) (by omega)⟩
        unfold spec_l1Cur_anyField.f
        exact Ev.bind e1 (Ev.bindc e2 (Ev.neg c0 (Ev.neg c1 (Ev.pos c2 (Ev.pos (by simp only; omega) (Ev.now _))))))
      · refine ⟨p, q, r, a2, s2, ?_, hr.2, h2.le (by omega) (by omega)⟩
        unfold spec_l1Cur_anyField.f
        exact Ev.bind e1 (Ev.bindc e2 (Ev.neg c0 (Ev.neg c1 (Ev.neg c2 (Ev.now _)))))
theorem full_l0 {l : List Int} (hc : Code l) (p q : Int) : ∀ (d i : Nat) (x : List Int) (a s : Int) (n : Nat), x.length - i = d → i ≤ x.length → x.length ≤ 64 → At a n → n ≤ 500000000 + 8 * i →
    ∃ r a' s', Ev (fun k => spec_l1Cur_full.l0 k (i : Int) l a s p q x) (p, q, r, a', s') ∧ r.length ≤ 64 ∧ At a' (n + 8 * d) := by
  intro d
  induction d with
  | zero =>
    intro i x a s n hd hi hx h hn
    exact ⟨x, a, s, Ev.step (fun k => by rw [spec_l1Cur_full.l0]) (Ev.neg (by omega) (Ev.now _)), hx, h.le (by omega) (by omega)⟩
  | succ d ih =>
    intro i x a s n hd hi hx h hn
    by_cases c : rd x (i : Int) = -9999
    · obtain ⟨b, a1, s1, e1, h1⟩ := one_ok hc (s := s) h (by omega) 30 (by omega)
      cases b with
      | true =>
        obtain ⟨r, a', s', e4, hr, h4⟩ := ih (i + 1) x a1 s1 _ (by omega) (by omega) hx h1 (by omega)
        refine ⟨r, a', s', ?_, hr, h4.le (by omega) (by omega)⟩
        refine Ev.step (fun k => by rw [spec_l1Cur_full.l0]) ?_
        refine Ev.pos (by omega) (Ev.pos (by omega) (Ev.pos c (Ev.bindc e1 (Ev.pos rfl ?_))))
        rw [w64 (by omega) (by omega), show (i : Int) + 1 = ((i + 1 : Nat) : Int) from by omega]
        exact e4
      | false =>
        obtain ⟨g, a2, s2, e2, _, _, h2⟩ := pick_ok hc (s := s1) h1 (by omega) 90 (by omega)
        obtain ⟨r, a', s', e4, hr, h4⟩ := ih (i + 1) (x.set i (wrap64 (g - 40))) a2 s2 _ (by simp; omega) (by simp; omega) (by simpa using hx) h2 (by omega)
        refine ⟨r, a', s', ?_, hr, h4.le (by omega) (by omega)⟩
        refine Ev.step (fun k => by rw [spec_l1Cur_full.l0]) ?_
        refine Ev.pos (by omega) (Ev.pos (by omega) (Ev.pos c (Ev.bindc e1 (Ev.neg (by simp) (Ev.bindc e2 ?_)))))
        rw [w64 (x := (i : Int) + 1) (by omega) (by omega), show (i : Int) + 1 = ((i + 1 : Nat) : Int) from by omega, Int.toNat_natCast]
        exact e4
    · obtain ⟨r, a', s', e4, hr, h4⟩ := ih (i + 1) x a s n (by omega) (by omega) hx h (by omega)
      refine ⟨r, a', s', ?_, hr, h4.le (by omega) (by omega)⟩
      refine Ev.step (fun k => by rw [spec_l1Cur_full.l0]) ?_
      refine Ev.pos (by omega) (Ev.pos (by omega) (Ev.neg c ?_))
      rw [w64 (by omega) (by omega), show (i : Int) + 1 = ((i + 1 : Nat) : Int) from by omega]
      exact e4
theorem full_ok {l : List Int} (hc : Code l) {a s : Int} {n : Nat} (h : At a n) (hn : n ≤ 300000000) : ∃ p q r a' s', Ev (fun k => spec_l1Cur_full.f k l a s) (p, q, r, a', s') ∧ r.length ≤ 64 ∧ At a' (n + 1600) := by
  obtain ⟨p, q, r, a1, s1, e1, hr, h1⟩ := anyField_ok hc (s := s) h (by omega)
  obtain ⟨r2, a', s', e2, hr2, h2⟩ := full_l0 hc p q _ 0 r a1 s1 _ rfl (by omega) hr h1 (by omega)
  refine ⟨p, q, r2, a', s', ?_, hr2, h2.le (by omega) (by omega)⟩
  unfold spec_l1Cur_full.f
  exact Ev.bind e1 e2
end Go.Proofs.Ytdmkbfjipgaloaa.Pure

/- Drawn regions, and the three draws of edits. -/
namespace Go.Proofs.Ytdmkbfjipgaloaa.Pure
open Go.RowKit Go.Proofs.Ytdmkbfjipgaloaa.P Go.Proofs.YtdmkbfjipgaloaaW.PrintWords Go.Proofs.YtdmkbfjipgaloaaW.PrintLast

theorem regionOf_l0 {l : List Int} (hc : Code l) (p q : Int) (c : List Int) (hcl : c.length ≤ 64) : ∀ (d i : Nat) (x : List Int) (a s : Int) (n : Nat), c.length - i = d → i ≤ c.length → x.length ≤ i → At a n → n ≤ 500000000 + 8 * i →
    ∃ r a' s', Ev (fun k => spec_l1Cur_regionOf.l0 k x (i : Int) l a s p q c) (r, a', s') ∧ r.length ≤ 65 ∧ At a' (n + 4 * (d + 1)) := by
  intro d
  induction d with
  | zero =>
    intro i x a s n hd hi hx h hn
    obtain ⟨b, a1, s1, e1, h1⟩ := one_ok hc (s := s) h (by omega) 16 (by omega)
    cases b with
    | true =>
      obtain ⟨g, a2, s2, e2, _, h2⟩ := among_ok hc (s := s1) h1 (by omega) [64, 0, (-1)] (by simp) (by simp)
      refine ⟨x ++ [g], a2, s2, Ev.step (fun k => by rw [spec_l1Cur_regionOf.l0]) ?_, by simp; omega, h2.le (by omega) (by omega)⟩
      exact Ev.neg (by omega) (Ev.bindc e1 (Ev.pos rfl (Ev.bindc e2 (Ev.pos (by omega) (Ev.now _)))))
    | false =>
      refine ⟨x, a1, s1, Ev.step (fun k => by rw [spec_l1Cur_regionOf.l0]) ?_, by omega, h1.le (by omega) (by omega)⟩
      exact Ev.neg (by omega) (Ev.bindc e1 (Ev.neg (by simp) (Ev.now _)))
  | succ d ih =>
    intro i x a s n hd hi hx h hn
    obtain ⟨b, a1, s1, e1, h1⟩ := one_ok hc (s := s) h (by omega) 3 (by omega)
    cases b with
    | true =>
      obtain ⟨r, a', s', e4, hr, h4⟩ := ih (i + 1) (x ++ [(i : Int)]) a1 s1 _ (by omega) (by omega) (by simp; omega) h1 (by omega)
      refine ⟨r, a', s', Ev.step (fun k => by rw [spec_l1Cur_regionOf.l0]) ?_, hr, h4.le (by omega) (by omega)⟩
      refine Ev.pos (by omega) (Ev.bindc e1 (Ev.pos rfl (Ev.pos (by omega) ?_)))
      rw [w64 (by omega) (by omega), show (i : Int) + 1 = ((i + 1 : Nat) : Int) from by omega]
      exact e4
    | false =>
      obtain ⟨r, a', s', e4, hr, h4⟩ := ih (i + 1) x a1 s1 _ (by omega) (by omega) (by omega) h1 (by omega)
      refine ⟨r, a', s', Ev.step (fun k => by rw [spec_l1Cur_regionOf.l0]) ?_, hr, h4.le (by omega) (by omega)⟩
      refine Ev.pos (by omega) (Ev.bindc e1 (Ev.neg (by simp) ?_))
      rw [w64 (by omega) (by omega), show (i : Int) + 1 = ((i + 1 : Nat) : Int) from by omega]
      exact e4
theorem regionOf_ok {l : List Int} (hc : Code l) (p q : Int) (c : List Int) (hcl : c.length ≤ 64) {a s : Int} {n : Nat} (h : At a n) (hn : n ≤ 400000000) :
    ∃ r a' s', Ev (fun k => spec_l1Cur_regionOf.f k l a s p q c) (r, a', s') ∧ r.length ≤ 65 ∧ At a' (n + 300) := by
  obtain ⟨r, a', s', e, hr, h1⟩ := regionOf_l0 hc p q c hcl _ 0 [] a s n rfl (by omega) (by simp) h (by omega)
  exact ⟨r, a', s', e, hr, h1.le (by omega) (by omega)⟩
theorem at0 : At 0 0 := ⟨by omega, by omega, by omega⟩
theorem drawSet {l : List Int} (hc : Code l) : ∃ p q c r v, Ev (fun k => spec_DrawSetRegion.f k l) (p, q, c, r, v) ∧ c.length ≤ 64 ∧ r.length ≤ 65 := by
  obtain ⟨p, q, c, a1, s1, e1, hcl, h1⟩ := anyField_ok hc (s := 0) at0 (by omega)
  obtain ⟨r, a2, s2, e2, hr, h2⟩ := regionOf_ok hc p q c hcl (s := s1) h1 (by omega)
  obtain ⟨v, a3, s3, e3, _, _⟩ := among_ok hc (s := s2) h2 (by omega) [0, 7, (-9999), 9000, 9001] (by simp) (by simp)
  refine ⟨p, q, c, r, v, ?_, hcl, hr⟩
  unfold spec_DrawSetRegion.f
  exact Ev.bindc (b := (l, 0, 0)) rfl (Ev.bind e1 (Ev.bind e2 (Ev.bindc e3 (Ev.now _))))
theorem drawAdd {l : List Int} (hc : Code l) : ∃ p q c r v, Ev (fun k => spec_DrawAddToRegion.f k l) (p, q, c, r, v) ∧ c.length ≤ 64 ∧ r.length ≤ 65 ∧ -20000 ≤ v ∧ v ≤ 20000 := by
  obtain ⟨p, q, c, a1, s1, e1, hcl, h1⟩ := anyField_ok hc (s := 0) at0 (by omega)
  obtain ⟨r, a2, s2, e2, hr, h2⟩ := regionOf_ok hc p q c hcl (s := s1) h1 (by omega)
  obtain ⟨v, a3, s3, e3, hv, _⟩ := among_ok hc (s := s2) h2 (by omega) [1, (-5), 100, 9000, (-9000), 0, 18001] (by simp) (by simp)
  refine ⟨p, q, c, r, v, ?_, hcl, hr, ?_⟩
  · unfold spec_DrawAddToRegion.f
    exact Ev.bindc (b := (l, 0, 0)) rfl (Ev.bind e1 (Ev.bind e2 (Ev.bindc e3 (Ev.now _))))
  · simp only [List.mem_cons, List.not_mem_nil, or_false] at hv
    omega
theorem drawSpread {l : List Int} (hc : Code l) : ∃ p q c r, Ev (fun k => spec_DrawSpreadMean.f k l) (p, q, c, r) ∧ c.length ≤ 64 ∧ r.length ≤ 65 := by
  obtain ⟨p, q, c, a1, s1, e1, hcl, h1⟩ := full_ok hc (s := 0) at0 (by omega)
  obtain ⟨r, a2, s2, e2, hr, h2⟩ := regionOf_ok hc p q c hcl (s := s1) h1 (by omega)
  refine ⟨p, q, c, r, ?_, hcl, hr⟩
  unfold spec_DrawSpreadMean.f
  exact Ev.bindc (b := (l, 0, 0)) rfl (Ev.bind e1 (Ev.bind e2 (Ev.now _)))
end Go.Proofs.Ytdmkbfjipgaloaa.Pure

/- The laws' own helpers on lists of integers: a copy, an equality, marks and their check. -/
namespace Go.Proofs.Ytdmkbfjipgaloaa.Pure
open Go.RowKit Go.Proofs.Ytdmkbfjipgaloaa.P Go.Proofs.YtdmkbfjipgaloaaW.PrintWords Go.Proofs.YtdmkbfjipgaloaaW.PrintLast

end Go.Proofs.Ytdmkbfjipgaloaa.Pure

/- Fields and regions: the program's tests and the reference's are the same. -/
namespace Go.Proofs.Ytdmkbfjipgaloaa.Pure
open Go.RowKit Go.Proofs.Ytdmkbfjipgaloaa.P Go.Proofs.YtdmkbfjipgaloaaW.PrintWords Go.Proofs.YtdmkbfjipgaloaaW.PrintLast

theorem l1In_f (x a b : Int) : spec_l1In.f x a b = some (decide (a ≤ x) && decide (x ≤ b)) := by
  unfold spec_l1In.f
  by_cases h : x ≥ a
  · simp [h]
  · simp [h]
theorem within_f (x a b : Int) : impl_within.f x a b = some (decide (a ≤ x) && decide (x ≤ b)) := by
  unfold impl_within.f
  by_cases h : x ≥ a
  · simp [h]
  · simp [h]
theorem l2Shape_f (a b : Int) : spec_l2Shape.f a b = some (sideB a && sideB b) := by
  unfold spec_l2Shape.f sideB
  rw [l1In_f, l1In_f]
  cases h : (decide (1 ≤ a) && decide (a ≤ 8)) <;> simp
theorem isShape_f (a b : Int) : impl_isShape.f a b = some (sideB a && sideB b) := by
  unfold impl_isShape.f sideB
  rw [within_f, within_f]
  cases h : (decide (1 ≤ a) && decide (a ≤ 8)) <;> simp
theorem l2Value_f (n : Int) : spec_l2Value.f n = some (cellB n) := by
  unfold spec_l2Value.f cellB
  rw [l1In_f]
  by_cases h : n = -9999
  · simp [h]
  · simp [h]
theorem isValidField_f (a b : Int) (l : List Int) : impl_IsValidField.f a b l = some (fieldB a b l) := rfl
theorem fieldB_len {a b : Int} {l : List Int} (h : fieldB a b l = true) : (l.length : Int) = a * b ∧ sideB a = true ∧ sideB b = true ∧ l.all cellB = true ∧ l.length ≤ 64 ∧ 1 ≤ l.length := by
  simp only [fieldB, Bool.and_eq_true] at h
  obtain ⟨⟨h1, h2⟩, h3, h4⟩ := h
  have h5 := side_mul h1 h2
  have h6 : (l.length : Int) = a * b := by simpa using h3
  exact ⟨h6, h1, h2, h4, by omega, by omega⟩

theorem l2Good_l0 (a b : Int) (l : List Int) (hl : l.length ≤ 1048576) : ∀ (d i : Nat), l.length - i = d → i ≤ l.length →
    Ev (fun k => spec_l2Good.l0 k (i : Int) a b l) ((l.drop i).all cellB) := by
  intro d
  induction d with
  | zero =>
    intro i hd hi
    refine Ev.step (fun k => by rw [spec_l2Good.l0]) ?_
    refine Ev.neg (by omega) (Ev.const ?_)
    rw [List.drop_of_length_le (by omega)]; rfl
  | succ d ih =>
    intro i hd hi
    refine Ev.step (fun k => by rw [spec_l2Good.l0]) ?_
    refine Ev.pos (by omega) (Ev.pos (by omega) ?_)
    have e := ih (i + 1) (by omega) (by omega)
    rw [w64 (by omega) (by omega), show (i : Int) + 1 = ((i + 1 : Nat) : Int) from by omega, rd_lt l i (by omega), drop_cons' l i (by omega), List.all_cons]
    refine Ev.bindc (l2Value_f _) ?_
    refine Ev.cases (fun h => ?_) (fun h => ?_)
    · exact Ev.eq e (by rw [h, Bool.true_and])
    · exact Ev.const (by rw [Bool.eq_false_iff.mpr h, Bool.false_and])
theorem l2Good (a b : Int) (l : List Int) (hl : l.length ≤ 1048576) : Ev (fun k => spec_l2Good.f k a b l) (fieldB a b l) := by
  unfold spec_l2Good.f
  refine Ev.bindc (l2Shape_f a b) ?_
  refine Ev.cases (fun h => ?_) (fun h => ?_)
  · simp only [Bool.and_eq_true] at h
    have h5 := side_mul h.1 h.2
    rw [w64 (by omega) (by omega)]
    refine Ev.step (fun k => by rw [spec_l2Good.j0]) ?_
    refine Ev.cases (fun h2 => ?_) (fun h2 => ?_)
    · refine Ev.const ?_
      have : ((l.length : Int) == a * b) = false := by simpa using h2
      simp [fieldB, this]
    · have h3 : ((l.length : Int) == a * b) = true := by simpa using h2
      refine Ev.eq (l2Good_l0 a b l hl _ 0 rfl (by omega)) ?_
      simp [fieldB, h.1, h.2, h3]
  · refine Ev.step (fun k => by rw [spec_l2Good.j0]) ?_
    refine Ev.pos rfl (Ev.const ?_)
    rw [fieldB, Bool.eq_false_iff.mpr h, Bool.false_and]

/-- Each number is less than the next. -/
def adjB : List Int → Bool
  | x :: y :: t => decide (x < y) && adjB (y :: t)
  | _ => true
def inB (lo hi x : Int) : Bool := decide (lo ≤ x) && decide (x ≤ hi)
theorem adjB_drop (l : List Int) (i : Nat) (h : i + 1 < l.length) : adjB (l.drop i) = (decide (l[i] < l[i + 1]) && adjB (l.drop (i + 1))) := by
  rw [drop_cons' l i (by omega), drop_cons' l (i + 1) h, adjB]
theorem adjB_short (l : List Int) (h : l.length ≤ 1) : adjB l = true := by
  match l, h with
  | [], _ => rfl
  | [_], _ => rfl

theorem increasing_l0 (l : List Int) (hl : l.length ≤ 1048576) : ∀ (d i : Nat), l.length - i = d →
    Ev (fun k => impl_increasing.l0 k l ((i + 1 : Nat) : Int)) (adjB (l.drop i)) := by
  intro d
  induction d with
  | zero =>
    intro i hd
    refine Ev.step (fun k => by rw [impl_increasing.l0]) ?_
    refine Ev.neg (by omega) (Ev.const ?_)
    rw [adjB_short _ (by simp; omega)]
  | succ d ih =>
    intro i hd
    refine Ev.step (fun k => by rw [impl_increasing.l0]) ?_
    refine Ev.cases (fun h1 => ?_) (fun h1 => ?_)
    · rw [w64 (by omega) (by omega), show ((i + 1 : Nat) : Int) - 1 = ((i : Nat) : Int) from by omega]
      refine Ev.pos (by omega) (Ev.pos (by omega) (Ev.pos (by omega) ?_))
      rw [w64 (by omega) (by omega), show ((i + 1 : Nat) : Int) + 1 = ((i + 1 + 1 : Nat) : Int) from by omega, rd_lt l i (by omega), rd_lt l (i + 1) (by omega), adjB_drop l i (by omega)]
      refine Ev.cases (fun h => ?_) (fun h => ?_)
      · exact Ev.const (by rw [decide_eq_false (by omega), Bool.false_and])
      · exact Ev.eq (ih (i + 1) (by omega)) (by rw [decide_eq_true (by omega), Bool.true_and])
    · refine Ev.const ?_
      rw [adjB_short _ (by simp; omega)]
theorem allWithin_l0 (l : List Int) (lo hi : Int) (hl : l.length ≤ 1048576) : ∀ (d i : Nat), l.length - i = d → i ≤ l.length →
    Ev (fun k => impl_allWithin.l0 k lo hi l (l.length : Int) (i : Int)) ((l.drop i).all (inB lo hi)) := by
  intro d
  induction d with
  | zero =>
    intro i hd hi'
    refine Ev.step (fun k => by rw [impl_allWithin.l0]) ?_
    refine Ev.neg (by omega) (Ev.const ?_)
    rw [List.drop_of_length_le (by omega)]; rfl
  | succ d ih =>
    intro i hd hi'
    refine Ev.step (fun k => by rw [impl_allWithin.l0]) ?_
    refine Ev.pos (by omega) (Ev.pos (by omega) (Ev.pos (by omega) ?_))
    have e := ih (i + 1) (by omega) (by omega)
    rw [w64 (by omega) (by omega), show (i : Int) + 1 = ((i + 1 : Nat) : Int) from by omega, rd_lt l i (by omega), drop_cons' l i (by omega), List.all_cons]
    refine Ev.bindc (within_f _ _ _) ?_
    refine Ev.cases (fun h => ?_) (fun h => ?_)
    · exact Ev.eq e (by rw [inB, h, Bool.true_and])
    · exact Ev.const (by rw [inB, Bool.eq_false_iff.mpr h, Bool.false_and])
theorem rising_l0 (l : List Int) (lo hi : Int) (hl : l.length ≤ 1048576) : ∀ (d i : Nat), l.length - i = d → i ≤ l.length →
    Ev (fun k => spec_l1Rising.l0 k l lo hi (i : Int)) ((l.drop i).all (inB lo hi) && adjB (l.drop (i - 1))) := by
  intro d
  induction d with
  | zero =>
    intro i hd hi'
    refine Ev.step (fun k => by rw [spec_l1Rising.l0]) ?_
    refine Ev.neg (by omega) (Ev.const ?_)
    rw [List.drop_of_length_le (by omega), adjB_short _ (by simp; omega)]; rfl
  | succ d ih =>
    intro i hd hi'
    refine Ev.step (fun k => by rw [spec_l1Rising.l0]) ?_
    refine Ev.pos (by omega) (Ev.pos (by omega) ?_)
    have e := ih (i + 1) (by omega) (by omega)
    rw [w64 (x := (i : Int) + 1) (by omega) (by omega), show (i : Int) + 1 = ((i + 1 : Nat) : Int) from by omega, rd_lt l i (by omega), drop_cons' l i (by omega), List.all_cons]
    refine Ev.bindc (l1In_f _ _ _) ?_
    refine Ev.cases (fun h => ?_) (fun h => ?_)
    · have h' : inB lo hi l[i] = true := h
      rw [h', Bool.true_and]
      refine Ev.cases (fun h0 => ?_) (fun h0 => ?_)
      · obtain ⟨j, rfl⟩ : ∃ j, i = j + 1 := ⟨i - 1, by omega⟩
        rw [w64 (by omega) (by omega), show ((j + 1 : Nat) : Int) - 1 = ((j : Nat) : Int) from by omega]
        refine Ev.pos (by omega) (Ev.pos (by omega) ?_)
        rw [rd_lt l j (by omega)]
        simp only [Nat.add_sub_cancel] at e ⊢
        rw [adjB_drop l j (by omega)]
        refine Ev.cases (fun h => ?_) (fun h => ?_)
        · exact Ev.const (by rw [decide_eq_false (by omega), Bool.false_and, Bool.and_false])
        · exact Ev.eq e (by rw [decide_eq_true (by omega), Bool.true_and])
      · have : i = 0 := by omega
        subst this
        exact Ev.eq e (by rfl)
    · exact Ev.const (by rw [show inB lo hi l[i] = false from Bool.eq_false_iff.mpr h, Bool.false_and, Bool.false_and])
/-- A region of a shape. -/
def regionB (a b : Int) (l : List Int) : Bool := (sideB a && sideB b) && (l.all (inB 0 (a * b - 1)) && adjB l)
theorem isRegion (a b : Int) (l : List Int) (hl : l.length ≤ 1048576) : Ev (fun k => impl_isRegion.f k a b l) (regionB a b l) := by
  unfold impl_isRegion.f
  refine Ev.bindc (isShape_f a b) ?_
  refine Ev.cases (fun h => ?_) (fun h => ?_)
  · simp only [Bool.and_eq_true] at h
    have h5 := side_mul h.1 h.2
    rw [w64 (x := a * b) (by omega) (by omega), w64 (x := a * b - 1) (by omega) (by omega)]
    refine Ev.bind (increasing_l0 l hl _ 0 rfl) ?_
    refine Ev.cases (fun h2 => ?_) (fun h2 => ?_)
    · refine Ev.bind (allWithin_l0 l 0 (a * b - 1) hl _ 0 rfl (by omega)) (Ev.const ?_)
      rw [List.drop_zero] at h2 ⊢
      simp [regionB, h.1, h.2, h2]
    · rw [List.drop_zero] at h2
      refine Ev.const ?_
      rw [regionB, Bool.eq_false_iff.mpr h2, Bool.and_false, Bool.and_false]
  · exact Ev.const (by rw [regionB, Bool.eq_false_iff.mpr h, Bool.false_and])
theorem l8Region (a b : Int) (l : List Int) (hl : l.length ≤ 1048576) : Ev (fun k => spec_l8Region.f k a b l) (regionB a b l) := by
  unfold spec_l8Region.f
  refine Ev.bindc (l2Shape_f a b) ?_
  refine Ev.cases (fun h => ?_) (fun h => ?_)
  · have h' := h
    simp only [Bool.and_eq_true] at h'
    have h5 := side_mul h'.1 h'.2
    rw [w64 (x := a * b) (by omega) (by omega), w64 (x := a * b - 1) (by omega) (by omega)]
    refine Ev.bind (rising_l0 l 0 (a * b - 1) hl _ 0 rfl (by omega)) (Ev.const ?_)
    rw [regionB, h, Bool.true_and]; rfl
  · exact Ev.const (by rw [regionB, Bool.eq_false_iff.mpr h, Bool.false_and])
/-- What the editing functions ask for first. -/
def askedB (a b : Int) (l r : List Int) : Bool := fieldB a b l && regionB a b r
theorem isRegionOf (a b : Int) (l r : List Int) (_hl : l.length ≤ 1048576) (hr : r.length ≤ 1048576) : Ev (fun k => impl_isRegionOf.f k a b l r) (askedB a b l r) := by
  unfold impl_isRegionOf.f
  refine Ev.bindc (isValidField_f a b l) ?_
  refine Ev.cases (fun h => ?_) (fun h => ?_)
  · exact Ev.bind (isRegion a b r hr) (Ev.const (by rw [askedB, h, Bool.true_and]))
  · exact Ev.const (by rw [askedB, Bool.eq_false_iff.mpr h, Bool.false_and])
theorem l23Asked (a b : Int) (l r : List Int) (hl : l.length ≤ 1048576) (hr : r.length ≤ 1048576) : Ev (fun k => spec_l23Asked.f k a b l r) (askedB a b l r) := by
  unfold spec_l23Asked.f
  refine Ev.bind (l2Good a b l hl) ?_
  refine Ev.cases (fun h => ?_) (fun h => ?_)
  · exact Ev.bind (l8Region a b r hr) (Ev.const (by rw [askedB, h, Bool.true_and]))
  · exact Ev.const (by rw [askedB, Bool.eq_false_iff.mpr h, Bool.false_and])
/-- The cells of a region lie in the field. -/
theorem asked_cells {a b : Int} {l r : List Int} (h : askedB a b l r = true) : fieldB a b l = true ∧ ∀ c ∈ r, 0 ≤ c ∧ c < (l.length : Int) := by
  simp only [askedB, Bool.and_eq_true] at h
  obtain ⟨h1, h2⟩ := h
  refine ⟨h1, fun c hc => ?_⟩
  have h3 := (fieldB_len h1).1
  simp only [regionB, Bool.and_eq_true] at h2
  have h4 := List.all_eq_true.mp h2.2.1 c hc
  simp only [inB, Bool.and_eq_true, decide_eq_true_eq] at h4
  omega
end Go.Proofs.Ytdmkbfjipgaloaa.Pure

/- The laws' marks on a list of integers and their check. -/
namespace Go.Proofs.Ytdmkbfjipgaloaa.Pure
open Go.RowKit Go.Proofs.Ytdmkbfjipgaloaa.P Go.Proofs.YtdmkbfjipgaloaaW.PrintWords Go.Proofs.YtdmkbfjipgaloaaW.PrintLast

/-- The marks a, a + 1, .. -/
def iota (a : Int) : Nat → List Int
  | 0 => []
  | n + 1 => a :: iota (a + 1) n
theorem iota_length : ∀ (n : Nat) (a : Int), (iota a n).length = n
  | 0, _ => rfl
  | n + 1, a => by simp [iota, iota_length n]
theorem iota_get : ∀ (n : Nat) (a : Int) (i : Nat) (h : i < (iota a n).length), (iota a n)[i] = a + i
  | 0, _, i, h => by simp [iota] at h
  | n + 1, a, 0, _ => by simp [iota]
  | n + 1, a, i + 1, h => by
    simp only [iota, List.getElem_cons_succ]
    rw [iota_get n (a + 1) i (by simpa [iota] using h)]; omega
theorem held_l0 (n : Nat) (a : Int) (ha : 0 ≤ a) (hb : a + n ≤ 4611686018427387904) : ∀ (d i : Nat), n - i = d → i ≤ n →
    Ev (fun k => laws_heldIntS.l0 k (iota a n) (a + i) (i : Int)) (a + n) := by
  intro d
  induction d with
  | zero =>
    intro i hd hi
    refine Ev.step (fun k => by rw [laws_heldIntS.l0]) (Ev.neg (by rw [iota_length]; omega) (Ev.const ?_))
    rw [show i = n from by omega]
  | succ d ih =>
    intro i hd hi
    refine Ev.step (fun k => by rw [laws_heldIntS.l0]) (Ev.pos (by rw [iota_length]; omega) (Ev.pos (by omega) ?_))
    rw [rd_lt _ i (by rw [iota_length]; omega), iota_get]
    refine Ev.pos rfl ?_
    rw [w64 (x := a + i + 1) (by omega) (by omega), w64 (by omega) (by omega), show (i : Int) + 1 = ((i + 1 : Nat) : Int) from by omega, show a + (i : Int) + 1 = a + ((i + 1 : Nat) : Int) from by omega]
    exact ih (i + 1) (by omega) (by omega)
theorem held (n : Nat) (hb : n ≤ 2305843009213693952) : Ev (fun k => laws_heldIntS.f k (iota 1 n) 1) (1 + (n : Int)) := by
  unfold laws_heldIntS.f
  exact Ev.eq (held_l0 n 1 (by omega) (by omega) _ 0 rfl (by omega)) (by simp)
end Go.Proofs.Ytdmkbfjipgaloaa.Pure

/- Edited fields: the program's loop over a region with a function, and the reference's loop with a value; copies; what the laws do to a field. -/
namespace Go.Proofs.Ytdmkbfjipgaloaa.Pure
open Go.RowKit Go.Proofs.Ytdmkbfjipgaloaa.P Go.Proofs.YtdmkbfjipgaloaaW.PrintWords Go.Proofs.YtdmkbfjipgaloaaW.PrintLast

theorem cloneField_f (a b : Int) (l : List Int) (hl : l.length ≤ 1048576) : impl_cloneField.f a b l = some (a, b, l) := by
  unfold impl_cloneField.f slices_Clone_int_int.f
  rw [if_pos (by omega)]; rfl
theorem l2Own_f (a b : Int) (l : List Int) (hl : l.length ≤ 1048576) : spec_l2Own.f a b l = some (a, b, l) := by
  unfold spec_l2Own.f spec_l1Own.f
  simp only [Option.bind_some, List.length_nil, List.nil_append]
  rw [if_pos (by omega)]; rfl
/-- What a check of a made field gives. -/
def checkedT (a b : Int) (l : List Int) : Int × Int × List Int × Bool := if fieldB a b l = true then (a, b, l, true) else (0, 0, [], false)
theorem checkedField_f (a b : Int) (l : List Int) : impl_checkedField.f a b l = some (checkedT a b l) := by
  unfold impl_checkedField.f checkedT
  rw [isValidField_f, Option.bind_some]
  cases fieldB a b l <;> rfl
theorem checkedT_len (a b : Int) (l : List Int) : (checkedT a b l).2.2.1.length ≤ 64 := by
  unfold checkedT
  by_cases h : fieldB a b l = true
  · rw [if_pos h]; exact (fieldB_len h).2.2.2.2.1
  · rw [if_neg h]; simp
/-- The cells of a region set by a function of the cell and the value. -/
def editL (φ : Int → Int → Int) (l : List Int) (r o : List Int) : List Int := r.foldl (fun o c => o.set c.toNat (φ c (rd l c))) o
theorem editL_length (φ : Int → Int → Int) (l : List Int) : ∀ (r o : List Int), (editL φ l r o).length = o.length := by
  intro r
  induction r with
  | nil => intro o; rfl
  | cons c r ih => intro o; rw [editL, List.foldl_cons]; exact (ih _).trans (by simp)
theorem editL_all (φ : Int → Int → Int) (l : List Int) (p : Int → Bool) : ∀ (r o : List Int), (∀ c ∈ r, p (φ c (rd l c)) = true) → o.all p = true → (editL φ l r o).all p = true := by
  intro r
  induction r with
  | nil => intro o _ h; exact h
  | cons c r ih =>
    intro o hr ho
    rw [editL, List.foldl_cons]
    refine ih _ (fun c hc => hr c (List.mem_cons_of_mem _ hc)) ?_
    rw [List.all_eq_true] at ho ⊢
    intro x hx
    rcases List.mem_or_eq_of_mem_set hx with h | h
    · exact ho x h
    · rw [h]; exact hr c List.mem_cons_self
theorem editL_cons (φ : Int → Int → Int) (l : List Int) (c : Int) (r o : List Int) : editL φ l (c :: r) o = editL φ l r (o.set c.toNat (φ c (rd l c))) := rfl

theorem editedField_l0 (F : Int → Int → Option Int) (φ : Int → Int → Int) (r : List Int) (a b : Int) (l : List Int) (hr : r.length ≤ 1048576) (hc : ∀ c ∈ r, 0 ≤ c ∧ c < (l.length : Int)) (hF : ∀ c ∈ r, F c (rd l c) = some (φ c (rd l c))) :
    ∀ (d i : Nat) (o : List Int), r.length - i = d → i ≤ r.length → o.length = l.length → Ev (fun k => impl_editedField.l0 k F r (r.length : Int) (i : Int) a b l a b o) (checkedT a b (editL φ l (r.drop i) o)) := by
  intro d
  induction d with
  | zero =>
    intro i o hd hi ho
    refine Ev.step (fun k => by rw [impl_editedField.l0]) ?_
    refine Ev.neg (by omega) (Ev.bindc (checkedField_f a b o) (Ev.const ?_))
    rw [List.drop_of_length_le (by omega)]; rfl
  | succ d ih =>
    intro i o hd hi ho
    refine Ev.step (fun k => by rw [impl_editedField.l0]) ?_
    rw [rd_lt r i (by omega)]
    have h1 := hc r[i] (List.getElem_mem _)
    refine Ev.pos (by omega) (Ev.pos (by omega) (Ev.pos (by omega) (Ev.pos h1.1 (Ev.pos h1.2 ?_))))
    refine Ev.bindc (hF r[i] (List.getElem_mem _)) ?_
    refine Ev.pos (by omega) ?_
    rw [w64 (by omega) (by omega), show (i : Int) + 1 = ((i + 1 : Nat) : Int) from by omega, drop_cons' r i (by omega), editL_cons]
    exact ih (i + 1) _ (by omega) (by omega) (by simpa using ho)
theorem editedField (F : Int → Int → Option Int) (φ : Int → Int → Int) (r : List Int) (a b : Int) (l : List Int) (hl : l.length ≤ 1048576) (hr : r.length ≤ 1048576) (hc : ∀ c ∈ r, 0 ≤ c ∧ c < (l.length : Int)) (hF : ∀ c ∈ r, F c (rd l c) = some (φ c (rd l c))) :
    Ev (fun k => impl_editedField.f k a b l r F) (checkedT a b (editL φ l r l)) := by
  unfold impl_editedField.f
  exact Ev.bindc (cloneField_f a b l hl) (editedField_l0 F φ r a b l hr hc hF _ 0 l rfl (by omega) rfl)
/-- A field stays valid where each new value is one of a cell. -/
theorem editL_valid (φ : Int → Int → Int) (a b : Int) (l r : List Int) (h : fieldB a b l = true) (hv : ∀ c ∈ r, cellB (φ c (rd l c)) = true) : fieldB a b (editL φ l r l) = true := by
  have h1 := fieldB_len h
  simp only [fieldB, Bool.and_eq_true] at h ⊢
  rw [editL_length]
  exact ⟨h.1, h.2.1, editL_all φ l cellB r l hv h.2.2⟩
end Go.Proofs.Ytdmkbfjipgaloaa.Pure

/- SetRegion: the program's and the reference's answer. -/
namespace Go.Proofs.Ytdmkbfjipgaloaa.Pure
open Go.RowKit Go.Proofs.Ytdmkbfjipgaloaa.P Go.Proofs.YtdmkbfjipgaloaaW.PrintWords Go.Proofs.YtdmkbfjipgaloaaW.PrintLast

def setRegionT (a b : Int) (l r : List Int) (v : Int) : Int × Int × List Int × Bool := if (askedB a b l r && cellB v) = true then (a, b, editL (fun _ _ => v) l r l, true) else (0, 0, [], false)
theorem setRegionT_len (a b : Int) (l r : List Int) (v : Int) (hl : l.length ≤ 1048576) : (setRegionT a b l r v).2.2.1.length ≤ 1048576 := by
  unfold setRegionT
  by_cases h : (askedB a b l r && cellB v) = true
  · rw [if_pos h]; simp only [editL_length]; omega
  · rw [if_neg h]; simp
theorem spec_SetRegion_l0 (a b : Int) (l r : List Int) (v : Int) (hr : r.length ≤ 1048576) (hc : ∀ c ∈ r, 0 ≤ c ∧ c < (l.length : Int)) :
    ∀ (d i : Nat) (o : List Int), r.length - i = d → i ≤ r.length → o.length = l.length → Ev (fun k => spec_SetRegion.l0 k r v (i : Int) a b o) (a, b, editL (fun _ _ => v) l (r.drop i) o, true) := by
  intro d
  induction d with
  | zero =>
    intro i o hd hi ho
    refine Ev.step (fun k => by rw [spec_SetRegion.l0]) ?_
    refine Ev.neg (by omega) (Ev.const ?_)
    rw [List.drop_of_length_le (by omega)]; rfl
  | succ d ih =>
    intro i o hd hi ho
    refine Ev.step (fun k => by rw [spec_SetRegion.l0]) ?_
    rw [rd_lt r i (by omega)]
    have h1 := hc r[i] (List.getElem_mem _)
    refine Ev.pos (by omega) (Ev.pos (by omega) (Ev.pos h1.1 (Ev.pos (by omega) ?_)))
    rw [w64 (by omega) (by omega), show (i : Int) + 1 = ((i + 1 : Nat) : Int) from by omega, drop_cons' r i (by omega), editL_cons]
    exact ih (i + 1) _ (by omega) (by omega) (by simpa using ho)
theorem spec_SetRegion (a b : Int) (l r : List Int) (v : Int) (hl : l.length ≤ 1048576) (hr : r.length ≤ 1048576) : Ev (fun k => spec_SetRegion.f k a b l r v) (setRegionT a b l r v) := by
  unfold spec_SetRegion.f setRegionT
  refine Ev.bind (l23Asked a b l r hl hr) ?_
  refine Ev.cases (fun h => ?_) (fun h => ?_)
  · refine Ev.bindc (l2Value_f v) ?_
    refine Ev.step (fun k => by rw [spec_SetRegion.j0]) ?_
    refine Ev.cases (fun h2 => ?_) (fun h2 => ?_)
    · have h3 : cellB v = false := by simpa using h2
      exact Ev.const (by rw [h3, Bool.and_false]; rfl)
    · have h3 : cellB v = true := by simpa using h2
      have hc := asked_cells h
      refine Ev.bindc (l2Own_f a b l hl) (Ev.eq (spec_SetRegion_l0 a b l r v hr hc.2 _ 0 l rfl (by omega) rfl) ?_)
      rw [h, h3]; rfl
  · refine Ev.step (fun k => by rw [spec_SetRegion.j0]) ?_
    exact Ev.pos rfl (Ev.const (by rw [Bool.eq_false_iff.mpr h, Bool.false_and]; rfl))
theorem impl_SetRegion (a b : Int) (l r : List Int) (v : Int) (hl : l.length ≤ 1048576) (hr : r.length ≤ 1048576) : Ev (fun k => impl_SetRegion.f k a b l r v) (setRegionT a b l r v) := by
  unfold impl_SetRegion.f setRegionT
  refine Ev.bind (isRegionOf a b l r hl hr) ?_
  refine Ev.cases (fun h => ?_) (fun h => ?_)
  · refine Ev.bindc (isCell_f v) ?_
    refine Ev.step (fun k => by rw [impl_SetRegion.j0]) ?_
    refine Ev.cases (fun h2 => ?_) (fun h2 => ?_)
    · have h3 : cellB v = false := by simpa using h2
      exact Ev.const (by rw [h3, Bool.and_false]; rfl)
    · have h3 : cellB v = true := by simpa using h2
      have hc := asked_cells h
      refine Ev.bindc rfl ?_
      refine Ev.bind (editedField _ (fun _ _ => v) r a b l hl hr hc.2 (fun _ _ => rfl)) (Ev.const ?_)
      rw [checkedT, if_pos (editL_valid _ a b l r hc.1 (fun _ _ => h3)), h, h3]; rfl
  · refine Ev.step (fun k => by rw [impl_SetRegion.j0]) ?_
    exact Ev.pos rfl (Ev.const (by rw [Bool.eq_false_iff.mpr h, Bool.false_and]; rfl))
end Go.Proofs.Ytdmkbfjipgaloaa.Pure

/- Cells of a valid field. -/
namespace Go.Proofs.Ytdmkbfjipgaloaa.Pure
open Go.RowKit Go.Proofs.Ytdmkbfjipgaloaa.P Go.Proofs.YtdmkbfjipgaloaaW.PrintWords Go.Proofs.YtdmkbfjipgaloaaW.PrintLast

theorem cell_bounds {n : Int} (h : cellB n = true) : n = -9999 ∨ (-9000 ≤ n ∧ n ≤ 9000) := by
  simp only [cellB, Bool.or_eq_true, Bool.and_eq_true, decide_eq_true_eq, beq_iff_eq] at h; exact h
theorem rd_cell {l : List Int} (h : l.all cellB = true) {c : Int} (hc : 0 ≤ c) (hl : c < (l.length : Int)) : cellB (rd l c) = true := by
  have h1 : c.toNat < l.length := by omega
  have : rd l c = l[c.toNat] := by simp [rd, h1]
  rw [this]; exact List.all_eq_true.mp h _ (List.getElem_mem _)
end Go.Proofs.Ytdmkbfjipgaloaa.Pure

/- CopyRegion: the program's and the reference's answer. -/
namespace Go.Proofs.Ytdmkbfjipgaloaa.Pure
open Go.RowKit Go.Proofs.Ytdmkbfjipgaloaa.P Go.Proofs.YtdmkbfjipgaloaaW.PrintWords Go.Proofs.YtdmkbfjipgaloaaW.PrintLast

def likeB (a b : Int) (l : List Int) (c d : Int) (m : List Int) : Bool := fieldB a b l && (fieldB c d m && (a == c && b == d))
theorem likeB_len {a b : Int} {l : List Int} {c d : Int} {m : List Int} (h : likeB a b l c d m = true) : m.length = l.length ∧ m.all cellB = true := by
  simp only [likeB, Bool.and_eq_true, beq_iff_eq] at h
  obtain ⟨h1, h2, rfl, rfl⟩ := h
  have e1 := (fieldB_len h1).1
  have e2 := (fieldB_len h2).1
  exact ⟨by omega, (fieldB_len h2).2.2.2.1⟩
def copyT (a b : Int) (l : List Int) (c d : Int) (m r : List Int) : Int × Int × List Int × Bool := if (likeB a b l c d m && askedB a b l r) = true then (a, b, editL (fun c _ => rd m c) l r l, true) else (0, 0, [], false)
theorem sameShape_f (a b : Int) (l : List Int) (c d : Int) (m : List Int) : impl_sameShape.f a b l c d m = some (a == c && b == d) := by
  unfold impl_sameShape.f
  by_cases h : a = c
  · rw [if_pos h, show (a == c) = true by simpa using h, Bool.true_and]
  · rw [if_neg h, show (a == c) = false by simpa using h, Bool.false_and]
theorem areAlike (a b : Int) (l : List Int) (c d : Int) (m : List Int) : Ev (fun k => impl_areAlike.f k [(⟨a, b, l⟩ : S26), ⟨c, d, m⟩]) (likeB a b l c d m) := by
  unfold impl_areAlike.f likeB
  have e0 : rd_T26 [(⟨a, b, l⟩ : S26), ⟨c, d, m⟩] 0 = ⟨a, b, l⟩ := rfl
  have e1 : rd_T26 [(⟨a, b, l⟩ : S26), ⟨c, d, m⟩] 1 = ⟨c, d, m⟩ := rfl
  have w0 : wrap64 (0 + 1) = 1 := w64 (by decide) (by decide)
  have w1 : wrap64 (1 + 1) = 2 := w64 (by decide) (by decide)
  refine Ev.step (fun k => by rw [impl_areAlike.l0]) ?_
  rw [e0, w0]
  refine Ev.pos (by simp) (Ev.pos (by decide) (Ev.pos (by simp) (Ev.bindc (isValidField_f _ _ _) (Ev.cases (fun h => ?_) (fun h => Ev.const ?_)))))
  · refine Ev.pos (by simp) (Ev.bindc (sameShape_f _ _ _ _ _ _) (Ev.pos (by simp) ?_))
    refine Ev.step (fun k => by rw [impl_areAlike.l0]) ?_
    rw [e0, e1, w1]
    refine Ev.pos (by simp) (Ev.pos (by decide) (Ev.pos (by simp) (Ev.bindc (isValidField_f _ _ _) (Ev.cases (fun h2 => ?_) (fun h2 => Ev.const ?_)))))
    · refine Ev.pos (by simp) (Ev.bindc (sameShape_f _ _ _ _ _ _) (Ev.cases (fun h3 => ?_) (fun h3 => Ev.const ?_)))
      · refine Ev.step (fun k => by rw [impl_areAlike.l0]) (Ev.neg (by simp) (Ev.const ?_))
        have h4 : a = c ∧ b = d := by
          simp only [Bool.and_eq_true, beq_iff_eq] at h3
          exact ⟨h3.1.symm, h3.2.symm⟩
        obtain ⟨rfl, rfl⟩ := h4
        show some true = _
        simp only at h h2
        rw [h, h2]; simp
      · have h4 : (a == c && b == d) = false := by
          rw [Bool.eq_false_iff]
          intro h5
          apply h3
          simp only [Bool.and_eq_true, beq_iff_eq] at h5 ⊢
          exact ⟨h5.1.symm, h5.2.symm⟩
        rw [h4, Bool.and_false, Bool.and_false]
    · simp only at h2
      rw [Bool.eq_false_iff.mpr h2, Bool.false_and, Bool.and_false]
  · simp only at h
    rw [Bool.eq_false_iff.mpr h, Bool.false_and]
theorem impl_CopyRegion (a b : Int) (l : List Int) (c d : Int) (m r : List Int) (hl : l.length ≤ 1048576) (hr : r.length ≤ 1048576) : Ev (fun k => impl_CopyRegion.f k a b l c d m r) (copyT a b l c d m r) := by
  unfold impl_CopyRegion.f copyT
  refine Ev.bind (isRegionOf a b l r hl hr) ?_
  refine Ev.cases (fun h => ?_) (fun h => ?_)
  · refine Ev.bind (areAlike a b l c d m) ?_
    refine Ev.step (fun k => by rw [impl_CopyRegion.j0]) ?_
    refine Ev.cases (fun h2 => ?_) (fun h2 => ?_)
    · have h3 : likeB a b l c d m = false := by simpa using h2
      exact Ev.const (by rw [h3, Bool.false_and]; rfl)
    · have h3 : likeB a b l c d m = true := by simpa using h2
      have hc := asked_cells h
      have hlm := likeB_len h3
      refine Ev.bindc rfl ?_
      refine Ev.bind (editedField _ (fun c _ => rd m c) r a b l hl hr hc.2 (fun x hx => ?_)) (Ev.const ?_)
      · have h1 := hc.2 x hx
        show (if 0 ≤ x then (if x < (m.length : Int) then some (rd m x) else none) else none) = _
        rw [if_pos h1.1, if_pos (by omega)]
      · rw [checkedT, if_pos (editL_valid (fun c _ => rd m c) a b l r hc.1 (fun x hx => rd_cell hlm.2 (hc.2 x hx).1 (by have := (hc.2 x hx).2; omega))), h, h3]; rfl
  · refine Ev.step (fun k => by rw [impl_CopyRegion.j0]) ?_
    exact Ev.pos rfl (Ev.const (by rw [Bool.eq_false_iff.mpr h, Bool.and_false]; rfl))
end Go.Proofs.Ytdmkbfjipgaloaa.Pure

/- AddToRegion: the program's and the reference's answer. -/
namespace Go.Proofs.Ytdmkbfjipgaloaa.Pure
open Go.RowKit Go.Proofs.Ytdmkbfjipgaloaa.P Go.Proofs.YtdmkbfjipgaloaaW.PrintWords Go.Proofs.YtdmkbfjipgaloaaW.PrintLast

theorem rd_set (o : List Int) (c0 c v : Int) (h0 : 0 ≤ c0) (hc : 0 ≤ c) (hl : c < (o.length : Int)) : rd (o.set c0.toNat v) c = if c = c0 then v else rd o c := by
  simp only [rd, List.getD_eq_getElem?_getD]
  by_cases h : c = c0
  · subst h
    rw [if_pos rfl, List.getElem?_set_self (by omega)]; rfl
  · rw [if_neg h, List.getElem?_set_ne (by omega)]
theorem rd_editL (φ : Int → Int → Int) (l : List Int) : ∀ (r o : List Int), (∀ c ∈ r, 0 ≤ c) → ∀ c, 0 ≤ c → c < (o.length : Int) → rd (editL φ l r o) c = if c ∈ r then φ c (rd l c) else rd o c := by
  intro r
  induction r with
  | nil => intro o _ c _ _; rw [if_neg (by simp)]; rfl
  | cons c0 r ih =>
    intro o hr c hc hl
    rw [editL_cons, ih _ (fun c hc => hr c (List.mem_cons_of_mem _ hc)) c hc (by simpa using hl)]
    by_cases h : c ∈ r
    · rw [if_pos h, if_pos (List.mem_cons_of_mem _ h)]
    · rw [if_neg h, rd_set o c0 c _ (hr c0 List.mem_cons_self) hc hl]
      by_cases h2 : c = c0
      · subst h2; rw [if_pos rfl, if_pos List.mem_cons_self]
      · rw [if_neg h2, if_neg (by simp [h, h2])]
theorem list_set_rd (o : List Int) (c : Int) (hc : 0 ≤ c) (hl : c < (o.length : Int)) : o.set c.toNat (rd o c) = o := by
  have h : c.toNat < o.length := by omega
  have : rd o c = o[c.toNat] := by simp [rd, h]
  rw [this]; simp
/-- What a number of a cell becomes, in the program and in the reference. -/
def addI (v : Int) (_ n : Int) : Int := if n = -9999 then -9999 else (if inB (-9000) 9000 (n + v) = true then n + v else 9001)
def addS (v : Int) (_ n : Int) : Int := if n = -9999 then -9999 else n + v
def addOk (l : List Int) (v : Int) (r : List Int) : Bool := r.all fun c => rd l c == -9999 || inB (-9000) 9000 (rd l c + v)
def addT (a b : Int) (l r : List Int) (v : Int) : Int × Int × List Int × Bool := if (askedB a b l r && inB (-18000) 18000 v) = true then (if addOk l v r = true then checkedT a b (editL (addS v) l r l) else (0, 0, [], false)) else (0, 0, [], false)
theorem addT_len (a b : Int) (l r : List Int) (v : Int) (_hl : l.length ≤ 1048576) : (addT a b l r v).2.2.1.length ≤ 1048576 := by
  unfold addT
  have := checkedT_len a b (editL (addS v) l r l)
  by_cases h : (askedB a b l r && inB (-18000) 18000 v) = true
  · rw [if_pos h]
    by_cases h2 : addOk l v r = true
    · rw [if_pos h2]; omega
    · rw [if_neg h2]; simp
  · rw [if_neg h]; simp
theorem l4Checked (a b : Int) (l : List Int) (ok : Bool) (hl : l.length ≤ 1048576) : Ev (fun k => spec_l4Checked.f k a b l ok) (if ok = true then checkedT a b l else (0, 0, [], false)) := by
  unfold spec_l4Checked.f
  refine Ev.cases (fun h => ?_) (fun h => ?_)
  · rw [if_pos h]
    refine Ev.bind (l2Good a b l hl) ?_
    unfold checkedT
    refine Ev.cases (fun h2 => ?_) (fun h2 => ?_)
    · rw [if_pos h2]; exact Ev.const rfl
    · rw [if_neg h2]; exact Ev.const rfl
  · rw [if_neg h]; exact Ev.const rfl
theorem spec_AddToRegion_l0 (a b : Int) (l r : List Int) (v : Int) (hl : l.length ≤ 1048576) (hr : r.length ≤ 1048576) (hv : -18000 ≤ v ∧ v ≤ 18000) (hcell : l.all cellB = true) (hc : ∀ c ∈ r, 0 ≤ c ∧ c < (l.length : Int)) :
    ∀ (d i : Nat) (ok : Bool) (o : List Int), r.length - i = d → i ≤ r.length → o.length = l.length → (∀ c, 0 ≤ c → c < (l.length : Int) → rd l c = -9999 → rd o c = -9999) →
      Ev (fun k => spec_AddToRegion.l0 k r v ok (i : Int) a b l a b o) (if (ok && addOk l v (r.drop i)) = true then checkedT a b (editL (addS v) l (r.drop i) o) else (0, 0, [], false)) := by
  intro d
  induction d with
  | zero =>
    intro i ok o hd hi ho hm
    refine Ev.step (fun k => by rw [spec_AddToRegion.l0]) ?_
    refine Ev.neg (by omega) (Ev.bind (l4Checked a b o ok (by omega)) (Ev.const ?_))
    rw [List.drop_of_length_le (by omega), show (ok && addOk l v []) = ok by simp [addOk]]
    rfl
  | succ d ih =>
    intro i ok o hd hi ho hm
    refine Ev.step (fun k => by rw [spec_AddToRegion.l0]) ?_
    rw [rd_lt r i (by omega)]
    have h1 := hc r[i] (List.getElem_mem _)
    have h2 := rd_cell hcell h1.1 h1.2
    refine Ev.pos (by omega) (Ev.pos (by omega) (Ev.pos h1.1 (Ev.pos h1.2 ?_)))
    rw [w64 (x := (i : Int) + 1) (by omega) (by omega), show (i : Int) + 1 = ((i + 1 : Nat) : Int) from by omega, drop_cons' r i (by omega), editL_cons]
    have hco : addOk l v (r[i] :: r.drop (i + 1)) = ((rd l r[i] == -9999 || inB (-9000) 9000 (rd l r[i] + v)) && addOk l v (r.drop (i + 1))) := rfl
    rw [hco]
    refine Ev.cases (fun h => ?_) (fun h => ?_)
    · refine Ev.eq (ih (i + 1) ok o (by omega) (by omega) ho hm) ?_
      have h3 : o.set r[i].toNat (addS v r[i] (rd l r[i])) = o := by
        rw [show addS v r[i] (rd l r[i]) = rd o r[i] by rw [addS, if_pos h, hm _ h1.1 h1.2 h]]
        exact list_set_rd o _ h1.1 (by omega)
      rw [h3, show (rd l r[i] == -9999) = true by simpa using h, Bool.true_or, Bool.true_and]
    · have h4 : (-9000 ≤ rd l r[i] ∧ rd l r[i] ≤ 9000) := by rcases cell_bounds h2 with h5 | h5; exact absurd h5 h; exact h5
      rw [w64 (by omega) (by omega)]
      have hs : addS v r[i] (rd l r[i]) = rd l r[i] + v := if_neg h
      rw [hs, show (rd l r[i] == -9999) = false by simpa using h, Bool.false_or]
      have hm' : ∀ c, 0 ≤ c → c < (l.length : Int) → rd l c = -9999 → rd (o.set r[i].toNat (rd l r[i] + v)) c = -9999 := by
        intro c hc0 hcl hcm
        rw [rd_set o _ c _ h1.1 hc0 (by omega), if_neg (fun e => h (by rw [← e]; exact hcm))]
        exact hm c hc0 hcl hcm
      refine Ev.pos (by omega) (Ev.bindc rfl ?_)
      refine Ev.cases (fun h5 => ?_) (fun h5 => ?_)
      · refine Ev.bindc (l1In_f _ _ _) ?_
        refine Ev.eq (ih (i + 1) _ _ (by omega) (by omega) (by simpa using ho) hm') ?_
        rw [h5, Bool.true_and]; rfl
      · refine Ev.eq (ih (i + 1) _ _ (by omega) (by omega) (by simpa using ho) hm') ?_
        rw [Bool.eq_false_iff.mpr h5, Bool.false_and, Bool.false_and]
theorem spec_AddToRegion (a b : Int) (l r : List Int) (v : Int) (hl : l.length ≤ 1048576) (hr : r.length ≤ 1048576) : Ev (fun k => spec_AddToRegion.f k a b l r v) (addT a b l r v) := by
  unfold spec_AddToRegion.f addT
  refine Ev.bind (l23Asked a b l r hl hr) ?_
  refine Ev.cases (fun h => ?_) (fun h => ?_)
  · refine Ev.bindc (l1In_f v (-18000) 18000) ?_
    refine Ev.step (fun k => by rw [spec_AddToRegion.j0]) ?_
    refine Ev.cases (fun h2 => ?_) (fun h2 => ?_)
    · have h3 : inB (-18000) 18000 v = false := by cases hq : inB (-18000) 18000 v with | false => rfl | true => (unfold inB at hq; rw [hq] at h2; exact absurd h2 (by decide))
      exact Ev.const (by rw [h3, Bool.and_false]; rfl)
    · have h3 : inB (-18000) 18000 v = true := by unfold inB; simpa using h2
      have hc := asked_cells h
      have hv : -18000 ≤ v ∧ v ≤ 18000 := by simpa [inB] using h3
      refine Ev.bindc (l2Own_f a b l hl) (Ev.eq (spec_AddToRegion_l0 a b l r v hl hr hv (fieldB_len hc.1).2.2.2.1 hc.2 _ 0 true l rfl (by omega) rfl (fun _ _ _ h => h)) ?_)
      rw [h, h3, Bool.true_and, Bool.true_and, List.drop_zero, if_pos rfl]
  · refine Ev.step (fun k => by rw [spec_AddToRegion.j0]) ?_
    exact Ev.pos rfl (Ev.const (by rw [Bool.eq_false_iff.mpr h, Bool.false_and]; rfl))
theorem checkedCell_f (x : Int) : impl_checkedCell.f x = some (if inB (-9000) 9000 x = true then x else 9001) := by
  unfold impl_checkedCell.f
  rw [within_f, Option.bind_some]
  unfold inB
  cases (decide (-9000 ≤ x) && decide (x ≤ 9000)) <;> rfl
theorem impl_AddToRegion (a b : Int) (l r : List Int) (v : Int) (hl : l.length ≤ 1048576) (hr : r.length ≤ 1048576) : Ev (fun k => impl_AddToRegion.f k a b l r v) (addT a b l r v) := by
  unfold impl_AddToRegion.f addT
  refine Ev.bind (isRegionOf a b l r hl hr) ?_
  refine Ev.cases (fun h => ?_) (fun h => ?_)
  · refine Ev.bindc (within_f v (-18000) 18000) ?_
    refine Ev.step (fun k => by rw [impl_AddToRegion.j0]) ?_
    refine Ev.cases (fun h2 => ?_) (fun h2 => ?_)
    · have h3 : inB (-18000) 18000 v = false := by cases hq : inB (-18000) 18000 v with | false => rfl | true => (unfold inB at hq; rw [hq] at h2; exact absurd h2 (by decide))
      exact Ev.const (by rw [h3, Bool.and_false]; rfl)
    · have h3 : inB (-18000) 18000 v = true := by unfold inB; simpa using h2
      have hc := asked_cells h
      have hv : -18000 ≤ v ∧ v ≤ 18000 := by simpa [inB] using h3
      have hcell := (fieldB_len hc.1).2.2.2.1
      refine Ev.bindc rfl ?_
      refine Ev.bind (editedField _ (addI v) r a b l hl hr hc.2 (fun c hcr => ?_)) (Ev.const ?_)
      · have h1 := hc.2 c hcr
        rcases cell_bounds (rd_cell hcell h1.1 h1.2) with h5 | h5
        · show (if rd l c = -9999 then _ else _) = _
          rw [if_pos h5, addI, if_pos h5]
        · have h6 : ¬ rd l c = -9999 := by omega
          show (if rd l c = -9999 then _ else _) = _
          rw [if_neg h6, addI, if_neg h6, w64 (by omega) (by omega), checkedCell_f]
      · rw [h, h3, Bool.true_and, if_pos rfl]
        show some (checkedT a b (editL (addI v) l r l)) = _
        by_cases hok : addOk l v r = true
        · rw [if_pos hok]
          have : ∀ (r' o : List Int), (∀ c ∈ r', c ∈ r) → editL (addI v) l r' o = editL (addS v) l r' o := by
            intro r'
            induction r' with
            | nil => intro o _; rfl
            | cons c r' ih =>
              intro o hs
              rw [editL_cons, editL_cons, ih _ (fun c hc => hs c (List.mem_cons_of_mem _ hc))]
              have h7 := List.all_eq_true.mp hok c (hs c List.mem_cons_self)
              have : addI v c (rd l c) = addS v c (rd l c) := by
                unfold addI addS
                by_cases h8 : rd l c = -9999
                · rw [if_pos h8, if_pos h8]
                · rw [if_neg h8, if_neg h8]
                  rw [show (rd l c == -9999) = false by simpa using h8, Bool.false_or] at h7
                  rw [if_pos h7]
              rw [this]
          rw [this r l (fun _ h => h)]
        · rw [if_neg hok]
          obtain ⟨c, hcr, hcb⟩ : ∃ c ∈ r, ¬ ((rd l c == -9999 || inB (-9000) 9000 (rd l c + v)) = true) := by
            simp only [addOk, List.all_eq_true] at hok
            exact Classical.byContradiction fun hn => hok fun c hc => Classical.byContradiction fun h => hn ⟨c, hc, h⟩
          have h1 := hc.2 c hcr
          simp only [Bool.or_eq_true, not_or] at hcb
          have h8 : ¬ rd l c = -9999 := by simpa using hcb.1
          have h9 := rd_editL (addI v) l r l (fun c hc' => (hc.2 c hc').1) c h1.1 h1.2
          rw [if_pos hcr, addI, if_neg h8, if_neg hcb.2] at h9
          have h10 : fieldB a b (editL (addI v) l r l) = false := by
            rw [Bool.eq_false_iff]
            intro h11
            have h12 := rd_cell (fieldB_len h11).2.2.2.1 h1.1 (by rw [editL_length]; exact h1.2)
            rw [h9] at h12
            exact absurd h12 (by decide)
          rw [checkedT, if_neg (by rw [h10]; decide)]
  · refine Ev.step (fun k => by rw [impl_AddToRegion.j0]) ?_
    exact Ev.pos rfl (Ev.const (by rw [Bool.eq_false_iff.mpr h, Bool.false_and]; rfl))
end Go.Proofs.Ytdmkbfjipgaloaa.Pure

/- SpreadMean: the program's and the reference's answer. -/
namespace Go.Proofs.Ytdmkbfjipgaloaa.Pure
open Go.RowKit Go.Proofs.Ytdmkbfjipgaloaa.P Go.Proofs.YtdmkbfjipgaloaaW.PrintWords Go.Proofs.YtdmkbfjipgaloaaW.PrintLast

theorem floorDiv_f (s n : Int) (hn : 0 < n ∧ n ≤ 64) (hs : -1000000 ≤ s ∧ s ≤ 1000000) : impl_floorDiv.f s n = some (s / n) ∧ -1000000 ≤ s / n ∧ s / n ≤ 1000000 := by
  have hq1 : -1000000 ≤ s / n := Int.le_ediv_of_mul_le hn.1 (by omega)
  have hq2 : s / n ≤ 1000000 := by
    rcases Int.lt_or_le s 0 with h | h
    · have := Int.ediv_neg_of_neg_of_pos h hn.1; omega
    · have := Int.ediv_le_self n h; omega
  refine ⟨?_, hq1, hq2⟩
  have hm0 := Int.emod_nonneg s (show n ≠ 0 by omega)
  have hm1 := Int.emod_lt_of_pos s hn.1
  unfold impl_floorDiv.f
  rw [if_neg (by omega), Int.tmod_eq_emod, Int.tdiv_eq_ediv]
  by_cases h : 0 ≤ s ∨ n ∣ s
  · rw [if_pos h, if_pos h, if_neg (by omega), w64 (by omega) (by omega)]; simp
  · rw [if_neg h, if_neg h, if_pos (by omega), Int.sign_eq_one_of_pos hn.1, w64 (x := s / n + 1) (by omega) (by omega), w64 (by omega) (by omega)]
    congr 1; omega
theorem l4Floor_f (s n : Int) (hn : 0 < n ∧ n ≤ 64) (hs : -1000000 ≤ s ∧ s ≤ 1000000) : spec_l4Floor.f s n = some (s / n) := by
  have hf := floorDiv_f s n hn hs
  unfold spec_l4Floor.f
  by_cases h : s < 0
  · rw [if_pos h, if_neg (by omega), w64 (x := -s) (by omega) (by omega), w64 (x := -s + n) (by omega) (by omega), w64 (x := -s + n - 1) (by omega) (by omega), Int.tdiv_eq_ediv_of_nonneg (by omega)]
    have e : (-s + n - 1) / n = -(s / n) := by
      have h1 := Int.mul_ediv_add_emod s n
      have hm0 := Int.emod_nonneg s (show n ≠ 0 by omega)
      have hm1 := Int.emod_lt_of_pos s hn.1
      have h2 : -s + n - 1 = (n - 1 - s % n) + n * (-(s / n)) := by rw [Int.mul_neg]; omega
      rw [h2, Int.add_mul_ediv_left _ _ (by omega), Int.ediv_eq_zero_of_lt (by omega) (by omega), Int.zero_add]
    rw [e, w64 (x := -(s / n)) (by omega) (by omega), w64 (by omega) (by omega), Int.neg_neg]
  · rw [if_neg h, if_neg (by omega), Int.tdiv_eq_ediv_of_nonneg (by omega), w64 (by omega) (by omega)]

theorem adj_tail {x : Int} {l : List Int} (h : adjB (x :: l) = true) : adjB l = true ∧ ∀ y ∈ l, x < y := by
  induction l generalizing x with
  | nil => exact ⟨rfl, by simp⟩
  | cons y t ih =>
    simp only [adjB, Bool.and_eq_true, decide_eq_true_eq] at h
    have h2 := ih h.2
    refine ⟨h.2, fun z hz => ?_⟩
    rcases List.mem_cons.mp hz with rfl | hz
    · exact h.1
    · have := h2.2 z hz; omega
theorem idx_at : ∀ (l : List Int) (k : Int), adjB l = true → ∀ (i : Nat) (h : i < l.length), idxFrom l[i] l k = k + i
  | [], _, _, i, h => by simp at h
  | x :: l, k, ha, 0, _ => by simp [idxFrom]
  | x :: l, k, ha, i + 1, h => by
    have h2 := adj_tail ha
    have hl : i < l.length := by simpa using h
    have h3 := h2.2 l[i] (List.getElem_mem hl)
    rw [List.getElem_cons_succ, idxFrom, if_neg (by omega), idx_at l (k + 1) h2.1 i hl]; omega
theorem adj_len (hi : Int) : ∀ (l : List Int), adjB l = true → (∀ y ∈ l, 0 ≤ y ∧ y ≤ hi) → 0 ≤ hi + 1 → (l.length : Int) ≤ hi + 1
  | [], _, _, h => by simp; omega
  | x :: l, ha, hb, h => by
    have key : ∀ (l : List Int) (x : Int), adjB (x :: l) = true → (∀ y ∈ x :: l, y ≤ hi) → x + (l.length : Int) ≤ hi := by
      intro l
      induction l with
      | nil => intro x _ hb; simpa using hb x List.mem_cons_self
      | cons y t ih =>
        intro x ha hb
        have h2 := adj_tail ha
        have h3 := ih y h2.1 (fun z hz => hb z (List.mem_cons_of_mem _ hz))
        have h4 := h2.2 y List.mem_cons_self
        simp only [List.length_cons] at h3 ⊢; omega
    have h1 := key l x ha (fun y hy => (hb y hy).2)
    have h2 := (hb x List.mem_cons_self).1
    simp only [List.length_cons]; omega
theorem asked_region {a b : Int} {l r : List Int} (h : askedB a b l r = true) : adjB r = true ∧ r.length ≤ 64 := by
  simp only [askedB, Bool.and_eq_true] at h
  obtain ⟨h1, h2⟩ := h
  have hf := fieldB_len h1
  have hm := side_mul hf.2.1 hf.2.2.1
  simp only [regionB, Bool.and_eq_true] at h2
  have h3 := List.all_eq_true.mp h2.2.1
  have h4 := adj_len (a * b - 1) r h2.2.2 (fun y hy => by have := h3 y hy; simpa [inB] using this) (by omega)
  exact ⟨h2.2.2, by omega⟩

def sumR (l : List Int) : List Int → Int
  | [] => 0
  | c :: r => rd l c + sumR l r
def missB (l r : List Int) : Bool := r.any fun c => rd l c == -9999
theorem missB_cons (l : List Int) (c : Int) (r : List Int) : missB l (c :: r) = ((rd l c == -9999) || missB l r) := List.any_cons
theorem sumR_bound (l : List Int) : ∀ r : List Int, (∀ c ∈ r, -9000 ≤ rd l c ∧ rd l c ≤ 9000) → -9000 * (r.length : Int) ≤ sumR l r ∧ sumR l r ≤ 9000 * (r.length : Int)
  | [], _ => by simp [sumR]
  | c :: r, h => by
    have h1 := sumR_bound l r (fun c hc => h c (List.mem_cons_of_mem _ hc))
    have h2 := h c List.mem_cons_self
    simp only [sumR, List.length_cons]; omega
/-- What a cell of the region becomes. -/
def sprI (r : List Int) (s : Int) (c _ : Int) : Int := if idxL r c < s - s / (r.length : Int) * (r.length : Int) then s / (r.length : Int) + 1 else s / (r.length : Int)
theorem spr_cell (r : List Int) (s : Int) (hn : 0 < r.length ∧ r.length ≤ 64) (hs : -9000 * (r.length : Int) ≤ s ∧ s ≤ 9000 * (r.length : Int)) (c x : Int) (hc : 0 ≤ idxL r c) : cellB (sprI r s c x) = true := by
  have h1 : -9000 ≤ s / (r.length : Int) := Int.le_ediv_of_mul_le (by omega) hs.1
  have h2 : s / (r.length : Int) ≤ 9000 := by
    have := Int.ediv_le_ediv (c := (r.length : Int)) (by omega) hs.2
    rw [Int.mul_ediv_cancel _ (by omega)] at this
    exact this
  have key : -9000 ≤ sprI r s c x ∧ sprI r s c x ≤ 9000 := by
    unfold sprI
    by_cases h : idxL r c < s - s / (r.length : Int) * (r.length : Int)
    · rw [if_pos h]
      have h3 : s / (r.length : Int) ≠ 9000 := by
        intro e
        rw [e] at h
        omega
      omega
    · rw [if_neg h]; omega
  simp [cellB, key.1, key.2]
def spreadT (a b : Int) (l r : List Int) : Int × Int × List Int × Bool := if (askedB a b l r && (!(r == []) && !missB l r)) = true then (a, b, editL (sprI r (sumR l r)) l r l, true) else (0, 0, [], false)
theorem spreadT_len (a b : Int) (l r : List Int) (hl : l.length ≤ 1048576) : (spreadT a b l r).2.2.1.length ≤ 1048576 := by
  unfold spreadT
  by_cases h : (askedB a b l r && (!(r == []) && !missB l r)) = true
  · rw [if_pos h]; simp only [editL_length]; omega
  · rw [if_neg h]; simp
theorem miss_bounds {l r : List Int} (hc : ∀ c ∈ r, 0 ≤ c ∧ c < (l.length : Int)) (hl : l.all cellB = true) (hm : missB l r = false) : ∀ c ∈ r, -9000 ≤ rd l c ∧ rd l c ≤ 9000 := by
  intro c h
  have h1 := rd_cell hl (hc c h).1 (hc c h).2
  have h2 := List.any_eq_false.mp hm c h
  rcases cell_bounds h1 with h3 | h3
  · exact absurd (by simpa using h3) h2
  · exact h3
theorem impl_Spread_l0 (a b : Int) (l r : List Int) (hc : ∀ c ∈ r, 0 ≤ c ∧ c < (l.length : Int)) (hl : l.all cellB = true) (hr : r.length ≤ 64) (q : Int × Int × List Int × Bool) (hq : missB l r = false → ∀ s, s = sumR l r → Ev (fun k => ((impl_floorDiv.f s (r.length : Int)).bind fun t510 => ((mk_impl_SpreadMean_1.f r (wrap64 (s - (wrap64 (t510 * (r.length : Int))))) t510).bind fun t513 => ((impl_editedField.f k a b l r t513).bind fun bt514 => (some (bt514.1, bt514.2.1, bt514.2.2.1, bt514.2.2.2)))))) q) (hq2 : missB l r = true → q = (0, 0, [], false)) :
    ∀ (d i : Nat) (acc : Int), r.length - i = d → i ≤ r.length → -9999 * (i : Int) ≤ acc ∧ acc ≤ 9999 * (i : Int) → acc + sumR l (r.drop i) = sumR l r → (missB l r = missB l (r.drop i)) → Ev (fun k => impl_SpreadMean.l0 k acc r (r.length : Int) (i : Int) a b l r) q := by
  intro d
  induction d with
  | zero =>
    intro i acc hd hi hacc hs hm
    rw [List.drop_of_length_le (by omega)] at hs hm
    refine Ev.step (fun k => by rw [impl_SpreadMean.l0]) ?_
    exact Ev.neg (by omega) (hq hm acc (by simpa [sumR] using hs))
  | succ d ih =>
    intro i acc hd hi hacc hs hm
    have h1 := hc r[i] (List.getElem_mem _)
    have h2 := rd_cell hl h1.1 h1.2
    rw [drop_cons' r i (by omega)] at hs hm
    refine Ev.step (fun k => by rw [impl_SpreadMean.l0]) ?_
    rw [rd_lt r i (by omega)]
    refine Ev.pos (by omega) (Ev.pos (by omega) (Ev.pos (by omega) (Ev.pos h1.1 (Ev.pos h1.2 ?_))))
    refine Ev.cases (fun h => ?_) (fun h => ?_)
    · refine Ev.const ?_
      rw [hq2 (by rw [hm, missB_cons, show (rd l r[i] == -9999) = true by simpa using h, Bool.true_or])]
    · have h3 := cell_bounds h2
      rw [w64 (x := acc + _) (by omega) (by omega), w64 (x := (i : Int) + 1) (by omega) (by omega), show (i : Int) + 1 = ((i + 1 : Nat) : Int) from by omega]
      refine ih (i + 1) _ (by omega) (by omega) (by omega) ?_ ?_
      · rw [← hs]; simp only [sumR]; omega
      · rw [hm, missB_cons, show (rd l r[i] == -9999) = false by simpa using h, Bool.false_or]
theorem spec_Spread_l0 (a b : Int) (l r : List Int) (hc : ∀ c ∈ r, 0 ≤ c ∧ c < (l.length : Int)) (hl : l.all cellB = true) (hr : r.length ≤ 64) (q : Int × Int × List Int × Bool) (hq : missB l r = false → ∀ s, s = sumR l r → Ev (fun k => ((spec_l2Own.f a b l).bind fun bt492 => ((spec_l4Floor.f s (r.length : Int)).bind fun t498 => (spec_SpreadMean.l1 k r t498 (wrap64 (s - (wrap64 (t498 * (r.length : Int))))) 0 bt492.1 bt492.2.1 bt492.2.2)))) q) (hq2 : missB l r = true → q = (0, 0, [], false)) :
    ∀ (d i : Nat) (acc : Int), r.length - i = d → i ≤ r.length → -9999 * (i : Int) ≤ acc ∧ acc ≤ 9999 * (i : Int) → acc + sumR l (r.drop i) = sumR l r → (missB l r = missB l (r.drop i)) → Ev (fun k => spec_SpreadMean.l0 k r acc (i : Int) a b l) q := by
  intro d
  induction d with
  | zero =>
    intro i acc hd hi hacc hs hm
    rw [List.drop_of_length_le (by omega)] at hs hm
    refine Ev.step (fun k => by rw [spec_SpreadMean.l0]) ?_
    exact Ev.neg (by omega) (hq hm acc (by simpa [sumR] using hs))
  | succ d ih =>
    intro i acc hd hi hacc hs hm
    have h1 := hc r[i] (List.getElem_mem _)
    have h2 := rd_cell hl h1.1 h1.2
    rw [drop_cons' r i (by omega)] at hs hm
    refine Ev.step (fun k => by rw [spec_SpreadMean.l0]) ?_
    rw [rd_lt r i (by omega)]
    refine Ev.pos (by omega) (Ev.pos (by omega) (Ev.pos h1.1 (Ev.pos h1.2 ?_)))
    refine Ev.cases (fun h => ?_) (fun h => ?_)
    · refine Ev.const ?_
      rw [hq2 (by rw [hm, missB_cons, show (rd l r[i] == -9999) = true by simpa using h, Bool.true_or])]
    · have h3 := cell_bounds h2
      rw [w64 (x := acc + _) (by omega) (by omega), w64 (x := (i : Int) + 1) (by omega) (by omega), show (i : Int) + 1 = ((i + 1 : Nat) : Int) from by omega]
      refine ih (i + 1) _ (by omega) (by omega) (by omega) ?_ ?_
      · rw [← hs]; simp only [sumR]; omega
      · rw [hm, missB_cons, show (rd l r[i] == -9999) = false by simpa using h, Bool.false_or]
theorem share_bound (r : List Int) (s : Int) (hn : 0 < r.length ∧ r.length ≤ 64) (hs : -1000000 ≤ s ∧ s ≤ 1000000) : 0 ≤ s - s / (r.length : Int) * (r.length : Int) ∧ s - s / (r.length : Int) * (r.length : Int) < (r.length : Int) ∧ -2000000 ≤ s / (r.length : Int) * (r.length : Int) ∧ s / (r.length : Int) * (r.length : Int) ≤ 2000000 := by
  have h1 := Int.mul_ediv_add_emod s (r.length : Int)
  have h2 := Int.emod_nonneg s (show (r.length : Int) ≠ 0 by omega)
  have h3 := Int.emod_lt_of_pos s (show 0 < (r.length : Int) by omega)
  rw [Int.mul_comm] at h1
  omega
theorem spec_Spread_l1 (a b s : Int) (l r : List Int) (hc : ∀ c ∈ r, 0 ≤ c ∧ c < (l.length : Int)) (ha : adjB r = true) (hn : 0 < r.length ∧ r.length ≤ 64) (hs : -1000000 ≤ s ∧ s ≤ 1000000) :
    ∀ (d i : Nat) (o : List Int), r.length - i = d → i ≤ r.length → o.length = l.length → Ev (fun k => spec_SpreadMean.l1 k r (s / (r.length : Int)) (s - s / (r.length : Int) * (r.length : Int)) (i : Int) a b o) (a, b, editL (sprI r s) l (r.drop i) o, true) := by
  have hf := floorDiv_f s (r.length : Int) (by omega) hs
  intro d
  induction d with
  | zero =>
    intro i o hd hi ho
    refine Ev.step (fun k => by rw [spec_SpreadMean.l1]) ?_
    refine Ev.neg (by omega) (Ev.const ?_)
    rw [List.drop_of_length_le (by omega)]; rfl
  | succ d ih =>
    intro i o hd hi ho
    have h1 := hc r[i] (List.getElem_mem _)
    have h2 : idxL r r[i] = (i : Int) := by unfold idxL; rw [idx_at r 0 ha i (by omega)]; omega
    refine Ev.step (fun k => by rw [spec_SpreadMean.l1]) ?_
    rw [rd_lt r i (by omega)]
    refine Ev.pos (by omega) (Ev.pos (by omega) (Ev.pos h1.1 (Ev.pos (by omega) (Ev.bindc rfl ?_))))
    rw [w64 (x := (i : Int) + 1) (by omega) (by omega), w64 (x := s / (r.length : Int) + 1) (by omega) (by omega), show (i : Int) + 1 = ((i + 1 : Nat) : Int) from by omega, drop_cons' r i (by omega), editL_cons]
    refine Ev.cases (fun h => ?_) (fun h => ?_)
    · have e : sprI r s r[i] (rd l r[i]) = s / (r.length : Int) + 1 := by unfold sprI; rw [h2, if_pos h]
      rw [e, List.set_set]
      exact ih (i + 1) _ (by omega) (by omega) (by simpa using ho)
    · have e : sprI r s r[i] (rd l r[i]) = s / (r.length : Int) := by unfold sprI; rw [h2, if_neg h]
      rw [e]
      exact ih (i + 1) _ (by omega) (by omega) (by simpa using ho)
theorem spread_ok {a b : Int} {l r : List Int} (h : askedB a b l r = true) (hne : r ≠ []) : (0 < r.length ∧ r.length ≤ 64) ∧ (missB l r = false → (-9000 * (r.length : Int) ≤ sumR l r ∧ sumR l r ≤ 9000 * (r.length : Int)) ∧ -1000000 ≤ sumR l r ∧ sumR l r ≤ 1000000) := by
  have h1 := asked_region h
  have h2 := asked_cells h
  have h3 := List.length_pos_iff.mpr hne
  refine ⟨⟨h3, h1.2⟩, fun hm => ?_⟩
  have h4 := sumR_bound l r (miss_bounds h2.2 (fieldB_len h2.1).2.2.2.1 hm)
  exact ⟨h4, by omega, by omega⟩
theorem impl_SpreadMean (a b : Int) (l r : List Int) (hl : l.length ≤ 1048576) (hr : r.length ≤ 1048576) : Ev (fun k => impl_SpreadMean.f k a b l r) (spreadT a b l r) := by
  unfold impl_SpreadMean.f
  refine Ev.bind (isRegionOf a b l r hl hr) ?_
  by_cases h : askedB a b l r = true
  · refine Ev.pos h (Ev.step (fun k => by rw [impl_SpreadMean.j0]) ?_)
    by_cases hne : r = []
    · subst hne
      refine Ev.pos rfl (Ev.const ?_)
      unfold spreadT
      rw [if_neg (by simp)]
    · have ho := spread_ok h hne
      have hc := asked_cells h
      have ha := asked_region h
      refine Ev.neg (by have := ho.1.1; simp; exact hne) ?_
      have hcell := (fieldB_len hc.1).2.2.2.1
      refine impl_Spread_l0 a b l r hc.2 hcell ho.1.2 (spreadT a b l r) ?_ ?_ _ 0 0 rfl (by omega) (by omega) (by simp) (by simp)
      · rintro hm s rfl
        have hb := ho.2 hm
        have hf := floorDiv_f (sumR l r) (r.length : Int) (by omega) hb.2
        have hsb := share_bound r (sumR l r) ho.1 hb.2
        refine Ev.bindc hf.1 ?_
        rw [w64 (x := _ * _) (by omega) (by omega), w64 (x := sumR l r - _) (by omega) (by omega)]
        refine Ev.bindc (b := fun c x => some (sprI r (sumR l r) c x)) ?_ ?_
        · unfold mk_impl_SpreadMean_1.f
          rw [if_pos (by omega)]
          congr 1
          funext c x
          unfold sprI
          by_cases hx : idxL r c < sumR l r - sumR l r / (r.length : Int) * (r.length : Int)
          · rw [if_pos hx, if_pos hx, w64 (by omega) (by omega)]
          · rw [if_neg hx, if_neg hx]
        · refine Ev.bind (editedField _ (sprI r (sumR l r)) r a b l hl hr hc.2 (fun _ _ => rfl)) (Ev.const ?_)
          have hv : fieldB a b (editL (sprI r (sumR l r)) l r l) = true := editL_valid _ a b l r hc.1 (fun c hcm => by
            obtain ⟨i, hi, rfl⟩ := List.getElem_of_mem hcm
            refine spr_cell r (sumR l r) ho.1 hb.1 _ _ ?_
            unfold idxL
            rw [idx_at r 0 ha.1 i hi]; omega)
          rw [checkedT, if_pos hv, spreadT, if_pos (by rw [h, hm]; simp [hne])]
      · intro hm
        unfold spreadT
        rw [if_neg (by rw [hm]; simp)]
  · refine Ev.neg h (Ev.step (fun k => by rw [impl_SpreadMean.j0]) ?_)
    refine Ev.pos rfl (Ev.const ?_)
    unfold spreadT
    rw [if_neg (by rw [Bool.eq_false_iff.mpr h]; simp)]
theorem spec_SpreadMean (a b : Int) (l r : List Int) (hl : l.length ≤ 1048576) (hr : r.length ≤ 1048576) : Ev (fun k => spec_SpreadMean.f k a b l r) (spreadT a b l r) := by
  unfold spec_SpreadMean.f
  refine Ev.bind (l23Asked a b l r hl hr) ?_
  by_cases h : askedB a b l r = true
  · refine Ev.pos h (Ev.step (fun k => by rw [spec_SpreadMean.j0]) ?_)
    by_cases hne : r = []
    · subst hne
      refine Ev.pos rfl (Ev.const ?_)
      unfold spreadT
      rw [if_neg (by simp)]
    · have ho := spread_ok h hne
      have hc := asked_cells h
      have ha := asked_region h
      refine Ev.neg (by have := ho.1.1; simp; exact hne) ?_
      have hcell := (fieldB_len hc.1).2.2.2.1
      refine spec_Spread_l0 a b l r hc.2 hcell ho.1.2 (spreadT a b l r) ?_ ?_ _ 0 0 rfl (by omega) (by omega) (by simp) (by simp)
      · rintro hm s rfl
        have hb := ho.2 hm
        have hf := l4Floor_f (sumR l r) (r.length : Int) (by omega) hb.2
        have hf2 := floorDiv_f (sumR l r) (r.length : Int) (by omega) hb.2
        have hsb := share_bound r (sumR l r) ho.1 hb.2
        refine Ev.bindc (l2Own_f a b l hl) (Ev.bindc hf ?_)
        rw [w64 (x := _ * _) (by omega) (by omega), w64 (x := sumR l r - _) (by omega) (by omega)]
        refine Ev.eq (spec_Spread_l1 a b (sumR l r) l r hc.2 ha.1 ho.1 hb.2 _ 0 l rfl (by omega) rfl) ?_
        rw [spreadT, if_pos (by rw [h, hm]; simp [hne])]; rfl
      · intro hm
        unfold spreadT
        rw [if_neg (by rw [hm]; simp)]
  · refine Ev.neg h (Ev.step (fun k => by rw [spec_SpreadMean.j0]) ?_)
    refine Ev.pos rfl (Ev.const ?_)
    unfold spreadT
    rw [if_neg (by rw [Bool.eq_false_iff.mpr h]; simp)]
end Go.Proofs.Ytdmkbfjipgaloaa.Pure

/- The total of a field; spreading the mean keeps it. -/
namespace Go.Proofs.Ytdmkbfjipgaloaa.Pure
open Go.RowKit Go.Proofs.Ytdmkbfjipgaloaa.P Go.Proofs.YtdmkbfjipgaloaaW.PrintWords Go.Proofs.YtdmkbfjipgaloaaW.PrintLast

/-- What a cell counts. -/
def wt (x : Int) : Int := if x = -9999 then 0 else x
def totW : List Int → Int
  | [] => 0
  | x :: l => wt x + totW l
def sumL : List Int → Int
  | [] => 0
  | x :: l => x + sumL l
theorem sum_values : ∀ l : List Int, sumL (valuesB l) = totW l
  | [] => rfl
  | x :: l => by
    have ih := sum_values l
    unfold valuesB at ih ⊢
    by_cases h : x = -9999
    · rw [List.filter_cons_of_neg (by simp [h]), ih, totW, wt, if_pos h]; omega
    · rw [List.filter_cons_of_pos (by simp [h]), sumL, ih, totW, wt, if_neg h]
theorem sumOf_l0 (l : List Int) (hl : l.length ≤ 64) (hb : ∀ x ∈ l, -9999 ≤ x ∧ x ≤ 9999) : ∀ (d i : Nat) (acc : Int), l.length - i = d → i ≤ l.length → -9999 * (i : Int) ≤ acc ∧ acc ≤ 9999 * (i : Int) →
    Ev (fun k => impl_sumOf.l0 k acc l (l.length : Int) (i : Int)) (acc + sumL (l.drop i)) := by
  intro d
  induction d with
  | zero =>
    intro i acc hd hi ha
    refine Ev.step (fun k => by rw [impl_sumOf.l0]) (Ev.neg (by omega) (Ev.const ?_))
    rw [List.drop_of_length_le (by omega), sumL, Int.add_zero]
  | succ d ih =>
    intro i acc hd hi ha
    have h1 := hb l[i] (List.getElem_mem _)
    refine Ev.step (fun k => by rw [impl_sumOf.l0]) ?_
    refine Ev.pos (by omega) (Ev.pos (by omega) (Ev.pos (by omega) ?_))
    rw [rd_lt l i (by omega), w64 (x := acc + _) (by omega) (by omega), w64 (x := (i : Int) + 1) (by omega) (by omega), show (i : Int) + 1 = ((i + 1 : Nat) : Int) from by omega]
    refine Ev.eq (ih (i + 1) _ (by omega) (by omega) (by omega)) ?_
    rw [drop_cons' l i (by omega), sumL]; omega
theorem sumOf (l : List Int) (hl : l.length ≤ 64) (hb : ∀ x ∈ l, -9999 ≤ x ∧ x ≤ 9999) : Ev (fun k => impl_sumOf.f k l) (sumL l) := by
  unfold impl_sumOf.f
  exact Ev.eq (sumOf_l0 l hl hb _ 0 0 rfl (by omega) (by omega)) (by simp)
theorem fieldTotal (a b : Int) (l : List Int) (h : fieldB a b l = true) : Ev (fun k => impl_FieldTotal.f k a b l) (totW l, true) := by
  have hf := fieldB_len h
  have hv : ∀ x ∈ valuesB l, -9999 ≤ x ∧ x ≤ 9999 := fun x hx => by
    have h1 := List.all_eq_true.mp hf.2.2.2.1 x (List.mem_filter.mp hx).1
    rcases cell_bounds h1 with h2 | h2 <;> omega
  have hlen : (valuesB l).length ≤ l.length := List.length_filter_le _ _
  unfold impl_FieldTotal.f
  refine Ev.bindc (isValidField_f a b l) (Ev.pos h (Ev.bindc (show impl_valuesOf.f a b l = some (valuesB l) by unfold impl_valuesOf.f; rw [if_pos (by omega)]) (Ev.bind (sumOf _ (by omega) hv) (Ev.const ?_))))
  rw [sum_values]
theorem sameTotal (a b : Int) (l m : List Int) (h : fieldB a b l = true) (h2 : fieldB a b m = true) (e : totW l = totW m) : Ev (fun k => impl_SameTotal.f k a b l a b m) (true, true) := by
  unfold impl_SameTotal.f
  refine Ev.bind (fieldTotal a b l h) (Ev.bind (fieldTotal a b m h2) (Ev.pos rfl (Ev.pos rfl (Ev.const ?_))))
  rw [e]; simp
theorem tot_set : ∀ (o : List Int) (c : Nat) (x : Int), c < o.length → totW (o.set c x) = totW o - wt (rd o (c : Int)) + wt x
  | [], c, x, h => by simp at h
  | y :: o, 0, x, h => by
    have : rd (y :: o) ((0 : Nat) : Int) = y := rfl
    rw [List.set_cons_zero, totW, totW, this]; omega
  | y :: o, c + 1, x, h => by
    have h1 : c < o.length := by simpa using h
    have e : rd (y :: o) ((c + 1 : Nat) : Int) = rd o (c : Int) := by rw [rd_lt _ _ h, rd_lt _ _ h1]; rfl
    rw [List.set_cons_succ, totW, totW, tot_set o c x h1, e]; omega
def sumF (f : Int → Int) : List Int → Int
  | [] => 0
  | c :: r => f c + sumF f r
theorem tot_edit (φ : Int → Int → Int) (l : List Int) : ∀ (r o : List Int), r.Nodup → (∀ c ∈ r, 0 ≤ c ∧ c < (o.length : Int)) → (∀ c ∈ r, rd o c = rd l c) →
    totW (editL φ l r o) = totW o + sumF (fun c => wt (φ c (rd l c))) r - sumF (fun c => wt (rd l c)) r
  | [], o, _, _, _ => by simp [editL, sumF]
  | c :: r, o, hn, hc, he => by
    have h1 := hc c List.mem_cons_self
    have hn2 := List.nodup_cons.mp hn
    rw [editL_cons, tot_edit φ l r _ hn2.2 (fun x hx => by have := hc x (List.mem_cons_of_mem _ hx); simpa using this) (fun x hx => by
      have h2 := hc x (List.mem_cons_of_mem _ hx)
      rw [rd_set o c x _ h1.1 h2.1 h2.2, if_neg (fun (e : x = c) => hn2.1 (e ▸ hx))]
      exact he x (List.mem_cons_of_mem _ hx))]
    obtain ⟨j, rfl⟩ : ∃ j : Nat, c = j := ⟨c.toNat, by omega⟩
    have h3 := he (j : Int) List.mem_cons_self
    rw [Int.toNat_natCast, tot_set o j _ (by omega), h3]
    simp only [sumF]; omega
theorem adj_nodup : ∀ (l : List Int), adjB l = true → l.Nodup
  | [], _ => List.nodup_nil
  | x :: l, h => by
    have h2 := adj_tail h
    exact List.nodup_cons.mpr ⟨fun hx => by have := h2.2 x hx; omega, adj_nodup l h2.1⟩
theorem sum_steps (q left : Int) (n : Nat) (hl : 0 ≤ left ∧ left ≤ (n : Int)) (f : Int → Int) (r : List Int) (hr : r.length = n) (hf : ∀ (i : Nat) (h : i < r.length), f r[i] = if (i : Int) < left then q + 1 else q) :
    ∀ (d k : Nat), n - k = d → k ≤ n → sumF f (r.drop k) = q * (d : Int) + (if (k : Int) < left then left - k else 0) := by
  intro d
  induction d with
  | zero =>
    intro k hd hk
    rw [List.drop_of_length_le (by omega), if_neg (by omega)]; simp [sumF]
  | succ d ih =>
    intro k hd hk
    have hk2 : k < r.length := by omega
    rw [drop_cons' r k hk2, sumF, ih (k + 1) (by omega) (by omega), hf k hk2, show ((d + 1 : Nat) : Int) = (d : Int) + 1 from by omega, Int.mul_add, Int.mul_one]
    by_cases h : (k : Int) < left
    · rw [if_pos h, if_pos h]
      by_cases h2 : ((k + 1 : Nat) : Int) < left
      · rw [if_pos h2]; omega
      · rw [if_neg h2]; omega
    · rw [if_neg h, if_neg h, if_neg (by omega)]; omega
theorem sumF_congr {f g : Int → Int} : ∀ (r : List Int), (∀ c ∈ r, f c = g c) → sumF f r = sumF g r
  | [], _ => rfl
  | c :: r, h => by rw [sumF, sumF, h c List.mem_cons_self, sumF_congr r (fun x hx => h x (List.mem_cons_of_mem _ hx))]
theorem sumF_sumR (l : List Int) : ∀ r : List Int, sumF (fun c => rd l c) r = sumR l r
  | [] => rfl
  | c :: r => by rw [sumF, sumR, sumF_sumR l r]
theorem spread_total {a b : Int} {l r : List Int} (h : askedB a b l r = true) (hne : r ≠ []) (hm : missB l r = false) : totW (editL (sprI r (sumR l r)) l r l) = totW l := by
  have hc := asked_cells h
  have hr := asked_region h
  have hs := spread_ok h hne
  have hs2 := hs.2 hm
  have hcell := (fieldB_len hc.1).2.2.2.1
  have hb := miss_bounds hc.2 hcell hm
  rw [tot_edit _ l r l (adj_nodup r hr.1) hc.2 (fun _ _ => rfl)]
  have e1 : sumF (fun c => wt (rd l c)) r = sumR l r := by
    rw [← sumF_sumR]
    exact sumF_congr r (fun c hx => by have := hb c hx; unfold wt; rw [if_neg (by omega)])
  generalize sumR l r = s at *
  have hq1 := Int.mul_ediv_add_emod s (r.length : Int)
  have hq2 := Int.emod_nonneg s (show (r.length : Int) ≠ 0 by omega)
  have hq3 := Int.emod_lt_of_pos s (show 0 < (r.length : Int) by omega)
  have hcomm := Int.mul_comm (r.length : Int) (s / (r.length : Int))
  have e2 : sumF (fun c => wt (sprI r s c (rd l c))) r = s := by
    have := sum_steps (s / (r.length : Int)) (s - s / (r.length : Int) * (r.length : Int)) r.length (by omega) (fun c => wt (sprI r s c (rd l c))) r rfl (fun i hi => by
      have hx : idxL r r[i] = (i : Int) := by
        unfold idxL
        rw [idx_at r 0 hr.1 i hi]; omega
      have hcb := spr_cell r s hs.1 hs2.1 r[i] (rd l r[i]) (by omega)
      have hw : wt (sprI r s r[i] (rd l r[i])) = sprI r s r[i] (rd l r[i]) := by
        unfold wt
        rw [if_neg]
        intro e
        unfold sprI at e
        have g1 : -9000 ≤ s / (r.length : Int) := Int.le_ediv_of_mul_le (by omega) hs2.1.1
        split at e <;> omega
      rw [hw, sprI, hx]) r.length 0 rfl (by omega)
    rw [List.drop_zero] at this
    rw [this]
    by_cases h0 : ((0 : Nat) : Int) < s - s / (r.length : Int) * (r.length : Int)
    · rw [if_pos h0]; omega
    · rw [if_neg h0]; omega
  rw [e1, e2]; omega
end Go.Proofs.Ytdmkbfjipgaloaa.Pure

namespace Go.Proofs.Ytdmkbfjipgaloaa.Pure
open Go.RowKit Go.Proofs.Ytdmkbfjipgaloaa.P Go.Proofs.YtdmkbfjipgaloaaW.PrintWords Go.Proofs.YtdmkbfjipgaloaaW.PrintLast

theorem vInts_l0 (a : List Int) (hl : a.length ≤ 1048576) : ∀ (d i : Nat), a.length - i = d → i ≤ a.length → Ev (fun k => laws_vInts.l0 k a a (i : Int)) true := by
  intro d
  induction d with
  | zero =>
    intro i hd hi
    exact Ev.step (fun k => by rw [laws_vInts.l0]) (Ev.neg (by omega) (Ev.const rfl))
  | succ d ih =>
    intro i hd hi
    refine Ev.step (fun k => by rw [laws_vInts.l0]) ?_
    refine Ev.pos (by omega) (Ev.pos (by omega) (Ev.pos (by omega) (Ev.pos rfl ?_)))
    rw [w64 (by omega) (by omega), show (i : Int) + 1 = ((i + 1 : Nat) : Int) from by omega]
    exact ih (i + 1) (by omega) (by omega)
theorem vField_refl (a b : Int) (l : List Int) (hl : l.length ≤ 1048576) : Ev (fun k => laws_vField.f k a b l a b l) true := by
  unfold laws_vField.f
  refine Ev.pos rfl (Ev.pos rfl (Ev.bind (a := true) ?_ (Ev.const rfl)))
  unfold laws_vInts.f
  exact Ev.pos rfl (vInts_l0 l hl _ 0 rfl (by omega))
theorem vHas_l0 (r : List Int) (hr : r.length ≤ 1048576) (x : Int) : ∀ (d i : Nat), r.length - i = d → i ≤ r.length → x ∈ r.drop i → Ev (fun k => laws_vHas.l0 k r x (i : Int)) true := by
  intro d
  induction d with
  | zero =>
    intro i hd hi hx
    rw [List.drop_of_length_le (by omega)] at hx; simp at hx
  | succ d ih =>
    intro i hd hi hx
    refine Ev.step (fun k => by rw [laws_vHas.l0]) ?_
    rw [drop_cons' r i (by omega)] at hx
    refine Ev.pos (by omega) (Ev.pos (by omega) ?_)
    rw [rd_lt r i (by omega)]
    refine Ev.cases (fun _ => Ev.const rfl) (fun h => ?_)
    rw [w64 (by omega) (by omega), show (i : Int) + 1 = ((i + 1 : Nat) : Int) from by omega]
    refine ih (i + 1) (by omega) (by omega) ?_
    rcases List.mem_cons.mp hx with e | hx
    · exact absurd e.symm h
    · exact hx
theorem vHas_mem (r : List Int) (hr : r.length ≤ 1048576) (x : Int) (hx : x ∈ r) : Ev (fun k => laws_vHas.f k r x) true := by
  unfold laws_vHas.f
  exact vHas_l0 r hr x _ 0 rfl (by omega) (by simpa using hx)
/-- The places from i on where two lists differ. -/
def edF (l m : List Int) : Nat → Nat → List Int
  | _, 0 => []
  | i, d + 1 => if rd l (i : Int) = rd m (i : Int) then edF l m (i + 1) d else (i : Int) :: edF l m (i + 1) d
theorem edF_len (l m : List Int) : ∀ d i, (edF l m i d).length ≤ d
  | 0, _ => by simp [edF]
  | d + 1, i => by
    have := edF_len l m d (i + 1)
    simp only [edF]
    split
    · omega
    · simp; omega
theorem edF_mem (l m : List Int) : ∀ d i, ∀ x ∈ edF l m i d, ∃ j : Nat, x = (j : Int) ∧ i ≤ j ∧ j < i + d ∧ rd l (j : Int) ≠ rd m (j : Int)
  | 0, _, x, h => by simp [edF] at h
  | d + 1, i, x, h => by
    simp only [edF] at h
    split at h
    · obtain ⟨j, h1, h2, h3, h4⟩ := edF_mem l m d (i + 1) x h
      exact ⟨j, h1, by omega, by omega, h4⟩
    · rename_i hne
      rcases List.mem_cons.mp h with e | h
      · exact ⟨i, e, by omega, by omega, hne⟩
      · obtain ⟨j, h1, h2, h3, h4⟩ := edF_mem l m d (i + 1) x h
        exact ⟨j, h1, by omega, by omega, h4⟩
theorem edited_l0 (a b : Int) (l m : List Int) (hl : l.length ≤ 64) (hm : m.length = l.length) : ∀ (d i : Nat) (acc : List Int), l.length - i = d → i ≤ l.length → acc.length ≤ i →
    Ev (fun k => impl_EditedRegion.l0 k acc l (l.length : Int) (i : Int) a b m) (acc ++ edF l m i d, true) := by
  intro d
  induction d with
  | zero =>
    intro i acc hd hi ha
    exact Ev.step (fun k => by rw [impl_EditedRegion.l0]) (Ev.neg (by omega) (Ev.const (by simp [edF])))
  | succ d ih =>
    intro i acc hd hi ha
    refine Ev.step (fun k => by rw [impl_EditedRegion.l0]) ?_
    refine Ev.pos (by omega) (Ev.pos (by omega) (Ev.pos (by omega) (Ev.pos (by omega) ?_)))
    rw [w64 (by omega) (by omega), show (i : Int) + 1 = ((i + 1 : Nat) : Int) from by omega]
    refine Ev.cases (fun h => ?_) (fun h => Ev.pos (by omega) ?_)
    · refine Ev.eq (ih (i + 1) acc (by omega) (by omega) (by omega)) ?_
      simp only [edF]; rw [if_pos h]
    · refine Ev.eq (ih (i + 1) (acc ++ [(i : Int)]) (by omega) (by omega) (by simp; omega)) ?_
      simp only [edF]; rw [if_neg h, List.append_assoc]; rfl
theorem editedRegion (a b : Int) (l m : List Int) (h : likeB a b l a b m = true) : Ev (fun k => impl_EditedRegion.f k a b l a b m) (edF l m 0 l.length, true) := by
  have h1 := likeB_len h
  have h2 : l.length ≤ 64 := by
    simp only [likeB, Bool.and_eq_true] at h
    exact (fieldB_len h.1).2.2.2.2.1
  unfold impl_EditedRegion.f
  refine Ev.bind (areAlike a b l a b m) (Ev.pos h ?_)
  exact Ev.eq (edited_l0 a b l m h2 h1.1 _ 0 [] rfl (by omega) (by simp)) (by simp)
theorem list_rd {l m : List Int} (hl : l.length = m.length) (h : ∀ c : Int, 0 ≤ c → c < (l.length : Int) → rd l c = rd m c) : l = m := by
  apply List.ext_getElem hl
  intro i h1 h2
  have := h (i : Int) (by omega) (by omega)
  rwa [rd_lt l i h1, rd_lt m i h2] at this
/-- A field whose region was set is given back by copying the region. -/
theorem copy_back (l r : List Int) (v : Int) (hc : ∀ c ∈ r, 0 ≤ c ∧ c < (l.length : Int)) : editL (fun c _ => rd l c) (editL (fun _ _ => v) l r l) r (editL (fun _ _ => v) l r l) = l := by
  refine list_rd (by rw [editL_length, editL_length]) (fun c h0 h1 => ?_)
  rw [editL_length, editL_length] at h1
  rw [rd_editL _ _ r _ (fun c hc' => (hc c hc').1) c h0 (by rw [editL_length]; exact h1)]
  by_cases h : c ∈ r
  · rw [if_pos h]
  · rw [if_neg h, rd_editL _ _ r _ (fun c hc' => (hc c hc').1) c h0 h1, if_neg h]
theorem add_back {l r : List Int} {v : Int} (hc : ∀ c ∈ r, 0 ≤ c ∧ c < (l.length : Int)) (hok : addOk l v r = true) : editL (addS (-v)) (editL (addS v) l r l) r (editL (addS v) l r l) = l := by
  refine list_rd (by rw [editL_length, editL_length]) (fun c h0 h1 => ?_)
  rw [editL_length, editL_length] at h1
  have e := rd_editL (addS v) l r l (fun c hc' => (hc c hc').1) c h0 h1
  rw [rd_editL _ _ r _ (fun c hc' => (hc c hc').1) c h0 (by rw [editL_length]; exact h1), e]
  by_cases h : c ∈ r
  · rw [if_pos h, if_pos h]
    have h7 := List.all_eq_true.mp hok c h
    by_cases h8 : rd l c = -9999
    · unfold addS; rw [if_pos h8, if_pos rfl, h8]
    · rw [show (rd l c == -9999) = false by simpa using h8, Bool.false_or] at h7
      simp only [inB, Bool.and_eq_true, decide_eq_true_eq] at h7
      unfold addS
      rw [if_neg h8, if_neg (by omega)]; omega
  · rw [if_neg h, if_neg h]
theorem add_okBack {a b : Int} {l r : List Int} {v : Int} (h : fieldB a b l = true) (hc : ∀ c ∈ r, 0 ≤ c ∧ c < (l.length : Int)) (hok : addOk l v r = true) : addOk (editL (addS v) l r l) (-v) r = true := by
  refine List.all_eq_true.mpr (fun c hcr => ?_)
  have h1 := hc c hcr
  have e := rd_editL (addS v) l r l (fun c hc' => (hc c hc').1) c h1.1 h1.2
  rw [if_pos hcr] at e
  have h7 := List.all_eq_true.mp hok c hcr
  have hb := cell_bounds (rd_cell (fieldB_len h).2.2.2.1 h1.1 h1.2)
  rw [e]
  by_cases h8 : rd l c = -9999
  · unfold addS; rw [if_pos h8]; rfl
  · rw [show (rd l c == -9999) = false by simpa using h8, Bool.false_or] at h7
    simp only [inB, Bool.and_eq_true, decide_eq_true_eq] at h7
    have : inB (-9000) 9000 (addS v c (rd l c) + -v) = true := by
      unfold addS inB
      rw [if_neg h8]
      simp only [Bool.and_eq_true, decide_eq_true_eq]
      omega
    rw [this, Bool.or_true]
/-- The last part: the mean spread. -/
theorem edits_j5 (x : List Int) (hcode : Code x) : Ev (fun k => laws_FnEdits.j5 k x) true := by
  refine Ev.step (fun k => by rw [laws_FnEdits.j5]) ?_
  obtain ⟨a, b, l, r, hd, hl, hr⟩ := drawSpread hcode
  have im := impl_SpreadMean a b l r (by omega) (by omega)
  have sp := spec_SpreadMean a b l r (by omega) (by omega)
  have hlen := spreadT_len a b l r (by omega)
  refine Ev.bind hd (Ev.bind im (Ev.bind sp (Ev.neg (by simp) (Ev.bind (vField_refl _ _ _ hlen) ?_))))
  refine Ev.step (fun k => by rw [laws_FnEdits.j6]) (Ev.neg (by simp) ?_)
  unfold spreadT
  by_cases h : (askedB a b l r && (!(r == []) && !missB l r)) = true
  · simp only [if_pos h]
    simp only [Bool.and_eq_true, Bool.not_eq_true'] at h
    obtain ⟨h1, h2, h3⟩ := h
    have hne : r ≠ [] := by simpa using h2
    have hc := asked_cells h1
    have hrg := asked_region h1
    have hs := spread_ok h1 hne
    refine Ev.pos (by simp) (Ev.bind (sameTotal a b l _ hc.1 (editL_valid (sprI r (sumR l r)) a b l r hc.1 (fun c hcr => ?_)) (spread_total h1 hne h3).symm) (Ev.pos rfl (Ev.const rfl)))
    obtain ⟨i, hi, rfl⟩ := List.mem_iff_getElem.mp hcr
    exact spr_cell r (sumR l r) hs.1 (hs.2 h3).1 _ _ (by unfold idxL; rw [idx_at r 0 hrg.1 i hi]; omega)
  · simp only [if_neg h]
    exact Ev.neg (by simp) (Ev.const (by simp))
theorem edits_j3 (x : List Int) (hcode : Code x) : Ev (fun k => laws_FnEdits.j3 k x) true := by
  refine Ev.step (fun k => by rw [laws_FnEdits.j3]) ?_
  obtain ⟨a, b, l, r, v, hd, hl, hr, hv⟩ := drawAdd hcode
  have im := impl_AddToRegion a b l r v (by omega) (by omega)
  have sp := spec_AddToRegion a b l r v (by omega) (by omega)
  have hlen := addT_len a b l r v (by omega)
  refine Ev.bind hd (Ev.bind im (Ev.bind sp (Ev.neg (by simp) (Ev.bind (vField_refl _ _ _ hlen) ?_))))
  refine Ev.step (fun k => by rw [laws_FnEdits.j4]) (Ev.neg (by simp) ?_)
  unfold addT
  by_cases h : (askedB a b l r && inB (-18000) 18000 v) = true
  · simp only [if_pos h]
    simp only [Bool.and_eq_true] at h
    have hc := asked_cells h.1
    have hv2 : -18000 ≤ v ∧ v ≤ 18000 := by simpa [inB] using h.2
    by_cases hok : addOk l v r = true
    · simp only [if_pos hok]
      unfold checkedT
      by_cases hf : fieldB a b (editL (addS v) l r l) = true
      · simp only [if_pos hf]
        have hb := impl_AddToRegion a b (editL (addS v) l r l) r (-v) (by rw [editL_length]; omega) (by omega)
        have hask : askedB a b (editL (addS v) l r l) r = true := by
          have := h.1
          simp only [askedB, Bool.and_eq_true] at this ⊢
          exact ⟨hf, this.2⟩
        have e : addT a b (editL (addS v) l r l) r (-v) = (a, b, l, true) := by
          unfold addT
          rw [if_pos (by rw [hask, show inB (-18000) 18000 (-v) = true by unfold inB; simp; omega]; rfl), if_pos (add_okBack hc.1 hc.2 hok), add_back hc.2 hok, checkedT, if_pos hc.1]
        rw [e] at hb
        rw [w64 (by omega) (by omega)]
        exact Ev.pos (by simp) (Ev.bind hb (Ev.pos rfl (Ev.bind (vField_refl a b l (by omega)) (Ev.pos rfl (edits_j5 x hcode)))))
      · simp only [if_neg hf]
        exact Ev.neg (by simp) (edits_j5 x hcode)
    · simp only [if_neg hok]
      exact Ev.neg (by simp) (edits_j5 x hcode)
  · simp only [if_neg h]
    exact Ev.neg (by simp) (edits_j5 x hcode)
theorem edits_l0 (x r : List Int) (hcode : Code x) (hr : r.length ≤ 1048576) (E : List Int) (hE : E.length ≤ 64) (hm : ∀ c ∈ E, c ∈ r) : ∀ (d i : Nat), E.length - i = d → i ≤ E.length → Ev (fun k => laws_FnEdits.l0 k x r E (i : Int)) true := by
  intro d
  induction d with
  | zero =>
    intro i hd hi
    exact Ev.step (fun k => by rw [laws_FnEdits.l0]) (Ev.neg (by omega) (edits_j3 x hcode))
  | succ d ih =>
    intro i hd hi
    refine Ev.step (fun k => by rw [laws_FnEdits.l0]) ?_
    rw [rd_lt E i (by omega), w64 (by omega) (by omega), show (i : Int) + 1 = ((i + 1 : Nat) : Int) from by omega]
    exact Ev.pos (by omega) (Ev.pos (by omega) (Ev.bind (vHas_mem r hr _ (hm _ (List.getElem_mem _))) (Ev.pos rfl (ih (i + 1) (by omega) (by omega)))))
theorem FnEdits : laws_FnEdits.Pure := by
  intro x _ _ hwf
  apply Ev.rounds
  have hcode : Code x := code_of hwf
  unfold laws_FnEdits.f
  refine Ev.bindc (show laws_vBig.f x = some (decide ((x.length : Int) > 65536)) from rfl) ?_
  refine Ev.cases (fun _ => Ev.now _) (fun _ => ?_)
  obtain ⟨a, b, l, r, v, hd, hl, hr⟩ := drawSet hcode
  have im := impl_SetRegion a b l r v (by omega) (by omega)
  have sp := spec_SetRegion a b l r v (by omega) (by omega)
  have hlen := setRegionT_len a b l r v (by omega)
  refine Ev.bind hd (Ev.bind im (Ev.bind sp (Ev.neg (by simp) (Ev.bind (vField_refl _ _ _ hlen) ?_))))
  refine Ev.step (fun k => by rw [laws_FnEdits.j0]) (Ev.neg (by simp) ?_)
  unfold setRegionT
  by_cases h : (askedB a b l r && cellB v) = true
  · simp only [if_pos h]
    simp only [Bool.and_eq_true] at h
    have hc := asked_cells h.1
    have hg : fieldB a b (editL (fun _ _ => v) l r l) = true := editL_valid (fun _ _ => v) a b l r hc.1 (fun _ _ => h.2)
    have hlike : likeB a b l a b (editL (fun _ _ => v) l r l) = true := by
      unfold likeB; rw [hc.1, hg]; simp
    have hlike2 : likeB a b (editL (fun _ _ => v) l r l) a b l = true := by
      unfold likeB; rw [hc.1, hg]; simp
    have hask : askedB a b (editL (fun _ _ => v) l r l) r = true := by
      have := h.1
      simp only [askedB, Bool.and_eq_true] at this ⊢
      exact ⟨hg, this.2⟩
    have hb := impl_CopyRegion a b (editL (fun _ _ => v) l r l) a b l r (by rw [editL_length]; omega) (by omega)
    have e : copyT a b (editL (fun _ _ => v) l r l) a b l r = (a, b, l, true) := by
      unfold copyT
      rw [if_pos (by rw [hlike2, hask]; rfl), copy_back l r v hc.2]
    rw [e] at hb
    refine Ev.pos (by simp) (Ev.bind (editedRegion a b l _ hlike) (Ev.bind hb (Ev.pos rfl (Ev.pos rfl (Ev.bind (vField_refl a b l (by omega)) ?_)))))
    refine Ev.step (fun k => by rw [laws_FnEdits.j1]) (Ev.neg (by simp) ?_)
    have hEl := edF_len l (editL (fun _ _ => v) l r l) l.length 0
    refine edits_l0 x r hcode (by omega) _ (by simp only; omega) (fun c hcE => ?_) _ 0 rfl (by omega)
    obtain ⟨j, rfl, _, h3, h4⟩ := edF_mem _ _ _ _ c hcE
    apply Classical.byContradiction
    intro hn
    apply h4
    rw [rd_editL _ _ r _ (fun c hc' => (hc.2 c hc').1) (j : Int) (by omega) (by omega), if_neg hn]
  · simp only [if_neg h]
    exact Ev.neg (by simp) (edits_j3 x hcode)
end Go.Proofs.Ytdmkbfjipgaloaa.Pure
