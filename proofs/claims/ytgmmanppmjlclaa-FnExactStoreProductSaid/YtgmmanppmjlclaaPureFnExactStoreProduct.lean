/- The program's StoreProduct returns what the reference's returns, for all arguments. Conditions: none beyond the given statement's. -/
import Derived.Test.YtgmmanppmjlclaaPx0
import Derived.Test.YtgmmanppmjlclaaPx3
import Derived.Test.YtgmmanppmjlclaaPx5
import Derived.Test.YtgmmanppmjlclaaPx6
import Derived.Test.YtgmmanppmjlclaaPx7
import Derived.Test.YtgmmanppmjlclaaPx11
import Derived.Test.YtgmmanppmjlclaaPx14
import Derived.Test.YtgmmanppmjlclaaPx10
import Derived.Test.YtgmmanppmjlclaaPx9
import Derived.Test.YtgmmanppmjlclaaPx4
import Derived.Sort.Walk0
import Derived.Test.YtgmmanppmjlclaaPx28
import Derived.Test.YtgmmanppmjlclaaPx37
import Derived.Test.YtgmmanppmjlclaaPx24
import Derived.Test.YtgmmanppmjlclaaPx38
/- Small laws on "with enough rounds the function answers r" (Ev) and on wrapping sums; used by every plain law of this seat. -/
namespace Go.Proofs.Ytgmmanppmjlclaa.Pure
open Go.RowKit Go.Proofs.YtgmmanppmjlclaaW.PrintWords Go.Proofs.YtgmmanppmjlclaaW.PrintLast

section
variable {α β : Type} {r : α} {f g : Nat → Option α}
theorem Ev.pos {c : Prop} [Decidable c] (h : c) (e : Ev f r) : Ev (fun k => if c then f k else g k) r := e.congr fun _ => if_pos h
theorem Ev.neg {c : Prop} [Decidable c] (h : ¬ c) (e : Ev g r) : Ev (fun k => if c then f k else g k) r := e.congr fun _ => if_neg h
theorem Ev.const {a : Option α} (h : a = some r) : Ev (fun _ => a) r := ⟨0, fun _ _ => h⟩
theorem Ev.bindc {a : Option β} {b : β} {f : Nat → β → Option α} (h : a = some b) (k : Ev (fun n => f n b) r) : Ev (fun n => a.bind (f n)) r := Ev.bind (Ev.const h) k
theorem Ev.eq {r' : α} (h : Ev f r) (e : r = r') : Ev f r' := e ▸ h
theorem Ev.cases {c : Prop} [Decidable c] (h1 : c → Ev f r) (h2 : ¬ c → Ev g r) : Ev (fun k => if c then f k else g k) r := by
  by_cases h : c
  · exact Ev.pos h (h1 h)
  · exact Ev.neg h (h2 h)
/-- Two answers of one function are one. -/
theorem Ev.uniq {r' : α} (h : Ev f r) (h' : Ev f r') : r = r' := by
  obtain ⟨K, hK⟩ := h
  obtain ⟨K', hK'⟩ := h'
  have a := hK (max K K') (Nat.le_max_left _ _)
  have b := hK' (max K K') (Nat.le_max_right _ _)
  rw [a] at b
  exact Option.some.inj b
end

theorem w64 {x : Int} (h1 : -9223372036854775808 ≤ x) (h2 : x ≤ 9223372036854775807) : wrap64 x = x := by unfold wrap64; omega

theorem rd_nat (l : List Int) (i : Nat) : rd l (i : Int) = l.getD i 0 := by simp [rd]
theorem rd_lt (l : List Int) (i : Nat) (h : i < l.length) : rd l (i : Int) = l[i] := by simp [rd, h]
theorem take_succ' {α : Type} (l : List α) (i : Nat) (h : i < l.length) : l.take (i + 1) = l.take i ++ [l[i]] := by
  rw [List.take_succ_eq_append_getElem h]
theorem drop_cons' {α : Type} (l : List α) (i : Nat) (h : i < l.length) : l.drop i = l[i] :: l.drop (i + 1) := List.drop_eq_getElem_cons h
end Go.Proofs.Ytgmmanppmjlclaa.Pure

/- Texts as lists of bytes: joins, cuts, single bytes, equality. -/
namespace Go.Proofs.Ytgmmanppmjlclaa.Pure
open Go.RowKit Go.Proofs.Ytgmmanppmjlclaa.P Go.Proofs.YtgmmanppmjlclaaW.PrintWords Go.Proofs.YtgmmanppmjlclaaW.PrintLast

def bs (s : ByteArray) : List UInt8 := s.data.toList
theorem bs_size (s : ByteArray) : (bs s).length = s.size := by rw [bs, Array.length_toList]; rfl
theorem bs_inj {s t : ByteArray} (h : bs s = bs t) : s = t := by
  cases s; cases t; simp [bs] at h; rw [h]
theorem bs_mk (l : List UInt8) : bs ⟨l.toArray⟩ = l := by simp [bs]
theorem mk_bs (s : ByteArray) : (⟨(bs s).toArray⟩ : ByteArray) = s := bs_inj (bs_mk _)
theorem bs_append (s t : ByteArray) : bs (s ++ t) = bs s ++ bs t := by simp [bs]
theorem bs_extract (s : ByteArray) (i j : Nat) : bs (s.extract i j) = ((bs s).drop i).take (j - i) := by simp [bs, List.take_drop]
theorem toList_bs (s : ByteArray) : s.toList = bs s := ByteArray.toList_eq s
theorem size_mk (l : List UInt8) : (⟨l.toArray⟩ : ByteArray).size = l.length := by rw [← bs_size, bs_mk]
theorem bt_bs (s : ByteArray) (i : Nat) (h : i < (bs s).length) : bt s (i : Int) = (((bs s)[i]).toNat : Int) := by
  have h2 : ((i : Int)).toNat < s.size := by rw [bs_size] at h; simpa using h
  rw [← bt_at s (i : Int) h2]
  simp [bs]
  rfl
theorem bs_one (c : UInt8) : bs ⟨#[c]⟩ = [c] := rfl
theorem bs_nil : bs ⟨#[]⟩ = [] := rfl
theorem l1In_f (x a b : Int) : spec_l1In.f x a b = some (decide (a ≤ x) && decide (x ≤ b)) := by
  unfold spec_l1In.f
  by_cases h : x ≥ a
  · simp [h]
  · simp [h]
theorem within_f (x a b : Int) : impl_within.f x a b = some (decide (a ≤ x) && decide (x ≤ b)) := by
  unfold impl_within.f
  by_cases h : x ≥ a
  · simp [h]
  · simp [h]

end Go.Proofs.Ytgmmanppmjlclaa.Pure

/- Printed texts: the program's test of a text's bytes. -/
namespace Go.Proofs.Ytgmmanppmjlclaa.Pure
open Go.RowKit Go.Proofs.Ytgmmanppmjlclaa.P Go.Proofs.YtgmmanppmjlclaaW.PrintWords Go.Proofs.YtgmmanppmjlclaaW.PrintLast
set_option linter.unusedVariables false

def plainB (l : List UInt8) : Bool := l.all fun b => decide (32 ≤ b.toNat) && decide (b.toNat ≤ 126)
theorem containsAny_any (cs : List UInt8) : ∀ l : List UInt8, Lib.containsAny l cs = l.any fun b => cs.contains b
  | [] => rfl
  | b :: l => by
    have ih := containsAny_any cs l
    have h0 := Lib.indexAny_ge cs l
    unfold Lib.containsAny at ih ⊢
    rw [List.any_cons, ← ih, Lib.indexAny]
    cases hc : cs.contains b
    · rw [if_neg (by simp), Bool.false_or]
      by_cases h : Lib.indexAny l cs = -1
      · rw [h]; rfl
      · rw [if_neg (by simpa using h)]
        exact decide_eq_decide.mpr (by omega)
    · rw [if_pos rfl, Bool.true_or]; rfl
theorem plain_ascii {s : ByteArray} (h : plainB (bs s) = true) : asciiB s = true := by
  refine List.all_eq_true.mpr fun b hb => ?_
  have := List.all_eq_true.mp h b hb
  simp only [Bool.and_eq_true, decide_eq_true_eq] at this ⊢
  omega
theorem isPrinted_l0 (s w : ByteArray) (hs : s.size < 4294967281) (hw : asciiB w = true) (hw2 : w.size < 4294967281) : ∀ (d i : Nat), s.size - i = d → i ≤ s.size → plainB ((bs s).take i) = true →
    Ev (fun k => impl_isPrinted.l0 k s w (i : Int)) (plainB ((bs s).drop i) && !(bs s).any fun b => (bs w).contains b) := by
  have hl := bs_size s
  intro d
  induction d with
  | zero =>
    intro i hd hi hp
    rw [List.take_of_length_le (by omega)] at hp
    refine Ev.step (fun k => by rw [impl_isPrinted.l0]) ?_
    refine Ev.neg (by omega) (Ev.bindc (b := (bs s).any fun b => (bs w).contains b) ?_ (Ev.const ?_))
    · unfold strings_ContainsAny.f
      rw [if_pos (by rw [plain_ascii hp, hw]; simp; omega)]
      exact congrArg some (containsAny_any _ _)
    · rw [List.drop_of_length_le (by omega)]; rfl
  | succ d ih =>
    intro i hd hi hp
    have hb := bt_bs s i (by omega)
    have hc : (bs s).drop i = (bs s)[i]'(by omega) :: (bs s).drop (i + 1) := List.drop_eq_getElem_cons (by omega)
    refine Ev.step (fun k => by rw [impl_isPrinted.l0]) ?_
    refine Ev.pos (by omega) (Ev.pos (by omega) ?_)
    rw [hc, hb, w64 (by omega) (by omega), show (i : Int) + 1 = ((i + 1 : Nat) : Int) from by omega]
    have e1 : plainB ((bs s)[i]'(by omega) :: (bs s).drop (i + 1)) = ((decide (32 ≤ ((bs s)[i]'(by omega)).toNat) && decide (((bs s)[i]'(by omega)).toNat ≤ 126)) && plainB ((bs s).drop (i + 1))) := List.all_cons
    refine Ev.cases (fun h => ?_) (fun h => Ev.cases (fun h2 => ?_) (fun h2 => ?_))
    · exact Ev.const (by rw [e1, decide_eq_false (by omega)]; rfl)
    · exact Ev.const (by rw [e1, decide_eq_false (show ¬ ((bs s)[i]'(by omega)).toNat ≤ 126 by omega), Bool.and_false]; rfl)
    · refine Ev.eq (ih (i + 1) (by omega) (by omega) ?_) ?_
      · rw [List.take_succ_eq_append_getElem (by omega)]
        unfold plainB at hp ⊢
        rw [List.all_append, hp]
        simp only [List.all_cons, List.all_nil, Bool.and_true, Bool.true_and, Bool.and_eq_true, decide_eq_true_eq]
        omega
      · rw [e1, decide_eq_true (by omega), decide_eq_true (by omega)]; rfl
theorem isPrinted (s w : ByteArray) (hs : s.size < 4294967281) (hw : asciiB w = true) (hw2 : w.size < 4294967281) : Ev (fun k => impl_isPrinted.f k s w) (plainB (bs s) && !(bs s).any fun b => (bs w).contains b) := by
  unfold impl_isPrinted.f
  exact isPrinted_l0 s w hs hw hw2 _ 0 rfl (by omega) rfl
end Go.Proofs.Ytgmmanppmjlclaa.Pure

/- The laws' own helpers on lists of products and of texts: a copy, an equality, marks and their check. -/
namespace Go.Proofs.Ytgmmanppmjlclaa.Pure
open Go.RowKit Go.Proofs.Ytgmmanppmjlclaa.P Go.Proofs.YtgmmanppmjlclaaW.PrintWords Go.Proofs.YtgmmanppmjlclaaW.PrintLast
set_option linter.unusedVariables false

def convP (z : S52) : S30 := ⟨z.f0, z.f1, z.f2⟩
theorem rdP_lt (l : List S30) (i : Nat) (h : i < l.length) : rd_T30 l (i : Int) = l[i] := by simp [rd_T30, h]
theorem rdP0_lt (l : List S52) (i : Nat) (h : i < l.length) : rd_T52 l (i : Int) = l[i] := by simp [rd_T52, h]
theorem toProductS_l0 (l : List S52) (hl : l.length ≤ 1048576) : ∀ (d i : Nat) (o : List S30), l.length - i = d → i ≤ l.length → o.length = l.length → o.take i = (l.map convP).take i →
    Ev (fun k => laws_toProductS.l0 k l o (i : Int)) (l.map convP) := by
  intro d
  induction d with
  | zero =>
    intro i o hd hi ho ht
    refine Ev.step (fun k => by rw [laws_toProductS.l0]) ?_
    refine Ev.neg (by omega) (Ev.const ?_)
    have hi' : i = l.length := by omega
    subst hi'
    rw [List.take_of_length_le (by omega), List.take_of_length_le (by simp)] at ht
    rw [ht]
  | succ d ih =>
    intro i o hd hi ho ht
    refine Ev.step (fun k => by rw [laws_toProductS.l0]) ?_
    refine Ev.pos (by omega) (Ev.pos (by omega) ?_)
    refine Ev.bindc (b := (l[i].f0, l[i].f1, l[i].f2)) (by rw [rdP0_lt l i (by omega)]; rfl) (Ev.pos (by omega) ?_)
    rw [w64 (by omega) (by omega), show (i : Int) + 1 = ((i + 1 : Nat) : Int) from by omega]
    refine ih (i + 1) _ (by omega) (by omega) (by simpa using ho) ?_
    rw [Int.toNat_natCast, take_succ' _ _ (by simp; omega), take_succ' (l.map convP) _ (by simp; omega)]
    rw [List.take_set_of_le (Nat.le_refl i), ht]; simp [convP]
theorem toProductS (l : List S52) (hl : l.length ≤ 1048576) : Ev (fun k => laws_toProductS.f k l) (l.map convP) := by
  unfold laws_toProductS.f
  refine Ev.pos (by omega) (Ev.pos (by omega) ?_)
  exact toProductS_l0 l hl _ 0 _ rfl (by omega) (by simp) (by simp)
theorem szProduct_f (a b : ByteArray) (h : Int) (left : Int) (ha : a.size ≤ 9223372036854775807) (hb : b.size ≤ 9223372036854775807) (h0 : 0 ≤ left) (h1 : left ≤ 1048576) : ∃ t, laws_szProduct.f a h b left = some t ∧ t ≤ left ∧ (¬ t < 0 → a.size ≤ 1048576 ∧ b.size ≤ 1048576) := by
  unfold laws_szProduct.f
  rw [w64 (x := left - (a.size : Int)) (by omega) (by omega)]
  by_cases h2 : left - (a.size : Int) < 0
  · rw [if_pos h2]; exact ⟨-1, rfl, by omega, by omega⟩
  · rw [if_neg h2, w64 (by omega) (by omega)]
    by_cases h3 : left - (a.size : Int) - (b.size : Int) < 0
    · rw [if_pos h3]; exact ⟨-1, rfl, by omega, by omega⟩
    · rw [if_neg h3]; exact ⟨_, rfl, by omega, by omega⟩
theorem szProduct_l0 (l : List S52) (hl : l.length ≤ 1048576) (hw : ∀ z ∈ l, z.f0.size ≤ 9223372036854775807 ∧ z.f2.size ≤ 9223372036854775807) : ∀ (d i : Nat) (left : Int), l.length - i = d → i ≤ l.length → 0 ≤ left → left ≤ 1048576 →
    ∃ t, Ev (fun k => laws_szProductS.l0 k l left (i : Int)) t ∧ t ≤ left ∧ (¬ t < 0 → ∀ z ∈ l.drop i, z.f0.size ≤ 1048576 ∧ z.f2.size ≤ 1048576) := by
  intro d
  induction d with
  | zero =>
    intro i left hd hi h0 h1
    refine ⟨left, Ev.step (fun k => by rw [laws_szProductS.l0]) (Ev.neg (by omega) (Ev.now _)), Int.le_refl _, fun _ z hz => ?_⟩
    rw [List.drop_of_length_le (by omega)] at hz; simp at hz
  | succ d ih =>
    intro i left hd hi h0 h1
    have hlt : i < l.length := by omega
    have hz := hw l[i] (List.getElem_mem _)
    obtain ⟨t, ht, hle, hg⟩ := szProduct_f l[i].f0 l[i].f2 l[i].f1 left hz.1 hz.2 h0 h1
    by_cases h2 : t < 0
    · refine ⟨-1, Ev.step (fun k => by rw [laws_szProductS.l0]) (Ev.pos (by omega) (Ev.pos (by omega) ?_)), by omega, by omega⟩
      rw [rdP0_lt l i hlt]
      exact Ev.bindc ht (Ev.pos h2 (Ev.now _))
    · obtain ⟨r, hr, hler, hall⟩ := ih (i + 1) t (by omega) (by omega) (by omega) (by omega)
      refine ⟨r, Ev.step (fun k => by rw [laws_szProductS.l0]) (Ev.pos (by omega) (Ev.pos (by omega) ?_)), by omega, fun hn z hz => ?_⟩
      · rw [rdP0_lt l i hlt, w64 (by omega) (by omega), show (i : Int) + 1 = ((i + 1 : Nat) : Int) from by omega]
        exact Ev.bindc ht (Ev.neg h2 hr)
      · rw [drop_cons' l i hlt] at hz
        rcases List.mem_cons.1 hz with rfl | hz
        · exact hg h2
        · exact hall hn z hz
theorem szProductS2 (l : List S52) (hm : l.length ≤ 9223372036854775807) (hw : ∀ z ∈ l, z.f0.size ≤ 9223372036854775807 ∧ z.f2.size ≤ 9223372036854775807) :
    ∃ t, Ev (fun k => laws_szProductS.f k l 1048576) t ∧ t ≤ 1048576 ∧ (¬ t < 0 → l.length ≤ 1048576 ∧ ∀ z ∈ l, z.f0.size ≤ 1048576 ∧ z.f2.size ≤ 1048576) := by
  unfold laws_szProductS.f
  rw [w64 (x := 1048576 - (l.length : Int)) (by omega) (by omega)]
  by_cases h : 1048576 - (l.length : Int) < 0
  · exact ⟨-1, Ev.pos h (Ev.now _), by omega, by omega⟩
  · obtain ⟨t, ht, hle, hg⟩ := szProduct_l0 l (by omega) hw _ 0 (1048576 - (l.length : Int)) rfl (by omega) (by omega) (by omega)
    exact ⟨t, Ev.neg h ht, by omega, fun hn => ⟨by omega, by simpa using hg hn⟩⟩
theorem szProductS (l : List S52) (hm : l.length ≤ 9223372036854775807) (hw : ∀ z ∈ l, z.f0.size ≤ 9223372036854775807 ∧ z.f2.size ≤ 9223372036854775807) :
    ∃ t, Ev (fun k => laws_szProductS.f k l 1048576) t ∧ (¬ t < 0 → l.length ≤ 1048576 ∧ ∀ z ∈ l, z.f0.size ≤ 1048576 ∧ z.f2.size ≤ 1048576) := by
  obtain ⟨t, h1, _, h2⟩ := szProductS2 l hm hw
  exact ⟨t, h1, h2⟩
theorem eqProduct_l0 (a : List S30) (hl : a.length ≤ 4611686018427387904) : ∀ (d i : Nat), a.length - i = d → i ≤ a.length → Ev (fun k => laws_eqProductS.l0 k a a (i : Int)) true := by
  intro d
  induction d with
  | zero =>
    intro i hd hi
    refine Ev.step (fun k => by rw [laws_eqProductS.l0]) ?_
    exact Ev.neg (by omega) (Ev.now _)
  | succ d ih =>
    intro i hd hi
    refine Ev.step (fun k => by rw [laws_eqProductS.l0]) ?_
    refine Ev.pos (by omega) (Ev.pos (by omega) (Ev.pos (by omega) ?_))
    refine Ev.bindc (b := true) (by unfold laws_eqProduct.f; simp) (Ev.pos rfl ?_)
    rw [w64 (by omega) (by omega), show (i : Int) + 1 = ((i + 1 : Nat) : Int) from by omega]
    exact ih (i + 1) (by omega) (by omega)
theorem eqProduct_refl (a : List S30) (hl : a.length ≤ 4611686018427387904) : Ev (fun k => laws_eqProductS.f k a a) true := by
  unfold laws_eqProductS.f
  exact Ev.pos rfl (eqProduct_l0 a hl _ 0 rfl (by omega))

/-! ### marks -/
theorem strOf_one (x : Int) : (strOfNums [x]).size = 1 := by rfl
theorem markText_l0 : ∀ (m n : Nat), n < m → n ≤ 4611686018427387904 → ∀ s : ByteArray, s.size + m ≤ 4611686018427387905 → ∃ t, Ev (fun k => laws_markText.l0 k (n : Int) s) t := by
  intro m
  induction m with
  | zero => intro n h; exact absurd h (Nat.not_lt_zero _)
  | succ m ih =>
    intro n hn hmx s hs
    by_cases h : n = 0
    · refine ⟨(⟨#[109]⟩ : ByteArray) ++ s, Ev.step (fun k => by rw [laws_markText.l0]) ?_⟩
      exact Ev.neg (by omega) (Ev.pos (by omega) (Ev.const rfl))
    · obtain ⟨t, e⟩ := ih (n / 10) (by omega) (by omega) ((strOfNums [(wrap64 (48 + (Int.tmod (n : Int) 10))) % 256]) ++ s) (by rw [ByteArray.size_append, strOf_one]; omega)
      refine ⟨t, Ev.step (fun k => by rw [laws_markText.l0]) ?_⟩
      refine Ev.pos (by omega) (Ev.bindc rfl (Ev.pos (by rw [strOf_one]; omega) ?_))
      rw [show Int.tdiv (n : Int) 10 = ((n / 10 : Nat) : Int) from rfl, w64 (by omega) (by omega)]
      exact e
theorem markText_ex (n : Int) (h0 : 0 ≤ n) (h1 : n ≤ 1000000000) : ∃ t, Ev (fun k => laws_markText.f k n) t := by
  unfold laws_markText.f
  by_cases h : n ≤ 0
  · exact ⟨_, Ev.pos h (Ev.const rfl)⟩
  · obtain ⟨m, rfl⟩ : ∃ m : Nat, n = m := ⟨n.toNat, by omega⟩
    obtain ⟨t, e⟩ := markText_l0 (m + 1) m (by omega) (by omega) ⟨#[]⟩ (by rw [show (⟨#[]⟩ : ByteArray).size = 0 from rfl]; omega)
    exact ⟨t, Ev.neg h e⟩
open Classical in
noncomputable def markT (n : Int) : ByteArray := if h : ∃ t, Ev (fun k => laws_markText.f k n) t then h.choose else ⟨#[]⟩
theorem markT_f (n : Int) (h0 : 0 ≤ n) (h1 : n ≤ 1000000000) : Ev (fun k => laws_markText.f k n) (markT n) := by
  have h := markText_ex n h0 h1
  unfold markT
  rw [dif_pos h]
  exact h.choose_spec
noncomputable def markedP : List S30 → Int → List S30
  | [], _ => []
  | _ :: xs, k => ⟨markT k, k + 1, markT (k + 2)⟩ :: markedP xs (k + 3)
theorem markedP_len : ∀ (l : List S30) (k : Int), (markedP l k).length = l.length
  | [], _ => rfl
  | _ :: xs, k => by simp [markedP, markedP_len xs]
theorem markedP_app : ∀ (xs ys : List S30) (k : Int), markedP (xs ++ ys) k = markedP xs k ++ markedP ys (k + 3 * xs.length)
  | [], ys, k => by simp [markedP]
  | x :: xs, ys, k => by
    simp only [List.cons_append, markedP, markedP_app xs ys (k + 3)]
    rw [show k + 3 + 3 * (xs.length : Int) = k + 3 * ((x :: xs).length : Int) from by simp; omega]
theorem markP_l0 (l : List S30) (a : Int) (ha : 0 ≤ a) (hb : a ≤ 1048576) (hl : l.length ≤ 1048576) : ∀ (d i : Nat), l.length - i = d → i ≤ l.length →
    Ev (fun k => laws_markProductS.l0 k (markedP (l.take i) a ++ l.drop i) (a + 3 * i) (i : Int)) (a + 3 * l.length, markedP l a) := by
  intro d
  induction d with
  | zero =>
    intro i hd hi
    obtain rfl : i = l.length := by omega
    refine Ev.step (fun k => by rw [laws_markProductS.l0]) ?_
    refine Ev.neg (by simp [markedP_len]) (Ev.const ?_)
    simp
  | succ d ih =>
    intro i hd hi
    have hlt : i < l.length := by omega
    have hml : (markedP (l.take i) a).length = i := by rw [markedP_len]; simp; omega
    refine Ev.step (fun k => by rw [laws_markProductS.l0]) ?_
    rw [List.drop_eq_getElem_cons hlt]
    have e1 : wrap64 (a + 3 * (i : Int) + 1) = a + 3 * i + 1 := w64 (by omega) (by omega)
    have e2 : wrap64 (a + 3 * (i : Int) + 1 + 1) = a + 3 * i + 2 := by rw [w64 (by omega) (by omega)]; omega
    have e3 : wrap64 (a + 3 * (i : Int) + 2 + 1) = a + 3 * ((i + 1 : Nat) : Int) := by rw [w64 (by omega) (by omega)]; omega
    refine Ev.pos (by simp [hml]; omega) (Ev.bind (markT_f _ (by omega) (by omega)) (Ev.pos (by omega) ?_))
    simp only [Option.bind_some, Int.toNat_natCast]
    have hset : ∀ x y : S30, (markedP (l.take i) a ++ x :: l.drop (i + 1)).set i y = markedP (l.take i) a ++ y :: l.drop (i + 1) := fun x y => by
      rw [List.set_append_right _ _ (by omega), hml, Nat.sub_self]; rfl
    have hrd : ∀ x : S30, rd_T30 (markedP (l.take i) a ++ x :: l.drop (i + 1)) (i : Int) = x := fun x => by
      rw [rdP_lt _ _ (by simp [hml]), List.getElem_append_right (by omega)]; simp [hml]
    simp only [hset, hrd]
    rw [e1, e2]
    refine Ev.bind (markT_f _ (by omega) (by omega)) ?_
    rw [e3, w64 (x := (i : Int) + 1) (by omega) (by omega), show (i : Int) + 1 = ((i + 1 : Nat) : Int) from by omega]
    have h1 := ih (i + 1) (by omega) (by omega)
    rw [take_succ' _ _ hlt, markedP_app, List.append_assoc, List.length_take, Nat.min_eq_left (by omega)] at h1
    exact h1
theorem markProduct (l : List S30) (hl : l.length ≤ 1048576) : Ev (fun k => laws_markProductS.f k l 1) (1 + 3 * (l.length : Int), markedP l 1) := by
  unfold laws_markProductS.f
  have h := markP_l0 l 1 (by omega) (by omega) hl _ 0 rfl (by omega)
  simpa [markedP] using h
end Go.Proofs.Ytgmmanppmjlclaa.Pure

/- What an archive is, and that the program and the reference both say so. -/
namespace Go.Proofs.Ytgmmanppmjlclaa.Pure
open Go.RowKit Go.Proofs.Ytgmmanppmjlclaa.P Go.Proofs.YtgmmanppmjlclaaW.PrintWords Go.Proofs.YtgmmanppmjlclaaW.PrintLast
set_option linter.unusedVariables false
set_option linter.unusedSimpArgs false

def nameB (l : List UInt8) : Bool := (l.all fun b => decide (97 ≤ b.toNat) && decide (b.toNat ≤ 122)) && (decide (1 ≤ (l.length : Int)) && decide ((l.length : Int) ≤ 8))
def prodB (d : S30) : Bool := nameB (bs d.f0) && ((decide (0 ≤ d.f1) && decide (d.f1 ≤ 240)) && (decide ((d.f2.size : Int) ≤ 60) && plainB (bs d.f2)))

/-! ### names -/
theorem name_l0 (s : ByteArray) (hs : s.size ≤ 4611686018427387904) : ∀ (d i : Nat), s.size - i = d → i ≤ s.size →
    Ev (fun k => impl_isProductName.l0 k s (i : Int)) ((((bs s).drop i).all fun b => decide (97 ≤ b.toNat) && decide (b.toNat ≤ 122)) && (decide (1 ≤ ((bs s).length : Int)) && decide (((bs s).length : Int) ≤ 8))) := by
  have hl := bs_size s
  intro d
  induction d with
  | zero =>
    intro i hd hi
    refine Ev.step (fun k => by rw [impl_isProductName.l0]) ?_
    refine Ev.neg (by omega) (Ev.bindc (within_f _ _ _) (Ev.const ?_))
    rw [List.drop_of_length_le (by omega), hl]; rfl
  | succ d ih =>
    intro i hd hi
    have hlt : i < (bs s).length := by omega
    have hb := bt_bs s i hlt
    refine Ev.step (fun k => by rw [impl_isProductName.l0]) ?_
    refine Ev.pos (by omega) (Ev.pos (by omega) ?_)
    rw [hb, w64 (by omega) (by omega), show (i : Int) + 1 = ((i + 1 : Nat) : Int) from by omega, drop_cons' _ i hlt, List.all_cons]
    refine Ev.cases (fun h => ?_) (fun h => Ev.cases (fun h2 => ?_) (fun h2 => ?_))
    · exact Ev.const (by rw [decide_eq_false (show ¬ 97 ≤ ((bs s)[i]).toNat by omega)]; rfl)
    · exact Ev.const (by rw [decide_eq_false (show ¬ ((bs s)[i]).toNat ≤ 122 by omega), Bool.and_false]; rfl)
    · refine Ev.eq (ih (i + 1) (by omega) (by omega)) ?_
      rw [decide_eq_true (show 97 ≤ ((bs s)[i]).toNat by omega), decide_eq_true (show ((bs s)[i]).toNat ≤ 122 by omega)]; rfl
theorem isName (s : ByteArray) (hs : s.size ≤ 4611686018427387904) : Ev (fun k => impl_isProductName.f k s) (nameB (bs s)) := by
  unfold impl_isProductName.f nameB
  exact name_l0 s hs _ 0 rfl (by omega)
theorem nameS_l0 (s : ByteArray) (hs : s.size ≤ 4611686018427387904) : ∀ (d i : Nat), s.size - i = d → i ≤ s.size →
    Ev (fun k => spec_l26Name.l0 k s (i : Int)) ((((bs s).drop i).all fun b => decide (97 ≤ b.toNat) && decide (b.toNat ≤ 122)) && (decide (1 ≤ ((bs s).length : Int)) && decide (((bs s).length : Int) ≤ 8))) := by
  have hl := bs_size s
  intro d
  induction d with
  | zero =>
    intro i hd hi
    refine Ev.step (fun k => by rw [spec_l26Name.l0]) ?_
    refine Ev.neg (by omega) (Ev.bindc (l1In_f _ _ _) (Ev.const ?_))
    rw [List.drop_of_length_le (by omega), hl]; rfl
  | succ d ih =>
    intro i hd hi
    have hlt : i < (bs s).length := by omega
    have hb := bt_bs s i hlt
    refine Ev.step (fun k => by rw [spec_l26Name.l0]) ?_
    refine Ev.pos (by omega) (Ev.pos (by omega) ?_)
    rw [hb, w64 (by omega) (by omega), show (i : Int) + 1 = ((i + 1 : Nat) : Int) from by omega, drop_cons' _ i hlt, List.all_cons]
    refine Ev.cases (fun h => ?_) (fun h => Ev.cases (fun h2 => ?_) (fun h2 => ?_))
    · exact Ev.const (by rw [decide_eq_false (show ¬ 97 ≤ ((bs s)[i]).toNat by omega)]; rfl)
    · exact Ev.const (by rw [decide_eq_false (show ¬ ((bs s)[i]).toNat ≤ 122 by omega), Bool.and_false]; rfl)
    · refine Ev.eq (ih (i + 1) (by omega) (by omega)) ?_
      rw [decide_eq_true (show 97 ≤ ((bs s)[i]).toNat by omega), decide_eq_true (show ((bs s)[i]).toNat ≤ 122 by omega)]; rfl
theorem nameS (s : ByteArray) (hs : s.size ≤ 4611686018427387904) : Ev (fun k => spec_l26Name.f k s) (nameB (bs s)) := by
  unfold spec_l26Name.f nameB
  exact nameS_l0 s hs _ 0 rfl (by omega)
theorem hourS (h : Int) : spec_l26Hour.f h = some (decide (0 ≤ h) && decide (h ≤ 240)) := by
  unfold spec_l26Hour.f; rw [l1In_f]; rfl

/-! ### one product -/
theorem isProduct (a : ByteArray) (h : Int) (t : ByteArray) (ha : a.size ≤ 4611686018427387904) (ht : t.size ≤ 4611686018427387904) : Ev (fun k => impl_isProduct.f k a h t) (prodB ⟨a, h, t⟩) := by
  unfold impl_isProduct.f prodB
  simp only
  refine Ev.bind (isName a ha) (Ev.cases (fun h1 => ?_) (fun h1 => ?_))
  · rw [h1, Bool.true_and]
    refine Ev.bindc (within_f _ _ _) (Ev.cases (fun h2 => ?_) (fun h2 => ?_))
    · rw [h2, Bool.true_and]
      refine Ev.cases (fun h3 => ?_) (fun h3 => ?_)
      · rw [decide_eq_true h3, Bool.true_and]
        have hp := isPrinted t ⟨#[]⟩ (by omega) rfl (by decide)
        refine Ev.bind hp (Ev.const ?_)
        rw [bs_nil]
        simp
      · rw [decide_eq_false h3]; exact Ev.now _
    · rw [Bool.eq_false_iff.mpr h2]; exact Ev.now _
  · rw [Bool.eq_false_iff.mpr h1]; exact Ev.now _
theorem product_l0 (a : ByteArray) (h : Int) (t : ByteArray) (ha : a.size ≤ 4611686018427387904) (ht : t.size ≤ 4611686018427387904) : ∀ (d i : Nat), t.size - i = d → i ≤ t.size →
    Ev (fun k => spec_l26Product.l0 k (i : Int) a h t) (plainB ((bs t).drop i) && (nameB (bs a) && ((decide (0 ≤ h) && decide (h ≤ 240)) && decide ((t.size : Int) ≤ 60)))) := by
  have hl := bs_size t
  intro d
  induction d with
  | zero =>
    intro i hd hi
    refine Ev.step (fun k => by rw [spec_l26Product.l0]) ?_
    rw [List.drop_of_length_le (by omega), show plainB [] = true from rfl, Bool.true_and]
    refine Ev.neg (by omega) (Ev.bind (nameS a ha) (Ev.cases (fun h1 => ?_) (fun h1 => ?_)))
    · rw [h1, Bool.true_and]
      refine Ev.bindc (hourS h) (Ev.cases (fun h2 => ?_) (fun h2 => ?_))
      · rw [h2, Bool.true_and]; exact Ev.now _
      · rw [Bool.eq_false_iff.mpr h2]; exact Ev.now _
    · rw [Bool.eq_false_iff.mpr h1]; exact Ev.now _
  | succ d ih =>
    intro i hd hi
    have hlt : i < (bs t).length := by omega
    have hb := bt_bs t i hlt
    have hb2 : ((bs t)[i]).toNat < 256 := ((bs t)[i]).toNat_lt
    refine Ev.step (fun k => by rw [spec_l26Product.l0]) ?_
    refine Ev.pos (by omega) (Ev.pos (by omega) ?_)
    rw [hb, w64 (x := (((bs t)[i]).toNat : Int)) (by omega) (by omega), w64 (by omega) (by omega), show (i : Int) + 1 = ((i + 1 : Nat) : Int) from by omega, drop_cons' _ i hlt]
    have e1 : plainB ((bs t)[i] :: (bs t).drop (i + 1)) = ((decide (32 ≤ ((bs t)[i]).toNat) && decide (((bs t)[i]).toNat ≤ 126)) && plainB ((bs t).drop (i + 1))) := List.all_cons
    have e2 : (decide ((32 : Int) ≤ (((bs t)[i]).toNat : Int)) && decide ((((bs t)[i]).toNat : Int) ≤ 126)) = (decide (32 ≤ ((bs t)[i]).toNat) && decide (((bs t)[i]).toNat ≤ 126)) := by
      congr 1 <;> exact decide_eq_decide.mpr (by omega)
    rw [e1]
    refine Ev.bindc (l1In_f _ _ _) ?_
    rw [e2]
    refine Ev.cases (fun h1 => ?_) (fun h1 => ?_)
    · rw [h1, Bool.true_and]; exact ih (i + 1) (by omega) (by omega)
    · rw [Bool.eq_false_iff.mpr h1]; exact Ev.now _
theorem product (a : ByteArray) (h : Int) (t : ByteArray) (ha : a.size ≤ 4611686018427387904) (ht : t.size ≤ 4611686018427387904) : Ev (fun k => spec_l26Product.f k a h t) (prodB ⟨a, h, t⟩) := by
  unfold spec_l26Product.f
  refine Ev.eq (product_l0 a h t ha ht _ 0 rfl (by omega)) ?_
  rw [List.drop_zero]
  unfold prodB
  simp only
  generalize plainB (bs t) = x
  generalize nameB (bs a) = y
  generalize (decide (0 ≤ h) && decide (h ≤ 240)) = z
  generalize decide ((t.size : Int) ≤ 60) = u
  cases x <;> cases y <;> cases z <;> cases u <;> rfl

/-! ### the order -/
def pLt (a b : S30) : Prop := bs a.f0 < bs b.f0 ∨ (bs a.f0 = bs b.f0 ∧ a.f1 < b.f1)
theorem pLt_trans {a b c : S30} (h1 : pLt a b) (h2 : pLt b c) : pLt a c := by
  rcases h1 with h1 | ⟨e1, h1⟩ <;> rcases h2 with h2 | ⟨e2, h2⟩
  · exact .inl (List.lt_trans h1 h2)
  · exact .inl (e2 ▸ h1)
  · exact .inl (e1 ▸ h2)
  · exact .inr ⟨e1.trans e2, by omega⟩
theorem pLt_irrefl (a : S30) : ¬ pLt a a := by
  rintro (h | ⟨_, h⟩)
  · exact List.lt_irrefl _ h
  · omega
theorem before_f (a b : S30) : ∃ r, spec_l26Before.f a.f0 a.f1 a.f2 b.f0 b.f1 b.f2 = some r ∧ (r = true ↔ pLt a b) := by
  unfold spec_l26Before.f pLt
  rw [toList_bs, toList_bs, bytesLess_eq]
  by_cases h1 : bs a.f0 < bs b.f0
  · rw [if_pos (by simpa using h1)]
    exact ⟨true, rfl, by simp [h1]⟩
  · rw [if_neg (by simpa using h1)]
    by_cases h2 : bs a.f0 = bs b.f0
    · rw [if_pos h2]
      exact ⟨_, rfl, by rw [decide_eq_true_eq]; exact ⟨fun h => .inr ⟨h2, h⟩, fun h => h.elim (fun h => absurd h h1) (fun h => h.2)⟩⟩
    · rw [if_neg h2]
      exact ⟨false, rfl, by simp [h1, h2]⟩
theorem cmpB_lt : ∀ (x y : List UInt8), (Lib.compareBytes x y < 0 ↔ x < y) ∧ (Lib.compareBytes x y = 0 ↔ x = y)
  | [], [] => by simp [Lib.compareBytes]
  | [], y :: ys => by simp [Lib.compareBytes]
  | x :: xs, [] => by simp [Lib.compareBytes]
  | x :: xs, y :: ys => by
    have ih := cmpB_lt xs ys
    simp only [Lib.compareBytes, List.cons_lt_cons_iff, List.cons.injEq]
    by_cases h1 : x < y
    · rw [if_pos h1]
      refine ⟨by simp [h1], ?_⟩
      have : x ≠ y := fun e => by subst e; exact UInt8.lt_irrefl _ h1
      simp [this]
    · rw [if_neg h1]
      by_cases h2 : y < x
      · rw [if_pos h2]
        have : x ≠ y := fun e => by subst e; exact UInt8.lt_irrefl _ h2
        simp [this, h1]
      · rw [if_neg h2]
        have e : x = y := UInt8.le_antisymm (UInt8.not_lt.1 h2) (UInt8.not_lt.1 h1)
        subst e
        rw [ih.1, ih.2]
        simp [UInt8.lt_irrefl]
theorem compare_intP (x y : Int) : cmp_Compare_int.f x y = some (if x < y then -1 else if y < x then 1 else 0) := by
  unfold cmp_Compare_int.f cmp_isNaN_int.f
  simp
  split <;> (try rfl) <;> split <;> rfl
theorem or_intP (a b : Int) (k : Nat) (hk : 3 ≤ k) : cmp_Or_int.f k [a, b] = some (if a ≠ 0 then a else b) := by
  have h3 : cmp_Or_int.f 3 [a, b] = some (if a ≠ 0 then a else b) := by
    unfold cmp_Or_int.f
    by_cases ha : a = 0
    · subst ha
      by_cases hb : b = 0
      · subst hb; simp [cmp_Or_int.l0, rd, wrap64]
      · simp [cmp_Or_int.l0, rd, wrap64, hb]
    · simp [cmp_Or_int.l0, rd, wrap64, ha]
  obtain ⟨d, rfl⟩ : ∃ d, k = 3 + d := ⟨k - 3, by omega⟩
  clear hk
  induction d with
  | zero => exact h3
  | succ d ih => exact cmp_Or_int.mono _ _ _ ih
def cmpP (a b : S30) : Int := if Lib.compareBytes (bs a.f0) (bs b.f0) ≠ 0 then Lib.compareBytes (bs a.f0) (bs b.f0) else if a.f1 < b.f1 then -1 else if b.f1 < a.f1 then 1 else 0
theorem compareP (a b : S30) : Ev (fun k => impl_compareProducts.f k a.f0 a.f1 a.f2 b.f0 b.f1 b.f2) (cmpP a b) := by
  unfold impl_compareProducts.f cmpP
  refine Ev.bindc (b := Lib.compareBytes (bs a.f0) (bs b.f0)) rfl (Ev.bindc (compare_intP _ _) ?_)
  exact Ev.bind (⟨3, fun k hk => or_intP _ _ k hk⟩) (Ev.now _)
theorem cmpP_lt (a b : S30) : cmpP a b < 0 ↔ pLt a b := by
  have h := cmpB_lt (bs a.f0) (bs b.f0)
  unfold cmpP pLt
  by_cases h0 : Lib.compareBytes (bs a.f0) (bs b.f0) = 0
  · rw [if_neg (by simpa using h0)]
    have e := h.2.1 h0
    have hn : ¬ bs a.f0 < bs b.f0 := by rw [e]; exact List.lt_irrefl _
    simp only [hn, e, false_or, true_and]
    split
    · simp; omega
    · split
      · simp; omega
      · simp; omega
  · rw [if_pos h0, h.1]
    have hn : ¬ bs a.f0 = bs b.f0 := fun e => h0 (h.2.2 e)
    simp [hn]

/-! ### archives -/
def Arch1 (l : List S30) : Prop := (∀ d ∈ l, prodB d = true) ∧ l.Pairwise pLt
def Arch (l : List S30) : Prop := Arch1 l ∧ l.length ≤ 20
open Classical in
noncomputable def archB (l : List S30) : Bool := decide (Arch l)
theorem archB_true {l : List S30} : archB l = true ↔ Arch l := by unfold archB; simp
theorem archB_not {l : List S30} (h : ¬ Arch l) : archB l = false := by
  cases e : archB l with
  | false => rfl
  | true => exact absurd (archB_true.1 e) h
/-- No text is too long to be handled. -/
def Sized (l : List S30) : Prop := l.length ≤ 1048577 ∧ ∀ z ∈ l, z.f0.size ≤ 1048576 ∧ z.f2.size ≤ 1048576
theorem arch_step {l : List S30} {i : Nat} (hi : i < l.length) (h : Arch1 (l.take i)) (ho : prodB l[i] = true) (h0 : ∀ (hp : 0 < i), pLt (l[i - 1]'(by omega)) l[i]) : Arch1 (l.take (i + 1)) := by
  rw [take_succ' _ _ hi]
  refine ⟨fun d hd => ?_, List.pairwise_append.2 ⟨h.2, List.pairwise_singleton _ _, fun a ha b hb => ?_⟩⟩
  · rcases List.mem_append.1 hd with hd | hd
    · exact h.1 d hd
    · rw [List.mem_singleton.1 hd]; exact ho
  · rw [List.mem_singleton.1 hb]
    obtain ⟨j, hj, rfl⟩ := List.getElem_of_mem ha
    have hj' : j < i := by simp at hj; omega
    have hlast := h0 (by omega)
    by_cases e : j = i - 1
    · subst e; simpa using hlast
    · have h1 := List.pairwise_iff_getElem.1 h.2 j (i - 1) hj (by simp; omega) (by omega)
      exact pLt_trans h1 (by simpa using hlast)
theorem arch_order {l : List S30} (h : Arch l) {i : Nat} (hi : i < l.length) (hp : 0 < i) : pLt (l[i - 1]'(by omega)) l[i] := List.pairwise_iff_getElem.1 h.1.2 (i - 1) i (by omega) hi (by omega)
theorem arch_l0 (l : List S30) (hs : Sized l) : ∀ (d i : Nat), l.length - i = d → i ≤ l.length → Arch1 (l.take i) →
    Ev (fun k => impl_IsValidArchive.l0 k l l (l.length : Int) (i : Int)) (archB l) := by
  have hl := hs.1
  intro d
  induction d with
  | zero =>
    intro i hd hi hR
    obtain rfl : i = l.length := by omega
    rw [List.take_length] at hR
    refine Ev.step (fun k => by rw [impl_IsValidArchive.l0]) ?_
    refine Ev.neg (by omega) (Ev.const ?_)
    congr 1
    rw [Bool.eq_iff_iff, archB_true, decide_eq_true_eq]
    exact ⟨fun h => ⟨hR, by omega⟩, fun h => by have := h.2; omega⟩
  | succ d ih =>
    intro i hd hi hR
    have hlt : i < l.length := by omega
    have hsz := hs.2 l[i] (List.getElem_mem _)
    refine Ev.step (fun k => by rw [impl_IsValidArchive.l0]) ?_
    refine Ev.pos (by omega) (Ev.pos (by omega) (Ev.pos (by omega) ?_))
    rw [rdP_lt l i hlt, w64 (x := (i : Int) + 1) (by omega) (by omega), show (i : Int) + 1 = ((i + 1 : Nat) : Int) from by omega]
    refine Ev.bind (isProduct _ _ _ (by omega) (by omega)) (Ev.cases (fun h1 => ?_) (fun h1 => Ev.const ?_))
    · refine Ev.cases (fun hp => ?_) (fun hp => ih (i + 1) (by omega) (by omega) (arch_step hlt hR h1 (fun h => by omega)))
      have hpi : 0 < i := by omega
      have ew : wrap64 ((i : Int) - 1) = ((i - 1 : Nat) : Int) := by rw [w64 (by omega) (by omega)]; omega
      rw [ew, rdP_lt l (i - 1) (by omega)]
      refine Ev.pos (by omega) (Ev.pos (by omega) (Ev.bind (compareP _ _) (Ev.cases (fun h2 => Ev.const ?_) (fun h2 => ?_))))
      · rw [archB_not (fun hA => by have := (cmpP_lt _ _).2 (arch_order hA hlt hpi); omega)]
      · exact ih (i + 1) (by omega) (by omega) (arch_step hlt hR h1 (fun h => (cmpP_lt _ _).1 (by omega)))
    · rw [archB_not (fun hA => h1 (hA.1.1 _ (List.getElem_mem _)))]
theorem isArchive (l : List S30) (hs : Sized l) : Ev (fun k => impl_IsValidArchive.f k l) (archB l) := by
  unfold impl_IsValidArchive.f
  exact arch_l0 l hs _ 0 rfl (by omega) ⟨by simp, by simp⟩
theorem archS_l0 (l : List S30) (hs : Sized l) : ∀ (d i : Nat), l.length - i = d → i ≤ l.length → Arch1 (l.take i) →
    Ev (fun k => spec_l26Good.l0 k l (i : Int)) (archB l) := by
  have hl := hs.1
  intro d
  induction d with
  | zero =>
    intro i hd hi hR
    obtain rfl : i = l.length := by omega
    rw [List.take_length] at hR
    refine Ev.step (fun k => by rw [spec_l26Good.l0]) ?_
    refine Ev.neg (by omega) (Ev.const ?_)
    congr 1
    rw [Bool.eq_iff_iff, archB_true, decide_eq_true_eq]
    exact ⟨fun h => ⟨hR, by omega⟩, fun h => by have := h.2; omega⟩
  | succ d ih =>
    intro i hd hi hR
    have hlt : i < l.length := by omega
    have hsz := hs.2 l[i] (List.getElem_mem _)
    refine Ev.step (fun k => by rw [spec_l26Good.l0]) ?_
    refine Ev.pos (by omega) (Ev.pos (by omega) ?_)
    rw [rdP_lt l i hlt, w64 (x := (i : Int) + 1) (by omega) (by omega), show (i : Int) + 1 = ((i + 1 : Nat) : Int) from by omega]
    refine Ev.bind (product _ _ _ (by omega) (by omega)) (Ev.cases (fun h1 => ?_) (fun h1 => Ev.const ?_))
    · refine Ev.cases (fun hp => ?_) (fun hp => ih (i + 1) (by omega) (by omega) (arch_step hlt hR h1 (fun h => by omega)))
      have hpi : 0 < i := by omega
      have ew : wrap64 ((i : Int) - 1) = ((i - 1 : Nat) : Int) := by rw [w64 (by omega) (by omega)]; omega
      rw [ew, rdP_lt l (i - 1) (by omega)]
      obtain ⟨r, hr, hiff⟩ := before_f (l[i - 1]'(by omega)) l[i]
      refine Ev.pos (by omega) (Ev.pos (by omega) (Ev.bindc hr (Ev.cases (fun h2 => ?_) (fun h2 => Ev.const ?_))))
      · exact ih (i + 1) (by omega) (by omega) (arch_step hlt hR h1 (fun h => hiff.1 h2))
      · rw [archB_not (fun hA => h2 (hiff.2 (arch_order hA hlt hpi)))]
    · rw [archB_not (fun hA => h1 (hA.1.1 _ (List.getElem_mem _)))]
theorem goodArchive (l : List S30) (hs : Sized l) : Ev (fun k => spec_l26Good.f k l) (archB l) := by
  unfold spec_l26Good.f
  exact archS_l0 l hs _ 0 rfl (by omega) ⟨by simp, by simp⟩
theorem sized_conv (l : List S52) (hl : l.length ≤ 1048576) (hw : ∀ z ∈ l, z.f0.size ≤ 1048576 ∧ z.f2.size ≤ 1048576) : Sized (l.map convP) := by
  refine ⟨by simp; omega, fun z hz => ?_⟩
  obtain ⟨x, hx, rfl⟩ := List.mem_map.1 hz
  exact hw x hx
end Go.Proofs.Ytgmmanppmjlclaa.Pure

/- What the reference's StoreProduct answers. -/
namespace Go.Proofs.Ytgmmanppmjlclaa.Pure
open Go.RowKit Go.Proofs.Ytgmmanppmjlclaa.P Go.Proofs.YtgmmanppmjlclaaW.PrintWords Go.Proofs.YtgmmanppmjlclaaW.PrintLast
set_option linter.unusedVariables false

open Classical in
/-- A product put into its place. -/
noncomputable def stoL (p : S30) : List S30 → List S30
  | [] => [p]
  | x :: xs => if pLt x p then x :: stoL p xs else if pLt p x then p :: x :: xs else p :: xs
theorem stoL_len (p : S30) : ∀ l : List S30, (stoL p l).length ≤ l.length + 1
  | [] => by simp [stoL]
  | x :: xs => by
    have := stoL_len p xs
    simp only [stoL]
    split
    · simp; omega
    · split <;> simp
theorem stoL_mem (p : S30) : ∀ l : List S30, ∀ z ∈ stoL p l, z = p ∨ z ∈ l
  | [], z, h => by simp [stoL] at h; exact .inl h
  | x :: xs, z, h => by
    simp only [stoL] at h
    split at h
    · rcases List.mem_cons.1 h with rfl | h
      · exact .inr (by simp)
      · rcases stoL_mem p xs z h with h | h
        · exact .inl h
        · exact .inr (by simp [h])
    · split at h
      · rcases List.mem_cons.1 h with rfl | h
        · exact .inl rfl
        · exact .inr h
      · rcases List.mem_cons.1 h with rfl | h
        · exact .inl rfl
        · exact .inr (by simp [h])
theorem stoL_sized {l : List S30} (p : S30) (hs : Sized l) (hl : l.length ≤ 1048576) (hp : p.f0.size ≤ 1048576 ∧ p.f2.size ≤ 1048576) : Sized (stoL p l) := by
  refine ⟨by have := stoL_len p l; omega, fun z hz => ?_⟩
  rcases stoL_mem p l z hz with rfl | hz
  · exact hp
  · exact hs.2 z hz
noncomputable def goodR (y : List S30) : List S30 × Bool := if archB y = true then (y, true) else ([], false)
theorem store_j2 (l : List S30) (hl : l.length ≤ 20) (i : Nat) (y : List S30) (hy : y.length ≤ 21) (b : Bool) (hi : i ≤ l.length) (hb : b = true → i < l.length) (hs : Sized (y ++ l.drop (if b = true then i + 1 else i))) :
    Ev (fun k => spec_StoreProduct.j2 k l (i : Int) y b) (goodR (y ++ l.drop (if b = true then i + 1 else i))) := by
  have hgood : ∀ z, Sized z → Ev (fun k => (spec_l26Good.f k z).bind fun t => if t = true then some (z, true) else some ([], false)) (goodR z) := fun z hz => by
    refine Ev.bind (goodArchive z hz) (Ev.cases (fun h => Ev.const ?_) (fun h => Ev.const ?_))
    · unfold goodR; rw [if_pos h]
    · unfold goodR; rw [if_neg h]
  refine Ev.step (fun k => by rw [spec_StoreProduct.j2]) ?_
  cases b with
  | true =>
    have hi2 := hb rfl
    rw [if_pos rfl] at hs
    rw [w64 (x := (i : Int) + 1) (by omega) (by omega), show (i : Int) + 1 = ((i + 1 : Nat) : Int) from by omega, Int.toNat_natCast]
    refine Ev.pos rfl (Ev.pos (by omega) (Ev.pos (by omega) (Ev.bindc rfl (Ev.pos ?_ (Ev.bindc rfl ?_)))))
    · simp; omega
    · rw [if_pos rfl]; exact hgood _ hs
  | false =>
    rw [if_neg (by decide)] at hs
    rw [Int.toNat_natCast]
    refine Ev.neg (by decide) (Ev.pos (by omega) (Ev.pos (by omega) (Ev.bindc rfl (Ev.pos ?_ (Ev.bindc rfl ?_)))))
    · simp; omega
    · rw [if_neg (by decide)]; exact hgood _ hs
theorem store_j1 (l : List S30) (hl : l.length ≤ 20) (hz : Sized l) (p : S30) (hp : p.f0.size ≤ 1048576 ∧ p.f2.size ≤ 1048576) (i : Nat) (hi : i ≤ l.length) (hn : ∀ h : i < l.length, ¬ pLt l[i] p) :
    Ev (fun k => spec_StoreProduct.j1 k l (i : Int) p.f0 p.f1 p.f2) (goodR (l.take i ++ stoL p (l.drop i))) := by
  have hsz : ∀ n, Sized ((l.take i ++ [p]) ++ l.drop n) := fun n => by
    refine ⟨by simp; omega, fun z h => ?_⟩
    rcases List.mem_append.1 h with h | h
    · rcases List.mem_append.1 h with h | h
      · exact hz.2 z (List.mem_of_mem_take h)
      · rw [List.mem_singleton.1 h]; exact hp
    · exact hz.2 z (List.mem_of_mem_drop h)
  have hlen : (l.take i ++ [p]).length ≤ 21 := by simp; omega
  refine Ev.step (fun k => by rw [spec_StoreProduct.j1]) ?_
  rw [Int.toNat_natCast]
  refine Ev.bindc rfl (Ev.pos (by omega) (Ev.pos (by omega) (Ev.bindc rfl (Ev.pos (by simp; omega) (Ev.bindc rfl (Ev.bindc rfl (Ev.pos (by simp; omega) (Ev.bindc rfl ?_))))))))
  rw [List.nil_append]
  by_cases hlt : i < l.length
  · obtain ⟨r, hr, hiff⟩ := before_f p l[i]
    rw [rdP_lt l i hlt, drop_cons' l i hlt]
    refine Ev.pos (by omega) (Ev.bindc hr ?_)
    have h1 := hn hlt
    cases r with
    | true =>
      have h2 := hiff.1 rfl
      refine Ev.eq (store_j2 l hl i _ hlen false hi (by simp) (hsz _)) ?_
      simp only [stoL]
      rw [if_neg h1, if_pos h2, if_neg (by decide), drop_cons' l i hlt, List.append_assoc]; rfl
    | false =>
      have h2 : ¬ pLt p l[i] := fun h => by have := hiff.2 h; cases this
      refine Ev.eq (store_j2 l hl i _ hlen true hi (fun _ => hlt) (hsz _)) ?_
      simp only [stoL]
      rw [if_neg h1, if_neg h2, if_pos trivial, List.append_assoc]; rfl
  · refine Ev.neg (by omega) (Ev.eq (store_j2 l hl i _ hlen false hi (by simp) (hsz _)) ?_)
    rw [if_neg (by decide), List.drop_of_length_le (by omega)]
    simp [stoL]
theorem store_l0 (l : List S30) (hl : l.length ≤ 20) (hz : Sized l) (p : S30) (hp : p.f0.size ≤ 1048576 ∧ p.f2.size ≤ 1048576) : ∀ (d i : Nat), l.length - i = d → i ≤ l.length →
    Ev (fun k => spec_StoreProduct.l0 k l (i : Int) p.f0 p.f1 p.f2) (goodR (l.take i ++ stoL p (l.drop i))) := by
  intro d
  induction d with
  | zero =>
    intro i hd hi
    refine Ev.step (fun k => by rw [spec_StoreProduct.l0]) ?_
    exact Ev.neg (by omega) (store_j1 l hl hz p hp i hi (fun h => by omega))
  | succ d ih =>
    intro i hd hi
    have hlt : i < l.length := by omega
    obtain ⟨r, hr, hiff⟩ := before_f l[i] p
    refine Ev.step (fun k => by rw [spec_StoreProduct.l0]) ?_
    rw [rdP_lt l i hlt, w64 (x := (i : Int) + 1) (by omega) (by omega), show (i : Int) + 1 = ((i + 1 : Nat) : Int) from by omega]
    refine Ev.pos (by omega) (Ev.pos (by omega) (Ev.bindc hr ?_))
    cases r with
    | true =>
      have h2 := hiff.1 rfl
      refine Ev.pos rfl (Ev.eq (ih (i + 1) (by omega) (by omega)) ?_)
      rw [drop_cons' l i hlt, take_succ' l i hlt]
      simp only [stoL]
      rw [if_pos h2, List.append_assoc]; rfl
    | false =>
      exact Ev.neg (by decide) (store_j1 l hl hz p hp i hi (fun _ h => by have := hiff.2 h; cases this))
noncomputable def storeT (l : List S30) (p : S30) : List S30 × Bool := if archB l = true then goodR (stoL p l) else ([], false)
theorem store_spec (l : List S30) (hz : Sized l) (p : S30) (hp : p.f0.size ≤ 1048576 ∧ p.f2.size ≤ 1048576) : Ev (fun k => spec_StoreProduct.f k l p.f0 p.f1 p.f2) (storeT l p) := by
  unfold spec_StoreProduct.f storeT
  refine Ev.bind (goodArchive l hz) (Ev.cases (fun h => ?_) (fun h => Ev.const ?_))
  · rw [if_pos h]
    have := store_l0 l (archB_true.1 h).2 hz p hp _ 0 rfl (by omega)
    simpa using this
  · rw [if_neg h]
theorem storeT_arch {l : List S30} {p : S30} (h : (storeT l p).2 = true) : Arch (storeT l p).1 := by
  unfold storeT goodR at h ⊢
  by_cases h1 : archB l = true
  · rw [if_pos h1] at h ⊢
    by_cases h2 : archB (stoL p l) = true
    · rw [if_pos h2] at h ⊢; exact archB_true.1 h2
    · rw [if_neg h2] at h; cases h
  · rw [if_neg h1] at h; cases h
end Go.Proofs.Ytgmmanppmjlclaa.Pure

/- What the program's StoreProduct answers. -/
namespace Go.Proofs.Ytgmmanppmjlclaa.Pure
open Go.RowKit Go.Proofs.Ytgmmanppmjlclaa.P Go.Proofs.YtgmmanppmjlclaaW.PrintWords Go.Proofs.YtgmmanppmjlclaaW.PrintLast
set_option linter.unusedVariables false
set_option linter.unusedSimpArgs false

theorem bs_run (l : List S30) (p : S30) (hA : ∀ a b (ha : a < l.length) (hb : b < l.length), a ≤ b → pLt l[b] p → pLt l[a] p) : ∀ (d i j : Nat), j - i ≤ d → i ≤ j → j ≤ l.length →
    (∀ t (ht : t < l.length), t < i → pLt l[t] p) → (∀ t (ht : t < l.length), j ≤ t → ¬ pLt l[t] p) →
    ∃ n K, n ≤ l.length ∧ (∀ t (ht : t < l.length), t < n → pLt l[t] p) ∧ (∀ t (ht : t < l.length), n ≤ t → ¬ pLt l[t] p) ∧ ∀ k, K ≤ k → ∀ q, d < q → bsP k l p q i j = some n := by
  intro d
  induction d with
  | zero =>
    intro i j hd hij hj h1 h2
    obtain rfl : i = j := by omega
    refine ⟨i, 0, hj, h1, h2, fun k _ q hq => ?_⟩
    obtain ⟨q', rfl⟩ : ∃ q', q = q' + 1 := ⟨q - 1, by omega⟩
    rw [bsP, if_neg (by omega)]
  | succ d ih =>
    intro i j hd hij hj h1 h2
    by_cases hlt : i < j
    · have hm : (i + j) / 2 < l.length := by omega
      obtain ⟨K1, hK1⟩ := compareP l[(i + j) / 2] p
      replace hK1 : ∀ k, K1 ≤ k → impl_compareProducts.f k l[(i + j) / 2].f0 l[(i + j) / 2].f1 l[(i + j) / 2].f2 p.f0 p.f1 p.f2 = some (cmpP l[(i + j) / 2] p) := hK1
      by_cases hp : pLt l[(i + j) / 2] p
      · obtain ⟨n, K, a1, a2, a3, a4⟩ := ih ((i + j) / 2 + 1) j (by omega) (by omega) hj (fun t ht htn => hA t _ ht hm (by omega) hp) h2
        refine ⟨n, max K K1, a1, a2, a3, fun k hk q hq => ?_⟩
        obtain ⟨q', rfl⟩ : ∃ q', q = q' + 1 := ⟨q - 1, by omega⟩
        rw [bsP, if_pos hlt, rdP_lt l _ hm, hK1 k (by omega)]
        show (if cmpP l[(i + j) / 2] p < 0 then _ else _) = _
        rw [if_pos ((cmpP_lt _ _).2 hp)]
        exact a4 k (by omega) q' (by omega)
      · obtain ⟨n, K, a1, a2, a3, a4⟩ := ih i ((i + j) / 2) (by omega) (by omega) (by omega) h1 (fun t ht htn h => hp (hA _ t hm ht htn h))
        refine ⟨n, max K K1, a1, a2, a3, fun k hk q hq => ?_⟩
        obtain ⟨q', rfl⟩ : ∃ q', q = q' + 1 := ⟨q - 1, by omega⟩
        rw [bsP, if_pos hlt, rdP_lt l _ hm, hK1 k (by omega)]
        show (if cmpP l[(i + j) / 2] p < 0 then _ else _) = _
        rw [if_neg (fun h => hp ((cmpP_lt _ _).1 h))]
        exact a4 k (by omega) q' (by omega)
    · obtain rfl : i = j := by omega
      refine ⟨i, 0, hj, h1, h2, fun k _ q hq => ?_⟩
      obtain ⟨q', rfl⟩ : ∃ q', q = q' + 1 := ⟨q - 1, by omega⟩
      rw [bsP, if_neg (by omega)]
theorem cmpP_eq (a b : S30) : cmpP a b = 0 ↔ (bs a.f0 = bs b.f0 ∧ a.f1 = b.f1) := by
  have h := cmpB_lt (bs a.f0) (bs b.f0)
  unfold cmpP
  by_cases h0 : Lib.compareBytes (bs a.f0) (bs b.f0) = 0
  · rw [if_neg (by simpa using h0)]
    have e := h.2.1 h0
    simp only [e, true_and]
    split
    · simp; omega
    · split
      · simp; omega
      · simp; omega
  · rw [if_pos h0]
    have hn : ¬ bs a.f0 = bs b.f0 := fun e => h0 (h.2.2 e)
    simp [hn, h0]
theorem bytes_ne_lt {x y : List UInt8} (h : x ≠ y) (h1 : ¬ x < y) : y < x := by
  apply Classical.byContradiction
  intro h2
  exact h (List.le_antisymm (List.not_lt.1 h2) (List.not_lt.1 h1))
theorem pLt_other {a b : S30} (h : ¬ pLt a b) : (cmpP a b = 0 ∧ ¬ pLt b a) ∨ (cmpP a b ≠ 0 ∧ pLt b a) := by
  by_cases h0 : cmpP a b = 0
  · refine .inl ⟨h0, ?_⟩
    obtain ⟨e1, e2⟩ := (cmpP_eq a b).1 h0
    rintro (h2 | ⟨_, h2⟩)
    · rw [e1] at h2; exact List.lt_irrefl _ h2
    · omega
  · refine .inr ⟨h0, ?_⟩
    by_cases e : bs a.f0 = bs b.f0
    · refine .inr ⟨e.symm, ?_⟩
      have h1 : ¬ a.f1 < b.f1 := fun h2 => h (.inr ⟨e, h2⟩)
      have h2 : a.f1 ≠ b.f1 := fun e2 => h0 ((cmpP_eq a b).2 ⟨e, e2⟩)
      omega
    · exact .inl (bytes_ne_lt e (fun h2 => h (.inl h2)))
theorem stoL_split (p : S30) : ∀ (l : List S30) (n : Nat), n ≤ l.length → (∀ t (ht : t < l.length), t < n → pLt l[t] p) → stoL p l = l.take n ++ stoL p (l.drop n)
  | l, 0, _, _ => by simp
  | [], n + 1, h, _ => by simp at h
  | x :: xs, n + 1, h, h1 => by
    have h0 : pLt x p := h1 0 (by simp) (by omega)
    have ih := stoL_split p xs n (by simpa using h) (fun t ht htn => by have := h1 (t + 1) (by simpa using ht) (by omega); simpa using this)
    simp only [stoL]
    rw [if_pos h0, ih]
    simp
theorem sto_out (p : S30) (l : List S30) (n : Nat) (hn : n ≤ l.length) (h1 : ∀ t (ht : t < l.length), t < n → pLt l[t] p) (h2 : ∀ t (ht : t < l.length), n ≤ t → ¬ pLt l[t] p) :
    ∃ b, Ev (fun k => bsF k l p n) b ∧ storeOut l p n b = stoL p l := by
  rw [stoL_split p l n hn h1]
  by_cases hlt : n < l.length
  · have hx := h2 n hlt (Nat.le_refl _)
    rw [drop_cons' l n hlt]
    simp only [stoL]
    rw [if_neg hx]
    have hf : ∀ b, (cmpP l[n] p == 0) = b → Ev (fun k => bsF k l p n) b := fun b hb => by
      unfold bsF
      rw [rdP_lt l n hlt]
      exact Ev.pos hlt (Ev.bind (compareP l[n] p) (Ev.const (by rw [hb])))
    rcases pLt_other hx with ⟨e, hy⟩ | ⟨e, hy⟩
    · refine ⟨true, hf _ (by simpa using e), ?_⟩
      rw [if_neg hy, storeOut, if_pos rfl, List.set_eq_take_append_cons_drop, if_pos hlt]
    · refine ⟨false, hf _ (by simpa using e), ?_⟩
      rw [if_pos hy, storeOut, if_neg (by decide), drop_cons' l n hlt]
  · refine ⟨false, ?_, ?_⟩
    · unfold bsF; exact Ev.neg hlt (Ev.now _)
    · rw [storeOut, if_neg (by decide), List.drop_of_length_le (by omega)]; simp [stoL]
theorem stoL_in (p : S30) : ∀ l : List S30, p ∈ stoL p l
  | [] => by simp [stoL]
  | x :: xs => by
    have := stoL_in p xs
    simp only [stoL]
    split
    · simp [this]
    · split <;> simp
theorem store_impl (l : List S30) (hz : Sized l) (p : S30) (hp : p.f0.size ≤ 1048576 ∧ p.f2.size ≤ 1048576) : Ev (fun k => impl_StoreProduct.f k l p.f0 p.f1 p.f2) (storeT l p) := by
  unfold impl_StoreProduct.f storeT
  refine Ev.bind (isArchive l hz) ?_
  by_cases ha : archB l = true
  · have hA := archB_true.1 ha
    simp only [if_pos ha]
    refine Ev.bind (isProduct p.f0 p.f1 p.f2 (by omega) (by omega)) ?_
    by_cases hb : prodB p = true
    · refine Ev.pos hb (Ev.pos (Nat.le_trans hA.2 (by decide)) ?_)
      obtain ⟨n, K, hn, h1, h2, hrun⟩ := bs_run l p (fun a b ha hb hab h => by
        rcases Nat.eq_or_lt_of_le hab with rfl | hlt
        · exact h
        · exact pLt_trans (List.pairwise_iff_getElem.1 hA.1.2 a b ha hb hlt) h) l.length 0 l.length (by omega) (by omega) (by omega) (fun t _ h => by omega) (fun t ht h => by omega)
      obtain ⟨b, hf, ho⟩ := sto_out p l n hn h1 h2
      have hrun' : Ev (fun k => bsP k l p k 0 l.length) n := ⟨max K (l.length + 1), fun k hk => hrun k (by omega) k (by omega)⟩
      refine Ev.bind hrun' (Ev.bind hf ?_)
      show Ev (fun k => (impl_IsValidArchive.f k (storeOut l p n b)).bind fun t3 => if t3 = true then some (storeOut l p n b, true) else some ([], false)) (goodR (stoL p l))
      rw [ho]
      refine Ev.bind (isArchive _ (stoL_sized p hz (by have := hA.2; omega) hp)) (Ev.cases (fun h => Ev.const ?_) (fun h => Ev.const ?_))
      · unfold goodR; rw [if_pos h]
      · unfold goodR; rw [if_neg h]
    · refine Ev.neg hb (Ev.const ?_)
      have hno : ¬ archB (stoL p l) = true := fun h => hb ((archB_true.1 h).1.1 p (stoL_in p l))
      unfold goodR
      rw [if_neg hno]
  · simp only [if_neg ha]
    exact Ev.now _
end Go.Proofs.Ytgmmanppmjlclaa.Pure

/- Marks are found as they were set. -/
namespace Go.Proofs.Ytgmmanppmjlclaa.Pure
open Go.RowKit Go.Proofs.Ytgmmanppmjlclaa.P Go.Proofs.YtgmmanppmjlclaaW.PrintWords Go.Proofs.YtgmmanppmjlclaaW.PrintLast
set_option linter.unusedVariables false

theorem markedP_get (l : List S30) (a : Int) (i : Nat) (h : i < l.length) : rd_T30 (markedP l a) (i : Int) = ⟨markT (a + 3 * i), a + 3 * i + 1, markT (a + 3 * i + 2)⟩ := by
  rw [rdP_lt _ _ (by rw [markedP_len]; exact h)]
  have h1 : markedP l a = markedP (l.take i) a ++ markedP (l.drop i) (a + 3 * i) := by
    conv => lhs; rw [← List.take_append_drop i l, markedP_app]
    rw [List.length_take, Nat.min_eq_left (by omega)]
  have h2 : (markedP l a)[i]? = some ⟨markT (a + 3 * i), a + 3 * i + 1, markT (a + 3 * i + 2)⟩ := by
    rw [h1, List.getElem?_append_right (by rw [markedP_len]; simp; omega), markedP_len, List.length_take, Nat.min_eq_left (by omega), Nat.sub_self, List.drop_eq_getElem_cons h]
    rfl
  rw [List.getElem?_eq_getElem (by rw [markedP_len]; exact h)] at h2
  exact Option.some.inj h2
theorem heldP_l0 (l : List S30) (a : Int) (ha : 0 ≤ a) (hb : a ≤ 1048576) (hl : l.length ≤ 1048576) : ∀ (d i : Nat), l.length - i = d → i ≤ l.length →
    Ev (fun k => laws_heldProductS.l0 k (markedP l a) (a + 3 * i) (i : Int)) (a + 3 * l.length) := by
  intro d
  induction d with
  | zero =>
    intro i hd hi
    obtain rfl : i = l.length := by omega
    refine Ev.step (fun k => by rw [laws_heldProductS.l0]) ?_
    exact Ev.neg (by rw [markedP_len]; omega) (Ev.now _)
  | succ d ih =>
    intro i hd hi
    have hlt : i < l.length := by omega
    have hel := markedP_get l a i hlt
    have e1 : wrap64 (a + 3 * (i : Int) + 1) = a + 3 * i + 1 := w64 (by omega) (by omega)
    have e2 : wrap64 (a + 3 * (i : Int) + 1 + 1) = a + 3 * i + 2 := by rw [w64 (by omega) (by omega)]; omega
    have e3 : wrap64 (a + 3 * (i : Int) + 2 + 1) = a + 3 * ((i + 1 : Nat) : Int) := by rw [w64 (by omega) (by omega)]; omega
    refine Ev.step (fun k => by rw [laws_heldProductS.l0]) ?_
    rw [hel]
    simp only [e1, e2, e3]
    rw [w64 (x := (i : Int) + 1) (by omega) (by omega), show (i : Int) + 1 = ((i + 1 : Nat) : Int) from by omega]
    exact Ev.pos (by rw [markedP_len]; omega) (Ev.pos (by omega) (Ev.bind (markT_f _ (by omega) (by omega)) (Ev.pos (by first | rfl | trivial) (Ev.pos (by first | rfl | trivial) (Ev.bind (markT_f _ (by omega) (by omega)) (Ev.pos (by first | rfl | trivial) (ih (i + 1) (by omega) (by omega))))))))
theorem heldProduct (l : List S30) (hl : l.length ≤ 1048576) : Ev (fun k => laws_heldProductS.f k (markedP l 1) 1) (1 + 3 * (l.length : Int)) := by
  unfold laws_heldProductS.f
  have h := heldP_l0 l 1 (by omega) (by omega) hl _ 0 rfl (by omega)
  simpa using h
end Go.Proofs.Ytgmmanppmjlclaa.Pure

namespace Go.Proofs.Ytgmmanppmjlclaa.Pure
open Go.RowKit Go.Proofs.Ytgmmanppmjlclaa.P Go.Proofs.YtgmmanppmjlclaaW.PrintWords Go.Proofs.YtgmmanppmjlclaaW.PrintLast
set_option linter.unusedVariables false

theorem storeT_len (l : List S30) (p : S30) : (storeT l p).1.length ≤ 20 := by
  unfold storeT goodR
  by_cases h1 : archB l = true
  · rw [if_pos h1]
    by_cases h2 : archB (stoL p l) = true
    · rw [if_pos h2]; exact (archB_true.1 h2).2
    · rw [if_neg h2]; simp
  · rw [if_neg h1]; simp
theorem FnExactStoreProduct (l : List S52) (n : ByteArray) (a : Int) (x : ByteArray) (hm0 : l.length ≤ maxLen) (hw0 : ∀ z ∈ l, z.f0.size ≤ maxLen ∧ (Lit.int .i64 z.f1).wf = true ∧ z.f2.size ≤ maxLen) (hn0 : n.size ≤ maxLen) (_ : (Lit.int .i64 a).wf = true) (hx0 : x.size ≤ maxLen) : ∃ k, laws_FnExactStoreProduct.f k l n a x = some true := by
  have hm : l.length ≤ 9223372036854775807 := Nat.le_trans hm0 (by decide)
  have hw : ∀ z ∈ l, z.f0.size ≤ 9223372036854775807 ∧ z.f2.size ≤ 9223372036854775807 := fun z hz => ⟨Nat.le_trans (hw0 z hz).1 (by decide), Nat.le_trans (hw0 z hz).2.2 (by decide)⟩
  apply Ev.rounds
  unfold laws_FnExactStoreProduct.f
  obtain ⟨t, ht, hle, hl0⟩ := szProductS2 l hm hw
  refine Ev.bind ht (Ev.cases (fun _ => Ev.now _) (fun ht0 => ?_))
  obtain ⟨hl, hz⟩ := hl0 ht0
  obtain ⟨t2, ht2, _, hp⟩ := szProduct_f n x a t (Nat.le_trans hn0 (by decide)) (Nat.le_trans hx0 (by decide)) (by omega) hle
  refine Ev.bindc ht2 (Ev.cases (fun _ => Ev.now _) (fun ht1 => ?_))
  have hp := hp ht1
  have td := toProductS l hl
  have hs := sized_conv l hl hz
  have hlen : (l.map convP).length ≤ 1048576 := by simpa using hl
  have sp := store_spec (l.map convP) hs ⟨n, a, x⟩ hp
  have im := store_impl (l.map convP) hs ⟨n, a, x⟩ hp
  have ql := storeT_len (l.map convP) ⟨n, a, x⟩
  generalize storeT (l.map convP) ⟨n, a, x⟩ = q at sp im ql
  obtain ⟨q0, q1⟩ := q
  simp only at ql
  have eq := eqProduct_refl (l.map convP) (by omega)
  have e1 := eqProduct_refl q0 (by omega)
  have m1 := markProduct (l.map convP) (by omega)
  have m2 := markProduct q0 (by omega)
  have h2 := heldProduct q0 (by omega)
  have tt : laws_toProduct.f n a x = some (n, a, x) := rfl
  refine Ev.bind td (Ev.bindc tt (Ev.bind sp (Ev.bind td (Ev.bindc tt (Ev.bind im (Ev.bind e1 (Ev.pos rfl ?_)))))))
  refine Ev.step (fun k => by rw [laws_FnExactStoreProduct.j0]) ?_
  refine Ev.neg (by simp) (Ev.bind td (Ev.bind eq (Ev.pos rfl (Ev.bind m1 (Ev.neg (by simp only; omega) (Ev.bind e1 (Ev.pos rfl ?_)))))))
  refine Ev.step (fun k => by rw [laws_FnExactStoreProduct.j1]) ?_
  refine Ev.neg (by simp) (Ev.bind m2 (Ev.bind h2 (Ev.neg (by omega) (Ev.pos rfl (Ev.bind td (Ev.bindc tt (Ev.bind im (Ev.bind e1 (Ev.pos rfl ?_)))))))))
  refine Ev.step (fun k => by rw [laws_FnExactStoreProduct.j2]) ?_
  exact Ev.neg (by simp) (Ev.bind h2 (Ev.neg (by omega) (Ev.pos rfl (Ev.now _))))
end Go.Proofs.Ytgmmanppmjlclaa.Pure
