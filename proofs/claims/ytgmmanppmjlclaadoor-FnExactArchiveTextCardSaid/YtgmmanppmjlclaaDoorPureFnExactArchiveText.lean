/- The program's ArchiveText returns what the reference's returns, for all arguments. Conditions: none beyond the given statement's. -/
import Derived.Test.YtgmmanppmjlclaaDoorPx0
import Derived.Test.YtgmmanppmjlclaaDoorPx1
import Derived.Test.YtgmmanppmjlclaaDoorPx4
import Derived.Test.YtgmmanppmjlclaaDoorPx5
import Derived.Test.YtgmmanppmjlclaaDoorPx6
import Derived.Test.YtgmmanppmjlclaaDoorPx12
import Derived.Test.YtgmmanppmjlclaaDoorPx11
import Derived.Test.YtgmmanppmjlclaaDoorPx9
import Derived.Test.YtgmmanppmjlclaaDoorPx8
import Derived.Test.YtgmmanppmjlclaaDoorPx2
import Derived.Sort.Walk0
import Derived.Lib.ItoaLen
import Derived.Test.YtgmmanppmjlclaaDoorPx10
import Derived.Test.YtgmmanppmjlclaaDoorPx13
/- Small laws on "with enough rounds the function answers r" (Ev) and on wrapping sums; used by every plain law of this seat. -/
namespace Go.Proofs.YtgmmanppmjlclaaDoor.Pure
open Go.RowKit Go.Proofs.YtgmmanppmjlclaaDoorW.PrintWords Go.Proofs.YtgmmanppmjlclaaDoorW.PrintLast

section
variable {α β : Type} {r : α} {f g : Nat → Option α}
theorem Ev.pos {c : Prop} [Decidable c] (h : c) (e : Ev f r) : Ev (fun k => if c then f k else g k) r := e.congr fun _ => if_pos h
theorem Ev.neg {c : Prop} [Decidable c] (h : ¬ c) (e : Ev g r) : Ev (fun k => if c then f k else g k) r := e.congr fun _ => if_neg h
theorem Ev.const {a : Option α} (h : a = some r) : Ev (fun _ => a) r := ⟨0, fun _ _ => h⟩
theorem Ev.bindc {a : Option β} {b : β} {f : Nat → β → Option α} (h : a = some b) (k : Ev (fun n => f n b) r) : Ev (fun n => a.bind (f n)) r := Ev.bind (Ev.const h) k
theorem Ev.eq {r' : α} (h : Ev f r) (e : r = r') : Ev f r' := e ▸ h
theorem Ev.cases {c : Prop} [Decidable c] (h1 : c → Ev f r) (h2 : ¬ c → Ev g r) : Ev (fun k => if c then f k else g k) r := by
  by_cases h : c
  · exact Ev.pos h (h1 h)
  · exact Ev.neg h (h2 h)
end

theorem w64 {x : Int} (h1 : -9223372036854775808 ≤ x) (h2 : x ≤ 9223372036854775807) : wrap64 x = x := by unfold wrap64; omega

theorem take_succ' {α : Type} (l : List α) (i : Nat) (h : i < l.length) : l.take (i + 1) = l.take i ++ [l[i]] := by
  rw [List.take_succ_eq_append_getElem h]
theorem drop_cons' {α : Type} (l : List α) (i : Nat) (h : i < l.length) : l.drop i = l[i] :: l.drop (i + 1) := List.drop_eq_getElem_cons h
end Go.Proofs.YtgmmanppmjlclaaDoor.Pure

/- Texts as lists of bytes: joins, cuts, single bytes, equality. -/
namespace Go.Proofs.YtgmmanppmjlclaaDoor.Pure
open Go.RowKit Go.Proofs.YtgmmanppmjlclaaDoor.P Go.Proofs.YtgmmanppmjlclaaDoorW.PrintWords Go.Proofs.YtgmmanppmjlclaaDoorW.PrintLast

def bs (s : ByteArray) : List UInt8 := s.data.toList
theorem bs_size (s : ByteArray) : (bs s).length = s.size := by rw [bs, Array.length_toList]; rfl
theorem toList_bs (s : ByteArray) : s.toList = bs s := ByteArray.toList_eq s
theorem bt_bs (s : ByteArray) (i : Nat) (h : i < (bs s).length) : bt s (i : Int) = (((bs s)[i]).toNat : Int) := by
  have h2 : ((i : Int)).toNat < s.size := by rw [bs_size] at h; simpa using h
  rw [← bt_at s (i : Int) h2]
  simp [bs]
  rfl
theorem bs_nil : bs ⟨#[]⟩ = [] := rfl
theorem l1In_f (x a b : Int) : spec_l1In.f x a b = some (decide (a ≤ x) && decide (x ≤ b)) := by
  unfold spec_l1In.f
  by_cases h : x ≥ a
  · simp [h]
  · simp [h]
theorem within_f (x a b : Int) : impl_within.f x a b = some (decide (a ≤ x) && decide (x ≤ b)) := by
  unfold impl_within.f
  by_cases h : x ≥ a
  · simp [h]
  · simp [h]

end Go.Proofs.YtgmmanppmjlclaaDoor.Pure

/- Printed texts: the program's test of a text's bytes. -/
namespace Go.Proofs.YtgmmanppmjlclaaDoor.Pure
open Go.RowKit Go.Proofs.YtgmmanppmjlclaaDoor.P Go.Proofs.YtgmmanppmjlclaaDoorW.PrintWords Go.Proofs.YtgmmanppmjlclaaDoorW.PrintLast
set_option linter.unusedVariables false

def plainB (l : List UInt8) : Bool := l.all fun b => decide (32 ≤ b.toNat) && decide (b.toNat ≤ 126)
theorem containsAny_any (cs : List UInt8) : ∀ l : List UInt8, Lib.containsAny l cs = l.any fun b => cs.contains b
  | [] => rfl
  | b :: l => by
    have ih := containsAny_any cs l
    have h0 := Lib.indexAny_ge cs l
    unfold Lib.containsAny at ih ⊢
    rw [List.any_cons, ← ih, Lib.indexAny]
    cases hc : cs.contains b
    · rw [if_neg (by simp), Bool.false_or]
      by_cases h : Lib.indexAny l cs = -1
      · rw [h]; rfl
      · rw [if_neg (by simpa using h)]
        exact decide_eq_decide.mpr (by omega)
    · rw [if_pos rfl, Bool.true_or]; rfl
theorem plain_ascii {s : ByteArray} (h : plainB (bs s) = true) : asciiB s = true := by
  refine List.all_eq_true.mpr fun b hb => ?_
  have := List.all_eq_true.mp h b hb
  simp only [Bool.and_eq_true, decide_eq_true_eq] at this ⊢
  omega
theorem isPrinted_l0 (s w : ByteArray) (hs : s.size < 4294967281) (hw : asciiB w = true) (hw2 : w.size < 4294967281) : ∀ (d i : Nat), s.size - i = d → i ≤ s.size → plainB ((bs s).take i) = true →
    Ev (fun k => impl_isPrinted.l0 k s w (i : Int)) (plainB ((bs s).drop i) && !(bs s).any fun b => (bs w).contains b) := by
  have hl := bs_size s
  intro d
  induction d with
  | zero =>
    intro i hd hi hp
    rw [List.take_of_length_le (by omega)] at hp
    refine Ev.step (fun k => by rw [impl_isPrinted.l0]) ?_
    refine Ev.neg (by omega) (Ev.bindc (b := (bs s).any fun b => (bs w).contains b) ?_ (Ev.const ?_))
    · unfold strings_ContainsAny.f
      rw [if_pos (by rw [plain_ascii hp, hw]; simp; omega)]
      exact congrArg some (containsAny_any _ _)
    · rw [List.drop_of_length_le (by omega)]; rfl
  | succ d ih =>
    intro i hd hi hp
    have hb := bt_bs s i (by omega)
    have hc : (bs s).drop i = (bs s)[i]'(by omega) :: (bs s).drop (i + 1) := List.drop_eq_getElem_cons (by omega)
    refine Ev.step (fun k => by rw [impl_isPrinted.l0]) ?_
    refine Ev.pos (by omega) (Ev.pos (by omega) ?_)
    rw [hc, hb, w64 (by omega) (by omega), show (i : Int) + 1 = ((i + 1 : Nat) : Int) from by omega]
    have e1 : plainB ((bs s)[i]'(by omega) :: (bs s).drop (i + 1)) = ((decide (32 ≤ ((bs s)[i]'(by omega)).toNat) && decide (((bs s)[i]'(by omega)).toNat ≤ 126)) && plainB ((bs s).drop (i + 1))) := List.all_cons
    refine Ev.cases (fun h => ?_) (fun h => Ev.cases (fun h2 => ?_) (fun h2 => ?_))
    · exact Ev.const (by rw [e1, decide_eq_false (by omega)]; rfl)
    · exact Ev.const (by rw [e1, decide_eq_false (show ¬ ((bs s)[i]'(by omega)).toNat ≤ 126 by omega), Bool.and_false]; rfl)
    · refine Ev.eq (ih (i + 1) (by omega) (by omega) ?_) ?_
      · rw [List.take_succ_eq_append_getElem (by omega)]
        unfold plainB at hp ⊢
        rw [List.all_append, hp]
        simp only [List.all_cons, List.all_nil, Bool.and_true, Bool.true_and, Bool.and_eq_true, decide_eq_true_eq]
        omega
      · rw [e1, decide_eq_true (by omega), decide_eq_true (by omega)]; rfl
theorem isPrinted (s w : ByteArray) (hs : s.size < 4294967281) (hw : asciiB w = true) (hw2 : w.size < 4294967281) : Ev (fun k => impl_isPrinted.f k s w) (plainB (bs s) && !(bs s).any fun b => (bs w).contains b) := by
  unfold impl_isPrinted.f
  exact isPrinted_l0 s w hs hw hw2 _ 0 rfl (by omega) rfl
end Go.Proofs.YtgmmanppmjlclaaDoor.Pure

/- The laws' own helpers on lists of products and of texts: a copy, an equality, marks and their check. -/
namespace Go.Proofs.YtgmmanppmjlclaaDoor.Pure
open Go.RowKit Go.Proofs.YtgmmanppmjlclaaDoor.P Go.Proofs.YtgmmanppmjlclaaDoorW.PrintWords Go.Proofs.YtgmmanppmjlclaaDoorW.PrintLast
set_option linter.unusedVariables false

def convP (z : S36) : S38 := ⟨z.f0, z.f1, z.f2⟩
theorem rdP_lt (l : List S38) (i : Nat) (h : i < l.length) : rd_T38 l (i : Int) = l[i] := by simp [rd_T38, h]
theorem rdP0_lt (l : List S36) (i : Nat) (h : i < l.length) : rd_T36 l (i : Int) = l[i] := by simp [rd_T36, h]
theorem toProductS_l0 (l : List S36) (hl : l.length ≤ 1048576) : ∀ (d i : Nat) (o : List S38), l.length - i = d → i ≤ l.length → o.length = l.length → o.take i = (l.map convP).take i →
    Ev (fun k => laws_toProductS.l0 k l o (i : Int)) (l.map convP) := by
  intro d
  induction d with
  | zero =>
    intro i o hd hi ho ht
    refine Ev.step (fun k => by rw [laws_toProductS.l0]) ?_
    refine Ev.neg (by omega) (Ev.const ?_)
    have hi' : i = l.length := by omega
    subst hi'
    rw [List.take_of_length_le (by omega), List.take_of_length_le (by simp)] at ht
    rw [ht]
  | succ d ih =>
    intro i o hd hi ho ht
    refine Ev.step (fun k => by rw [laws_toProductS.l0]) ?_
    refine Ev.pos (by omega) (Ev.pos (by omega) ?_)
    refine Ev.bindc (b := (l[i].f0, l[i].f1, l[i].f2)) (by rw [rdP0_lt l i (by omega)]; rfl) (Ev.pos (by omega) ?_)
    rw [w64 (by omega) (by omega), show (i : Int) + 1 = ((i + 1 : Nat) : Int) from by omega]
    refine ih (i + 1) _ (by omega) (by omega) (by simpa using ho) ?_
    rw [Int.toNat_natCast, take_succ' _ _ (by simp; omega), take_succ' (l.map convP) _ (by simp; omega)]
    rw [List.take_set_of_le (Nat.le_refl i), ht]; simp [convP]
theorem toProductS (l : List S36) (hl : l.length ≤ 1048576) : Ev (fun k => laws_toProductS.f k l) (l.map convP) := by
  unfold laws_toProductS.f
  refine Ev.pos (by omega) (Ev.pos (by omega) ?_)
  exact toProductS_l0 l hl _ 0 _ rfl (by omega) (by simp) (by simp)
theorem szProduct_f (a b : ByteArray) (h : Int) (left : Int) (ha : a.size ≤ 9223372036854775807) (hb : b.size ≤ 9223372036854775807) (h0 : 0 ≤ left) (h1 : left ≤ 1048576) : ∃ t, laws_szProduct.f a h b left = some t ∧ t ≤ left ∧ (¬ t < 0 → a.size ≤ 1048576 ∧ b.size ≤ 1048576) := by
  unfold laws_szProduct.f
  rw [w64 (x := left - (a.size : Int)) (by omega) (by omega)]
  by_cases h2 : left - (a.size : Int) < 0
  · rw [if_pos h2]; exact ⟨-1, rfl, by omega, by omega⟩
  · rw [if_neg h2, w64 (by omega) (by omega)]
    by_cases h3 : left - (a.size : Int) - (b.size : Int) < 0
    · rw [if_pos h3]; exact ⟨-1, rfl, by omega, by omega⟩
    · rw [if_neg h3]; exact ⟨_, rfl, by omega, by omega⟩
theorem szProduct_l0 (l : List S36) (hl : l.length ≤ 1048576) (hw : ∀ z ∈ l, z.f0.size ≤ 9223372036854775807 ∧ z.f2.size ≤ 9223372036854775807) : ∀ (d i : Nat) (left : Int), l.length - i = d → i ≤ l.length → 0 ≤ left → left ≤ 1048576 →
    ∃ t, Ev (fun k => laws_szProductS.l0 k l left (i : Int)) t ∧ (¬ t < 0 → ∀ z ∈ l.drop i, z.f0.size ≤ 1048576 ∧ z.f2.size ≤ 1048576) := by
  intro d
  induction d with
  | zero =>
    intro i left hd hi h0 h1
    refine ⟨left, Ev.step (fun k => by rw [laws_szProductS.l0]) (Ev.neg (by omega) (Ev.now _)), fun _ z hz => ?_⟩
    rw [List.drop_of_length_le (by omega)] at hz; simp at hz
  | succ d ih =>
    intro i left hd hi h0 h1
    have hlt : i < l.length := by omega
    have hz := hw l[i] (List.getElem_mem _)
    obtain ⟨t, ht, hle, hg⟩ := szProduct_f l[i].f0 l[i].f2 l[i].f1 left hz.1 hz.2 h0 h1
    by_cases h2 : t < 0
    · refine ⟨-1, Ev.step (fun k => by rw [laws_szProductS.l0]) (Ev.pos (by omega) (Ev.pos (by omega) ?_)), by omega⟩
      rw [rdP0_lt l i hlt]
      exact Ev.bindc ht (Ev.pos h2 (Ev.now _))
    · obtain ⟨r, hr, hall⟩ := ih (i + 1) t (by omega) (by omega) (by omega) (by omega)
      refine ⟨r, Ev.step (fun k => by rw [laws_szProductS.l0]) (Ev.pos (by omega) (Ev.pos (by omega) ?_)), fun hn z hz => ?_⟩
      · rw [rdP0_lt l i hlt, w64 (by omega) (by omega), show (i : Int) + 1 = ((i + 1 : Nat) : Int) from by omega]
        exact Ev.bindc ht (Ev.neg h2 hr)
      · rw [drop_cons' l i hlt] at hz
        rcases List.mem_cons.1 hz with rfl | hz
        · exact hg h2
        · exact hall hn z hz
theorem szProductS (l : List S36) (hm : l.length ≤ 9223372036854775807) (hw : ∀ z ∈ l, z.f0.size ≤ 9223372036854775807 ∧ z.f2.size ≤ 9223372036854775807) :
    ∃ t, Ev (fun k => laws_szProductS.f k l 1048576) t ∧ (¬ t < 0 → l.length ≤ 1048576 ∧ ∀ z ∈ l, z.f0.size ≤ 1048576 ∧ z.f2.size ≤ 1048576) := by
  unfold laws_szProductS.f
  rw [w64 (x := 1048576 - (l.length : Int)) (by omega) (by omega)]
  by_cases h : 1048576 - (l.length : Int) < 0
  · exact ⟨-1, Ev.pos h (Ev.now _), by omega⟩
  · obtain ⟨t, ht, hg⟩ := szProduct_l0 l (by omega) hw _ 0 (1048576 - (l.length : Int)) rfl (by omega) (by omega) (by omega)
    exact ⟨t, Ev.neg h ht, fun hn => ⟨by omega, by simpa using hg hn⟩⟩
theorem eqProduct_l0 (a : List S38) (hl : a.length ≤ 4611686018427387904) : ∀ (d i : Nat), a.length - i = d → i ≤ a.length → Ev (fun k => laws_eqProductS.l0 k a a (i : Int)) true := by
  intro d
  induction d with
  | zero =>
    intro i hd hi
    refine Ev.step (fun k => by rw [laws_eqProductS.l0]) ?_
    exact Ev.neg (by omega) (Ev.now _)
  | succ d ih =>
    intro i hd hi
    refine Ev.step (fun k => by rw [laws_eqProductS.l0]) ?_
    refine Ev.pos (by omega) (Ev.pos (by omega) (Ev.pos (by omega) ?_))
    refine Ev.bindc (b := true) (by unfold laws_eqProduct.f; simp) (Ev.pos rfl ?_)
    rw [w64 (by omega) (by omega), show (i : Int) + 1 = ((i + 1 : Nat) : Int) from by omega]
    exact ih (i + 1) (by omega) (by omega)
theorem eqProduct_refl (a : List S38) (hl : a.length ≤ 4611686018427387904) : Ev (fun k => laws_eqProductS.f k a a) true := by
  unfold laws_eqProductS.f
  exact Ev.pos rfl (eqProduct_l0 a hl _ 0 rfl (by omega))

/-! ### marks -/
end Go.Proofs.YtgmmanppmjlclaaDoor.Pure

/- What an archive is, and that the program and the reference both say so. -/
namespace Go.Proofs.YtgmmanppmjlclaaDoor.Pure
open Go.RowKit Go.Proofs.YtgmmanppmjlclaaDoor.P Go.Proofs.YtgmmanppmjlclaaDoorW.PrintWords Go.Proofs.YtgmmanppmjlclaaDoorW.PrintLast
set_option linter.unusedVariables false
set_option linter.unusedSimpArgs false

def nameB (l : List UInt8) : Bool := (l.all fun b => decide (97 ≤ b.toNat) && decide (b.toNat ≤ 122)) && (decide (1 ≤ (l.length : Int)) && decide ((l.length : Int) ≤ 8))
def prodB (d : S38) : Bool := nameB (bs d.f0) && ((decide (0 ≤ d.f1) && decide (d.f1 ≤ 240)) && (decide ((d.f2.size : Int) ≤ 60) && plainB (bs d.f2)))

/-! ### names -/
theorem name_l0 (s : ByteArray) (hs : s.size ≤ 4611686018427387904) : ∀ (d i : Nat), s.size - i = d → i ≤ s.size →
    Ev (fun k => impl_isProductName.l0 k s (i : Int)) ((((bs s).drop i).all fun b => decide (97 ≤ b.toNat) && decide (b.toNat ≤ 122)) && (decide (1 ≤ ((bs s).length : Int)) && decide (((bs s).length : Int) ≤ 8))) := by
  have hl := bs_size s
  intro d
  induction d with
  | zero =>
    intro i hd hi
    refine Ev.step (fun k => by rw [impl_isProductName.l0]) ?_
    refine Ev.neg (by omega) (Ev.bindc (within_f _ _ _) (Ev.const ?_))
    rw [List.drop_of_length_le (by omega), hl]; rfl
  | succ d ih =>
    intro i hd hi
    have hlt : i < (bs s).length := by omega
    have hb := bt_bs s i hlt
    refine Ev.step (fun k => by rw [impl_isProductName.l0]) ?_
    refine Ev.pos (by omega) (Ev.pos (by omega) ?_)
    rw [hb, w64 (by omega) (by omega), show (i : Int) + 1 = ((i + 1 : Nat) : Int) from by omega, drop_cons' _ i hlt, List.all_cons]
    refine Ev.cases (fun h => ?_) (fun h => Ev.cases (fun h2 => ?_) (fun h2 => ?_))
    · exact Ev.const (by rw [decide_eq_false (show ¬ 97 ≤ ((bs s)[i]).toNat by omega)]; rfl)
    · exact Ev.const (by rw [decide_eq_false (show ¬ ((bs s)[i]).toNat ≤ 122 by omega), Bool.and_false]; rfl)
    · refine Ev.eq (ih (i + 1) (by omega) (by omega)) ?_
      rw [decide_eq_true (show 97 ≤ ((bs s)[i]).toNat by omega), decide_eq_true (show ((bs s)[i]).toNat ≤ 122 by omega)]; rfl
theorem isName (s : ByteArray) (hs : s.size ≤ 4611686018427387904) : Ev (fun k => impl_isProductName.f k s) (nameB (bs s)) := by
  unfold impl_isProductName.f nameB
  exact name_l0 s hs _ 0 rfl (by omega)
theorem nameS_l0 (s : ByteArray) (hs : s.size ≤ 4611686018427387904) : ∀ (d i : Nat), s.size - i = d → i ≤ s.size →
    Ev (fun k => spec_l26Name.l0 k s (i : Int)) ((((bs s).drop i).all fun b => decide (97 ≤ b.toNat) && decide (b.toNat ≤ 122)) && (decide (1 ≤ ((bs s).length : Int)) && decide (((bs s).length : Int) ≤ 8))) := by
  have hl := bs_size s
  intro d
  induction d with
  | zero =>
    intro i hd hi
    refine Ev.step (fun k => by rw [spec_l26Name.l0]) ?_
    refine Ev.neg (by omega) (Ev.bindc (l1In_f _ _ _) (Ev.const ?_))
    rw [List.drop_of_length_le (by omega), hl]; rfl
  | succ d ih =>
    intro i hd hi
    have hlt : i < (bs s).length := by omega
    have hb := bt_bs s i hlt
    refine Ev.step (fun k => by rw [spec_l26Name.l0]) ?_
    refine Ev.pos (by omega) (Ev.pos (by omega) ?_)
    rw [hb, w64 (by omega) (by omega), show (i : Int) + 1 = ((i + 1 : Nat) : Int) from by omega, drop_cons' _ i hlt, List.all_cons]
    refine Ev.cases (fun h => ?_) (fun h => Ev.cases (fun h2 => ?_) (fun h2 => ?_))
    · exact Ev.const (by rw [decide_eq_false (show ¬ 97 ≤ ((bs s)[i]).toNat by omega)]; rfl)
    · exact Ev.const (by rw [decide_eq_false (show ¬ ((bs s)[i]).toNat ≤ 122 by omega), Bool.and_false]; rfl)
    · refine Ev.eq (ih (i + 1) (by omega) (by omega)) ?_
      rw [decide_eq_true (show 97 ≤ ((bs s)[i]).toNat by omega), decide_eq_true (show ((bs s)[i]).toNat ≤ 122 by omega)]; rfl
theorem nameS (s : ByteArray) (hs : s.size ≤ 4611686018427387904) : Ev (fun k => spec_l26Name.f k s) (nameB (bs s)) := by
  unfold spec_l26Name.f nameB
  exact nameS_l0 s hs _ 0 rfl (by omega)
theorem hourS (h : Int) : spec_l26Hour.f h = some (decide (0 ≤ h) && decide (h ≤ 240)) := by
  unfold spec_l26Hour.f; rw [l1In_f]; rfl

/-! ### one product -/
theorem isProduct (a : ByteArray) (h : Int) (t : ByteArray) (ha : a.size ≤ 4611686018427387904) (ht : t.size ≤ 4611686018427387904) : Ev (fun k => impl_isProduct.f k a h t) (prodB ⟨a, h, t⟩) := by
  unfold impl_isProduct.f prodB
  simp only
  refine Ev.bind (isName a ha) (Ev.cases (fun h1 => ?_) (fun h1 => ?_))
  · rw [h1, Bool.true_and]
    refine Ev.bindc (within_f _ _ _) (Ev.cases (fun h2 => ?_) (fun h2 => ?_))
    · rw [h2, Bool.true_and]
      refine Ev.cases (fun h3 => ?_) (fun h3 => ?_)
      · rw [decide_eq_true h3, Bool.true_and]
        have hp := isPrinted t ⟨#[]⟩ (by omega) rfl (by decide)
        refine Ev.bind hp (Ev.const ?_)
        rw [bs_nil]
        simp
      · rw [decide_eq_false h3]; exact Ev.now _
    · rw [Bool.eq_false_iff.mpr h2]; exact Ev.now _
  · rw [Bool.eq_false_iff.mpr h1]; exact Ev.now _
theorem product_l0 (a : ByteArray) (h : Int) (t : ByteArray) (ha : a.size ≤ 4611686018427387904) (ht : t.size ≤ 4611686018427387904) : ∀ (d i : Nat), t.size - i = d → i ≤ t.size →
    Ev (fun k => spec_l26Product.l0 k (i : Int) a h t) (plainB ((bs t).drop i) && (nameB (bs a) && ((decide (0 ≤ h) && decide (h ≤ 240)) && decide ((t.size : Int) ≤ 60)))) := by
  have hl := bs_size t
  intro d
  induction d with
  | zero =>
    intro i hd hi
    refine Ev.step (fun k => by rw [spec_l26Product.l0]) ?_
    rw [List.drop_of_length_le (by omega), show plainB [] = true from rfl, Bool.true_and]
    refine Ev.neg (by omega) (Ev.bind (nameS a ha) (Ev.cases (fun h1 => ?_) (fun h1 => ?_)))
    · rw [h1, Bool.true_and]
      refine Ev.bindc (hourS h) (Ev.cases (fun h2 => ?_) (fun h2 => ?_))
      · rw [h2, Bool.true_and]; exact Ev.now _
      · rw [Bool.eq_false_iff.mpr h2]; exact Ev.now _
    · rw [Bool.eq_false_iff.mpr h1]; exact Ev.now _
  | succ d ih =>
    intro i hd hi
    have hlt : i < (bs t).length := by omega
    have hb := bt_bs t i hlt
    have hb2 : ((bs t)[i]).toNat < 256 := ((bs t)[i]).toNat_lt
    refine Ev.step (fun k => by rw [spec_l26Product.l0]) ?_
    refine Ev.pos (by omega) (Ev.pos (by omega) ?_)
    rw [hb, w64 (x := (((bs t)[i]).toNat : Int)) (by omega) (by omega), w64 (by omega) (by omega), show (i : Int) + 1 = ((i + 1 : Nat) : Int) from by omega, drop_cons' _ i hlt]
    have e1 : plainB ((bs t)[i] :: (bs t).drop (i + 1)) = ((decide (32 ≤ ((bs t)[i]).toNat) && decide (((bs t)[i]).toNat ≤ 126)) && plainB ((bs t).drop (i + 1))) := List.all_cons
    have e2 : (decide ((32 : Int) ≤ (((bs t)[i]).toNat : Int)) && decide ((((bs t)[i]).toNat : Int) ≤ 126)) = (decide (32 ≤ ((bs t)[i]).toNat) && decide (((bs t)[i]).toNat ≤ 126)) := by
      congr 1 <;> exact decide_eq_decide.mpr (by omega)
    rw [e1]
    refine Ev.bindc (l1In_f _ _ _) ?_
    rw [e2]
    refine Ev.cases (fun h1 => ?_) (fun h1 => ?_)
    · rw [h1, Bool.true_and]; exact ih (i + 1) (by omega) (by omega)
    · rw [Bool.eq_false_iff.mpr h1]; exact Ev.now _
theorem product (a : ByteArray) (h : Int) (t : ByteArray) (ha : a.size ≤ 4611686018427387904) (ht : t.size ≤ 4611686018427387904) : Ev (fun k => spec_l26Product.f k a h t) (prodB ⟨a, h, t⟩) := by
  unfold spec_l26Product.f
  refine Ev.eq (product_l0 a h t ha ht _ 0 rfl (by omega)) ?_
  rw [List.drop_zero]
  unfold prodB
  simp only
  generalize plainB (bs t) = x
  generalize nameB (bs a) = y
  generalize (decide (0 ≤ h) && decide (h ≤ 240)) = z
  generalize decide ((t.size : Int) ≤ 60) = u
  cases x <;> cases y <;> cases z <;> cases u <;> rfl

/-! ### the order -/
def pLt (a b : S38) : Prop := bs a.f0 < bs b.f0 ∨ (bs a.f0 = bs b.f0 ∧ a.f1 < b.f1)
theorem pLt_trans {a b c : S38} (h1 : pLt a b) (h2 : pLt b c) : pLt a c := by
  rcases h1 with h1 | ⟨e1, h1⟩ <;> rcases h2 with h2 | ⟨e2, h2⟩
  · exact .inl (List.lt_trans h1 h2)
  · exact .inl (e2 ▸ h1)
  · exact .inl (e1 ▸ h2)
  · exact .inr ⟨e1.trans e2, by omega⟩
theorem before_f (a b : S38) : ∃ r, spec_l26Before.f a.f0 a.f1 a.f2 b.f0 b.f1 b.f2 = some r ∧ (r = true ↔ pLt a b) := by
  unfold spec_l26Before.f pLt
  rw [toList_bs, toList_bs, bytesLess_eq]
  by_cases h1 : bs a.f0 < bs b.f0
  · rw [if_pos (by simpa using h1)]
    exact ⟨true, rfl, by simp [h1]⟩
  · rw [if_neg (by simpa using h1)]
    by_cases h2 : bs a.f0 = bs b.f0
    · rw [if_pos h2]
      exact ⟨_, rfl, by rw [decide_eq_true_eq]; exact ⟨fun h => .inr ⟨h2, h⟩, fun h => h.elim (fun h => absurd h h1) (fun h => h.2)⟩⟩
    · rw [if_neg h2]
      exact ⟨false, rfl, by simp [h1, h2]⟩
theorem cmpB_lt : ∀ (x y : List UInt8), (Lib.compareBytes x y < 0 ↔ x < y) ∧ (Lib.compareBytes x y = 0 ↔ x = y)
  | [], [] => by simp [Lib.compareBytes]
  | [], y :: ys => by simp [Lib.compareBytes]
  | x :: xs, [] => by simp [Lib.compareBytes]
  | x :: xs, y :: ys => by
    have ih := cmpB_lt xs ys
    simp only [Lib.compareBytes, List.cons_lt_cons_iff, List.cons.injEq]
    by_cases h1 : x < y
    · rw [if_pos h1]
      refine ⟨by simp [h1], ?_⟩
      have : x ≠ y := fun e => by subst e; exact UInt8.lt_irrefl _ h1
      simp [this]
    · rw [if_neg h1]
      by_cases h2 : y < x
      · rw [if_pos h2]
        have : x ≠ y := fun e => by subst e; exact UInt8.lt_irrefl _ h2
        simp [this, h1]
      · rw [if_neg h2]
        have e : x = y := UInt8.le_antisymm (UInt8.not_lt.1 h2) (UInt8.not_lt.1 h1)
        subst e
        rw [ih.1, ih.2]
        simp [UInt8.lt_irrefl]
theorem compare_intP (x y : Int) : cmp_Compare_int.f x y = some (if x < y then -1 else if y < x then 1 else 0) := by
  unfold cmp_Compare_int.f cmp_isNaN_int.f
  simp
  split <;> (try rfl) <;> split <;> rfl
theorem or_intP (a b : Int) (k : Nat) (hk : 3 ≤ k) : cmp_Or_int.f k [a, b] = some (if a ≠ 0 then a else b) := by
  have h3 : cmp_Or_int.f 3 [a, b] = some (if a ≠ 0 then a else b) := by
    unfold cmp_Or_int.f
    by_cases ha : a = 0
    · subst ha
      by_cases hb : b = 0
      · subst hb; simp [cmp_Or_int.l0, rd, wrap64]
      · simp [cmp_Or_int.l0, rd, wrap64, hb]
    · simp [cmp_Or_int.l0, rd, wrap64, ha]
  obtain ⟨d, rfl⟩ : ∃ d, k = 3 + d := ⟨k - 3, by omega⟩
  clear hk
  induction d with
  | zero => exact h3
  | succ d ih => exact cmp_Or_int.mono _ _ _ ih
def cmpP (a b : S38) : Int := if Lib.compareBytes (bs a.f0) (bs b.f0) ≠ 0 then Lib.compareBytes (bs a.f0) (bs b.f0) else if a.f1 < b.f1 then -1 else if b.f1 < a.f1 then 1 else 0
theorem compareP (a b : S38) : Ev (fun k => impl_compareProducts.f k a.f0 a.f1 a.f2 b.f0 b.f1 b.f2) (cmpP a b) := by
  unfold impl_compareProducts.f cmpP
  refine Ev.bindc (b := Lib.compareBytes (bs a.f0) (bs b.f0)) rfl (Ev.bindc (compare_intP _ _) ?_)
  exact Ev.bind (⟨3, fun k hk => or_intP _ _ k hk⟩) (Ev.now _)
theorem cmpP_lt (a b : S38) : cmpP a b < 0 ↔ pLt a b := by
  have h := cmpB_lt (bs a.f0) (bs b.f0)
  unfold cmpP pLt
  by_cases h0 : Lib.compareBytes (bs a.f0) (bs b.f0) = 0
  · rw [if_neg (by simpa using h0)]
    have e := h.2.1 h0
    have hn : ¬ bs a.f0 < bs b.f0 := by rw [e]; exact List.lt_irrefl _
    simp only [hn, e, false_or, true_and]
    split
    · simp; omega
    · split
      · simp; omega
      · simp; omega
  · rw [if_pos h0, h.1]
    have hn : ¬ bs a.f0 = bs b.f0 := fun e => h0 (h.2.2 e)
    simp [hn]

/-! ### archives -/
def Arch1 (l : List S38) : Prop := (∀ d ∈ l, prodB d = true) ∧ l.Pairwise pLt
def Arch (l : List S38) : Prop := Arch1 l ∧ l.length ≤ 20
open Classical in
noncomputable def archB (l : List S38) : Bool := decide (Arch l)
theorem archB_true {l : List S38} : archB l = true ↔ Arch l := by unfold archB; simp
theorem archB_not {l : List S38} (h : ¬ Arch l) : archB l = false := by
  cases e : archB l with
  | false => rfl
  | true => exact absurd (archB_true.1 e) h
/-- No text is too long to be handled. -/
def Sized (l : List S38) : Prop := l.length ≤ 1048577 ∧ ∀ z ∈ l, z.f0.size ≤ 1048576 ∧ z.f2.size ≤ 1048576
theorem arch_step {l : List S38} {i : Nat} (hi : i < l.length) (h : Arch1 (l.take i)) (ho : prodB l[i] = true) (h0 : ∀ (hp : 0 < i), pLt (l[i - 1]'(by omega)) l[i]) : Arch1 (l.take (i + 1)) := by
  rw [take_succ' _ _ hi]
  refine ⟨fun d hd => ?_, List.pairwise_append.2 ⟨h.2, List.pairwise_singleton _ _, fun a ha b hb => ?_⟩⟩
  · rcases List.mem_append.1 hd with hd | hd
    · exact h.1 d hd
    · rw [List.mem_singleton.1 hd]; exact ho
  · rw [List.mem_singleton.1 hb]
    obtain ⟨j, hj, rfl⟩ := List.getElem_of_mem ha
    have hj' : j < i := by simp at hj; omega
    have hlast := h0 (by omega)
    by_cases e : j = i - 1
    · subst e; simpa using hlast
    · have h1 := List.pairwise_iff_getElem.1 h.2 j (i - 1) hj (by simp; omega) (by omega)
      exact pLt_trans h1 (by simpa using hlast)
theorem arch_order {l : List S38} (h : Arch l) {i : Nat} (hi : i < l.length) (hp : 0 < i) : pLt (l[i - 1]'(by omega)) l[i] := List.pairwise_iff_getElem.1 h.1.2 (i - 1) i (by omega) hi (by omega)
theorem arch_l0 (l : List S38) (hs : Sized l) : ∀ (d i : Nat), l.length - i = d → i ≤ l.length → Arch1 (l.take i) →
    Ev (fun k => impl_IsValidArchive.l0 k l l (l.length : Int) (i : Int)) (archB l) := by
  have hl := hs.1
  intro d
  induction d with
  | zero =>
    intro i hd hi hR
    obtain rfl : i = l.length := by omega
    rw [List.take_length] at hR
    refine Ev.step (fun k => by rw [impl_IsValidArchive.l0]) ?_
    refine Ev.neg (by omega) (Ev.const ?_)
    congr 1
    rw [Bool.eq_iff_iff, archB_true, decide_eq_true_eq]
    exact ⟨fun h => ⟨hR, by omega⟩, fun h => by have := h.2; omega⟩
  | succ d ih =>
    intro i hd hi hR
    have hlt : i < l.length := by omega
    have hsz := hs.2 l[i] (List.getElem_mem _)
    refine Ev.step (fun k => by rw [impl_IsValidArchive.l0]) ?_
    refine Ev.pos (by omega) (Ev.pos (by omega) (Ev.pos (by omega) ?_))
    rw [rdP_lt l i hlt, w64 (x := (i : Int) + 1) (by omega) (by omega), show (i : Int) + 1 = ((i + 1 : Nat) : Int) from by omega]
    refine Ev.bind (isProduct _ _ _ (by omega) (by omega)) (Ev.cases (fun h1 => ?_) (fun h1 => Ev.const ?_))
    · refine Ev.cases (fun hp => ?_) (fun hp => ih (i + 1) (by omega) (by omega) (arch_step hlt hR h1 (fun h => by omega)))
      have hpi : 0 < i := by omega
      have ew : wrap64 ((i : Int) - 1) = ((i - 1 : Nat) : Int) := by rw [w64 (by omega) (by omega)]; omega
      rw [ew, rdP_lt l (i - 1) (by omega)]
      refine Ev.pos (by omega) (Ev.pos (by omega) (Ev.bind (compareP _ _) (Ev.cases (fun h2 => Ev.const ?_) (fun h2 => ?_))))
      · rw [archB_not (fun hA => by have := (cmpP_lt _ _).2 (arch_order hA hlt hpi); omega)]
      · exact ih (i + 1) (by omega) (by omega) (arch_step hlt hR h1 (fun h => (cmpP_lt _ _).1 (by omega)))
    · rw [archB_not (fun hA => h1 (hA.1.1 _ (List.getElem_mem _)))]
theorem isArchive (l : List S38) (hs : Sized l) : Ev (fun k => impl_IsValidArchive.f k l) (archB l) := by
  unfold impl_IsValidArchive.f
  exact arch_l0 l hs _ 0 rfl (by omega) ⟨by simp, by simp⟩
theorem archS_l0 (l : List S38) (hs : Sized l) : ∀ (d i : Nat), l.length - i = d → i ≤ l.length → Arch1 (l.take i) →
    Ev (fun k => spec_l26Good.l0 k l (i : Int)) (archB l) := by
  have hl := hs.1
  intro d
  induction d with
  | zero =>
    intro i hd hi hR
    obtain rfl : i = l.length := by omega
    rw [List.take_length] at hR
    refine Ev.step (fun k => by rw [spec_l26Good.l0]) ?_
    refine Ev.neg (by omega) (Ev.const ?_)
    congr 1
    rw [Bool.eq_iff_iff, archB_true, decide_eq_true_eq]
    exact ⟨fun h => ⟨hR, by omega⟩, fun h => by have := h.2; omega⟩
  | succ d ih =>
    intro i hd hi hR
    have hlt : i < l.length := by omega
    have hsz := hs.2 l[i] (List.getElem_mem _)
    refine Ev.step (fun k => by rw [spec_l26Good.l0]) ?_
    refine Ev.pos (by omega) (Ev.pos (by omega) ?_)
    rw [rdP_lt l i hlt, w64 (x := (i : Int) + 1) (by omega) (by omega), show (i : Int) + 1 = ((i + 1 : Nat) : Int) from by omega]
    refine Ev.bind (product _ _ _ (by omega) (by omega)) (Ev.cases (fun h1 => ?_) (fun h1 => Ev.const ?_))
    · refine Ev.cases (fun hp => ?_) (fun hp => ih (i + 1) (by omega) (by omega) (arch_step hlt hR h1 (fun h => by omega)))
      have hpi : 0 < i := by omega
      have ew : wrap64 ((i : Int) - 1) = ((i - 1 : Nat) : Int) := by rw [w64 (by omega) (by omega)]; omega
      rw [ew, rdP_lt l (i - 1) (by omega)]
      obtain ⟨r, hr, hiff⟩ := before_f (l[i - 1]'(by omega)) l[i]
      refine Ev.pos (by omega) (Ev.pos (by omega) (Ev.bindc hr (Ev.cases (fun h2 => ?_) (fun h2 => Ev.const ?_))))
      · exact ih (i + 1) (by omega) (by omega) (arch_step hlt hR h1 (fun h => hiff.1 h2))
      · rw [archB_not (fun hA => h2 (hiff.2 (arch_order hA hlt hpi)))]
    · rw [archB_not (fun hA => h1 (hA.1.1 _ (List.getElem_mem _)))]
theorem goodArchive (l : List S38) (hs : Sized l) : Ev (fun k => spec_l26Good.f k l) (archB l) := by
  unfold spec_l26Good.f
  exact archS_l0 l hs _ 0 rfl (by omega) ⟨by simp, by simp⟩
theorem sized_conv (l : List S36) (hl : l.length ≤ 1048576) (hw : ∀ z ∈ l, z.f0.size ≤ 1048576 ∧ z.f2.size ≤ 1048576) : Sized (l.map convP) := by
  refine ⟨by simp; omega, fun z hz => ?_⟩
  obtain ⟨x, hx, rfl⟩ := List.mem_map.1 hz
  exact hw x hx
end Go.Proofs.YtgmmanppmjlclaaDoor.Pure

/- ArchiveText: the text of an archive, of the program and of the reference. -/
namespace Go.Proofs.YtgmmanppmjlclaaDoor.Pure
open Go.RowKit Go.Proofs.YtgmmanppmjlclaaDoor.P Go.Proofs.YtgmmanppmjlclaaDoorW.PrintWords Go.Proofs.YtgmmanppmjlclaaDoorW.PrintLast
set_option linter.unusedVariables false
set_option linter.unusedSimpArgs false

noncomputable def attT (l : List S38) : ByteArray × Bool := if archB l = true then (archUp l l.length, true) else (⟨#[]⟩, false)
theorem prod_z {z : S38} (h : prodB z = true) : archZ z = true ∧ 0 ≤ z.f1 ∧ z.f1 ≤ 240 := by
  simp only [prodB, nameB, Bool.and_eq_true, decide_eq_true_eq] at h
  obtain ⟨⟨_, _, h1⟩, ⟨h2, h3⟩, h4, _⟩ := h
  rw [bs_size] at h1
  refine ⟨?_, h2, h3⟩
  simp only [archZ, Bool.and_eq_true, decide_eq_true_eq]
  omega
theorem arch_z {l : List S38} (h : Arch l) : l.all archZ = true := List.all_eq_true.mpr fun z hz => (prod_z (h.1.1 z hz)).1
theorem att_impl (l : List S38) (hs : Sized l) : Ev (fun k => impl_ArchiveText.f k l) (attT l) := by
  unfold impl_ArchiveText.f attT
  refine Ev.bind (isArchive l hs) ?_
  by_cases h : archB l = true
  · have ha := archB_true.1 h
    have e : impl_archiveText.f l = some (archUp l l.length) := by
      unfold impl_archiveText.f
      rw [if_pos (by rw [arch_z ha, decide_eq_true (Nat.le_trans ha.2 (by decide))]; rfl)]
    simp only [if_pos h]
    exact Ev.bindc e (Ev.now _)
  · simp only [if_neg h]
    exact Ev.now _
theorem attS_l0 (l : List S38) (ha : Arch l) : ∀ (d i : Nat), l.length - i = d → i ≤ l.length →
    Ev (fun k => spec_ArchiveText.l0 k l (archUp l i) (i : Int)) (archUp l l.length, true) := by
  intro d
  induction d with
  | zero =>
    intro i hd hi
    refine Ev.step (fun k => by rw [spec_ArchiveText.l0]) ?_
    refine Ev.neg (by omega) (Ev.const ?_)
    rw [show i = l.length by omega]
  | succ d ih =>
    intro i hd hi
    have hlt : i < l.length := by omega
    have hup := archUp_size (arch_z ha) i hi
    have h20 := ha.2
    have hz := prod_z (ha.1.1 _ (List.getElem_mem hlt))
    have hrd : rd_T38 l (i : Int) = l[i] := rdP_lt l i hlt
    have hnx : archUp l (i + 1) = archUp l i ++ archLine l[i] := by rw [archUp, hrd]
    have h1 := ih (i + 1) (by omega) (by omega)
    rw [hnx] at h1
    refine Ev.step (fun k => by rw [spec_ArchiveText.l0]) ?_
    rw [hrd, w64 (x := (i : Int) + 1) (by omega) (by omega), show (i : Int) + 1 = ((i + 1 : Nat) : Int) from by omega]
    generalize l[i] = u at hz h1
    generalize archUp l i = X at hup h1
    obtain ⟨hz1, h0, h240⟩ := hz
    simp only [archZ, Bool.and_eq_true, decide_eq_true_eq] at hz1
    have hn := Lib.itoa_length_le u.f1 (by omega) (by omega)
    have eN : spec_l1Num.f u.f1 = some ⟨(Lib.itoa u.f1).toArray⟩ := by unfold spec_l1Num.f; rw [if_pos h0, if_pos (by omega)]
    have e1 : (⟨(Lib.itoa u.f1).toArray⟩ : ByteArray).size = (Lib.itoa u.f1).length := by simp [ByteArray.size]
    unfold archLine at h1
    generalize (⟨(Lib.itoa u.f1).toArray⟩ : ByteArray) = N at eN e1 h1
    have e2 : (⟨#[32]⟩ : ByteArray).size = 1 := rfl
    have e3 : (⟨#[10]⟩ : ByteArray).size = 1 := rfl
    refine Ev.pos (by omega) (Ev.pos (by omega) ?_)
    refine Ev.pos (by omega) (Ev.pos (by simp only [ByteArray.size_append]; omega) (Ev.bindc eN ?_))
    refine Ev.pos (by simp only [ByteArray.size_append, e2]; omega) (Ev.pos (by simp only [ByteArray.size_append, e2]; omega) (Ev.pos (by simp only [ByteArray.size_append, e2]; omega) (Ev.pos (by simp only [ByteArray.size_append, e2]; omega) ?_)))
    simpa only [ByteArray.append_assoc] using h1
theorem att_spec (l : List S38) (hs : Sized l) : Ev (fun k => spec_ArchiveText.f k l) (attT l) := by
  unfold spec_ArchiveText.f attT
  refine Ev.bind (goodArchive l hs) ?_
  by_cases h : archB l = true
  · simp only [if_pos h]
    exact (attS_l0 l (archB_true.1 h) _ 0 rfl (by omega))
  · simp only [if_neg h]
    exact Ev.now _
end Go.Proofs.YtgmmanppmjlclaaDoor.Pure

namespace Go.Proofs.YtgmmanppmjlclaaDoor.Pure
open Go.RowKit Go.Proofs.YtgmmanppmjlclaaDoor.P Go.Proofs.YtgmmanppmjlclaaDoorW.PrintWords Go.Proofs.YtgmmanppmjlclaaDoorW.PrintLast
set_option linter.unusedVariables false

theorem FnExactArchiveText (l : List S36) (hm0 : l.length ≤ maxLen) (hw0 : ∀ z ∈ l, z.f0.size ≤ maxLen ∧ (Lit.int .i64 z.f1).wf = true ∧ z.f2.size ≤ maxLen) : ∃ k, laws_FnExactArchiveText.f k l = some true := by
  have hm : l.length ≤ 9223372036854775807 := Nat.le_trans hm0 (by decide)
  have hw : ∀ z ∈ l, z.f0.size ≤ 9223372036854775807 ∧ z.f2.size ≤ 9223372036854775807 := fun z hz => ⟨Nat.le_trans (hw0 z hz).1 (by decide), Nat.le_trans (hw0 z hz).2.2 (by decide)⟩
  apply Ev.rounds
  unfold laws_FnExactArchiveText.f
  obtain ⟨t, ht, hl0⟩ := szProductS l hm hw
  refine Ev.bind ht (Ev.cases (fun _ => Ev.now _) (fun ht0 => ?_))
  obtain ⟨hl, hz⟩ := hl0 ht0
  have td := toProductS l hl
  have hs := sized_conv l hl hz
  have hlen : (l.map convP).length ≤ 1048576 := by simpa using hl
  have sp := att_spec (l.map convP) hs
  have im := att_impl (l.map convP) hs
  have eq := eqProduct_refl (l.map convP) (by omega)
  refine Ev.bind td (Ev.bind sp (Ev.bind td (Ev.bind im (Ev.pos rfl ?_))))
  refine Ev.step (fun k => by rw [laws_FnExactArchiveText.j0]) ?_
  exact Ev.neg (by simp) (Ev.bind td (Ev.bind eq (Ev.pos rfl (Ev.now _))))
end Go.Proofs.YtgmmanppmjlclaaDoor.Pure
