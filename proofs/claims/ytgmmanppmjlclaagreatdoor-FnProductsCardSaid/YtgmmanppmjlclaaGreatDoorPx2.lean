-- Made by pp.py of this session out of the kit's print and of contracts proved by hand; Lean checks it.
import Derived.Lib.SlKept
import Derived.Lib.SliceRun
import Derived.Shelf.GgClosure.Gives
import Derived.Shelf.SlicesQ.Load
import Derived.Deep.QuietTactic
import Derived.Shelf.RegionOpen
import Derived.Test.YtgmmanppmjlclaaGreatDoorPx0
namespace Go.Proofs.YtgmmanppmjlclaaGreatDoor.P
open Go.RowKit Go.Proofs.YtgmmanppmjlclaaGreatDoorW.PrintWords Go.Proofs.YtgmmanppmjlclaaGreatDoorW.PrintLast Go.Proofs.YtgmmanppmjlclaaGreatDoorW.PrintMore
attribute [local go_sem] max2_int min2_int max_two min_two max_three min_three max_four min_four   -- for this text's walks alone
set_option linter.unusedVariables false
set_option linter.unusedSimpArgs false

-- ALONE
/-! ### lib prodRows -/
def encP (x : S26) : List Value := [.string x.f0, .int .i64 x.f1, .string x.f2]
def flatP (xs : List S26) : List Value := xs.flatMap encP
theorem flatP_len (xs : List S26) : (flatP xs).length = xs.length * 3 := by
  induction xs with
  | nil => rfl
  | cons x xs ih => simp [flatP, encP] at ih ⊢; omega
theorem flatP_get (xs : List S26) (rest : List Value) (i t : Nat) (h : i < xs.length) (ht : t < 3) : (flatP xs ++ rest)[i * 3 + t]? = (encP (rd_T26 xs (i : Int)))[t]? := by
  induction xs generalizing i with
  | nil => simp at h
  | cons x xs ih =>
    cases i with
    | zero =>
      have : rd_T26 (x :: xs) ((0 : Nat) : Int) = x := by simp [rd_T26]
      rw [this]
      simp only [flatP, List.flatMap_cons, List.append_assoc, Nat.zero_mul, Nat.zero_add]
      rw [List.getElem?_append_left (by simpa [encP] using ht)]
    | succ i =>
      have : rd_T26 (x :: xs) ((i + 1 : Nat) : Int) = rd_T26 xs (i : Int) := by simp [rd_T26]
      rw [this, ← ih i (by simpa using h)]
      simp only [flatP, List.flatMap_cons, List.append_assoc]
      rw [List.getElem?_append_right (by simp [encP]; omega)]
      congr 1
      simp [encP]; omega
theorem flatP_set (xs : List S26) (rest : List Value) (i : Nat) (h : i < xs.length) (y : S26) : (((flatP xs ++ rest).set (i * 3) (.string y.f0)).set (i * 3 + 1) (.int .i64 y.f1)).set (i * 3 + 2) (.string y.f2) = flatP (xs.set i y) ++ rest := by
  induction xs generalizing i with
  | nil => simp at h
  | cons x xs ih =>
    cases i with
    | zero => simp [flatP, encP]
    | succ i =>
      have h1 := ih i (by simpa using h)
      simp only [List.set_cons_succ]
      have e1 : flatP (x :: xs) ++ rest = encP x ++ (flatP xs ++ rest) := by simp [flatP]
      have e2 : flatP (x :: xs.set i y) ++ rest = encP x ++ (flatP (xs.set i y) ++ rest) := by simp [flatP]
      have e3 : ∀ (l : List Value) (j : Nat) (u : Value), (encP x ++ l).set (j + 3) u = encP x ++ l.set j u := fun l j u => by simp [encP]
      rw [e1, e2, show (i + 1) * 3 = i * 3 + 3 by omega, show i * 3 + 3 + 1 = i * 3 + 1 + 3 by omega, show i * 3 + 3 + 2 = i * 3 + 2 + 3 by omega, e3, e3, e3, h1]
theorem row_store {W : World} {blk : Nat} {xs : List S26} {rest : List Value} (h : W.heap[blk]? = some (.cells (flatP xs ++ rest).toArray 26 (0, 0))) (i : Nat) (hi : i < xs.length) (u : S26) :
    ∃ v0 v1 v2, W.cell? ⟨blk, i * 3, none⟩ = some v0 ∧ W.frozen? ⟨blk, i * 3, none⟩ = false ∧
      (W.setCell ⟨blk, i * 3, none⟩ (.string u.f0)).cell? ⟨blk, i * 3 + 1, none⟩ = some v1 ∧ (W.setCell ⟨blk, i * 3, none⟩ (.string u.f0)).frozen? ⟨blk, i * 3 + 1, none⟩ = false ∧
      ((W.setCell ⟨blk, i * 3, none⟩ (.string u.f0)).setCell ⟨blk, i * 3 + 1, none⟩ (.int .i64 u.f1)).cell? ⟨blk, i * 3 + 2, none⟩ = some v2 ∧ ((W.setCell ⟨blk, i * 3, none⟩ (.string u.f0)).setCell ⟨blk, i * 3 + 1, none⟩ (.int .i64 u.f1)).frozen? ⟨blk, i * 3 + 2, none⟩ = false ∧
      (((W.setCell ⟨blk, i * 3, none⟩ (.string u.f0)).setCell ⟨blk, i * 3 + 1, none⟩ (.int .i64 u.f1)).setCell ⟨blk, i * 3 + 2, none⟩ (.string u.f2)).heap[blk]? = some (.cells (flatP (xs.set i u) ++ rest).toArray 26 (0, 0)) := by
  have hlen : (flatP xs ++ rest).length = xs.length * 3 + rest.length := by rw [List.length_append, flatP_len]
  have d1 := blk_set h (i * 3) (Value.string u.f0)
  have d2 := blk_set d1 (i * 3 + 1) (Value.int IntKind.i64 u.f1)
  have d3 := blk_set d2 (i * 3 + 2) (Value.string u.f2)
  have e0 := blk_cell h (i * 3)
  have e1 := blk_cell d1 (i * 3 + 1)
  have e2 := blk_cell d2 (i * 3 + 2)
  rw [Array.getElem?_eq_getElem (by simp only [List.size_toArray, Array.size_setIfInBounds, hlen]; omega)] at e0 e1 e2
  simp only [List.setIfInBounds_toArray] at d3
  rw [flatP_set xs rest i hi u] at d3
  exact ⟨_, _, _, e0, blk_frozen h _, e1, blk_frozen d1 _, e2, blk_frozen d2 _, d3⟩
instance instProduct_ : Inhabited S26 := ⟨z26⟩
theorem zeroCells_P (n : Nat) : (Builtin.zeroCells (Value.agg #[.string ⟨#[]⟩, .int .i64 0, .string ⟨#[]⟩]).cells n).toList = flatP (List.replicate n z26) := by
  have hc : (Value.agg #[.string ⟨#[]⟩, .int .i64 0, .string ⟨#[]⟩]).cells = #[.string ⟨#[]⟩, .int .i64 0, .string ⟨#[]⟩] := rfl
  rw [hc]
  apply List.ext_getElem?
  intro q
  by_cases hq : q < n * 3
  · have h1 := flatP_get (List.replicate n z26) [] (q / 3) (q % 3) (by simp; omega) (by omega)
    rw [List.append_nil, show q / 3 * 3 + q % 3 = q by omega] at h1
    have h2 : rd_T26 (List.replicate n z26) ((q / 3 : Nat) : Int) = z26 := by simp [rd_T26, List.getD_eq_getElem?_getD, List.getElem?_replicate]; split <;> rfl
    rw [h1, h2]
    simp only [Builtin.zeroCells, List.size_toArray, List.length_cons, List.length_nil, Array.toList_map, Array.toList_range, List.getElem?_map]
    rw [List.getElem?_range (by simpa using hq)]
    have h3 : q % 3 = 0 ∨ q % 3 = 1 ∨ q % 3 = 2 := by omega
    rcases h3 with h3 | h3 | h3 <;> simp [h3, encP, z26]
  · rw [List.getElem?_eq_none (by simp [Builtin.zeroCells]; omega), List.getElem?_eq_none (by rw [flatP_len]; simp; omega)]
theorem flatP_app (xs ys : List S26) : flatP (xs ++ ys) = flatP xs ++ flatP ys := by simp [flatP]
theorem flatP_take (xs : List S26) (i : Nat) (hi : i ≤ xs.length) : (flatP xs).take (i * 3) = flatP (xs.take i) := by
  conv => lhs; rw [← List.take_append_drop i xs, flatP_app]
  rw [List.take_left' (by rw [flatP_len]; simp; omega)]
theorem encP_one {v : Value} {xs : List S26} (h : v ∈ flatP xs) : v.oneCell' = true := by
  simp only [flatP, List.mem_flatMap, encP] at h
  obtain ⟨x, _, hv⟩ := h
  simp at hv
  rcases hv with rfl | rfl | rfl <;> rfl
theorem reps_flat : ∀ (xs : List S26) (inner : List Value) (M : S26 → List Value → Prop), (∀ x c, M x c → c = encP x) → Reps M 3 xs inner → inner = flatP xs
  | [], inner, _, _, h => List.eq_nil_of_length_eq_zero (by simpa using h.1)
  | x :: xs, inner, M, hM, h => by
    have hl : inner.length = (xs.length + 1) * 3 := by simpa using h.1
    have h0 := hM _ _ (h.2 0 x rfl)
    have ih := reps_flat xs (inner.drop 3) M hM ⟨by simp; omega, fun j p hj => by
      have := h.2 (j + 1) p (by simpa using hj)
      rwa [show (j + 1) * 3 = 3 + j * 3 by omega, ← List.drop_drop] at this⟩
    rw [Nat.zero_mul, List.drop_zero] at h0
    have h1 := List.take_append_drop 3 inner
    rw [h0, ih] at h1
    rw [← h1]; simp [flatP]
theorem flat_reps (w : World) (B : Nat) (ok : Nat → Prop) (xs : List S26) : Reps (k26.M w B ok) 3 xs (flatP xs) := by
  refine ⟨by rw [flatP_len], fun j p hj => ?_⟩
  obtain ⟨hjl, hjp⟩ := List.getElem?_eq_some_iff.1 hj
  have : ((flatP xs).drop (j * 3)).take 3 = encP p := by
    conv => lhs; rw [← List.take_append_drop j xs, flatP_app, List.drop_eq_getElem_cons hjl, hjp]
    rw [List.drop_append_of_le_length (by rw [flatP_len]; simp; omega), List.drop_of_length_le (by rw [flatP_len]; simp; omega)]
    simp [flatP, encP]
  rw [this]
  exact k26_mkM w B ok p
theorem row_open {w : World} {B g n cap : Nat} {ok : Nat → Prop} {xs : List S26} (h : Kd.R k26 26 w B ok (.slice (some ⟨g, 0, none⟩) n cap) xs) :
    n = xs.length ∧ B ≤ g ∧ ok g ∧ n ≤ cap ∧ cap ≤ maxLen ∧ ∃ rest, w.heap[g]? = some (.cells (flatP xs ++ rest).toArray 26 (0, 0)) ∧ (flatP xs ++ rest).length = cap * 3 := by
  obtain ⟨hok, inner, ho, hr⟩ := h
  have hi := reps_flat xs inner _ (fun x c hc => k26_openM hc) hr
  subst hi
  rcases ho.2 with ⟨e0, _⟩ | ⟨g', cap', cur, e0, hb, hg, hn, hm, hs, ht⟩
  · cases e0
  · injection e0 with e1 e2 e3
    injection e1 with e1
    injection e1 with e1
    subst e1; subst e3
    have h1 : cur.toList = flatP xs ++ cur.toList.drop (xs.length * 3) := by
      conv => lhs; rw [← List.take_append_drop (xs.length * 3) cur.toList]
      congr 1
    have h2 : (flatP xs ++ cur.toList.drop (xs.length * 3)).toArray = cur := by rw [← h1]
    refine ⟨e2, hb, hok _ rfl, by omega, hm, cur.toList.drop (xs.length * 3), by rw [h2]; exact hg, by rw [← h1]; have h9 : cur.size = cap * 3 := hs; simpa using h9⟩
theorem row_close {w : World} {B g cap : Nat} {ok : Nat → Prop} {xs : List S26} {rest : List Value} (hB : B ≤ g) (hok : ok g) (hn : xs.length ≤ cap) (hm : cap ≤ maxLen) (hh : w.heap[g]? = some (.cells (flatP xs ++ rest).toArray 26 (0, 0))) (hl : (flatP xs ++ rest).length = cap * 3) :
    Kd.R k26 26 w B ok (.slice (some ⟨g, 0, none⟩) xs.length cap) xs := by
  refine ⟨fun k hk => ?_, flatP xs, ⟨by rw [flatP_len]; rfl, .inr ⟨g, cap, _, rfl, hB, hh, hn, hm, (show _ = cap * 3 by simpa using hl), ?_⟩⟩, flat_reps _ _ _ _⟩
  · have : g = k := by simpa [Value.ownBlock] using hk
    subst this; exact hok
  · exact List.take_left' (by rw [flatP_len]; rfl)

end Go.Proofs.YtgmmanppmjlclaaGreatDoor.P
