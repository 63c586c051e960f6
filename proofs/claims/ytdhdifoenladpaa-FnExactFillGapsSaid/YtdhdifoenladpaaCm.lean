/- The laws' marks on a list of integers and their check. -/
import Derived.Test.YtdhdifoenladpaaCo
import Derived.Test.YtdhdifoenladpaaPx11
namespace Go.Proofs.Ytdhdifoenladpaa.Pure
open Go.RowKit Go.Proofs.Ytdhdifoenladpaa.P Go.Proofs.YtdhdifoenladpaaW.PrintWords Go.Proofs.YtdhdifoenladpaaW.PrintLast

/-- The marks a, a + 1, .. -/
def iota (a : Int) : Nat → List Int
  | 0 => []
  | n + 1 => a :: iota (a + 1) n
theorem iota_length : ∀ (n : Nat) (a : Int), (iota a n).length = n
  | 0, _ => rfl
  | n + 1, a => by simp [iota, iota_length n]
theorem iota_get : ∀ (n : Nat) (a : Int) (i : Nat) (h : i < (iota a n).length), (iota a n)[i] = a + i
  | 0, _, i, h => by simp [iota] at h
  | n + 1, a, 0, _ => by simp [iota]
  | n + 1, a, i + 1, h => by
    simp only [iota, List.getElem_cons_succ]
    rw [iota_get n (a + 1) i (by simpa [iota] using h)]; omega
theorem mark_l0 (n : Nat) (a : Int) (ha : 0 ≤ a) (hb : a + n ≤ 4611686018427387904) : ∀ (d i : Nat) (o : List Int), n - i = d → i ≤ n → o.length = n →
    Ev (fun k => laws_markIntS.l0 k o (a + i) (i : Int)) (a + n, o.take i ++ iota (a + i) (n - i)) := by
  intro d
  induction d with
  | zero =>
    intro i o hd hi ho
    refine Ev.step (fun k => by rw [laws_markIntS.l0]) (Ev.neg (by omega) (Ev.const ?_))
    have : i = n := by omega
    subst this
    rw [Nat.sub_self, List.take_of_length_le (by omega)]; simp [iota]
  | succ d ih =>
    intro i o hd hi ho
    refine Ev.step (fun k => by rw [laws_markIntS.l0]) (Ev.pos (by omega) (Ev.pos (by omega) ?_))
    rw [w64 (x := a + i + 1) (by omega) (by omega), w64 (by omega) (by omega), show (i : Int) + 1 = ((i + 1 : Nat) : Int) from by omega, show a + (i : Int) + 1 = a + ((i + 1 : Nat) : Int) from by omega, Int.toNat_natCast]
    refine Ev.eq (ih (i + 1) (o.set i (a + i)) (by omega) (by omega) (by simpa using ho)) ?_
    rw [take_succ' _ _ (by simp; omega), List.take_set_of_le (Nat.le_refl i), show n - i = (n - (i + 1)) + 1 from by omega]
    simp only [iota, List.getElem_set_self, List.append_assoc, List.singleton_append]
    rw [show a + ((i + 1 : Nat) : Int) = a + (i : Int) + 1 from by omega]
theorem mark (l : List Int) (hb : l.length ≤ 2305843009213693952) : Ev (fun k => laws_markIntS.f k l 1) (1 + (l.length : Int), iota 1 l.length) := by
  unfold laws_markIntS.f
  exact Ev.eq (mark_l0 l.length 1 (by omega) (by omega) _ 0 l rfl (by omega) rfl) (by simp)
theorem held_l0 (n : Nat) (a : Int) (ha : 0 ≤ a) (hb : a + n ≤ 4611686018427387904) : ∀ (d i : Nat), n - i = d → i ≤ n →
    Ev (fun k => laws_heldIntS.l0 k (iota a n) (a + i) (i : Int)) (a + n) := by
  intro d
  induction d with
  | zero =>
    intro i hd hi
    refine Ev.step (fun k => by rw [laws_heldIntS.l0]) (Ev.neg (by rw [iota_length]; omega) (Ev.const ?_))
    rw [show i = n from by omega]
  | succ d ih =>
    intro i hd hi
    refine Ev.step (fun k => by rw [laws_heldIntS.l0]) (Ev.pos (by rw [iota_length]; omega) (Ev.pos (by omega) ?_))
    rw [rd_lt _ i (by rw [iota_length]; omega), iota_get]
    refine Ev.pos rfl ?_
    rw [w64 (x := a + i + 1) (by omega) (by omega), w64 (by omega) (by omega), show (i : Int) + 1 = ((i + 1 : Nat) : Int) from by omega, show a + (i : Int) + 1 = a + ((i + 1 : Nat) : Int) from by omega]
    exact ih (i + 1) (by omega) (by omega)
theorem held (n : Nat) (hb : n ≤ 2305843009213693952) : Ev (fun k => laws_heldIntS.f k (iota 1 n) 1) (1 + (n : Int)) := by
  unfold laws_heldIntS.f
  exact Ev.eq (held_l0 n 1 (by omega) (by omega) _ 0 rfl (by omega)) (by simp)
end Go.Proofs.Ytdhdifoenladpaa.Pure
