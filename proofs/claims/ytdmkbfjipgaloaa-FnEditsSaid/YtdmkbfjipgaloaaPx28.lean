-- Made by pp.py of this session out of the kit's print and of contracts proved by hand; Lean checks it.
import Derived.Test.YtdmkbfjipgaloaaMc
import Derived.Deep.QuietTactic
import Derived.Test.YtdmkbfjipgaloaaPx0
import Derived.Test.YtdmkbfjipgaloaaPx8
import Derived.Test.YtdmkbfjipgaloaaPx9
import Derived.Test.YtdmkbfjipgaloaaPx10
namespace Go.Proofs.Ytdmkbfjipgaloaa.P
open Go.RowKit Go.Proofs.YtdmkbfjipgaloaaW.PrintWords Go.Proofs.YtdmkbfjipgaloaaW.PrintLast Go.Proofs.YtdmkbfjipgaloaaW.PrintMore
attribute [local go_sem] max2_int min2_int max_two min_two max_three min_three max_four min_four   -- for this text's walks alone
set_option linter.unusedVariables false
set_option linter.unusedSimpArgs false

/-! ### impl_floorDiv: function 72 -/
def impl_floorDiv.f (a0 : Int) (a1 : Int) : Option (Int) := if a1 = 0 then (none) else (if (Int.tmod a0 a1) < 0 then (some (wrap64 ((wrap64 (Int.tdiv a0 a1)) - 1))) else (some (wrap64 (Int.tdiv a0 a1))))
set_option maxHeartbeats 8000000 in
set_option maxRecDepth 100000 in
theorem impl_floorDiv.calls (a0 : Int) (a1 : Int) (r : Int) (w : World) (h : impl_floorDiv.f a0 a1 = some r) :
  Calls Try.prog 72 #[.int .i64 a0, .int .i64 a1] w fun e w' => e = .returned (.int .i64 r) ∧ Drawn0 w w' := by
 have H : (if a1 = 0 then (none) else (if (Int.tmod a0 a1) < 0 then (some (wrap64 ((wrap64 (Int.tdiv a0 a1)) - 1))) else (some (wrap64 (Int.tdiv a0 a1))))) = some r := h
 clear h
 by_cases c3 : a1 = 0
 ·
  rw [if_pos c3] at H
  exact absurd H (by simp)
 rw [if_neg c3] at H
 have c3b0 : (a1 == 0) = false := beq_eq_false_iff_ne.mpr c3
 have c3b1 : (a1 != 0) = true := bne_iff_ne.mpr c3
 by_cases c4 : (Int.tmod a0 a1) < 0
 ·
  rw [if_pos c4] at H
  have c4b0 : decide ((Int.tmod a0 a1) < 0) = true := decide_eq_true c4
  clear c4
  obtain rfl := Option.some.inj H
  go_enter Try.func72, Try.ntmps72
  go_wp2
  go_ret
  exact ⟨mc352, mc338⟩
 rw [if_neg c4] at H
 have c4b0 : decide ((Int.tmod a0 a1) < 0) = false := decide_eq_false c4
 clear c4
 obtain rfl := Option.some.inj H
 go_enter Try.func72, Try.ntmps72
 go_wp2
 go_ret
 exact ⟨mc352, mc338⟩

/-! ### impl_SpreadMean: function 35 -/

set_option maxHeartbeats 1000000
def idxFrom (c : Int) : List Int → Int → Int
 | [], _ => -1
 | x :: xs, i => if c = x then i else idxFrom c xs (i + 1)
/-- The place of a number in a list, or -1. -/
def idxL (l : List Int) (c : Int) : Int := idxFrom c l 0
theorem index_f (l : List Int) (c : Int) (hn : l.length < 4611686018427387904) : ∀ n i : Nat, i + n = l.length → slices_Index_int_int.l0 (n + 1) l c (l.length : Int) (i : Int) = some (idxFrom c (l.drop i) (i : Int)) := by
 intro n
 induction n with
 | zero =>
  intro i hi
  simp only [slices_Index_int_int.l0]
  rw [if_neg (by omega), List.drop_of_length_le (by omega)]
  rfl
 | succ n ih =>
  intro i hi
  have hil : i < l.length := by omega
  rw [show slices_Index_int_int.l0 (n + 1 + 1) l c (l.length : Int) (i : Int) = (if (i : Int) < (l.length : Int) then (if (0 : Int) ≤ (i : Int) then (if (i : Int) < (l.length : Int) then (if c = rd l (i : Int) then some (i : Int) else slices_Index_int_int.l0 (n + 1) l c (l.length : Int) (wrap64 ((i : Int) + 1))) else none) else none) else some (-1)) from rfl]
  rw [if_pos (by omega), if_pos (by omega), if_pos (by omega), List.drop_eq_getElem_cons hil]
  have hr : rd l (i : Int) = l[i] := by simp [rd, hil]
  rw [hr, show wrap64 ((i : Int) + 1) = ((i + 1 : Nat) : Int) by unfold wrap64; omega, ih (i + 1) (by omega)]
  by_cases he : c = l[i]
  ·
   rw [if_pos he, idxFrom, if_pos he]
  rw [if_neg he, idxFrom, if_neg he]
  simp
def mk_impl_SpreadMean_1.f (l : List Int) (more share : Int) : Option (Int → Int → Option Int) := if l.length < 4611686018427387904 then some (fun c _ => if idxL l c < more then some (wrap64 (share + 1)) else some share) else none
theorem mk_impl_SpreadMean_1.fn (A : Option Addr) (n : Nat) (l : List Int) (more share : Int) (F : Int → Int → Option Int) (w : World) (hr : Kd.C (Kd.int .i64) w A l.length l) (hc : l.length ≤ n) (h : mk_impl_SpreadMean_1.f l more share = some F) (g1 g2 g3 : Nat) (b1 : w.heap[g1]? = some (.cells #[.slice A l.length n] 24 (0, 0))) (b2 : w.heap[g2]? = some (.cells #[.int .i64 more] 3 (0, 0))) (b3 : w.heap[g3]? = some (.cells #[.int .i64 share] 3 (0, 0))) : ∀ W_ : World, Below w.heap.size w W_ → ∀ c0_ c1_ r_, F c0_ c1_ = some r_ → Calls Try.prog 73 (#[.int .i64 c0_, .int .i64 c1_] ++ #[.pointer (some ⟨g1, 0, none⟩), .pointer (some ⟨g2, 0, none⟩), .pointer (some ⟨g3, 0, none⟩)]) W_ fun e w' => e = .returned (.int .i64 r_) ∧ Drawn0 W_ w' := by
 intro W hB c0 c1 r hr2
 have d1 := blk_below b1 hB
 have d2 := blk_below b2 hB
 have d3 := blk_below b3 hB
 have hix : l.length < 4611686018427387904 → slices_Index_int_int.f (l.length + 1) l c0 = some (idxL l c0) := fun hl => index_f l c0 hl l.length 0 (by omega)
 unfold mk_impl_SpreadMean_1.f at h
 by_cases hl : l.length < 4611686018427387904
 rotate_left
 ·
  rw [if_neg hl] at h; cases h
 rw [if_pos hl] at h
 obtain rfl := Option.some.inj h
 have hcal := fun V (hB2 : Below W.heap.size W V) => slices_Index_int_int.calls (l.length + 1) A n l c0 (idxL l c0) V (Kd.C_below (Kd.C_below hr hB) hB2) hc (hix hl)
 have HI := A_ hcal
 have HB := A_ (Below.refl W.heap.size W)
 have hcz1 : W.cell? ⟨g1, 0, none⟩ = some (.slice A l.length n) := (blk_cell d1 0).trans rfl
 have hfz1 := blk_frozen d1 0
 have hcz2 : W.cell? ⟨g2, 0, none⟩ = some (.int .i64 more) := (blk_cell d2 0).trans rfl
 have hfz2 := blk_frozen d2 0
 have hcz3 : W.cell? ⟨g3, 0, none⟩ = some (.int .i64 share) := (blk_cell d3 0).trans rfl
 have hfz3 := blk_frozen d3 0
 clear b1 b2 b3 d1 d2 d3 hB h hr hc hix hcal
 show Calls Try.prog 73 #[.int .i64 c0, .int .i64 c1, .pointer (some ⟨g1, 0, none⟩), .pointer (some ⟨g2, 0, none⟩), .pointer (some ⟨g3, 0, none⟩)] W fun e w' => e = .returned (.int .i64 r) ∧ Drawn0 W w'
 by_cases hm : idxL l c0 < more
 rotate_left
 ·
  have hr' : some share = some r := by rw [← hr2]; exact (if_neg hm).symm
  obtain rfl := Option.some.inj hr'
  have dm : decide (idxL l c0 < more) = false := decide_eq_false hm
  generalize idxL l c0 = ix at HI dm
  clear hr2 hr' hm hl
  go_enter Try.func73, Try.ntmps73
  go_wp2
  go_quiet (first | (go_at_call 74; refine Calls.quiet_of ((HI.out _ mc249).mono fun e w' ⟨he, ⟨m, hm⟩⟩ => ⟨he, m, hm⟩)))
  go_wp2
  go_ret
  exact ⟨rfl, mc338⟩
 have hr' : some (wrap64 (share + 1)) = some r := by rw [← hr2]; exact (if_pos hm).symm
 obtain rfl := Option.some.inj hr'
 have dm : decide (idxL l c0 < more) = true := decide_eq_true hm
 generalize idxL l c0 = ix at HI dm
 clear hr2 hr' hm hl
 go_enter Try.func73, Try.ntmps73
 go_wp2
 go_quiet (first | (go_at_call 74; refine Calls.quiet_of ((HI.out _ mc249).mono fun e w' ⟨he, ⟨m, hm⟩⟩ => ⟨he, m, hm⟩)))
 go_wp2
 go_ret
 exact ⟨rfl, mc338⟩
mutual
def impl_SpreadMean.j0 : Nat → Bool → Int → Int → List Int → List Int → Option (Int × Int × List Int × Bool)
 | 0, _, _, _, _, _ => none
 | k + 1, x19, x504000, x504001, x504002, x505000 => if x19 = true then (some (0, 0, ([] : List Int), false)) else (impl_SpreadMean.l0 k 0 x505000 (x505000.length : Int) 0 x504000 x504001 x504002 x505000)
def impl_SpreadMean.l0 : Nat → Int → List Int → Int → Int → Int → Int → List Int → List Int → Option (Int × Int × List Int × Bool)
 | 0, _, _, _, _, _, _, _, _ => none
 | k + 1, x6, x21, x22, x23, x504000, x504001, x504002, x505000 => if x23 < x22 then (if 0 ≤ x23 then (if x23 < (x21.length : Int) then (if 0 ≤ (rd x21 x23) then (if (rd x21 x23) < (x504002.length : Int) then (if (rd x504002 (rd x21 x23)) = (-9999) then (some (0, 0, ([] : List Int), false)) else (impl_SpreadMean.l0 k (wrap64 (x6 + (rd x504002 (rd x21 x23)))) x21 x22 (wrap64 (x23 + 1)) x504000 x504001 x504002 x505000)) else (none)) else (none)) else (none)) else (none)) else ((impl_floorDiv.f x6 (x505000.length : Int)).bind fun t510 => ((mk_impl_SpreadMean_1.f x505000 (wrap64 (x6 - (wrap64 (t510 * (x505000.length : Int))))) t510).bind fun t513 => ((impl_editedField.f k x504000 x504001 x504002 x505000 t513).bind fun bt514 => (some (bt514.1, bt514.2.1, bt514.2.2.1, bt514.2.2.2)))))
end
def impl_SpreadMean.f (k : Nat) (a0_0 : Int) (a0_1 : Int) (l0_2 : List Int) (l1 : List Int) : Option (Int × Int × List Int × Bool) := (impl_isRegionOf.f k a0_0 a0_1 l0_2 l1).bind fun t506 => (if t506 = true then (impl_SpreadMean.j0 k ((l1.length : Int) == 0) a0_0 a0_1 l0_2 l1) else (impl_SpreadMean.j0 k true a0_0 a0_1 l0_2 l1))
set_option maxHeartbeats 8000000 in
set_option maxRecDepth 100000 in
theorem impl_SpreadMean.calls (k : Nat) (a0_0 : Int) (a0_1 : Int) (A0_2 : Option Addr) (c0_2 : Nat) (l0_2 : List Int) (A1 : Option Addr) (c1 : Nat) (l1 : List Int) (r1 : Int) (r2 : Int) (r3 : List Int) (r4 : Bool) (w : World) (hr0_2 : Kd.C (Kd.int .i64) w A0_2 l0_2.length l0_2) (hc0_2 : l0_2.length ≤ c0_2) (hr1 : Kd.C (Kd.int .i64) w A1 l1.length l1) (hc1 : l1.length ≤ c1) (h : impl_SpreadMean.f k a0_0 a0_1 l0_2 l1 = some (r1, r2, r3, r4)) :
  Calls Try.prog 35 #[.agg #[.int .i64 a0_0, .int .i64 a0_1, .slice A0_2 l0_2.length c0_2], .slice A1 l1.length c1] w fun e w' => ∃ v2_ : Value, e = .returned (.tuple #[.agg #[.int .i64 r1, .int .i64 r2, v2_], .bool r4]) ∧ Kd.R (Kd.int .i64) 3 w' w.heap.size (fun _ => True) v2_ r3 ∧ Below w.heap.size w w' := by
 have hu26 := Try.underlying26
 have HR0_2 := A_ hr0_2
 have HC0_2 := A_ hc0_2
 clear hr0_2 hc0_2
 have HR1 := A_ hr1
 have HC1 := A_ hc1
 clear hr1 hc1
 have HB := A_ (Below.refl w.heap.size w)
 have H : ((impl_isRegionOf.f k a0_0 a0_1 l0_2 l1).bind fun t506 => (if t506 = true then (impl_SpreadMean.j0 k ((l1.length : Int) == 0) a0_0 a0_1 l0_2 l1) else (impl_SpreadMean.j0 k true a0_0 a0_1 l0_2 l1))) = some (r1, r2, r3, r4) := h
 clear h
 have HC3 := A_ H
 clear H
 go_enter Try.func35, Try.ntmps35
 go_upto_region 1 with (first | ((with_reducible refine gd_ 2 rfl ?_); (try (refine gate_guard (by rfl) ?_; dsimp only)); refine box_event rfl (N := 2) rfl (cs := #[.int .i64 a0_0, .int .i64 a0_1, .slice A0_2 l0_2.length c0_2]) (t := 26) mc353 ?_; intro gb503 hg w4 hbox hb; have BK503 := A_ (hbox); have GW503 := A_ ((mc213 : w.heap.size ≤ gb503)); have GE503 := A_ ((mc213 : w.heap.size ≤ gb503)); replace HB := A_ (below_step mc249 hb); clear hb hbox hg) | ((with_reducible refine gd_ 3 rfl ?_); (try (refine gate_guard (by rfl) ?_; dsimp only)); refine box_event rfl (N := 3) rfl (cs := #[.slice A1 l1.length c1]) (t := 24) mc353 ?_; intro gb504 hg w5 hbox hb; have BK504 := A_ (hbox); have GW504 := A_ ((mc178 : w.heap.size ≤ gb504)); have GE504 := A_ ((mc178 : w.heap.size ≤ gb504)); replace HB := A_ (below_step mc231 hb); have NB503_504 := A_ ((mc239 : gb503 ≠ gb504)); have NB504_503 := A_ ((mc240 : gb504 ≠ gb503)); replace BK503 := A_ (blk_below mc294 hb); clear hb hbox hg) | ((with_reducible refine gd_ 4 rfl ?_); (try (refine gate_guard (by rfl) ?_; dsimp only)); refine box_event rfl (N := 4) rfl (cs := #[.int .i64 0, .int .i64 0, .slice none 0 0]) (t := 26) mc353 ?_; intro gb505 hg w6 hbox hb; have BK505 := A_ (hbox); have GW505 := A_ ((mc130 : w.heap.size ≤ gb505)); have GE505 := A_ ((mc130 : w.heap.size ≤ gb505)); replace HB := A_ (below_step mc191 hb); have NB503_505 := A_ ((mc239 : gb503 ≠ gb505)); have NB505_503 := A_ ((mc240 : gb505 ≠ gb503)); replace BK503 := A_ (blk_below mc294 hb); have NB504_505 := A_ ((by rw [hg]; exact Nat.ne_of_lt (blk_lt mc295) : gb504 ≠ gb505)); have NB505_504 := A_ ((by rw [hg]; exact Nat.ne_of_gt (blk_lt mc295) : gb505 ≠ gb504)); replace BK504 := A_ (blk_below mc295 hb); clear hb hbox hg))
 (try simp only [Act.put, List.setIfInBounds_toArray, List.set_cons_zero, List.set_cons_succ])
 go_cut [19] (fun v19 wc => ∃ (kq : Nat) (x19_2 : Bool), v19 = .bool x19_2 ∧ Aside0 (impl_SpreadMean.j0 kq x19_2 a0_0 a0_1 l0_2 l1 = some (r1, r2, r3, r4)) ∧ Aside0 (kq ≤ k) ∧ Aside0 (wc.heap[gb503]? = some (.cells #[.int .i64 a0_0, .int .i64 a0_1, (.slice A0_2 l0_2.length c0_2)] 26 (0, 0))) ∧ Aside0 (wc.heap[gb504]? = some (.cells #[(.slice A1 l1.length c1)] 24 (0, 0))) ∧ Aside0 (wc.heap[gb505]? = some (.cells #[.int .i64 0, .int .i64 0, (.slice none 0 0)] 26 (0, 0))) ∧ Aside0 (Below w.heap.size w wc))
 case first =>
  have H := HC3.out
  clear HC3
  obtain ⟨t506, A70, H⟩ := oB_ H
  have A7 := A_ A70
  clear A70
  by_cases c8 : t506 = true
  rotate_left
  ·
   replace c8 := Bool.eq_false_iff.mpr c8
   subst c8
   rw [if_neg (show ¬ (false = true) by decide)] at H
   have H' := A_ H
   clear H
   have hnb16 := NB503_504.out
   have hnc16 := NB504_503.out
   have hnb17 := NB503_505.out
   have hnc17 := NB505_503.out
   have hcz18_0 : w6.cell? ⟨gb503, 0, none⟩ = some (.int .i64 a0_0) := bc_ BK503 0 rfl
   have hcz18_1 : w6.cell? ⟨gb503, 1, none⟩ = some (.int .i64 a0_1) := bc_ BK503 1 rfl
   have hcz18_2 : w6.cell? ⟨gb503, 2, none⟩ = some (.slice A0_2 l0_2.length c0_2) := bc_ BK503 2 rfl
   have hfz18_0 := blk_frozen BK503.out 0
   have hfz18_1 := blk_frozen BK503.out 1
   have hfz18_2 := blk_frozen BK503.out 2
   have hnb19 := NB504_505.out
   have hnc19 := NB505_504.out
   have hcz20_0 : w6.cell? ⟨gb504, 0, none⟩ = some (.slice A1 l1.length c1) := bc_ BK504 0 rfl
   have hfz20_0 := blk_frozen BK504.out 0
   go_wp2_with (first | ((with_reducible refine gc_ 58 rfl ?_); refine goesL_ (some 13) rfl rfl Try.func58 kr_ rfl #[.agg #[.int .i64 a0_0, .int .i64 a0_1, .slice A0_2 l0_2.length c0_2], .slice A1 l1.length c1] rfl mc247 ?_; (with_reducible refine (impl_isRegionOf.calls k a0_0 a0_1 _ _ l0_2 _ _ l1 false _ ?side1 ?side2 ?side3 ?side4 A7.out).mono ?_); (case side1 => exact mc200); (case side2 => exact HC0_2.out); (case side3 => exact mc205); (case side4 => exact HC1.out); rintro e w21 ⟨rfl, hb⟩; refine ⟨_, rfl, ?_⟩; replace BK503 := A_ (blk_below mc294 hb); replace BK504 := A_ (blk_below mc295 hb); replace BK505 := A_ (blk_below mc296 hb); replace HB := A_ (below_step mc134 hb); (try clear hb)))
   go_meet
   case rel => exact ⟨_, (true), mc352, H', ⟨mc355⟩, ⟨mc294⟩, ⟨mc295⟩, ⟨mc296⟩, ⟨mc134⟩⟩
  subst c8
  rw [if_pos rfl] at H
  have H' := A_ H
  clear H
  have hnb9 := NB503_504.out
  have hnc9 := NB504_503.out
  have hnb10 := NB503_505.out
  have hnc10 := NB505_503.out
  have hcz11_0 : w6.cell? ⟨gb503, 0, none⟩ = some (.int .i64 a0_0) := bc_ BK503 0 rfl
  have hcz11_1 : w6.cell? ⟨gb503, 1, none⟩ = some (.int .i64 a0_1) := bc_ BK503 1 rfl
  have hcz11_2 : w6.cell? ⟨gb503, 2, none⟩ = some (.slice A0_2 l0_2.length c0_2) := bc_ BK503 2 rfl
  have hfz11_0 := blk_frozen BK503.out 0
  have hfz11_1 := blk_frozen BK503.out 1
  have hfz11_2 := blk_frozen BK503.out 2
  have hnb12 := NB504_505.out
  have hnc12 := NB505_504.out
  have hcz13_0 : w6.cell? ⟨gb504, 0, none⟩ = some (.slice A1 l1.length c1) := bc_ BK504 0 rfl
  have hfz13_0 := blk_frozen BK504.out 0
  go_wp2_with (first | ((with_reducible refine gc_ 58 rfl ?_); refine goesL_ (some 13) rfl rfl Try.func58 kr_ rfl #[.agg #[.int .i64 a0_0, .int .i64 a0_1, .slice A0_2 l0_2.length c0_2], .slice A1 l1.length c1] rfl mc247 ?_; (with_reducible refine (impl_isRegionOf.calls k a0_0 a0_1 _ _ l0_2 _ _ l1 true _ ?side1 ?side2 ?side3 ?side4 A7.out).mono ?_); (case side1 => exact mc200); (case side2 => exact HC0_2.out); (case side3 => exact mc205); (case side4 => exact HC1.out); rintro e w14 ⟨rfl, hb⟩; refine ⟨_, rfl, ?_⟩; replace BK503 := A_ (blk_below mc294 hb); replace BK504 := A_ (blk_below mc295 hb); replace BK505 := A_ (blk_below mc296 hb); replace HB := A_ (below_step mc134 hb); (try clear hb); have hcz15_0 : w14.cell? ⟨gb504, 0, none⟩ = some (.slice A1 l1.length c1) := bc_ BK504 0 rfl; have hfz15_0 := blk_frozen BK504.out 0))
  go_meet
  case rel => exact ⟨_, (((l1.length : Int) == 0)), mc352, H', ⟨mc355⟩, ⟨mc294⟩, ⟨mc295⟩, ⟨mc296⟩, ⟨mc134⟩⟩
 case rest =>
  clear HC3
  try clear p2
  obtain ⟨kq, x19_2, rfl, HA, HJ2, BK503, BK504, BK505, HB⟩ := hcut
  cases kq with
  | zero => exact absurd HA.out (by simp [impl_SpreadMean.j0])
  | succ kj2 =>
   have H := HA.out
   clear HA
   simp only [impl_SpreadMean.j0] at H
   by_cases c22 : x19_2 = true
   ·
    subst c22
    rw [if_pos rfl] at H
    simp only [Option.some.injEq, Prod.mk.injEq] at H
    obtain ⟨rfl, rfl, rfl, rfl⟩ := H
    have hnb23 := NB505_503.out
    have hnc23 := NB503_505.out
    have hnb24 := NB505_504.out
    have hnc24 := NB504_505.out
    have hcz25_0 : wc.cell? ⟨gb505, 0, none⟩ = some (.int .i64 0) := bc_ BK505 0 rfl
    have hcz25_1 : wc.cell? ⟨gb505, 1, none⟩ = some (.int .i64 0) := bc_ BK505 1 rfl
    have hcz25_2 : wc.cell? ⟨gb505, 2, none⟩ = some (.slice none 0 0) := bc_ BK505 2 rfl
    have hfz25_0 := blk_frozen BK505.out 0
    have hfz25_1 := blk_frozen BK505.out 1
    have hfz25_2 := blk_frozen BK505.out 2
    go_wp2
    refine bodyPost_ret (results_ct rfl _ _ gb505 26 #[.int .i64 0, .int .i64 0, .slice none 0 0] (0, 0) _ rfl (by (with_reducible repeat (first | refine blk_drewN ?_ _ | refine blk_drew ?_ | refine blk_alloc ?_ _)); refine blk_put (cs := #[.int .i64 0, .int .i64 0, .slice none 0 0]) ?_ 2 _ rfl; (with_reducible repeat (first | refine blk_drewN ?_ _ | refine blk_drew ?_ | refine blk_alloc ?_ _)); refine blk_put (cs := #[.int .i64 0, .int .i64 0, .slice none 0 0]) ?_ 1 _ rfl; (with_reducible repeat (first | refine blk_drewN ?_ _ | refine blk_drew ?_ | refine blk_alloc ?_ _)); refine blk_put (cs := #[.int .i64 0, .int .i64 0, .slice none 0 0]) ?_ 0 _ rfl; (with_reducible repeat (first | refine blk_drewN ?_ _ | refine blk_drew ?_ | refine blk_alloc ?_ _)); exact BK505.out) Try.underlying26 rfl kr_) rfl ?_
    exact ⟨_, mc332, mc246, mc134⟩
   replace c22 := Bool.eq_false_iff.mpr c22
   subst c22
   rw [if_neg (show ¬ (false = true) by decide)] at H
   have H' := A_ H
   clear H
   have hnb26 := NB504_503.out
   have hnc26 := NB503_504.out
   have hnb27 := NB504_505.out
   have hnc27 := NB505_504.out
   have hcz28_0 : wc.cell? ⟨gb504, 0, none⟩ = some (.slice A1 l1.length c1) := bc_ BK504 0 rfl
   have hfz28_0 := blk_frozen BK504.out 0
   go_wp2
   go_loopg [6, 23] kj2 (fun kq v6 v23 w' => ∃ (x6_2 : Int) (x23_2 : Int) (x506000_2 : Int) (x506001_2 : Int), v6 = .int .i64 x6_2 ∧ v23 = .int .i64 x23_2 ∧ Aside0 (impl_SpreadMean.l0 kq x6_2 l1 (l1.length : Int) x23_2 a0_0 a0_1 l0_2 l1 = some (r1, r2, r3, r4)) ∧ Aside0 (kq ≤ kj2) ∧ Aside0 (w'.heap[gb503]? = some (.cells #[.int .i64 a0_0, .int .i64 a0_1, (.slice A0_2 l0_2.length c0_2)] 26 (0, 0))) ∧ Aside0 (w'.heap[gb504]? = some (.cells #[(.slice A1 l1.length c1)] 24 (0, 0))) ∧ Aside0 (w'.heap[gb505]? = some (.cells #[.int .i64 x506000_2, .int .i64 x506001_2, (.slice none 0 0)] 26 (0, 0))) ∧ Aside0 (Below w.heap.size w w'))
   case atStart => exact ⟨(0), (0), (0), (0), mc352, mc352, H', ⟨Nat.le_refl _⟩, ⟨mc294⟩, ⟨mc295⟩, ⟨mc296⟩, ⟨mc134⟩⟩
   case round =>
    clear H'
    try clear p2
    try clear p2
    obtain ⟨x6_2, x23_2, x506000_2, x506001_2, rfl, rfl, HA, HK2, BK503, BK504, BK505, HB⟩ := hrel
    cases gk with
    | zero => exact absurd HA.out (by simp [impl_SpreadMean.l0])
    | succ k2 =>
     have H := HA.out
     clear HA
     simp only [impl_SpreadMean.l0] at H
     by_cases c29 : x23_2 < (l1.length : Int)
     ·
      rw [if_pos c29] at H
      have c29b0 : decide (x23_2 < (l1.length : Int)) = true := decide_eq_true c29
      clear c29
      by_cases c30 : 0 ≤ x23_2
      rotate_left
      ·
       rw [if_neg c30] at H
       exact absurd H (by simp)
      rw [if_pos c30] at H
      have c30b0 : decide (0 ≤ x23_2) = true := decide_eq_true c30
      clear c30
      by_cases c31 : x23_2 < (l1.length : Int)
      rotate_left
      ·
       rw [if_neg c31] at H
       exact absurd H (by simp)
      rw [if_pos c31] at H
      have c31b0 : decide (x23_2 < (l1.length : Int)) = true := decide_eq_true c31
      clear c31
      by_cases c32 : 0 ≤ (rd l1 x23_2)
      rotate_left
      ·
       rw [if_neg c32] at H
       exact absurd H (by simp)
      rw [if_pos c32] at H
      have c32b0 : decide (0 ≤ (rd l1 x23_2)) = true := decide_eq_true c32
      clear c32
      by_cases c33 : (rd l1 x23_2) < (l0_2.length : Int)
      rotate_left
      ·
       rw [if_neg c33] at H
       exact absurd H (by simp)
      rw [if_pos c33] at H
      have c33b0 : decide ((rd l1 x23_2) < (l0_2.length : Int)) = true := decide_eq_true c33
      clear c33
      by_cases c34 : (rd l0_2 (rd l1 x23_2)) = (-9999)
      rotate_left
      ·
       rw [if_neg c34] at H
       have c34b0 : ((rd l0_2 (rd l1 x23_2)) == (-9999)) = false := beq_eq_false_iff_ne.mpr c34
       have c34b1 : ((rd l0_2 (rd l1 x23_2)) != (-9999)) = true := bne_iff_ne.mpr c34
       have H' := A_ H
       clear H
       have p507 : 0 ≤ (x23_2 : Int) := of_decide_eq_true mc341
       have q507 : x23_2 < (l1.length : Int) := of_decide_eq_true mc341
       obtain ⟨ad507, e507, hx507_0⟩ := Kd.at_int HR1.out x23_2 p507 q507
       cases e507
       replace hx507_0 := (HB.out.cell (World.block_lt_of_cell? w _ hx507_0)).trans hx507_0
       replace p507 := eq_true p507
       replace q507 := eq_true q507
       have hnb40 := NB503_504.out
       have hnc40 := NB504_503.out
       have hnb41 := NB503_505.out
       have hnc41 := NB505_503.out
       have hcz42_0 : wr.cell? ⟨gb503, 0, none⟩ = some (.int .i64 a0_0) := bc_ BK503 0 rfl
       have hcz42_1 : wr.cell? ⟨gb503, 1, none⟩ = some (.int .i64 a0_1) := bc_ BK503 1 rfl
       have hcz42_2 : wr.cell? ⟨gb503, 2, none⟩ = some (.slice A0_2 l0_2.length c0_2) := bc_ BK503 2 rfl
       have hfz42_0 := blk_frozen BK503.out 0
       have hfz42_1 := blk_frozen BK503.out 1
       have hfz42_2 := blk_frozen BK503.out 2
       have p508 : 0 ≤ ((rd l1 x23_2) : Int) := of_decide_eq_true mc341
       have q508 : (rd l1 x23_2) < (l0_2.length : Int) := of_decide_eq_true mc341
       obtain ⟨ad508, e508, hx508_0⟩ := Kd.at_int HR0_2.out (rd l1 x23_2) p508 q508
       cases e508
       replace hx508_0 := (HB.out.cell (World.block_lt_of_cell? w _ hx508_0)).trans hx508_0
       replace p508 := eq_true p508
       replace q508 := eq_true q508
       have p509 : 0 ≤ ((rd l1 x23_2) : Int) := of_decide_eq_true mc341
       have q509 : (rd l1 x23_2) < (l0_2.length : Int) := of_decide_eq_true mc341
       obtain ⟨ad509, e509, hx509_0⟩ := Kd.at_int HR0_2.out (rd l1 x23_2) p509 q509
       obtain rfl : ad508 = ad509 := (by injection e509)
       replace hx509_0 := (HB.out.cell (World.block_lt_of_cell? w _ hx509_0)).trans hx509_0
       replace p509 := eq_true p509
       replace q509 := eq_true q509
       go_wp2
       go_roundg k2
       case measure => have := HJ2.out; have := HK2.out; omega
       case rel => exact ⟨(wrap64 (x6_2 + (rd l0_2 (rd l1 x23_2)))), (wrap64 (x23_2 + 1)), (x506000_2), (x506001_2), mc352, mc352, H', ⟨by have := HJ2.out; have := HK2.out; omega⟩, ⟨mc294⟩, ⟨mc295⟩, ⟨mc296⟩, ⟨mc134⟩⟩
      rw [if_pos c34] at H
      have c34b0 : ((rd l0_2 (rd l1 x23_2)) == (-9999)) = true := beq_iff_eq.mpr c34
      have c34b1 : ((rd l0_2 (rd l1 x23_2)) != (-9999)) = false := bne_eq_false_iff_eq.mpr c34
      clear c34
      simp only [Option.some.injEq, Prod.mk.injEq] at H
      obtain ⟨rfl, rfl, rfl, rfl⟩ := H
      have p507 : 0 ≤ (x23_2 : Int) := of_decide_eq_true mc341
      have q507 : x23_2 < (l1.length : Int) := of_decide_eq_true mc341
      obtain ⟨ad507, e507, hx507_0⟩ := Kd.at_int HR1.out x23_2 p507 q507
      cases e507
      replace hx507_0 := (HB.out.cell (World.block_lt_of_cell? w _ hx507_0)).trans hx507_0
      replace p507 := eq_true p507
      replace q507 := eq_true q507
      have hnb35 := NB503_504.out
      have hnc35 := NB504_503.out
      have hnb36 := NB503_505.out
      have hnc36 := NB505_503.out
      have hcz37_0 : wr.cell? ⟨gb503, 0, none⟩ = some (.int .i64 a0_0) := bc_ BK503 0 rfl
      have hcz37_1 : wr.cell? ⟨gb503, 1, none⟩ = some (.int .i64 a0_1) := bc_ BK503 1 rfl
      have hcz37_2 : wr.cell? ⟨gb503, 2, none⟩ = some (.slice A0_2 l0_2.length c0_2) := bc_ BK503 2 rfl
      have hfz37_0 := blk_frozen BK503.out 0
      have hfz37_1 := blk_frozen BK503.out 1
      have hfz37_2 := blk_frozen BK503.out 2
      have p508 : 0 ≤ ((rd l1 x23_2) : Int) := of_decide_eq_true mc341
      have q508 : (rd l1 x23_2) < (l0_2.length : Int) := of_decide_eq_true mc341
      obtain ⟨ad508, e508, hx508_0⟩ := Kd.at_int HR0_2.out (rd l1 x23_2) p508 q508
      cases e508
      replace hx508_0 := (HB.out.cell (World.block_lt_of_cell? w _ hx508_0)).trans hx508_0
      replace p508 := eq_true p508
      replace q508 := eq_true q508
      have hnb38 := NB505_504.out
      have hnc38 := NB504_505.out
      have hcz39_0 : wr.cell? ⟨gb505, 0, none⟩ = some (.int .i64 x506000_2) := bc_ BK505 0 rfl
      have hcz39_1 : wr.cell? ⟨gb505, 1, none⟩ = some (.int .i64 x506001_2) := bc_ BK505 1 rfl
      have hcz39_2 : wr.cell? ⟨gb505, 2, none⟩ = some (.slice none 0 0) := bc_ BK505 2 rfl
      have hfz39_0 := blk_frozen BK505.out 0
      have hfz39_1 := blk_frozen BK505.out 1
      have hfz39_2 := blk_frozen BK505.out 2
      go_wp2
      refine bodyPost_ret (results_ct rfl _ _ gb505 26 #[.int .i64 0, .int .i64 0, .slice none 0 0] (0, 0) _ rfl (by (with_reducible repeat (first | refine blk_drewN ?_ _ | refine blk_drew ?_ | refine blk_alloc ?_ _)); refine blk_put (cs := #[.int .i64 0, .int .i64 0, .slice none 0 0]) ?_ 2 _ rfl; (with_reducible repeat (first | refine blk_drewN ?_ _ | refine blk_drew ?_ | refine blk_alloc ?_ _)); refine blk_put (cs := #[.int .i64 0, .int .i64 x506001_2, .slice none 0 0]) ?_ 1 _ rfl; (with_reducible repeat (first | refine blk_drewN ?_ _ | refine blk_drew ?_ | refine blk_alloc ?_ _)); refine blk_put (cs := #[.int .i64 x506000_2, .int .i64 x506001_2, .slice none 0 0]) ?_ 0 _ rfl; (with_reducible repeat (first | refine blk_drewN ?_ _ | refine blk_drew ?_ | refine blk_alloc ?_ _)); exact BK505.out) Try.underlying26 rfl kr_) rfl ?_
      exact ⟨_, mc332, mc246, mc134⟩
     rw [if_neg c29] at H
     have c29b0 : decide (x23_2 < (l1.length : Int)) = false := decide_eq_false c29
     clear c29
     obtain ⟨t510, A430, H⟩ := oB_ H
     have A43 := A_ A430
     clear A430
     obtain ⟨t513, A440, H⟩ := oB_ H
     have A44 := A_ A440
     clear A440
     obtain ⟨⟨t514, t515, t516, t519⟩, A450, H⟩ := oB_ H
     have A45 := A_ A450
     clear A450
     simp only [Option.some.injEq, Prod.mk.injEq] at H
     obtain ⟨rfl, rfl, rfl, rfl⟩ := H
     have hnb46 := NB504_503.out
     have hnc46 := NB503_504.out
     have hnb47 := NB504_505.out
     have hnc47 := NB505_504.out
     have hcz48_0 : wr.cell? ⟨gb504, 0, none⟩ = some (.slice A1 l1.length c1) := bc_ BK504 0 rfl
     have hfz48_0 := blk_frozen BK504.out 0
     go_wp2_with (first | ((with_reducible refine gc_ 72 rfl ?_); refine goesL_ (some 45) rfl rfl Try.func72 kr_ rfl #[.int .i64 x6_2, .int .i64 (l1.length : Int)] rfl mc247 ?_; (with_reducible refine (impl_floorDiv.calls x6_2 (l1.length : Int) t510 _ A43.out).mono ?_); rintro e w' ⟨rfl, ⟨nd, rfl⟩⟩; refine ⟨_, rfl, ?_⟩; (try (rw [drewN_self wr]; generalize hq_ : World.drewN wr _ = wr; have n0_ : Aside0 (wr.heap[gb503]? = some (.cells #[.int .i64 a0_0, .int .i64 a0_1, .slice A0_2 l0_2.length c0_2] 26 (0, 0))) := ⟨by rw [← hq_]; exact mc294⟩; have n1_ : Aside0 (wr.heap[gb504]? = some (.cells #[.slice A1 l1.length c1] 24 (0, 0))) := ⟨by rw [← hq_]; exact mc295⟩; have n2_ : Aside0 (wr.heap[gb505]? = some (.cells #[.int .i64 x506000_2, .int .i64 x506001_2, .slice none 0 0] 26 (0, 0))) := ⟨by rw [← hq_]; exact mc296⟩; have n3_ : Aside0 (Below w.heap.size w wr) := ⟨by rw [← hq_]; exact mc134⟩; clear BK503 BK504 BK505 HB hq_; have BK503 := n0_; have BK504 := n1_; have BK505 := n2_; have HB := n3_; clear n0_ n1_ n2_ n3_))) | ((with_reducible refine gd_ 9 rfl ?_); (try (refine gate_guard (by rfl) ?_; dsimp only)); refine box_event rfl (N := 9) rfl (cs := #[.int .i64 0]) (t := 3) mc353 ?_; intro gb511 hg w49 hbox hb; have BK511 := A_ (hbox); have GW511 := A_ ((mc88 : w.heap.size ≤ gb511)); have GE511 := A_ ((mc88 : w.heap.size ≤ gb511)); replace HB := A_ (below_step mc134 hb); have NB503_511 := A_ ((mc239 : gb503 ≠ gb511)); have NB511_503 := A_ ((mc240 : gb511 ≠ gb503)); replace BK503 := A_ (blk_below mc294 hb); have NB504_511 := A_ ((by rw [hg]; exact Nat.ne_of_lt (blk_lt mc295) : gb504 ≠ gb511)); have NB511_504 := A_ ((by rw [hg]; exact Nat.ne_of_gt (blk_lt mc295) : gb511 ≠ gb504)); replace BK504 := A_ (blk_below mc295 hb); have NB505_511 := A_ ((by rw [hg]; exact Nat.ne_of_lt (blk_lt mc296) : gb505 ≠ gb511)); have NB511_505 := A_ ((by rw [hg]; exact Nat.ne_of_gt (blk_lt mc296) : gb511 ≠ gb505)); replace BK505 := A_ (blk_below mc296 hb); clear hb hbox hg; have hnb50 := NB511_503.out; have hnc50 := NB503_511.out; have hnb51 := NB511_504.out; have hnc51 := NB504_511.out; have hnb52 := NB511_505.out; have hnc52 := NB505_511.out; have hcz53_0 : w49.cell? ⟨gb511, 0, none⟩ = some (.int .i64 0) := bc_ BK511 0 rfl; have hfz53_0 := blk_frozen BK511.out 0; have hcz54_0 : w49.cell? ⟨gb504, 0, none⟩ = some (.slice A1 l1.length c1) := bc_ BK504 0 rfl; have hfz54_0 := blk_frozen BK504.out 0) | ((with_reducible refine gd_ 10 rfl ?_); (try (refine gate_guard (by rfl) ?_; dsimp only)); refine box_event rfl (N := 10) rfl (cs := #[.int .i64 0]) (t := 3) mc353 ?_; intro gb512 hg w55 hbox hb; have BK512 := A_ (hbox); have GW512 := A_ ((mc75 : w.heap.size ≤ gb512)); have GE512 := A_ ((mc75 : w.heap.size ≤ gb512)); replace HB := A_ (below_step mc89 hb); have NB503_512 := A_ ((by rw [hg]; exact Nat.ne_of_lt (blk_lt (g := gb503) (o := .cells #[.int .i64 a0_0, .int .i64 a0_1, .slice A0_2 l0_2.length c0_2] 26 (0, 0)) mc94) : gb503 ≠ gb512)); have NB512_503 := A_ ((by rw [hg]; exact Nat.ne_of_gt (blk_lt (g := gb503) (o := .cells #[.int .i64 a0_0, .int .i64 a0_1, .slice A0_2 l0_2.length c0_2] 26 (0, 0)) mc94) : gb512 ≠ gb503)); replace BK503 := A_ (blk_below (g := gb503) (o := .cells #[.int .i64 a0_0, .int .i64 a0_1, .slice A0_2 l0_2.length c0_2] 26 (0, 0)) mc94 hb); have NB504_512 := A_ ((by rw [hg]; exact Nat.ne_of_lt (blk_lt (g := gb504) (o := .cells #[.slice A1 l1.length c1] 24 (0, 0)) mc95) : gb504 ≠ gb512)); have NB512_504 := A_ ((by rw [hg]; exact Nat.ne_of_gt (blk_lt (g := gb504) (o := .cells #[.slice A1 l1.length c1] 24 (0, 0)) mc95) : gb512 ≠ gb504)); replace BK504 := A_ (blk_below (g := gb504) (o := .cells #[.slice A1 l1.length c1] 24 (0, 0)) mc95 hb); have NB505_512 := A_ ((by rw [hg]; exact Nat.ne_of_lt (blk_lt (g := gb505) (o := .cells #[.int .i64 x506000_2, .int .i64 x506001_2, .slice none 0 0] 26 (0, 0)) mc96) : gb505 ≠ gb512)); have NB512_505 := A_ ((by rw [hg]; exact Nat.ne_of_gt (blk_lt (g := gb505) (o := .cells #[.int .i64 x506000_2, .int .i64 x506001_2, .slice none 0 0] 26 (0, 0)) mc96) : gb512 ≠ gb505)); replace BK505 := A_ (blk_below (g := gb505) (o := .cells #[.int .i64 x506000_2, .int .i64 x506001_2, .slice none 0 0] 26 (0, 0)) mc96 hb); have NB511_512 := A_ ((by rw [hg]; exact Nat.ne_of_lt (blk_lt (g := gb511) (o := .cells #[.int .i64 t510] 3 (0, 0)) mc81) : gb511 ≠ gb512)); have NB512_511 := A_ ((by rw [hg]; exact Nat.ne_of_gt (blk_lt (g := gb511) (o := .cells #[.int .i64 t510] 3 (0, 0)) mc81) : gb512 ≠ gb511)); replace BK511 := A_ (blk_below (g := gb511) (o := .cells #[.int .i64 t510] 3 (0, 0)) mc81 hb); clear hb hbox hg; have hnb56 := NB512_503.out; have hnc56 := NB503_512.out; have hnb57 := NB512_504.out; have hnc57 := NB504_512.out; have hnb58 := NB512_505.out; have hnc58 := NB505_512.out; have hnb59 := NB512_511.out; have hnc59 := NB511_512.out; have hcz60_0 : w55.cell? ⟨gb512, 0, none⟩ = some (.int .i64 0) := bc_ BK512 0 rfl; have hfz60_0 := blk_frozen BK512.out 0; have hnb61 := NB503_505.out; have hnc61 := NB505_503.out; have hcz62_0 : w55.cell? ⟨gb503, 0, none⟩ = some (.int .i64 a0_0) := bc_ BK503 0 rfl; have hcz62_1 : w55.cell? ⟨gb503, 1, none⟩ = some (.int .i64 a0_1) := bc_ BK503 1 rfl; have hcz62_2 : w55.cell? ⟨gb503, 2, none⟩ = some (.slice A0_2 l0_2.length c0_2) := bc_ BK503 2 rfl; have hfz62_0 := blk_frozen BK503.out 0; have hfz62_1 := blk_frozen BK503.out 1; have hfz62_2 := blk_frozen BK503.out 2; have hcz63_0 : w55.cell? ⟨gb504, 0, none⟩ = some (.slice A1 l1.length c1) := bc_ BK504 0 rfl; have hfz63_0 := blk_frozen BK504.out 0; have hcz64_0 : w55.cell? ⟨gb511, 0, none⟩ = some (.int .i64 t510) := bc_ BK511 0 rfl; have hfz64_0 := blk_frozen BK511.out 0) | ((with_reducible refine gc_ 60 rfl ?_); refine goesL_ (some 55) rfl rfl Try.func60 kr_ rfl #[.agg #[.int .i64 a0_0, .int .i64 a0_1, .slice A0_2 l0_2.length c0_2], .slice A1 l1.length c1, .func (.func 73) #[] #[.pointer (some ⟨gb504, 0, none⟩), .pointer (some ⟨gb512, 0, none⟩), .pointer (some ⟨gb511, 0, none⟩)]] rfl mc247 ?_; (with_reducible refine (impl_editedField.calls k2 a0_0 a0_1 _ _ l0_2 _ _ l1 t513 73 #[.pointer (some ⟨gb504, 0, none⟩), .pointer (some ⟨gb512, 0, none⟩), .pointer (some ⟨gb511, 0, none⟩)] t514 t515 t516 t519 _ ?side1 ?side2 ?side3 ?side4 ?side91 ?side92 A45.out).mono ?_); (case side91 => exact enters_of Try.func73 kr_ rfl); (case side92 => exact (mk_impl_SpreadMean_1.fn _ _ l1 (wrap64 (x6_2 - (wrap64 (t510 * (l1.length : Int))))) t510 t513 _ (by exact Kd.C_below HR1.out mc76) (by exact HC1.out) A44.out gb504 gb512 gb511 mc97 mc82 mc98)); (case side1 => exact Kd.C_below HR0_2.out mc76); (case side2 => exact HC0_2.out); (case side3 => exact Kd.C_below HR1.out mc76); (case side4 => exact HC1.out); rintro e w65 ⟨v517, rfl, ho0, hb⟩; refine ⟨_, rfl, ?_⟩; have HO518 := A_ (Kd.R_lower ho0 (below_size mc76)); replace BK503 := A_ (blk_below (g := gb503) (o := .cells #[.int .i64 a0_0, .int .i64 a0_1, .slice A0_2 l0_2.length c0_2] 26 (0, 0)) (by (with_reducible repeat (first | refine blk_drewN ?_ _ | refine blk_drew ?_ | refine blk_alloc ?_ _)); refine blk_far ?_ NB503_512.out _; (with_reducible repeat (first | refine blk_drewN ?_ _ | refine blk_drew ?_ | refine blk_alloc ?_ _)); exact BK503.out) hb); replace BK504 := A_ (blk_below (g := gb504) (o := .cells #[.slice A1 l1.length c1] 24 (0, 0)) mc97 hb); replace BK505 := A_ (blk_below (g := gb505) (o := .cells #[.int .i64 x506000_2, .int .i64 x506001_2, .slice none 0 0] 26 (0, 0)) (by (with_reducible repeat (first | refine blk_drewN ?_ _ | refine blk_drew ?_ | refine blk_alloc ?_ _)); refine blk_far ?_ NB505_512.out _; (with_reducible repeat (first | refine blk_drewN ?_ _ | refine blk_drew ?_ | refine blk_alloc ?_ _)); exact BK505.out) hb); replace BK511 := A_ (blk_below (g := gb511) (o := .cells #[.int .i64 t510] 3 (0, 0)) mc98 hb); replace BK512 := A_ (blk_below (g := gb512) (o := .cells #[.int .i64 (wrap64 (x6_2 - (wrap64 (t510 * (l1.length : Int)))))] 3 (0, 0)) mc82 hb); replace HB := A_ (below_step mc76 hb); (try clear hb); (try clear ho0); have hcz66_0 : w65.cell? ⟨gb505, 0, none⟩ = some (.int .i64 x506000_2) := bc_ BK505 0 rfl; have hcz66_1 : w65.cell? ⟨gb505, 1, none⟩ = some (.int .i64 x506001_2) := bc_ BK505 1 rfl; have hcz66_2 : w65.cell? ⟨gb505, 2, none⟩ = some (.slice none 0 0) := bc_ BK505 2 rfl; have hfz66_0 := blk_frozen BK505.out 0; have hfz66_1 := blk_frozen BK505.out 1; have hfz66_2 := blk_frozen BK505.out 2; obtain ⟨Ao67, co67, eo67⟩ := Kd.R_slice HO518.out; subst eo67))
     refine bodyPost_ret (results_ct rfl _ _ gb505 26 #[.int .i64 t514, .int .i64 t515, .slice Ao67 t516.length co67] (0, 0) _ rfl (by (with_reducible repeat (first | refine blk_drewN ?_ _ | refine blk_drew ?_ | refine blk_alloc ?_ _)); refine blk_put (cs := #[.int .i64 t514, .int .i64 t515, .slice none 0 0]) ?_ 2 _ rfl; (with_reducible repeat (first | refine blk_drewN ?_ _ | refine blk_drew ?_ | refine blk_alloc ?_ _)); refine blk_put (cs := #[.int .i64 t514, .int .i64 x506001_2, .slice none 0 0]) ?_ 1 _ rfl; (with_reducible repeat (first | refine blk_drewN ?_ _ | refine blk_drew ?_ | refine blk_alloc ?_ _)); refine blk_put (cs := #[.int .i64 x506000_2, .int .i64 x506001_2, .slice none 0 0]) ?_ 0 _ rfl; (with_reducible repeat (first | refine blk_drewN ?_ _ | refine blk_drew ?_ | refine blk_alloc ?_ _)); exact BK505.out) Try.underlying26 rfl kr_) rfl ?_
     exact ⟨_, mc332, by (with_reducible repeat (first | apply Kd.R_alloc | apply Kd.R_drewN | apply Kd.R_drew)); exact Kd.R_mono (Kd.R_far (p := ⟨gb505, 2, none⟩) (Kd.R_far (p := ⟨gb505, 1, none⟩) (Kd.R_far (p := ⟨gb505, 0, none⟩) (Kd.R_types HO518.out BK505.out (by decide)) (fun _ hk => hk.2) (.int .i64 t514)) (fun _ hk => hk.2) (.int .i64 t515)) (fun _ hk => hk.2) (.slice Ao67 t516.length co67)) (fun _ hk => trivial), by repeat (first | (with_reducible first | exact HB.out | apply below_alloc | apply pw_below_drewN | apply below_drew1 | refine below_set ?_ GE503.out | refine below_set ?_ GE504.out | refine below_set ?_ GE505.out | refine below_set ?_ GE511.out | refine below_set ?_ GE512.out) | exact HB.out)⟩

end Go.Proofs.Ytdmkbfjipgaloaa.P
