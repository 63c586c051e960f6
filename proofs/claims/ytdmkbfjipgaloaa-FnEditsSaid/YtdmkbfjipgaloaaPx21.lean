-- Made by pp.py of this session out of the kit's print and of contracts proved by hand; Lean checks it.
import Derived.Test.YtdmkbfjipgaloaaMc
import Derived.Test.YtdmkbfjipgaloaaPx0
import Derived.Test.YtdmkbfjipgaloaaPx4
namespace Go.Proofs.Ytdmkbfjipgaloaa.P
open Go.RowKit Go.Proofs.YtdmkbfjipgaloaaW.PrintWords Go.Proofs.YtdmkbfjipgaloaaW.PrintLast Go.Proofs.YtdmkbfjipgaloaaW.PrintMore
attribute [local go_sem] max2_int min2_int max_two min_two max_three min_three max_four min_four   -- for this text's walks alone
set_option linter.unusedVariables false
set_option linter.unusedSimpArgs false

/-! ### impl_sameShape: function 93 -/
def impl_sameShape.f (a0_0 : Int) (a0_1 : Int) (l0_2 : List Int) (a1_0 : Int) (a1_1 : Int) (l1_2 : List Int) : Option (Bool) := if a0_0 = a1_0 then (some (a0_1 == a1_1)) else (some false)
set_option maxHeartbeats 8000000 in
set_option maxRecDepth 100000 in
theorem impl_sameShape.calls (a0_0 : Int) (a0_1 : Int) (A0_2 : Option Addr) (c0_2 : Nat) (l0_2 : List Int) (a1_0 : Int) (a1_1 : Int) (A1_2 : Option Addr) (c1_2 : Nat) (l1_2 : List Int) (r : Bool) (w : World) (hr0_2 : Kd.C (Kd.int .i64) w A0_2 l0_2.length l0_2) (hc0_2 : l0_2.length ≤ c0_2) (hr1_2 : Kd.C (Kd.int .i64) w A1_2 l1_2.length l1_2) (hc1_2 : l1_2.length ≤ c1_2) (h : impl_sameShape.f a0_0 a0_1 l0_2 a1_0 a1_1 l1_2 = some r) :
  Calls Try.prog 93 #[.agg #[.int .i64 a0_0, .int .i64 a0_1, .slice A0_2 l0_2.length c0_2], .agg #[.int .i64 a1_0, .int .i64 a1_1, .slice A1_2 l1_2.length c1_2]] w fun e w' => e = .returned (.bool r) ∧ Below w.heap.size w w' := by
 have hu26 := Try.underlying26
 have HR0_2 := A_ hr0_2
 have HC0_2 := A_ hc0_2
 clear hr0_2 hc0_2
 have HR1_2 := A_ hr1_2
 have HC1_2 := A_ hc1_2
 clear hr1_2 hc1_2
 have HB := A_ (Below.refl w.heap.size w)
 have H : (if a0_0 = a1_0 then (some (a0_1 == a1_1)) else (some false)) = some r := h
 clear h
 by_cases c3 : a0_0 = a1_0
 ·
  rw [if_pos c3] at H
  have c3b0 : (a0_0 == a1_0) = true := beq_iff_eq.mpr c3
  have c3b1 : (a0_0 != a1_0) = false := bne_eq_false_iff_eq.mpr c3
  clear c3
  obtain rfl := Option.some.inj H
  go_enter Try.func93, Try.ntmps93
  go_wp2_with (first | ((with_reducible refine gd_ 2 rfl ?_); refine box_event rfl (N := 2) rfl (cs := #[.int .i64 a0_0, .int .i64 a0_1, .slice A0_2 l0_2.length c0_2]) (t := 26) mc353 ?_; intro gb426 hg w4 hbox hb; have BK426 := A_ (hbox); have GW426 := A_ ((mc213 : w.heap.size ≤ gb426)); have GE426 := A_ ((mc213 : w.heap.size ≤ gb426)); replace HB := A_ (below_step mc249 hb); clear hb hbox hg) | ((with_reducible refine gd_ 3 rfl ?_); refine box_event rfl (N := 3) rfl (cs := #[.int .i64 a1_0, .int .i64 a1_1, .slice A1_2 l1_2.length c1_2]) (t := 26) mc353 ?_; intro gb427 hg w5 hbox hb; have BK427 := A_ (hbox); have GW427 := A_ ((mc172 : w.heap.size ≤ gb427)); have GE427 := A_ ((mc172 : w.heap.size ≤ gb427)); replace HB := A_ (below_step mc224 hb); have NB426_427 := A_ ((by rw [hg]; exact Nat.ne_of_lt (blk_lt mc281) : gb426 ≠ gb427)); have NB427_426 := A_ ((by rw [hg]; exact Nat.ne_of_gt (blk_lt mc281) : gb427 ≠ gb426)); replace BK426 := A_ (blk_below mc281 hb); clear hb hbox hg; have hnb6 := NB426_427.out; have hnc6 := NB427_426.out; have hcz7_0 : w5.cell? ⟨gb426, 0, none⟩ = some (.int .i64 a0_0) := bc_ BK426 0 rfl; have hcz7_1 : w5.cell? ⟨gb426, 1, none⟩ = some (.int .i64 a0_1) := bc_ BK426 1 rfl; have hcz7_2 : w5.cell? ⟨gb426, 2, none⟩ = some (.slice A0_2 l0_2.length c0_2) := bc_ BK426 2 rfl; have hfz7_0 := blk_frozen BK426.out 0; have hfz7_1 := blk_frozen BK426.out 1; have hfz7_2 := blk_frozen BK426.out 2; have hcz8_0 : w5.cell? ⟨gb427, 0, none⟩ = some (.int .i64 a1_0) := bc_ BK427 0 rfl; have hcz8_1 : w5.cell? ⟨gb427, 1, none⟩ = some (.int .i64 a1_1) := bc_ BK427 1 rfl; have hcz8_2 : w5.cell? ⟨gb427, 2, none⟩ = some (.slice A1_2 l1_2.length c1_2) := bc_ BK427 2 rfl; have hfz8_0 := blk_frozen BK427.out 0; have hfz8_1 := blk_frozen BK427.out 1; have hfz8_2 := blk_frozen BK427.out 2))
  go_ret
  exact ⟨mc332, mc193⟩
 rw [if_neg c3] at H
 have c3b0 : (a0_0 == a1_0) = false := beq_eq_false_iff_ne.mpr c3
 have c3b1 : (a0_0 != a1_0) = true := bne_iff_ne.mpr c3
 obtain rfl := Option.some.inj H
 go_enter Try.func93, Try.ntmps93
 go_wp2_with (first | ((with_reducible refine gd_ 2 rfl ?_); refine box_event rfl (N := 2) rfl (cs := #[.int .i64 a0_0, .int .i64 a0_1, .slice A0_2 l0_2.length c0_2]) (t := 26) mc353 ?_; intro gb426 hg w9 hbox hb; have BK426 := A_ (hbox); have GW426 := A_ ((mc213 : w.heap.size ≤ gb426)); have GE426 := A_ ((mc213 : w.heap.size ≤ gb426)); replace HB := A_ (below_step mc249 hb); clear hb hbox hg) | ((with_reducible refine gd_ 3 rfl ?_); refine box_event rfl (N := 3) rfl (cs := #[.int .i64 a1_0, .int .i64 a1_1, .slice A1_2 l1_2.length c1_2]) (t := 26) mc353 ?_; intro gb427 hg w10 hbox hb; have BK427 := A_ (hbox); have GW427 := A_ ((mc172 : w.heap.size ≤ gb427)); have GE427 := A_ ((mc172 : w.heap.size ≤ gb427)); replace HB := A_ (below_step mc224 hb); have NB426_427 := A_ ((by rw [hg]; exact Nat.ne_of_lt (blk_lt mc281) : gb426 ≠ gb427)); have NB427_426 := A_ ((by rw [hg]; exact Nat.ne_of_gt (blk_lt mc281) : gb427 ≠ gb426)); replace BK426 := A_ (blk_below mc281 hb); clear hb hbox hg; have hnb11 := NB426_427.out; have hnc11 := NB427_426.out; have hcz12_0 : w10.cell? ⟨gb426, 0, none⟩ = some (.int .i64 a0_0) := bc_ BK426 0 rfl; have hcz12_1 : w10.cell? ⟨gb426, 1, none⟩ = some (.int .i64 a0_1) := bc_ BK426 1 rfl; have hcz12_2 : w10.cell? ⟨gb426, 2, none⟩ = some (.slice A0_2 l0_2.length c0_2) := bc_ BK426 2 rfl; have hfz12_0 := blk_frozen BK426.out 0; have hfz12_1 := blk_frozen BK426.out 1; have hfz12_2 := blk_frozen BK426.out 2; have hcz13_0 : w10.cell? ⟨gb427, 0, none⟩ = some (.int .i64 a1_0) := bc_ BK427 0 rfl; have hcz13_1 : w10.cell? ⟨gb427, 1, none⟩ = some (.int .i64 a1_1) := bc_ BK427 1 rfl; have hcz13_2 : w10.cell? ⟨gb427, 2, none⟩ = some (.slice A1_2 l1_2.length c1_2) := bc_ BK427 2 rfl; have hfz13_0 := blk_frozen BK427.out 0; have hfz13_1 := blk_frozen BK427.out 1; have hfz13_2 := blk_frozen BK427.out 2))
 go_ret
 exact ⟨mc332, mc193⟩

/-! ### impl_areAlike: function 64 -/
def impl_areAlike.l0 : Nat → List (S26) → List (S26) → Int → Int → Option (Bool)
 | 0, _, _, _, _ => none
 | k + 1, x0, x5, x6, x7 => if x7 < x6 then (if 0 ≤ x7 then (if x7 < (x5.length : Int) then ((impl_IsValidField.f ((rd_T26 x5 x7).f0) ((rd_T26 x5 x7).f1) ((rd_T26 x5 x7).f2)).bind fun t430 => (if t430 = true then (if 0 < (x0.length : Int) then ((impl_sameShape.f ((rd_T26 x5 x7).f0) ((rd_T26 x5 x7).f1) ((rd_T26 x5 x7).f2) ((rd_T26 x0 0).f0) ((rd_T26 x0 0).f1) ((rd_T26 x0 0).f2)).bind fun t432 => (if t432 = true then (impl_areAlike.l0 k x0 x5 x6 (wrap64 (x7 + 1))) else (some false))) else (none)) else (some false))) else (none)) else (none)) else (some true)
def impl_areAlike.f (k : Nat) (l0 : List (S26)) : Option (Bool) := impl_areAlike.l0 k l0 l0 (l0.length : Int) 0
def impl_areAlike.T4 : Bool × List (List Nat × List Nat) := (true, [([], []), ([0], [0]), ([1], [1]), ([2, 1], [2]), ([3], [3]), ([3], [3]), ([5, 3], [3, 5]), ([6, 3], [3, 6]), ([4, 7, 3, 3], [3, 4, 7]), ([8, 3], [3, 8]), ([3, 9], [3, 9])])
def impl_areAlike.B4 : List Nat := [0, 1, 3, 7, 15, 15, 47, 111, 255, 511, 1023]
theorem impl_areAlike.tab4 : rtab .any (opsOf Try.f64 4) = impl_areAlike.T4 := by kernel_rfl
theorem impl_areAlike.bits4 : waitsOk impl_areAlike.T4.2 impl_areAlike.B4 = true := by kernel_rfl
set_option maxHeartbeats 8000000 in
set_option maxRecDepth 100000 in
theorem impl_areAlike.calls (k : Nat) (A0 : Option Addr) (c0 : Nat) (l0 : List (S26)) (r : Bool) (w : World) (hr0 : Kd.C k26 w A0 l0.length l0) (hc0 : l0.length ≤ c0) (h : impl_areAlike.f k l0 = some r) :
  Calls Try.prog 64 #[.slice A0 l0.length c0] w fun e w' => e = .returned (.bool r) ∧ Below w.heap.size w w' := by
 have hu26 := Try.underlying26
 have HR0 := A_ hr0
 have HC0 := A_ hc0
 clear hr0 hc0
 have HB := A_ (Below.refl w.heap.size w)
 have H : (impl_areAlike.l0 k l0 l0 (l0.length : Int) 0) = some r := h
 clear h
 have H' := A_ H
 clear H
 go_enter Try.func64, Try.ntmps64
 go_wp2
 go_loopg [7] k (fun kq v7 w' => ∃ (x7_1 : Int), v7 = .int .i64 x7_1 ∧ Aside0 (impl_areAlike.l0 kq l0 l0 (l0.length : Int) x7_1 = some r) ∧ Aside0 (kq ≤ k) ∧ Aside0 (Below w.heap.size w w'))
 case atStart => exact ⟨(0), mc352, H', ⟨Nat.le_refl _⟩, ⟨mc249⟩⟩
 case round =>
  clear H'
  obtain ⟨x7_1, rfl, HA, HK1, HB⟩ := hrel
  cases gk with
  | zero => exact absurd HA.out (by simp [impl_areAlike.l0])
  | succ k1 =>
   have H := HA.out
   clear HA
   simp only [impl_areAlike.l0] at H
   by_cases c2 : x7_1 < (l0.length : Int)
   rotate_left
   ·
    rw [if_neg c2] at H
    have c2b0 : decide (x7_1 < (l0.length : Int)) = false := decide_eq_false c2
    clear c2
    obtain rfl := Option.some.inj H
    go_wp2
    go_ret
    exact ⟨mc332, mc249⟩
   rw [if_pos c2] at H
   have c2b0 : decide (x7_1 < (l0.length : Int)) = true := decide_eq_true c2
   clear c2
   by_cases c3 : 0 ≤ x7_1
   rotate_left
   ·
    rw [if_neg c3] at H
    exact absurd H (by simp)
   rw [if_pos c3] at H
   have c3b0 : decide (0 ≤ x7_1) = true := decide_eq_true c3
   clear c3
   by_cases c4 : x7_1 < (l0.length : Int)
   rotate_left
   ·
    rw [if_neg c4] at H
    exact absurd H (by simp)
   rw [if_pos c4] at H
   have c4b0 : decide (x7_1 < (l0.length : Int)) = true := decide_eq_true c4
   clear c4
   obtain ⟨t430, A50, H⟩ := oB_ H
   have A5 := A_ A50
   clear A50
   by_cases c6 : t430 = true
   rotate_left
   ·
    replace c6 := Bool.eq_false_iff.mpr c6
    subst c6
    rw [if_neg (show ¬ (false = true) by decide)] at H
    obtain rfl := Option.some.inj H
    have p428 : 0 ≤ (x7_1 : Int) := of_decide_eq_true mc341
    have q428 : x7_1 < (l0.length : Int) := of_decide_eq_true mc341
    obtain ⟨ad428, A428_2, c428_2, e428, hx428_0, hx428_1, hx428_2, hl428_2, hi428_2⟩ := at_T26 HR0.out x7_1 p428 q428
    cases e428
    replace hx428_0 := (HB.out.cell (World.block_lt_of_cell? w _ hx428_0)).trans hx428_0
    replace hx428_1 := (HB.out.cell (World.block_lt_of_cell? w _ hx428_1)).trans hx428_1
    replace hx428_2 := (HB.out.cell (World.block_lt_of_cell? w _ hx428_2)).trans hx428_2
    have HR428_2 := A_ hi428_2
    have HC428_2 := A_ hl428_2
    clear hi428_2 hl428_2
    replace p428 := eq_true p428
    replace q428 := eq_true q428
    try go_wp2_with (first | ((with_reducible refine gd_ 4 rfl ?_); refine box_event rfl (N := 4) rfl (cs := #[.int .i64 0, .int .i64 0, .slice none 0 0]) (t := 26) mc353 ?_; intro gb429 hg w22 hbox hb; have BK429 := A_ (hbox); have GW429 := A_ ((mc213 : w.heap.size ≤ gb429)); have GE429 := A_ ((mc213 : w.heap.size ≤ gb429)); replace HB := A_ (below_step mc249 hb); clear hb hbox hg; have hcz23_0 : w22.cell? ⟨gb429, 0, none⟩ = some (.int .i64 0) := bc_ BK429 0 rfl; have hcz23_1 : w22.cell? ⟨gb429, 1, none⟩ = some (.int .i64 0) := bc_ BK429 1 rfl; have hcz23_2 : w22.cell? ⟨gb429, 2, none⟩ = some (.slice none 0 0) := bc_ BK429 2 rfl; have hfz23_0 := blk_frozen BK429.out 0; have hfz23_1 := blk_frozen BK429.out 1; have hfz23_2 := blk_frozen BK429.out 2))
    have n0_ : Aside0 ((((w22.setCell ⟨gb429, 0, none⟩ (.int .i64 ((rd_T26 l0 x7_1).f0))).setCell ⟨gb429, 1, none⟩ (.int .i64 ((rd_T26 l0 x7_1).f1))).setCell ⟨gb429, 2, none⟩ (.slice A428_2 ((rd_T26 l0 x7_1).f2).length c428_2)).heap[gb429]? = some (.cells #[.int .i64 ((rd_T26 l0 x7_1).f0), .int .i64 ((rd_T26 l0 x7_1).f1), .slice A428_2 ((rd_T26 l0 x7_1).f2).length c428_2] 26 (0, 0))) := ⟨mc0⟩
    have n1_ : Aside0 (Below w.heap.size w (((w22.setCell ⟨gb429, 0, none⟩ (.int .i64 ((rd_T26 l0 x7_1).f0))).setCell ⟨gb429, 1, none⟩ (.int .i64 ((rd_T26 l0 x7_1).f1))).setCell ⟨gb429, 2, none⟩ (.slice A428_2 ((rd_T26 l0 x7_1).f2).length c428_2))) := ⟨mc225⟩
    (try clear BK429)
    (try clear HB)
    generalize (((w22.setCell ⟨gb429, 0, none⟩ (.int .i64 ((rd_T26 l0 x7_1).f0))).setCell ⟨gb429, 1, none⟩ (.int .i64 ((rd_T26 l0 x7_1).f1))).setCell ⟨gb429, 2, none⟩ (.slice A428_2 ((rd_T26 l0 x7_1).f2).length c428_2)) = w24 at n0_ n1_ ⊢
    have BK429 := n0_
    have HB := n1_
    clear n0_ n1_
    replace BK429 := A_ (blk_drew BK429.out)
    replace HB := A_ (below_drew1 HB.out)
    refine start_ (n := 11) (S := fun w' => w'.cell? ⟨gb429, 0, none⟩ = some (.int .i64 ((rd_T26 l0 x7_1).f0)) ∧ w'.cell? ⟨gb429, 1, none⟩ = some (.int .i64 ((rd_T26 l0 x7_1).f1)) ∧ w'.cell? ⟨gb429, 2, none⟩ = some (.slice A428_2 ((rd_T26 l0 x7_1).f2).length c428_2)) (ds := []) #[false, false, false, false, false, false, false, false, false, false, false] kr_ rfl rfl ⟨bc_ BK429 0 rfl, bc_ BK429 1 rfl, bc_ BK429 2 rfl⟩ (fun hHeld => ?_); refine with_tabW impl_areAlike.tab4 impl_areAlike.bits4 (fun HT_ HW_ => ?_)
    generalize w24.drew = w25 at BK429 HB hHeld ⊢
    refine take_ (i := 0) (N := some 11) #[true, false, false, false, false, false, false, false, false, false, false] rfl rfl (take_ofW HT_.out HW_.out kr_) (fun _ _ _ h => h) (Or.inl ⟨by rfl, mc340⟩) hHeld mc312 ?_
    refine one_ (i := 1) (N := some 12) #[true, true, false, false, false, false, false, false, false, false, false] rfl rfl (one_of HT_.out kr_) (by decide) (fun K hK => ?_)
    refine goes_ Try.func80 kr_ rfl #[.agg #[.int .i64 ((rd_T26 l0 x7_1).f0), .int .i64 ((rd_T26 l0 x7_1).f1), .slice A428_2 ((rd_T26 l0 x7_1).f2).length c428_2]] (by rfl) rfl rfl mc247 ?_
    with_reducible refine (impl_IsValidField.calls ((rd_T26 l0 x7_1).f0) ((rd_T26 l0 x7_1).f1) _ _ ((rd_T26 l0 x7_1).f2) false _ ?side1 ?side2 A5.out).mono ?_
    (case side1 => exact mc199)
    (case side2 => exact HC428_2.out)
    rintro e w26 ⟨rfl, hb⟩
    refine ⟨_, rfl, ?_⟩
    replace BK429 := A_ (blk_below mc282 hb)
    replace HB := A_ (below_step mc225 hb)
    (try clear hb)
    refine hK.out _ _ ⟨bc_ BK429 0 rfl, bc_ BK429 1 rfl, bc_ BK429 2 rfl⟩ (fun hHeld => ?_)
    clear hK K
    refine norm_ mc248 ?_
    refine pure_ (i := 2) (N := some 13) #[true, true, true, false, false, false, false, false, false, false, false] rfl rfl (any_of HT_.out kr_) (fun _ _ _ h => h) (Or.inl ⟨by rfl, mc354⟩) mc312 ?_
    refine pure_ (i := 3) (N := some 14) #[true, true, true, true, false, false, false, false, false, false, false] rfl rfl (any_of HT_.out kr_) (fun _ _ _ h => h) (Or.inl ⟨by rfl, mc354⟩) mc312 ?_
    refine pure_ (i := 4) (N := some 15) (v := undef) (a' := ?_) #[true, true, true, true, true, false, false, false, false, false, false] rfl rfl (any_of HT_.out kr_) (fun _ _ _ h => h) (Or.inr ⟨by rfl, rfl⟩) ?_ ?_
    rotate_left
    ·
     simp only [Act.put, List.setIfInBounds_toArray, List.set_cons_zero, List.set_cons_succ, i64_w, i32_w]
     rfl
    refine pure_ (i := 5) (N := some 16) (v := undef) (a' := ?_) #[true, true, true, true, true, true, false, false, false, false, false] rfl rfl (any_of HT_.out kr_) (fun _ _ _ h => h) (Or.inr ⟨by rfl, rfl⟩) ?_ ?_
    rotate_left
    ·
     simp only [Act.put, List.setIfInBounds_toArray, List.set_cons_zero, List.set_cons_succ, i64_w, i32_w]
     rfl
    refine pure_ (i := 6) (N := some 17) (v := undef) (a' := ?_) #[true, true, true, true, true, true, true, false, false, false, false] rfl rfl (any_of HT_.out kr_) (fun _ _ _ h => h) (Or.inr ⟨by rfl, rfl⟩) ?_ ?_
    rotate_left
    ·
     simp only [Act.put, List.setIfInBounds_toArray, List.set_cons_zero, List.set_cons_succ, i64_w, i32_w]
     rfl
    refine pure_ (i := 7) (N := some 18) (v := undef) (a' := ?_) #[true, true, true, true, true, true, true, true, false, false, false] rfl rfl (any_of HT_.out kr_) (fun _ _ _ h => h) (Or.inr ⟨by rfl, rfl⟩) ?_ ?_
    rotate_left
    ·
     simp only [Act.put, List.setIfInBounds_toArray, List.set_cons_zero, List.set_cons_succ, i64_w, i32_w]
     rfl
    refine pure_ (i := 8) (N := some 19) (v := undef) (a' := ?_) #[true, true, true, true, true, true, true, true, true, false, false] rfl rfl (any_of HT_.out kr_) (fun _ _ _ h => h) (Or.inr ⟨by rfl, rfl⟩) ?_ ?_
    rotate_left
    ·
     simp only [Act.put, List.setIfInBounds_toArray, List.set_cons_zero, List.set_cons_succ, i64_w, i32_w]
     rfl
    refine pure_ (i := 9) (N := some 20) (v := undef) (a' := ?_) #[true, true, true, true, true, true, true, true, true, true, false] rfl rfl (any_of HT_.out kr_) (fun _ _ _ h => h) (Or.inr ⟨by rfl, rfl⟩) ?_ ?_
    rotate_left
    ·
     simp only [Act.put, List.setIfInBounds_toArray, List.set_cons_zero, List.set_cons_succ, i64_w, i32_w]
     rfl
    refine pure_ (i := 10) (N := some 21) #[true, true, true, true, true, true, true, true, true, true, true] rfl rfl (any_of HT_.out kr_) (fun _ _ _ h => h) (Or.inl ⟨by rfl, mc354⟩) mc312 ?_
    refine done_ (done_of HT_.out kr_) ?_
    try go_wp2
    go_ret
    exact ⟨mc332, mc225⟩
   subst c6
   rw [if_pos rfl] at H
   by_cases c7 : 0 < (l0.length : Int)
   rotate_left
   ·
    rw [if_neg c7] at H
    exact absurd H (by simp)
   rw [if_pos c7] at H
   have c7b0 : decide (0 < (l0.length : Int)) = true := decide_eq_true c7
   have c7b1 : decide (0 < l0.length) = true := decide_eq_true (by omega)
   clear c7
   obtain ⟨t432, A80, H⟩ := oB_ H
   have A8 := A_ A80
   clear A80
   by_cases c9 : t432 = true
   rotate_left
   ·
    replace c9 := Bool.eq_false_iff.mpr c9
    subst c9
    rw [if_neg (show ¬ (false = true) by decide)] at H
    obtain rfl := Option.some.inj H
    have p428 : 0 ≤ (x7_1 : Int) := of_decide_eq_true mc341
    have q428 : x7_1 < (l0.length : Int) := of_decide_eq_true mc341
    obtain ⟨ad428, A428_2, c428_2, e428, hx428_0, hx428_1, hx428_2, hl428_2, hi428_2⟩ := at_T26 HR0.out x7_1 p428 q428
    cases e428
    replace hx428_0 := (HB.out.cell (World.block_lt_of_cell? w _ hx428_0)).trans hx428_0
    replace hx428_1 := (HB.out.cell (World.block_lt_of_cell? w _ hx428_1)).trans hx428_1
    replace hx428_2 := (HB.out.cell (World.block_lt_of_cell? w _ hx428_2)).trans hx428_2
    have HR428_2 := A_ hi428_2
    have HC428_2 := A_ hl428_2
    clear hi428_2 hl428_2
    replace p428 := eq_true p428
    replace q428 := eq_true q428
    try go_wp2_with (first | ((with_reducible refine gd_ 4 rfl ?_); refine box_event rfl (N := 4) rfl (cs := #[.int .i64 0, .int .i64 0, .slice none 0 0]) (t := 26) mc353 ?_; intro gb429 hg w16 hbox hb; have BK429 := A_ (hbox); have GW429 := A_ ((mc213 : w.heap.size ≤ gb429)); have GE429 := A_ ((mc213 : w.heap.size ≤ gb429)); replace HB := A_ (below_step mc249 hb); clear hb hbox hg; have hcz17_0 : w16.cell? ⟨gb429, 0, none⟩ = some (.int .i64 0) := bc_ BK429 0 rfl; have hcz17_1 : w16.cell? ⟨gb429, 1, none⟩ = some (.int .i64 0) := bc_ BK429 1 rfl; have hcz17_2 : w16.cell? ⟨gb429, 2, none⟩ = some (.slice none 0 0) := bc_ BK429 2 rfl; have hfz17_0 := blk_frozen BK429.out 0; have hfz17_1 := blk_frozen BK429.out 1; have hfz17_2 := blk_frozen BK429.out 2))
    have n0_ : Aside0 ((((w16.setCell ⟨gb429, 0, none⟩ (.int .i64 ((rd_T26 l0 x7_1).f0))).setCell ⟨gb429, 1, none⟩ (.int .i64 ((rd_T26 l0 x7_1).f1))).setCell ⟨gb429, 2, none⟩ (.slice A428_2 ((rd_T26 l0 x7_1).f2).length c428_2)).heap[gb429]? = some (.cells #[.int .i64 ((rd_T26 l0 x7_1).f0), .int .i64 ((rd_T26 l0 x7_1).f1), .slice A428_2 ((rd_T26 l0 x7_1).f2).length c428_2] 26 (0, 0))) := ⟨mc0⟩
    have n1_ : Aside0 (Below w.heap.size w (((w16.setCell ⟨gb429, 0, none⟩ (.int .i64 ((rd_T26 l0 x7_1).f0))).setCell ⟨gb429, 1, none⟩ (.int .i64 ((rd_T26 l0 x7_1).f1))).setCell ⟨gb429, 2, none⟩ (.slice A428_2 ((rd_T26 l0 x7_1).f2).length c428_2))) := ⟨mc225⟩
    (try clear BK429)
    (try clear HB)
    generalize (((w16.setCell ⟨gb429, 0, none⟩ (.int .i64 ((rd_T26 l0 x7_1).f0))).setCell ⟨gb429, 1, none⟩ (.int .i64 ((rd_T26 l0 x7_1).f1))).setCell ⟨gb429, 2, none⟩ (.slice A428_2 ((rd_T26 l0 x7_1).f2).length c428_2)) = w18 at n0_ n1_ ⊢
    have BK429 := n0_
    have HB := n1_
    clear n0_ n1_
    replace BK429 := A_ (blk_drew BK429.out)
    replace HB := A_ (below_drew1 HB.out)
    have p431 : 0 ≤ (0 : Int) := (by omega)
    have q431 : 0 < (l0.length : Int) := of_decide_eq_true mc341
    obtain ⟨ad431, A431_2, c431_2, e431, hx431_0, hx431_1, hx431_2, hl431_2, hi431_2⟩ := at_T26 HR0.out 0 p431 q431
    have hw431_2 := hx431_2
    (try rw [show ((0 : Int)).toNat = 0 from rfl] at hw431_2)
    (try rw [show 0 * 3 = 0 from rfl] at hw431_2)
    (try rw [Addr.add_zero'] at hw431_2)
    have hw431_1 := hx431_1
    (try rw [show ((0 : Int)).toNat = 0 from rfl] at hw431_1)
    (try rw [show 0 * 3 = 0 from rfl] at hw431_1)
    (try rw [Addr.add_zero'] at hw431_1)
    have hw431_0 := hx431_0
    (try rw [show ((0 : Int)).toNat = 0 from rfl] at hw431_0)
    (try rw [show 0 * 3 = 0 from rfl] at hw431_0)
    (try rw [Addr.add_zero'] at hw431_0)
    obtain rfl : ad428 = ad431 := (by injection e431)
    have qi431 : (0 < l0.length) = True := eq_true (by omega)
    (try rw [show ((0 : Int)).toNat = 0 from rfl] at hx431_0)
    (try rw [show 0 * 3 = 0 from rfl] at hx431_0)
    (try rw [Addr.add_zero'] at hx431_0)
    (try rw [show ((0 : Int)).toNat = 0 from rfl] at hx431_1)
    (try rw [show 0 * 3 = 0 from rfl] at hx431_1)
    (try rw [Addr.add_zero'] at hx431_1)
    (try rw [show ((0 : Int)).toNat = 0 from rfl] at hx431_2)
    (try rw [show 0 * 3 = 0 from rfl] at hx431_2)
    (try rw [Addr.add_zero'] at hx431_2)
    replace hx431_0 := (HB.out.cell (World.block_lt_of_cell? w _ hx431_0)).trans hx431_0
    replace hx431_1 := (HB.out.cell (World.block_lt_of_cell? w _ hx431_1)).trans hx431_1
    replace hx431_2 := (HB.out.cell (World.block_lt_of_cell? w _ hx431_2)).trans hx431_2
    have HR431_2 := A_ hi431_2
    have HC431_2 := A_ hl431_2
    clear hi431_2 hl431_2
    replace p431 := eq_true p431
    replace q431 := eq_true q431
    refine start_ (n := 11) (S := fun w' => w'.cell? ⟨gb429, 0, none⟩ = some (.int .i64 ((rd_T26 l0 x7_1).f0)) ∧ w'.cell? ⟨gb429, 1, none⟩ = some (.int .i64 ((rd_T26 l0 x7_1).f1)) ∧ w'.cell? ⟨gb429, 2, none⟩ = some (.slice A428_2 ((rd_T26 l0 x7_1).f2).length c428_2) ∧ w'.cell? ad428 = some (.int .i64 ((rd_T26 l0 0).f0)) ∧ w'.cell? ⟨ad428.block, ad428.off + 1, none⟩ = some (.int .i64 ((rd_T26 l0 0).f1)) ∧ w'.cell? ⟨ad428.block, ad428.off + 2, none⟩ = some (.slice A431_2 ((rd_T26 l0 0).f2).length c431_2)) (ds := []) #[false, false, false, false, false, false, false, false, false, false, false] kr_ rfl rfl ⟨bc_ BK429 0 rfl, bc_ BK429 1 rfl, bc_ BK429 2 rfl, ((HB.out.cell (World.block_lt_of_cell? w _ hw431_0)).trans hw431_0), ((HB.out.cell (World.block_lt_of_cell? w _ hw431_1)).trans hw431_1), ((HB.out.cell (World.block_lt_of_cell? w _ hw431_2)).trans hw431_2)⟩ (fun hHeld => ?_); refine with_tabW impl_areAlike.tab4 impl_areAlike.bits4 (fun HT_ HW_ => ?_)
    generalize w18.drew = w19 at BK429 HB HR431_2 hx431_0 hx431_1 hx431_2 hHeld ⊢
    refine take_ (i := 0) (N := some 11) #[true, false, false, false, false, false, false, false, false, false, false] rfl rfl (take_ofW HT_.out HW_.out kr_) (fun _ _ _ h => h) (Or.inl ⟨by rfl, mc336⟩) hHeld mc312 ?_
    refine one_ (i := 1) (N := some 12) #[true, true, false, false, false, false, false, false, false, false, false] rfl rfl (one_of HT_.out kr_) (by decide) (fun K hK => ?_)
    refine goes_ Try.func80 kr_ rfl #[.agg #[.int .i64 ((rd_T26 l0 x7_1).f0), .int .i64 ((rd_T26 l0 x7_1).f1), .slice A428_2 ((rd_T26 l0 x7_1).f2).length c428_2]] (by rfl) rfl rfl mc247 ?_
    with_reducible refine (impl_IsValidField.calls ((rd_T26 l0 x7_1).f0) ((rd_T26 l0 x7_1).f1) _ _ ((rd_T26 l0 x7_1).f2) true _ ?side1 ?side2 A5.out).mono ?_
    (case side1 => exact mc199)
    (case side2 => exact HC428_2.out)
    rintro e w20 ⟨rfl, hb⟩
    refine ⟨_, rfl, ?_⟩
    replace BK429 := A_ (blk_below mc282 hb)
    replace HB := A_ (below_step mc225 hb)
    (try clear hb)
    refine hK.out _ _ ⟨bc_ BK429 0 rfl, bc_ BK429 1 rfl, bc_ BK429 2 rfl, ((HB.out.cell (World.block_lt_of_cell? w _ hw431_0)).trans hw431_0), ((HB.out.cell (World.block_lt_of_cell? w _ hw431_1)).trans hw431_1), ((HB.out.cell (World.block_lt_of_cell? w _ hw431_2)).trans hw431_2)⟩ (fun hHeld => ?_)
    clear hK K
    refine norm_ mc248 ?_
    refine pure_ (i := 2) (N := some 13) #[true, true, true, false, false, false, false, false, false, false, false] rfl rfl (any_of HT_.out kr_) (fun _ _ _ h => h) (Or.inl ⟨by rfl, mc354⟩) mc312 ?_
    refine pure_ (i := 3) (N := some 14) #[true, true, true, true, false, false, false, false, false, false, false] rfl rfl (any_of HT_.out kr_) (fun _ _ _ h => h) (Or.inl ⟨by rfl, mc354⟩) mc312 ?_
    refine pure_ (i := 5) (N := some 16) #[true, true, true, true, false, true, false, false, false, false, false] rfl rfl (any_of HT_.out kr_) (fun _ _ _ h => h) (Or.inl ⟨by rfl, mc354⟩) mc312 ?_
    refine pure_ (i := 6) (N := some 17) #[true, true, true, true, false, true, true, false, false, false, false] rfl rfl (any_of HT_.out kr_) (fun _ _ _ h => h) (Or.inl ⟨by rfl, mc354⟩) mc312 ?_
    refine take_ (i := 4) (N := some 15) #[true, true, true, true, true, true, true, false, false, false, false] rfl rfl (take_ofW HT_.out HW_.out kr_) (fun _ _ _ h => h) (Or.inl ⟨by rfl, mc336⟩) hHeld mc312 ?_
    refine take_ (i := 7) (N := some 18) #[true, true, true, true, true, true, true, true, false, false, false] rfl rfl (take_ofW HT_.out HW_.out kr_) (fun _ _ _ h => h) (Or.inl ⟨by rfl, mc336⟩) hHeld mc312 ?_
    refine one_ (i := 8) (N := some 19) #[true, true, true, true, true, true, true, true, true, false, false] rfl rfl (one_of HT_.out kr_) (by decide) (fun K hK => ?_)
    refine goes_ Try.func93 kr_ rfl #[.agg #[.int .i64 ((rd_T26 l0 x7_1).f0), .int .i64 ((rd_T26 l0 x7_1).f1), .slice A428_2 ((rd_T26 l0 x7_1).f2).length c428_2], .agg #[.int .i64 ((rd_T26 l0 0).f0), .int .i64 ((rd_T26 l0 0).f1), .slice A431_2 ((rd_T26 l0 0).f2).length c431_2]] (by rfl) rfl rfl mc247 ?_
    with_reducible refine (impl_sameShape.calls ((rd_T26 l0 x7_1).f0) ((rd_T26 l0 x7_1).f1) _ _ ((rd_T26 l0 x7_1).f2) ((rd_T26 l0 0).f0) ((rd_T26 l0 0).f1) _ _ ((rd_T26 l0 0).f2) false _ ?side1 ?side2 ?side3 ?side4 A8.out).mono ?_
    (case side1 => exact mc199)
    (case side2 => exact HC428_2.out)
    (case side3 => repeat (first | exact (Kd.C_below HR431_2.out HB.out) | (with_reducible refine Kd.C_alloc ?_ _) | (with_reducible refine Kd.C_drewN ?_ _) | (with_reducible refine Kd.C_drew ?_)))
    (case side4 => exact HC431_2.out)
    rintro e w21 ⟨rfl, hb⟩
    refine ⟨_, rfl, ?_⟩
    replace BK429 := A_ (blk_below mc282 hb)
    replace HB := A_ (below_step mc225 hb)
    (try clear hb)
    refine hK.out _ _ ⟨bc_ BK429 0 rfl, bc_ BK429 1 rfl, bc_ BK429 2 rfl, ((HB.out.cell (World.block_lt_of_cell? w _ hw431_0)).trans hw431_0), ((HB.out.cell (World.block_lt_of_cell? w _ hw431_1)).trans hw431_1), ((HB.out.cell (World.block_lt_of_cell? w _ hw431_2)).trans hw431_2)⟩ (fun hHeld => ?_)
    clear hK K
    refine norm_ (by show Act.put _ (some 19) _ = _; simp only [Act.put, List.setIfInBounds_toArray, List.set_cons_zero, List.set_cons_succ, i64_w, i32_w]; rfl) ?_
    refine pure_ (i := 9) (N := some 20) #[true, true, true, true, true, true, true, true, true, true, false] rfl rfl (any_of HT_.out kr_) (fun _ _ _ h => h) (Or.inl ⟨by rfl, mc354⟩) mc312 ?_
    refine pure_ (i := 10) (N := some 21) #[true, true, true, true, true, true, true, true, true, true, true] rfl rfl (any_of HT_.out kr_) (fun _ _ _ h => h) (Or.inl ⟨by rfl, mc354⟩) mc312 ?_
    refine done_ (done_of HT_.out kr_) ?_
    try go_wp2
    go_ret
    exact ⟨mc332, mc225⟩
   subst c9
   rw [if_pos rfl] at H
   have H' := A_ H
   clear H
   have p428 : 0 ≤ (x7_1 : Int) := of_decide_eq_true mc341
   have q428 : x7_1 < (l0.length : Int) := of_decide_eq_true mc341
   obtain ⟨ad428, A428_2, c428_2, e428, hx428_0, hx428_1, hx428_2, hl428_2, hi428_2⟩ := at_T26 HR0.out x7_1 p428 q428
   cases e428
   replace hx428_0 := (HB.out.cell (World.block_lt_of_cell? w _ hx428_0)).trans hx428_0
   replace hx428_1 := (HB.out.cell (World.block_lt_of_cell? w _ hx428_1)).trans hx428_1
   replace hx428_2 := (HB.out.cell (World.block_lt_of_cell? w _ hx428_2)).trans hx428_2
   have HR428_2 := A_ hi428_2
   have HC428_2 := A_ hl428_2
   clear hi428_2 hl428_2
   replace p428 := eq_true p428
   replace q428 := eq_true q428
   try go_wp2_with (first | ((with_reducible refine gd_ 4 rfl ?_); refine box_event rfl (N := 4) rfl (cs := #[.int .i64 0, .int .i64 0, .slice none 0 0]) (t := 26) mc353 ?_; intro gb429 hg w10 hbox hb; have BK429 := A_ (hbox); have GW429 := A_ ((mc213 : w.heap.size ≤ gb429)); have GE429 := A_ ((mc213 : w.heap.size ≤ gb429)); replace HB := A_ (below_step mc249 hb); clear hb hbox hg; have hcz11_0 : w10.cell? ⟨gb429, 0, none⟩ = some (.int .i64 0) := bc_ BK429 0 rfl; have hcz11_1 : w10.cell? ⟨gb429, 1, none⟩ = some (.int .i64 0) := bc_ BK429 1 rfl; have hcz11_2 : w10.cell? ⟨gb429, 2, none⟩ = some (.slice none 0 0) := bc_ BK429 2 rfl; have hfz11_0 := blk_frozen BK429.out 0; have hfz11_1 := blk_frozen BK429.out 1; have hfz11_2 := blk_frozen BK429.out 2))
   have n0_ : Aside0 ((((w10.setCell ⟨gb429, 0, none⟩ (.int .i64 ((rd_T26 l0 x7_1).f0))).setCell ⟨gb429, 1, none⟩ (.int .i64 ((rd_T26 l0 x7_1).f1))).setCell ⟨gb429, 2, none⟩ (.slice A428_2 ((rd_T26 l0 x7_1).f2).length c428_2)).heap[gb429]? = some (.cells #[.int .i64 ((rd_T26 l0 x7_1).f0), .int .i64 ((rd_T26 l0 x7_1).f1), .slice A428_2 ((rd_T26 l0 x7_1).f2).length c428_2] 26 (0, 0))) := ⟨mc0⟩
   have n1_ : Aside0 (Below w.heap.size w (((w10.setCell ⟨gb429, 0, none⟩ (.int .i64 ((rd_T26 l0 x7_1).f0))).setCell ⟨gb429, 1, none⟩ (.int .i64 ((rd_T26 l0 x7_1).f1))).setCell ⟨gb429, 2, none⟩ (.slice A428_2 ((rd_T26 l0 x7_1).f2).length c428_2))) := ⟨mc225⟩
   (try clear BK429)
   (try clear HB)
   generalize (((w10.setCell ⟨gb429, 0, none⟩ (.int .i64 ((rd_T26 l0 x7_1).f0))).setCell ⟨gb429, 1, none⟩ (.int .i64 ((rd_T26 l0 x7_1).f1))).setCell ⟨gb429, 2, none⟩ (.slice A428_2 ((rd_T26 l0 x7_1).f2).length c428_2)) = w12 at n0_ n1_ ⊢
   have BK429 := n0_
   have HB := n1_
   clear n0_ n1_
   replace BK429 := A_ (blk_drew BK429.out)
   replace HB := A_ (below_drew1 HB.out)
   have p431 : 0 ≤ (0 : Int) := (by omega)
   have q431 : 0 < (l0.length : Int) := of_decide_eq_true mc341
   obtain ⟨ad431, A431_2, c431_2, e431, hx431_0, hx431_1, hx431_2, hl431_2, hi431_2⟩ := at_T26 HR0.out 0 p431 q431
   have hw431_2 := hx431_2
   (try rw [show ((0 : Int)).toNat = 0 from rfl] at hw431_2)
   (try rw [show 0 * 3 = 0 from rfl] at hw431_2)
   (try rw [Addr.add_zero'] at hw431_2)
   have hw431_1 := hx431_1
   (try rw [show ((0 : Int)).toNat = 0 from rfl] at hw431_1)
   (try rw [show 0 * 3 = 0 from rfl] at hw431_1)
   (try rw [Addr.add_zero'] at hw431_1)
   have hw431_0 := hx431_0
   (try rw [show ((0 : Int)).toNat = 0 from rfl] at hw431_0)
   (try rw [show 0 * 3 = 0 from rfl] at hw431_0)
   (try rw [Addr.add_zero'] at hw431_0)
   obtain rfl : ad428 = ad431 := (by injection e431)
   have qi431 : (0 < l0.length) = True := eq_true (by omega)
   (try rw [show ((0 : Int)).toNat = 0 from rfl] at hx431_0)
   (try rw [show 0 * 3 = 0 from rfl] at hx431_0)
   (try rw [Addr.add_zero'] at hx431_0)
   (try rw [show ((0 : Int)).toNat = 0 from rfl] at hx431_1)
   (try rw [show 0 * 3 = 0 from rfl] at hx431_1)
   (try rw [Addr.add_zero'] at hx431_1)
   (try rw [show ((0 : Int)).toNat = 0 from rfl] at hx431_2)
   (try rw [show 0 * 3 = 0 from rfl] at hx431_2)
   (try rw [Addr.add_zero'] at hx431_2)
   replace hx431_0 := (HB.out.cell (World.block_lt_of_cell? w _ hx431_0)).trans hx431_0
   replace hx431_1 := (HB.out.cell (World.block_lt_of_cell? w _ hx431_1)).trans hx431_1
   replace hx431_2 := (HB.out.cell (World.block_lt_of_cell? w _ hx431_2)).trans hx431_2
   have HR431_2 := A_ hi431_2
   have HC431_2 := A_ hl431_2
   clear hi431_2 hl431_2
   replace p431 := eq_true p431
   replace q431 := eq_true q431
   refine start_ (n := 11) (S := fun w' => w'.cell? ⟨gb429, 0, none⟩ = some (.int .i64 ((rd_T26 l0 x7_1).f0)) ∧ w'.cell? ⟨gb429, 1, none⟩ = some (.int .i64 ((rd_T26 l0 x7_1).f1)) ∧ w'.cell? ⟨gb429, 2, none⟩ = some (.slice A428_2 ((rd_T26 l0 x7_1).f2).length c428_2) ∧ w'.cell? ad428 = some (.int .i64 ((rd_T26 l0 0).f0)) ∧ w'.cell? ⟨ad428.block, ad428.off + 1, none⟩ = some (.int .i64 ((rd_T26 l0 0).f1)) ∧ w'.cell? ⟨ad428.block, ad428.off + 2, none⟩ = some (.slice A431_2 ((rd_T26 l0 0).f2).length c431_2)) (ds := []) #[false, false, false, false, false, false, false, false, false, false, false] kr_ rfl rfl ⟨bc_ BK429 0 rfl, bc_ BK429 1 rfl, bc_ BK429 2 rfl, ((HB.out.cell (World.block_lt_of_cell? w _ hw431_0)).trans hw431_0), ((HB.out.cell (World.block_lt_of_cell? w _ hw431_1)).trans hw431_1), ((HB.out.cell (World.block_lt_of_cell? w _ hw431_2)).trans hw431_2)⟩ (fun hHeld => ?_); refine with_tabW impl_areAlike.tab4 impl_areAlike.bits4 (fun HT_ HW_ => ?_)
   generalize w12.drew = w13 at BK429 HB HR431_2 hx431_0 hx431_1 hx431_2 hHeld ⊢
   refine take_ (i := 0) (N := some 11) #[true, false, false, false, false, false, false, false, false, false, false] rfl rfl (take_ofW HT_.out HW_.out kr_) (fun _ _ _ h => h) (Or.inl ⟨by rfl, mc336⟩) hHeld mc312 ?_
   refine one_ (i := 1) (N := some 12) #[true, true, false, false, false, false, false, false, false, false, false] rfl rfl (one_of HT_.out kr_) (by decide) (fun K hK => ?_)
   refine goes_ Try.func80 kr_ rfl #[.agg #[.int .i64 ((rd_T26 l0 x7_1).f0), .int .i64 ((rd_T26 l0 x7_1).f1), .slice A428_2 ((rd_T26 l0 x7_1).f2).length c428_2]] (by rfl) rfl rfl mc247 ?_
   with_reducible refine (impl_IsValidField.calls ((rd_T26 l0 x7_1).f0) ((rd_T26 l0 x7_1).f1) _ _ ((rd_T26 l0 x7_1).f2) true _ ?side1 ?side2 A5.out).mono ?_
   (case side1 => exact mc199)
   (case side2 => exact HC428_2.out)
   rintro e w14 ⟨rfl, hb⟩
   refine ⟨_, rfl, ?_⟩
   replace BK429 := A_ (blk_below mc282 hb)
   replace HB := A_ (below_step mc225 hb)
   (try clear hb)
   refine hK.out _ _ ⟨bc_ BK429 0 rfl, bc_ BK429 1 rfl, bc_ BK429 2 rfl, ((HB.out.cell (World.block_lt_of_cell? w _ hw431_0)).trans hw431_0), ((HB.out.cell (World.block_lt_of_cell? w _ hw431_1)).trans hw431_1), ((HB.out.cell (World.block_lt_of_cell? w _ hw431_2)).trans hw431_2)⟩ (fun hHeld => ?_)
   clear hK K
   refine norm_ mc248 ?_
   refine pure_ (i := 2) (N := some 13) #[true, true, true, false, false, false, false, false, false, false, false] rfl rfl (any_of HT_.out kr_) (fun _ _ _ h => h) (Or.inl ⟨by rfl, mc354⟩) mc312 ?_
   refine pure_ (i := 3) (N := some 14) #[true, true, true, true, false, false, false, false, false, false, false] rfl rfl (any_of HT_.out kr_) (fun _ _ _ h => h) (Or.inl ⟨by rfl, mc354⟩) mc312 ?_
   refine pure_ (i := 5) (N := some 16) #[true, true, true, true, false, true, false, false, false, false, false] rfl rfl (any_of HT_.out kr_) (fun _ _ _ h => h) (Or.inl ⟨by rfl, mc354⟩) mc312 ?_
   refine pure_ (i := 6) (N := some 17) #[true, true, true, true, false, true, true, false, false, false, false] rfl rfl (any_of HT_.out kr_) (fun _ _ _ h => h) (Or.inl ⟨by rfl, mc354⟩) mc312 ?_
   refine take_ (i := 4) (N := some 15) #[true, true, true, true, true, true, true, false, false, false, false] rfl rfl (take_ofW HT_.out HW_.out kr_) (fun _ _ _ h => h) (Or.inl ⟨by rfl, mc336⟩) hHeld mc312 ?_
   refine take_ (i := 7) (N := some 18) #[true, true, true, true, true, true, true, true, false, false, false] rfl rfl (take_ofW HT_.out HW_.out kr_) (fun _ _ _ h => h) (Or.inl ⟨by rfl, mc336⟩) hHeld mc312 ?_
   refine one_ (i := 8) (N := some 19) #[true, true, true, true, true, true, true, true, true, false, false] rfl rfl (one_of HT_.out kr_) (by decide) (fun K hK => ?_)
   refine goes_ Try.func93 kr_ rfl #[.agg #[.int .i64 ((rd_T26 l0 x7_1).f0), .int .i64 ((rd_T26 l0 x7_1).f1), .slice A428_2 ((rd_T26 l0 x7_1).f2).length c428_2], .agg #[.int .i64 ((rd_T26 l0 0).f0), .int .i64 ((rd_T26 l0 0).f1), .slice A431_2 ((rd_T26 l0 0).f2).length c431_2]] (by rfl) rfl rfl mc247 ?_
   with_reducible refine (impl_sameShape.calls ((rd_T26 l0 x7_1).f0) ((rd_T26 l0 x7_1).f1) _ _ ((rd_T26 l0 x7_1).f2) ((rd_T26 l0 0).f0) ((rd_T26 l0 0).f1) _ _ ((rd_T26 l0 0).f2) true _ ?side1 ?side2 ?side3 ?side4 A8.out).mono ?_
   (case side1 => exact mc199)
   (case side2 => exact HC428_2.out)
   (case side3 => repeat (first | exact (Kd.C_below HR431_2.out HB.out) | (with_reducible refine Kd.C_alloc ?_ _) | (with_reducible refine Kd.C_drewN ?_ _) | (with_reducible refine Kd.C_drew ?_)))
   (case side4 => exact HC431_2.out)
   rintro e w15 ⟨rfl, hb⟩
   refine ⟨_, rfl, ?_⟩
   replace BK429 := A_ (blk_below mc282 hb)
   replace HB := A_ (below_step mc225 hb)
   (try clear hb)
   refine hK.out _ _ ⟨bc_ BK429 0 rfl, bc_ BK429 1 rfl, bc_ BK429 2 rfl, ((HB.out.cell (World.block_lt_of_cell? w _ hw431_0)).trans hw431_0), ((HB.out.cell (World.block_lt_of_cell? w _ hw431_1)).trans hw431_1), ((HB.out.cell (World.block_lt_of_cell? w _ hw431_2)).trans hw431_2)⟩ (fun hHeld => ?_)
   clear hK K
   refine norm_ (by show Act.put _ (some 19) _ = _; simp only [Act.put, List.setIfInBounds_toArray, List.set_cons_zero, List.set_cons_succ, i64_w, i32_w]; rfl) ?_
   refine pure_ (i := 9) (N := some 20) #[true, true, true, true, true, true, true, true, true, true, false] rfl rfl (any_of HT_.out kr_) (fun _ _ _ h => h) (Or.inl ⟨by rfl, mc354⟩) mc312 ?_
   refine pure_ (i := 10) (N := some 21) #[true, true, true, true, true, true, true, true, true, true, true] rfl rfl (any_of HT_.out kr_) (fun _ _ _ h => h) (Or.inl ⟨by rfl, mc354⟩) mc312 ?_
   refine done_ (done_of HT_.out kr_) ?_
   try go_wp2
   go_roundg k1
   case measure => have := HK1.out; omega
   case rel => exact ⟨(wrap64 (x7_1 + 1)), mc352, H', ⟨mc356⟩, ⟨mc225⟩⟩

end Go.Proofs.Ytdmkbfjipgaloaa.P
