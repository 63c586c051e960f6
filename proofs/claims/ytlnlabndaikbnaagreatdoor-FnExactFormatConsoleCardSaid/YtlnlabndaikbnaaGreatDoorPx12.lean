-- Made by pp.py of this session out of the kit's print and of contracts proved by hand; Lean checks it.
import Derived.Test.YtlnlabndaikbnaaGreatDoorMc
import Derived.Test.YtlnlabndaikbnaaGreatDoorPx0
import Derived.Test.YtlnlabndaikbnaaGreatDoorPx11
namespace Go.Proofs.YtlnlabndaikbnaaGreatDoor.P
open Go.RowKit Go.Proofs.YtlnlabndaikbnaaGreatDoorW.PrintWords Go.Proofs.YtlnlabndaikbnaaGreatDoorW.PrintLast Go.Proofs.YtlnlabndaikbnaaGreatDoorW.PrintMore
attribute [local go_sem] max2_int min2_int max_two min_two max_three min_three max_four min_four   -- for this text's walks alone
set_option linter.unusedVariables false
set_option linter.unusedSimpArgs false

/-! ### impl_areWarnings: function 114 -/
def impl_areWarnings.l0 : Nat → List (S73) → List (S73) → Int → Int → Option (Bool)
 | 0, _, _, _, _ => none
 | k + 1, x0, x5, x6, x7 => if x7 < x6 then (if 0 ≤ x7 then (if x7 < (x5.length : Int) then ((impl_IsValidWarning.f ((rd_T73 x5 x7).f0) ((rd_T73 x5 x7).f1) ((rd_T73 x5 x7).f2) ((rd_T73 x5 x7).f3) ((rd_T73 x5 x7).f4) ((rd_T73 x5 x7).f5)).bind fun t237 => (if t237 = true then (if x7 > 0 then (if 0 ≤ (wrap64 (x7 - 1)) then (if (wrap64 (x7 - 1)) < (x0.length : Int) then (if ((rd_T73 x0 (wrap64 (x7 - 1))).f0) ≥ ((rd_T73 x5 x7).f0) then (some false) else (impl_areWarnings.l0 k x0 x5 x6 (wrap64 (x7 + 1)))) else (none)) else (none)) else (impl_areWarnings.l0 k x0 x5 x6 (wrap64 (x7 + 1)))) else (some false))) else (none)) else (none)) else (some (decide ((x0.length : Int) ≤ 12)))
def impl_areWarnings.f (k : Nat) (l0 : List (S73)) : Option (Bool) := impl_areWarnings.l0 k l0 l0 (l0.length : Int) 0
def impl_areWarnings.T4 : Bool × List (List Nat × List Nat) := (true, [([], []), ([0], [0]), ([1], [1]), ([2, 1], [2]), ([3], [3]), ([4, 3], [3, 4]), ([5, 3, 3], [3, 5]), ([6], [6]), ([6], [6]), ([8, 6], [6, 8]), ([7, 9, 6], [6, 7, 9]), ([10, 6], [6, 10]), ([11, 6], [6, 11]), ([6], [6]), ([13, 6], [6, 13]), ([12, 14, 6], [6, 12, 14]), ([6, 15, 3], [3, 6, 15]), ([3, 16], [3, 16])])
def impl_areWarnings.B4 : List Nat := [0, 1, 3, 7, 15, 31, 63, 127, 127, 383, 1023, 2047, 4095, 127, 8319, 32767, 65535, 131071]
theorem impl_areWarnings.tab4 : rtab .any (opsOf Tryz.f114 4) = impl_areWarnings.T4 := by kernel_rfl
theorem impl_areWarnings.bits4 : waitsOk impl_areWarnings.T4.2 impl_areWarnings.B4 = true := by kernel_rfl
set_option maxHeartbeats 8000000 in
set_option maxRecDepth 100000 in
theorem impl_areWarnings.calls (k : Nat) (A0 : Option Addr) (c0 : Nat) (l0 : List (S73)) (r : Bool) (w : World) (hr0 : Kd.C k73 w A0 l0.length l0) (hc0 : l0.length ≤ c0) (h : impl_areWarnings.f k l0 = some r) :
  Calls Tryz.prog 114 #[.slice A0 l0.length c0] w fun e w' => e = .returned (.bool r) ∧ Below w.heap.size w w' := by
 have hu73 := Tryz.underlying73
 have HR0 := A_ hr0
 have HC0 := A_ hc0
 clear hr0 hc0
 have HB := A_ (Below.refl w.heap.size w)
 have H : (impl_areWarnings.l0 k l0 l0 (l0.length : Int) 0) = some r := h
 clear h
 have H' := A_ H
 clear H
 go_enter Tryz.func114, Tryz.ntmps114
 go_wp2
 go_loopg [7] k (fun kq v7 w' => ∃ (x7_1 : Int), v7 = .int .i64 x7_1 ∧ Aside0 (impl_areWarnings.l0 kq l0 l0 (l0.length : Int) x7_1 = some r) ∧ Aside0 (kq ≤ k) ∧ Aside0 (Below w.heap.size w w'))
 case atStart => exact ⟨(0), mc141, H', ⟨Nat.le_refl _⟩, ⟨mc89⟩⟩
 case round =>
  clear H'
  obtain ⟨x7_1, rfl, HA, HK1, HB⟩ := hrel
  cases gk with
  | zero => exact absurd HA.out (by simp [impl_areWarnings.l0])
  | succ k1 =>
   have H := HA.out
   clear HA
   simp only [impl_areWarnings.l0] at H
   by_cases c2 : x7_1 < (l0.length : Int)
   ·
    rw [if_pos c2] at H
    have c2b0 : decide (x7_1 < (l0.length : Int)) = true := decide_eq_true c2
    clear c2
    by_cases c3 : 0 ≤ x7_1
    ·
     rw [if_pos c3] at H
     have c3b0 : decide (0 ≤ x7_1) = true := decide_eq_true c3
     clear c3
     by_cases c4 : x7_1 < (l0.length : Int)
     ·
      rw [if_pos c4] at H
      have c4b0 : decide (x7_1 < (l0.length : Int)) = true := decide_eq_true c4
      clear c4
      obtain ⟨t237, A50, H⟩ := oB_ H
      have A5 := A_ A50
      clear A50
      by_cases c6 : t237 = true
      ·
       subst c6
       rw [if_pos rfl] at H
       by_cases c7 : x7_1 > 0
       ·
        rw [if_pos c7] at H
        have c7b0 : decide (0 < x7_1) = true := decide_eq_true c7
        clear c7
        obtain ⟨ji8, hji8⟩ : ∃ j_ : Int, (wrap64 (x7_1 - 1)) = j_ := ⟨_, rfl⟩
        replace H : (if 0 ≤ (ji8) then (if (ji8) < (l0.length : Int) then (if ((rd_T73 l0 (ji8)).f0) ≥ ((rd_T73 l0 x7_1).f0) then (some false) else (impl_areWarnings.l0 k1 l0 l0 (l0.length : Int) (wrap64 (x7_1 + 1)))) else (none)) else (none)) = some r := by first | (rw [hji8] at H; exact H) | (simp only [hji8] at H ⊢; exact H)
        (try rw [hji8] at A5)
        have hji8w : (IntKind.i64.wrap (x7_1 - 1)) = ji8 := (i64_w _).trans hji8
        by_cases c9 : 0 ≤ (ji8)
        ·
         rw [if_pos c9] at H
         have c9b0 : decide (0 ≤ (ji8)) = true := decide_eq_true c9
         clear c9
         by_cases c10 : (ji8) < (l0.length : Int)
         ·
          rw [if_pos c10] at H
          have c10b0 : decide ((ji8) < (l0.length : Int)) = true := decide_eq_true c10
          clear c10
          by_cases c11 : ((rd_T73 l0 (ji8)).f0) ≥ ((rd_T73 l0 x7_1).f0)
          ·
           rw [if_pos c11] at H
           have c11b0 : decide (((rd_T73 l0 x7_1).f0) ≤ ((rd_T73 l0 (ji8)).f0)) = true := decide_eq_true c11
           clear c11
           obtain rfl := Option.some.inj H
           have p235 : 0 ≤ (x7_1 : Int) := of_decide_eq_true mc139
           have q235 : x7_1 < (l0.length : Int) := of_decide_eq_true mc139
           obtain ⟨ad235, e235, hx235_0, hx235_1, hx235_2, hx235_3, hx235_4, hx235_5⟩ := at_T73 HR0.out x7_1 p235 q235
           cases e235
           replace hx235_0 := (HB.out.cell (World.block_lt_of_cell? w _ hx235_0)).trans hx235_0
           replace hx235_1 := (HB.out.cell (World.block_lt_of_cell? w _ hx235_1)).trans hx235_1
           replace hx235_2 := (HB.out.cell (World.block_lt_of_cell? w _ hx235_2)).trans hx235_2
           replace hx235_3 := (HB.out.cell (World.block_lt_of_cell? w _ hx235_3)).trans hx235_3
           replace hx235_4 := (HB.out.cell (World.block_lt_of_cell? w _ hx235_4)).trans hx235_4
           replace hx235_5 := (HB.out.cell (World.block_lt_of_cell? w _ hx235_5)).trans hx235_5
           replace p235 := eq_true p235
           replace q235 := eq_true q235
           try go_wp2_with (first | ((with_reducible refine gd_ 4 rfl ?_); refine box_event rfl (N := 4) rfl (cs := #[.int .i64 0, .int .i64 0, .int .i64 0, .int .i64 0, .int .i64 0, .int .i64 0]) (t := 73) mc142 ?_; intro gb236 hg w12 hbox hb; have BK236 := A_ (hbox); have GW236 := A_ ((mc45 : w.heap.size ≤ gb236)); have GE236 := A_ ((mc45 : w.heap.size ≤ gb236)); replace HB := A_ (below_step mc89 hb); clear hb hbox hg; have hcz13_0 : w12.cell? ⟨gb236, 0, none⟩ = some (.int .i64 0) := bc_ BK236 0 rfl; have hcz13_1 : w12.cell? ⟨gb236, 1, none⟩ = some (.int .i64 0) := bc_ BK236 1 rfl; have hcz13_2 : w12.cell? ⟨gb236, 2, none⟩ = some (.int .i64 0) := bc_ BK236 2 rfl; have hcz13_3 : w12.cell? ⟨gb236, 3, none⟩ = some (.int .i64 0) := bc_ BK236 3 rfl; have hcz13_4 : w12.cell? ⟨gb236, 4, none⟩ = some (.int .i64 0) := bc_ BK236 4 rfl; have hcz13_5 : w12.cell? ⟨gb236, 5, none⟩ = some (.int .i64 0) := bc_ BK236 5 rfl; have hfz13_0 := blk_frozen BK236.out 0; have hfz13_1 := blk_frozen BK236.out 1; have hfz13_2 := blk_frozen BK236.out 2; have hfz13_3 := blk_frozen BK236.out 3; have hfz13_4 := blk_frozen BK236.out 4; have hfz13_5 := blk_frozen BK236.out 5))
           have n0_ : Aside0 (((((((w12.setCell ⟨gb236, 0, none⟩ (.int .i64 ((rd_T73 l0 x7_1).f0))).setCell ⟨gb236, 1, none⟩ (.int .i64 ((rd_T73 l0 x7_1).f1))).setCell ⟨gb236, 2, none⟩ (.int .i64 ((rd_T73 l0 x7_1).f2))).setCell ⟨gb236, 3, none⟩ (.int .i64 ((rd_T73 l0 x7_1).f3))).setCell ⟨gb236, 4, none⟩ (.int .i64 ((rd_T73 l0 x7_1).f4))).setCell ⟨gb236, 5, none⟩ (.int .i64 ((rd_T73 l0 x7_1).f5))).heap[gb236]? = some (.cells #[.int .i64 ((rd_T73 l0 x7_1).f0), .int .i64 ((rd_T73 l0 x7_1).f1), .int .i64 ((rd_T73 l0 x7_1).f2), .int .i64 ((rd_T73 l0 x7_1).f3), .int .i64 ((rd_T73 l0 x7_1).f4), .int .i64 ((rd_T73 l0 x7_1).f5)] 73 (0, 0))) := ⟨mc2⟩
           have n1_ : Aside0 (Below w.heap.size w ((((((w12.setCell ⟨gb236, 0, none⟩ (.int .i64 ((rd_T73 l0 x7_1).f0))).setCell ⟨gb236, 1, none⟩ (.int .i64 ((rd_T73 l0 x7_1).f1))).setCell ⟨gb236, 2, none⟩ (.int .i64 ((rd_T73 l0 x7_1).f2))).setCell ⟨gb236, 3, none⟩ (.int .i64 ((rd_T73 l0 x7_1).f3))).setCell ⟨gb236, 4, none⟩ (.int .i64 ((rd_T73 l0 x7_1).f4))).setCell ⟨gb236, 5, none⟩ (.int .i64 ((rd_T73 l0 x7_1).f5)))) := ⟨mc57⟩
           (try clear BK236)
           (try clear HB)
           generalize ((((((w12.setCell ⟨gb236, 0, none⟩ (.int .i64 ((rd_T73 l0 x7_1).f0))).setCell ⟨gb236, 1, none⟩ (.int .i64 ((rd_T73 l0 x7_1).f1))).setCell ⟨gb236, 2, none⟩ (.int .i64 ((rd_T73 l0 x7_1).f2))).setCell ⟨gb236, 3, none⟩ (.int .i64 ((rd_T73 l0 x7_1).f3))).setCell ⟨gb236, 4, none⟩ (.int .i64 ((rd_T73 l0 x7_1).f4))).setCell ⟨gb236, 5, none⟩ (.int .i64 ((rd_T73 l0 x7_1).f5))) = w14 at n0_ n1_ ⊢
           have BK236 := n0_
           have HB := n1_
           clear n0_ n1_
           replace BK236 := A_ (blk_drew BK236.out)
           replace HB := A_ (below_drew1 HB.out)
           have p238 : 0 ≤ ((ji8) : Int) := of_decide_eq_true mc139
           have q238 : (ji8) < (l0.length : Int) := of_decide_eq_true mc139
           obtain ⟨ad238, e238, hx238_0, hx238_1, hx238_2, hx238_3, hx238_4, hx238_5⟩ := at_T73 HR0.out (ji8) p238 q238
           have hw238_5 := hx238_5
           have hw238_4 := hx238_4
           have hw238_3 := hx238_3
           have hw238_2 := hx238_2
           have hw238_1 := hx238_1
           have hw238_0 := hx238_0
           obtain rfl : ad235 = ad238 := (by injection e238)
           replace hx238_0 := (HB.out.cell (World.block_lt_of_cell? w _ hx238_0)).trans hx238_0
           replace hx238_1 := (HB.out.cell (World.block_lt_of_cell? w _ hx238_1)).trans hx238_1
           replace hx238_2 := (HB.out.cell (World.block_lt_of_cell? w _ hx238_2)).trans hx238_2
           replace hx238_3 := (HB.out.cell (World.block_lt_of_cell? w _ hx238_3)).trans hx238_3
           replace hx238_4 := (HB.out.cell (World.block_lt_of_cell? w _ hx238_4)).trans hx238_4
           replace hx238_5 := (HB.out.cell (World.block_lt_of_cell? w _ hx238_5)).trans hx238_5
           replace p238 := eq_true p238
           replace q238 := eq_true q238
           refine start_ (n := 18) (S := fun w' => w'.cell? ⟨gb236, 0, none⟩ = some (.int .i64 ((rd_T73 l0 x7_1).f0)) ∧ w'.cell? ⟨gb236, 1, none⟩ = some (.int .i64 ((rd_T73 l0 x7_1).f1)) ∧ w'.cell? ⟨gb236, 2, none⟩ = some (.int .i64 ((rd_T73 l0 x7_1).f2)) ∧ w'.cell? ⟨gb236, 3, none⟩ = some (.int .i64 ((rd_T73 l0 x7_1).f3)) ∧ w'.cell? ⟨gb236, 4, none⟩ = some (.int .i64 ((rd_T73 l0 x7_1).f4)) ∧ w'.cell? ⟨gb236, 5, none⟩ = some (.int .i64 ((rd_T73 l0 x7_1).f5)) ∧ w'.cell? (ad235.add (((ji8)).toNat * 6)) = some (.int .i64 ((rd_T73 l0 (ji8)).f0)) ∧ w'.cell? ⟨(ad235.add (((ji8)).toNat * 6)).block, (ad235.add (((ji8)).toNat * 6)).off + 1, none⟩ = some (.int .i64 ((rd_T73 l0 (ji8)).f1)) ∧ w'.cell? ⟨(ad235.add (((ji8)).toNat * 6)).block, (ad235.add (((ji8)).toNat * 6)).off + 2, none⟩ = some (.int .i64 ((rd_T73 l0 (ji8)).f2)) ∧ w'.cell? ⟨(ad235.add (((ji8)).toNat * 6)).block, (ad235.add (((ji8)).toNat * 6)).off + 3, none⟩ = some (.int .i64 ((rd_T73 l0 (ji8)).f3)) ∧ w'.cell? ⟨(ad235.add (((ji8)).toNat * 6)).block, (ad235.add (((ji8)).toNat * 6)).off + 4, none⟩ = some (.int .i64 ((rd_T73 l0 (ji8)).f4)) ∧ w'.cell? ⟨(ad235.add (((ji8)).toNat * 6)).block, (ad235.add (((ji8)).toNat * 6)).off + 5, none⟩ = some (.int .i64 ((rd_T73 l0 (ji8)).f5))) (ds := []) #[false, false, false, false, false, false, false, false, false, false, false, false, false, false, false, false, false, false] kr_ rfl rfl ⟨bc_ BK236 0 rfl, bc_ BK236 1 rfl, bc_ BK236 2 rfl, bc_ BK236 3 rfl, bc_ BK236 4 rfl, bc_ BK236 5 rfl, ((HB.out.cell (World.block_lt_of_cell? w _ hw238_0)).trans hw238_0), ((HB.out.cell (World.block_lt_of_cell? w _ hw238_1)).trans hw238_1), ((HB.out.cell (World.block_lt_of_cell? w _ hw238_2)).trans hw238_2), ((HB.out.cell (World.block_lt_of_cell? w _ hw238_3)).trans hw238_3), ((HB.out.cell (World.block_lt_of_cell? w _ hw238_4)).trans hw238_4), ((HB.out.cell (World.block_lt_of_cell? w _ hw238_5)).trans hw238_5)⟩ (fun hHeld => ?_); refine with_tabW impl_areWarnings.tab4 impl_areWarnings.bits4 (fun HT_ HW_ => ?_)
           generalize w14.drew = w15 at BK236 HB hx238_0 hx238_1 hx238_2 hx238_3 hx238_4 hx238_5 hHeld ⊢
           refine take_ (i := 0) (N := some 12) #[true, false, false, false, false, false, false, false, false, false, false, false, false, false, false, false, false, false] rfl rfl (take_ofW HT_.out HW_.out kr_) (fun _ _ _ h => h) (Or.inl ⟨by rfl, mc134⟩) hHeld mc122 ?_
           refine one_ (i := 1) (N := some 13) #[true, true, false, false, false, false, false, false, false, false, false, false, false, false, false, false, false, false] rfl rfl (one_of HT_.out kr_) (by decide) (fun K hK => ?_)
           refine goes_ Tryz.func168 kr_ rfl #[.agg #[.int .i64 ((rd_T73 l0 x7_1).f0), .int .i64 ((rd_T73 l0 x7_1).f1), .int .i64 ((rd_T73 l0 x7_1).f2), .int .i64 ((rd_T73 l0 x7_1).f3), .int .i64 ((rd_T73 l0 x7_1).f4), .int .i64 ((rd_T73 l0 x7_1).f5)]] (by rfl) rfl rfl mc86 ?_
           with_reducible refine (impl_IsValidWarning.calls ((rd_T73 l0 x7_1).f0) ((rd_T73 l0 x7_1).f1) ((rd_T73 l0 x7_1).f2) ((rd_T73 l0 x7_1).f3) ((rd_T73 l0 x7_1).f4) ((rd_T73 l0 x7_1).f5) true _ A5.out).mono ?_
           rintro e w16 ⟨rfl, hb⟩
           refine ⟨_, rfl, ?_⟩
           replace BK236 := A_ (blk_below mc105 hb)
           replace HB := A_ (below_step mc57 hb)
           (try clear hb)
           refine hK.out _ _ ⟨bc_ BK236 0 rfl, bc_ BK236 1 rfl, bc_ BK236 2 rfl, bc_ BK236 3 rfl, bc_ BK236 4 rfl, bc_ BK236 5 rfl, ((HB.out.cell (World.block_lt_of_cell? w _ hw238_0)).trans hw238_0), ((HB.out.cell (World.block_lt_of_cell? w _ hw238_1)).trans hw238_1), ((HB.out.cell (World.block_lt_of_cell? w _ hw238_2)).trans hw238_2), ((HB.out.cell (World.block_lt_of_cell? w _ hw238_3)).trans hw238_3), ((HB.out.cell (World.block_lt_of_cell? w _ hw238_4)).trans hw238_4), ((HB.out.cell (World.block_lt_of_cell? w _ hw238_5)).trans hw238_5)⟩ (fun hHeld => ?_)
           clear hK K
           refine norm_ mc88 ?_
           refine pure_ (i := 2) (N := some 14) #[true, true, true, false, false, false, false, false, false, false, false, false, false, false, false, false, false, false] rfl rfl (any_of HT_.out kr_) (fun _ _ _ h => h) (Or.inl ⟨by rfl, mc143⟩) mc122 ?_
           refine pure_ (i := 3) (N := some 15) #[true, true, true, true, false, false, false, false, false, false, false, false, false, false, false, false, false, false] rfl rfl (any_of HT_.out kr_) (fun _ _ _ h => h) (Or.inl ⟨by rfl, mc143⟩) mc122 ?_
           refine pure_ (i := 4) (N := some 16) #[true, true, true, true, true, false, false, false, false, false, false, false, false, false, false, false, false, false] rfl rfl (any_of HT_.out kr_) (fun _ _ _ h => h) (Or.inl ⟨by rfl, mc143⟩) mc122 ?_
           refine pure_ (i := 5) (N := some 17) #[true, true, true, true, true, true, false, false, false, false, false, false, false, false, false, false, false, false] rfl rfl (any_of HT_.out kr_) (fun _ _ _ h => h) (Or.inl ⟨by rfl, mc143⟩) mc122 ?_
           refine pure_ (i := 6) (N := some 18) #[true, true, true, true, true, true, true, false, false, false, false, false, false, false, false, false, false, false] rfl rfl (any_of HT_.out kr_) (fun _ _ _ h => h) (Or.inl ⟨by rfl, mc143⟩) mc122 ?_
           refine pure_ (i := 7) (N := some 19) #[true, true, true, true, true, true, true, true, false, false, false, false, false, false, false, false, false, false] rfl rfl (any_of HT_.out kr_) (fun _ _ _ h => h) (Or.inl ⟨by rfl, mc143⟩) mc122 ?_
           refine pure_ (i := 8) (N := some 20) #[true, true, true, true, true, true, true, true, true, false, false, false, false, false, false, false, false, false] rfl rfl (any_of HT_.out kr_) (fun _ _ _ h => h) (Or.inl ⟨by rfl, mc143⟩) mc122 ?_
           refine pure_ (i := 9) (N := some 21) #[true, true, true, true, true, true, true, true, true, true, false, false, false, false, false, false, false, false] rfl rfl (any_of HT_.out kr_) (fun _ _ _ h => h) (Or.inl ⟨by rfl, mc143⟩) mc122 ?_
           refine pure_ (i := 10) (N := some 22) #[true, true, true, true, true, true, true, true, true, true, true, false, false, false, false, false, false, false] rfl rfl (any_of HT_.out kr_) (fun _ _ _ h => h) (Or.inl ⟨by rfl, mc143⟩) mc122 ?_
           refine pure_ (i := 11) (N := some 23) #[true, true, true, true, true, true, true, true, true, true, true, true, false, false, false, false, false, false] rfl rfl (any_of HT_.out kr_) (fun _ _ _ h => h) (Or.inl ⟨by rfl, mc143⟩) mc122 ?_
           refine pure_ (i := 13) (N := some 25) #[true, true, true, true, true, true, true, true, true, true, true, true, false, true, false, false, false, false] rfl rfl (any_of HT_.out kr_) (fun _ _ _ h => h) (Or.inl ⟨by rfl, mc143⟩) mc122 ?_
           refine take_ (i := 12) (N := some 24) #[true, true, true, true, true, true, true, true, true, true, true, true, true, true, false, false, false, false] rfl rfl (take_ofW HT_.out HW_.out kr_) (fun _ _ _ h => h) (Or.inl ⟨by rfl, mc134⟩) hHeld mc122 ?_
           refine take_ (i := 14) (N := some 26) #[true, true, true, true, true, true, true, true, true, true, true, true, true, true, true, false, false, false] rfl rfl (take_ofW HT_.out HW_.out kr_) (fun _ _ _ h => h) (Or.inl ⟨by rfl, mc134⟩) hHeld mc122 ?_
           refine pure_ (i := 15) (N := some 27) #[true, true, true, true, true, true, true, true, true, true, true, true, true, true, true, true, false, false] rfl rfl (any_of HT_.out kr_) (fun _ _ _ h => h) (Or.inl ⟨by rfl, mc143⟩) mc122 ?_
           refine pure_ (i := 16) (N := some 28) #[true, true, true, true, true, true, true, true, true, true, true, true, true, true, true, true, true, false] rfl rfl (any_of HT_.out kr_) (fun _ _ _ h => h) (Or.inl ⟨by rfl, mc143⟩) mc122 ?_
           refine pure_ (i := 17) (N := some 29) #[true, true, true, true, true, true, true, true, true, true, true, true, true, true, true, true, true, true] rfl rfl (any_of HT_.out kr_) (fun _ _ _ h => h) (Or.inl ⟨by rfl, mc143⟩) mc122 ?_
           refine done_ (done_of HT_.out kr_) ?_
           try go_wp2
           go_ret
           exact ⟨by first | rfl | (simp [errW_none, errW_some] <;> rfl) | (simp only [← hji8]; first | rfl | (simp [errW_none, errW_some] <;> rfl)) | (simp [*, errW_none, errW_some] <;> rfl), mc57⟩
          ·
           rw [if_neg c11] at H
           have c11b0 : decide (((rd_T73 l0 x7_1).f0) ≤ ((rd_T73 l0 (ji8)).f0)) = false := decide_eq_false c11
           clear c11
           have H' := A_ H
           clear H
           have p235 : 0 ≤ (x7_1 : Int) := of_decide_eq_true mc139
           have q235 : x7_1 < (l0.length : Int) := of_decide_eq_true mc139
           obtain ⟨ad235, e235, hx235_0, hx235_1, hx235_2, hx235_3, hx235_4, hx235_5⟩ := at_T73 HR0.out x7_1 p235 q235
           cases e235
           replace hx235_0 := (HB.out.cell (World.block_lt_of_cell? w _ hx235_0)).trans hx235_0
           replace hx235_1 := (HB.out.cell (World.block_lt_of_cell? w _ hx235_1)).trans hx235_1
           replace hx235_2 := (HB.out.cell (World.block_lt_of_cell? w _ hx235_2)).trans hx235_2
           replace hx235_3 := (HB.out.cell (World.block_lt_of_cell? w _ hx235_3)).trans hx235_3
           replace hx235_4 := (HB.out.cell (World.block_lt_of_cell? w _ hx235_4)).trans hx235_4
           replace hx235_5 := (HB.out.cell (World.block_lt_of_cell? w _ hx235_5)).trans hx235_5
           replace p235 := eq_true p235
           replace q235 := eq_true q235
           try go_wp2_with (first | ((with_reducible refine gd_ 4 rfl ?_); refine box_event rfl (N := 4) rfl (cs := #[.int .i64 0, .int .i64 0, .int .i64 0, .int .i64 0, .int .i64 0, .int .i64 0]) (t := 73) mc142 ?_; intro gb236 hg w17 hbox hb; have BK236 := A_ (hbox); have GW236 := A_ ((mc45 : w.heap.size ≤ gb236)); have GE236 := A_ ((mc45 : w.heap.size ≤ gb236)); replace HB := A_ (below_step mc89 hb); clear hb hbox hg; have hcz18_0 : w17.cell? ⟨gb236, 0, none⟩ = some (.int .i64 0) := bc_ BK236 0 rfl; have hcz18_1 : w17.cell? ⟨gb236, 1, none⟩ = some (.int .i64 0) := bc_ BK236 1 rfl; have hcz18_2 : w17.cell? ⟨gb236, 2, none⟩ = some (.int .i64 0) := bc_ BK236 2 rfl; have hcz18_3 : w17.cell? ⟨gb236, 3, none⟩ = some (.int .i64 0) := bc_ BK236 3 rfl; have hcz18_4 : w17.cell? ⟨gb236, 4, none⟩ = some (.int .i64 0) := bc_ BK236 4 rfl; have hcz18_5 : w17.cell? ⟨gb236, 5, none⟩ = some (.int .i64 0) := bc_ BK236 5 rfl; have hfz18_0 := blk_frozen BK236.out 0; have hfz18_1 := blk_frozen BK236.out 1; have hfz18_2 := blk_frozen BK236.out 2; have hfz18_3 := blk_frozen BK236.out 3; have hfz18_4 := blk_frozen BK236.out 4; have hfz18_5 := blk_frozen BK236.out 5))
           have n0_ : Aside0 (((((((w17.setCell ⟨gb236, 0, none⟩ (.int .i64 ((rd_T73 l0 x7_1).f0))).setCell ⟨gb236, 1, none⟩ (.int .i64 ((rd_T73 l0 x7_1).f1))).setCell ⟨gb236, 2, none⟩ (.int .i64 ((rd_T73 l0 x7_1).f2))).setCell ⟨gb236, 3, none⟩ (.int .i64 ((rd_T73 l0 x7_1).f3))).setCell ⟨gb236, 4, none⟩ (.int .i64 ((rd_T73 l0 x7_1).f4))).setCell ⟨gb236, 5, none⟩ (.int .i64 ((rd_T73 l0 x7_1).f5))).heap[gb236]? = some (.cells #[.int .i64 ((rd_T73 l0 x7_1).f0), .int .i64 ((rd_T73 l0 x7_1).f1), .int .i64 ((rd_T73 l0 x7_1).f2), .int .i64 ((rd_T73 l0 x7_1).f3), .int .i64 ((rd_T73 l0 x7_1).f4), .int .i64 ((rd_T73 l0 x7_1).f5)] 73 (0, 0))) := ⟨mc2⟩
           have n1_ : Aside0 (Below w.heap.size w ((((((w17.setCell ⟨gb236, 0, none⟩ (.int .i64 ((rd_T73 l0 x7_1).f0))).setCell ⟨gb236, 1, none⟩ (.int .i64 ((rd_T73 l0 x7_1).f1))).setCell ⟨gb236, 2, none⟩ (.int .i64 ((rd_T73 l0 x7_1).f2))).setCell ⟨gb236, 3, none⟩ (.int .i64 ((rd_T73 l0 x7_1).f3))).setCell ⟨gb236, 4, none⟩ (.int .i64 ((rd_T73 l0 x7_1).f4))).setCell ⟨gb236, 5, none⟩ (.int .i64 ((rd_T73 l0 x7_1).f5)))) := ⟨mc57⟩
           (try clear BK236)
           (try clear HB)
           generalize ((((((w17.setCell ⟨gb236, 0, none⟩ (.int .i64 ((rd_T73 l0 x7_1).f0))).setCell ⟨gb236, 1, none⟩ (.int .i64 ((rd_T73 l0 x7_1).f1))).setCell ⟨gb236, 2, none⟩ (.int .i64 ((rd_T73 l0 x7_1).f2))).setCell ⟨gb236, 3, none⟩ (.int .i64 ((rd_T73 l0 x7_1).f3))).setCell ⟨gb236, 4, none⟩ (.int .i64 ((rd_T73 l0 x7_1).f4))).setCell ⟨gb236, 5, none⟩ (.int .i64 ((rd_T73 l0 x7_1).f5))) = w19 at n0_ n1_ ⊢
           have BK236 := n0_
           have HB := n1_
           clear n0_ n1_
           replace BK236 := A_ (blk_drew BK236.out)
           replace HB := A_ (below_drew1 HB.out)
           have p238 : 0 ≤ ((ji8) : Int) := of_decide_eq_true mc139
           have q238 : (ji8) < (l0.length : Int) := of_decide_eq_true mc139
           obtain ⟨ad238, e238, hx238_0, hx238_1, hx238_2, hx238_3, hx238_4, hx238_5⟩ := at_T73 HR0.out (ji8) p238 q238
           have hw238_5 := hx238_5
           have hw238_4 := hx238_4
           have hw238_3 := hx238_3
           have hw238_2 := hx238_2
           have hw238_1 := hx238_1
           have hw238_0 := hx238_0
           obtain rfl : ad235 = ad238 := (by injection e238)
           replace hx238_0 := (HB.out.cell (World.block_lt_of_cell? w _ hx238_0)).trans hx238_0
           replace hx238_1 := (HB.out.cell (World.block_lt_of_cell? w _ hx238_1)).trans hx238_1
           replace hx238_2 := (HB.out.cell (World.block_lt_of_cell? w _ hx238_2)).trans hx238_2
           replace hx238_3 := (HB.out.cell (World.block_lt_of_cell? w _ hx238_3)).trans hx238_3
           replace hx238_4 := (HB.out.cell (World.block_lt_of_cell? w _ hx238_4)).trans hx238_4
           replace hx238_5 := (HB.out.cell (World.block_lt_of_cell? w _ hx238_5)).trans hx238_5
           replace p238 := eq_true p238
           replace q238 := eq_true q238
           refine start_ (n := 18) (S := fun w' => w'.cell? ⟨gb236, 0, none⟩ = some (.int .i64 ((rd_T73 l0 x7_1).f0)) ∧ w'.cell? ⟨gb236, 1, none⟩ = some (.int .i64 ((rd_T73 l0 x7_1).f1)) ∧ w'.cell? ⟨gb236, 2, none⟩ = some (.int .i64 ((rd_T73 l0 x7_1).f2)) ∧ w'.cell? ⟨gb236, 3, none⟩ = some (.int .i64 ((rd_T73 l0 x7_1).f3)) ∧ w'.cell? ⟨gb236, 4, none⟩ = some (.int .i64 ((rd_T73 l0 x7_1).f4)) ∧ w'.cell? ⟨gb236, 5, none⟩ = some (.int .i64 ((rd_T73 l0 x7_1).f5)) ∧ w'.cell? (ad235.add (((ji8)).toNat * 6)) = some (.int .i64 ((rd_T73 l0 (ji8)).f0)) ∧ w'.cell? ⟨(ad235.add (((ji8)).toNat * 6)).block, (ad235.add (((ji8)).toNat * 6)).off + 1, none⟩ = some (.int .i64 ((rd_T73 l0 (ji8)).f1)) ∧ w'.cell? ⟨(ad235.add (((ji8)).toNat * 6)).block, (ad235.add (((ji8)).toNat * 6)).off + 2, none⟩ = some (.int .i64 ((rd_T73 l0 (ji8)).f2)) ∧ w'.cell? ⟨(ad235.add (((ji8)).toNat * 6)).block, (ad235.add (((ji8)).toNat * 6)).off + 3, none⟩ = some (.int .i64 ((rd_T73 l0 (ji8)).f3)) ∧ w'.cell? ⟨(ad235.add (((ji8)).toNat * 6)).block, (ad235.add (((ji8)).toNat * 6)).off + 4, none⟩ = some (.int .i64 ((rd_T73 l0 (ji8)).f4)) ∧ w'.cell? ⟨(ad235.add (((ji8)).toNat * 6)).block, (ad235.add (((ji8)).toNat * 6)).off + 5, none⟩ = some (.int .i64 ((rd_T73 l0 (ji8)).f5))) (ds := []) #[false, false, false, false, false, false, false, false, false, false, false, false, false, false, false, false, false, false] kr_ rfl rfl ⟨bc_ BK236 0 rfl, bc_ BK236 1 rfl, bc_ BK236 2 rfl, bc_ BK236 3 rfl, bc_ BK236 4 rfl, bc_ BK236 5 rfl, ((HB.out.cell (World.block_lt_of_cell? w _ hw238_0)).trans hw238_0), ((HB.out.cell (World.block_lt_of_cell? w _ hw238_1)).trans hw238_1), ((HB.out.cell (World.block_lt_of_cell? w _ hw238_2)).trans hw238_2), ((HB.out.cell (World.block_lt_of_cell? w _ hw238_3)).trans hw238_3), ((HB.out.cell (World.block_lt_of_cell? w _ hw238_4)).trans hw238_4), ((HB.out.cell (World.block_lt_of_cell? w _ hw238_5)).trans hw238_5)⟩ (fun hHeld => ?_); refine with_tabW impl_areWarnings.tab4 impl_areWarnings.bits4 (fun HT_ HW_ => ?_)
           generalize w19.drew = w20 at BK236 HB hx238_0 hx238_1 hx238_2 hx238_3 hx238_4 hx238_5 hHeld ⊢
           refine take_ (i := 0) (N := some 12) #[true, false, false, false, false, false, false, false, false, false, false, false, false, false, false, false, false, false] rfl rfl (take_ofW HT_.out HW_.out kr_) (fun _ _ _ h => h) (Or.inl ⟨by rfl, mc134⟩) hHeld mc122 ?_
           refine one_ (i := 1) (N := some 13) #[true, true, false, false, false, false, false, false, false, false, false, false, false, false, false, false, false, false] rfl rfl (one_of HT_.out kr_) (by decide) (fun K hK => ?_)
           refine goes_ Tryz.func168 kr_ rfl #[.agg #[.int .i64 ((rd_T73 l0 x7_1).f0), .int .i64 ((rd_T73 l0 x7_1).f1), .int .i64 ((rd_T73 l0 x7_1).f2), .int .i64 ((rd_T73 l0 x7_1).f3), .int .i64 ((rd_T73 l0 x7_1).f4), .int .i64 ((rd_T73 l0 x7_1).f5)]] (by rfl) rfl rfl mc86 ?_
           with_reducible refine (impl_IsValidWarning.calls ((rd_T73 l0 x7_1).f0) ((rd_T73 l0 x7_1).f1) ((rd_T73 l0 x7_1).f2) ((rd_T73 l0 x7_1).f3) ((rd_T73 l0 x7_1).f4) ((rd_T73 l0 x7_1).f5) true _ A5.out).mono ?_
           rintro e w21 ⟨rfl, hb⟩
           refine ⟨_, rfl, ?_⟩
           replace BK236 := A_ (blk_below mc105 hb)
           replace HB := A_ (below_step mc57 hb)
           (try clear hb)
           refine hK.out _ _ ⟨bc_ BK236 0 rfl, bc_ BK236 1 rfl, bc_ BK236 2 rfl, bc_ BK236 3 rfl, bc_ BK236 4 rfl, bc_ BK236 5 rfl, ((HB.out.cell (World.block_lt_of_cell? w _ hw238_0)).trans hw238_0), ((HB.out.cell (World.block_lt_of_cell? w _ hw238_1)).trans hw238_1), ((HB.out.cell (World.block_lt_of_cell? w _ hw238_2)).trans hw238_2), ((HB.out.cell (World.block_lt_of_cell? w _ hw238_3)).trans hw238_3), ((HB.out.cell (World.block_lt_of_cell? w _ hw238_4)).trans hw238_4), ((HB.out.cell (World.block_lt_of_cell? w _ hw238_5)).trans hw238_5)⟩ (fun hHeld => ?_)
           clear hK K
           refine norm_ mc88 ?_
           refine pure_ (i := 2) (N := some 14) #[true, true, true, false, false, false, false, false, false, false, false, false, false, false, false, false, false, false] rfl rfl (any_of HT_.out kr_) (fun _ _ _ h => h) (Or.inl ⟨by rfl, mc143⟩) mc122 ?_
           refine pure_ (i := 3) (N := some 15) #[true, true, true, true, false, false, false, false, false, false, false, false, false, false, false, false, false, false] rfl rfl (any_of HT_.out kr_) (fun _ _ _ h => h) (Or.inl ⟨by rfl, mc143⟩) mc122 ?_
           refine pure_ (i := 4) (N := some 16) #[true, true, true, true, true, false, false, false, false, false, false, false, false, false, false, false, false, false] rfl rfl (any_of HT_.out kr_) (fun _ _ _ h => h) (Or.inl ⟨by rfl, mc143⟩) mc122 ?_
           refine pure_ (i := 5) (N := some 17) #[true, true, true, true, true, true, false, false, false, false, false, false, false, false, false, false, false, false] rfl rfl (any_of HT_.out kr_) (fun _ _ _ h => h) (Or.inl ⟨by rfl, mc143⟩) mc122 ?_
           refine pure_ (i := 6) (N := some 18) #[true, true, true, true, true, true, true, false, false, false, false, false, false, false, false, false, false, false] rfl rfl (any_of HT_.out kr_) (fun _ _ _ h => h) (Or.inl ⟨by rfl, mc143⟩) mc122 ?_
           refine pure_ (i := 7) (N := some 19) #[true, true, true, true, true, true, true, true, false, false, false, false, false, false, false, false, false, false] rfl rfl (any_of HT_.out kr_) (fun _ _ _ h => h) (Or.inl ⟨by rfl, mc143⟩) mc122 ?_
           refine pure_ (i := 8) (N := some 20) #[true, true, true, true, true, true, true, true, true, false, false, false, false, false, false, false, false, false] rfl rfl (any_of HT_.out kr_) (fun _ _ _ h => h) (Or.inl ⟨by rfl, mc143⟩) mc122 ?_
           refine pure_ (i := 9) (N := some 21) #[true, true, true, true, true, true, true, true, true, true, false, false, false, false, false, false, false, false] rfl rfl (any_of HT_.out kr_) (fun _ _ _ h => h) (Or.inl ⟨by rfl, mc143⟩) mc122 ?_
           refine pure_ (i := 10) (N := some 22) #[true, true, true, true, true, true, true, true, true, true, true, false, false, false, false, false, false, false] rfl rfl (any_of HT_.out kr_) (fun _ _ _ h => h) (Or.inl ⟨by rfl, mc143⟩) mc122 ?_
           refine pure_ (i := 11) (N := some 23) #[true, true, true, true, true, true, true, true, true, true, true, true, false, false, false, false, false, false] rfl rfl (any_of HT_.out kr_) (fun _ _ _ h => h) (Or.inl ⟨by rfl, mc143⟩) mc122 ?_
           refine pure_ (i := 13) (N := some 25) #[true, true, true, true, true, true, true, true, true, true, true, true, false, true, false, false, false, false] rfl rfl (any_of HT_.out kr_) (fun _ _ _ h => h) (Or.inl ⟨by rfl, mc143⟩) mc122 ?_
           refine take_ (i := 12) (N := some 24) #[true, true, true, true, true, true, true, true, true, true, true, true, true, true, false, false, false, false] rfl rfl (take_ofW HT_.out HW_.out kr_) (fun _ _ _ h => h) (Or.inl ⟨by rfl, mc134⟩) hHeld mc122 ?_
           refine take_ (i := 14) (N := some 26) #[true, true, true, true, true, true, true, true, true, true, true, true, true, true, true, false, false, false] rfl rfl (take_ofW HT_.out HW_.out kr_) (fun _ _ _ h => h) (Or.inl ⟨by rfl, mc134⟩) hHeld mc122 ?_
           refine pure_ (i := 15) (N := some 27) #[true, true, true, true, true, true, true, true, true, true, true, true, true, true, true, true, false, false] rfl rfl (any_of HT_.out kr_) (fun _ _ _ h => h) (Or.inl ⟨by rfl, mc143⟩) mc122 ?_
           refine pure_ (i := 16) (N := some 28) #[true, true, true, true, true, true, true, true, true, true, true, true, true, true, true, true, true, false] rfl rfl (any_of HT_.out kr_) (fun _ _ _ h => h) (Or.inl ⟨by rfl, mc143⟩) mc122 ?_
           refine pure_ (i := 17) (N := some 29) #[true, true, true, true, true, true, true, true, true, true, true, true, true, true, true, true, true, true] rfl rfl (any_of HT_.out kr_) (fun _ _ _ h => h) (Or.inl ⟨by rfl, mc143⟩) mc122 ?_
           refine done_ (done_of HT_.out kr_) ?_
           try go_wp2
           go_roundg k1
           case measure => have := HK1.out; omega
           case rel => exact ⟨(wrap64 (x7_1 + 1)), mc141, H', ⟨mc144⟩, ⟨mc57⟩⟩
         ·
          rw [if_neg c10] at H
          exact absurd H (by simp)
        ·
         rw [if_neg c9] at H
         exact absurd H (by simp)
       ·
        rw [if_neg c7] at H
        have c7b0 : decide (0 < x7_1) = false := decide_eq_false c7
        clear c7
        have H' := A_ H
        clear H
        have p235 : 0 ≤ (x7_1 : Int) := of_decide_eq_true mc139
        have q235 : x7_1 < (l0.length : Int) := of_decide_eq_true mc139
        obtain ⟨ad235, e235, hx235_0, hx235_1, hx235_2, hx235_3, hx235_4, hx235_5⟩ := at_T73 HR0.out x7_1 p235 q235
        cases e235
        replace hx235_0 := (HB.out.cell (World.block_lt_of_cell? w _ hx235_0)).trans hx235_0
        replace hx235_1 := (HB.out.cell (World.block_lt_of_cell? w _ hx235_1)).trans hx235_1
        replace hx235_2 := (HB.out.cell (World.block_lt_of_cell? w _ hx235_2)).trans hx235_2
        replace hx235_3 := (HB.out.cell (World.block_lt_of_cell? w _ hx235_3)).trans hx235_3
        replace hx235_4 := (HB.out.cell (World.block_lt_of_cell? w _ hx235_4)).trans hx235_4
        replace hx235_5 := (HB.out.cell (World.block_lt_of_cell? w _ hx235_5)).trans hx235_5
        replace p235 := eq_true p235
        replace q235 := eq_true q235
        try go_wp2_with (first | ((with_reducible refine gd_ 4 rfl ?_); refine box_event rfl (N := 4) rfl (cs := #[.int .i64 0, .int .i64 0, .int .i64 0, .int .i64 0, .int .i64 0, .int .i64 0]) (t := 73) mc142 ?_; intro gb236 hg w22 hbox hb; have BK236 := A_ (hbox); have GW236 := A_ ((mc45 : w.heap.size ≤ gb236)); have GE236 := A_ ((mc45 : w.heap.size ≤ gb236)); replace HB := A_ (below_step mc89 hb); clear hb hbox hg; have hcz23_0 : w22.cell? ⟨gb236, 0, none⟩ = some (.int .i64 0) := bc_ BK236 0 rfl; have hcz23_1 : w22.cell? ⟨gb236, 1, none⟩ = some (.int .i64 0) := bc_ BK236 1 rfl; have hcz23_2 : w22.cell? ⟨gb236, 2, none⟩ = some (.int .i64 0) := bc_ BK236 2 rfl; have hcz23_3 : w22.cell? ⟨gb236, 3, none⟩ = some (.int .i64 0) := bc_ BK236 3 rfl; have hcz23_4 : w22.cell? ⟨gb236, 4, none⟩ = some (.int .i64 0) := bc_ BK236 4 rfl; have hcz23_5 : w22.cell? ⟨gb236, 5, none⟩ = some (.int .i64 0) := bc_ BK236 5 rfl; have hfz23_0 := blk_frozen BK236.out 0; have hfz23_1 := blk_frozen BK236.out 1; have hfz23_2 := blk_frozen BK236.out 2; have hfz23_3 := blk_frozen BK236.out 3; have hfz23_4 := blk_frozen BK236.out 4; have hfz23_5 := blk_frozen BK236.out 5))
        have n0_ : Aside0 (((((((w22.setCell ⟨gb236, 0, none⟩ (.int .i64 ((rd_T73 l0 x7_1).f0))).setCell ⟨gb236, 1, none⟩ (.int .i64 ((rd_T73 l0 x7_1).f1))).setCell ⟨gb236, 2, none⟩ (.int .i64 ((rd_T73 l0 x7_1).f2))).setCell ⟨gb236, 3, none⟩ (.int .i64 ((rd_T73 l0 x7_1).f3))).setCell ⟨gb236, 4, none⟩ (.int .i64 ((rd_T73 l0 x7_1).f4))).setCell ⟨gb236, 5, none⟩ (.int .i64 ((rd_T73 l0 x7_1).f5))).heap[gb236]? = some (.cells #[.int .i64 ((rd_T73 l0 x7_1).f0), .int .i64 ((rd_T73 l0 x7_1).f1), .int .i64 ((rd_T73 l0 x7_1).f2), .int .i64 ((rd_T73 l0 x7_1).f3), .int .i64 ((rd_T73 l0 x7_1).f4), .int .i64 ((rd_T73 l0 x7_1).f5)] 73 (0, 0))) := ⟨mc2⟩
        have n1_ : Aside0 (Below w.heap.size w ((((((w22.setCell ⟨gb236, 0, none⟩ (.int .i64 ((rd_T73 l0 x7_1).f0))).setCell ⟨gb236, 1, none⟩ (.int .i64 ((rd_T73 l0 x7_1).f1))).setCell ⟨gb236, 2, none⟩ (.int .i64 ((rd_T73 l0 x7_1).f2))).setCell ⟨gb236, 3, none⟩ (.int .i64 ((rd_T73 l0 x7_1).f3))).setCell ⟨gb236, 4, none⟩ (.int .i64 ((rd_T73 l0 x7_1).f4))).setCell ⟨gb236, 5, none⟩ (.int .i64 ((rd_T73 l0 x7_1).f5)))) := ⟨mc57⟩
        (try clear BK236)
        (try clear HB)
        generalize ((((((w22.setCell ⟨gb236, 0, none⟩ (.int .i64 ((rd_T73 l0 x7_1).f0))).setCell ⟨gb236, 1, none⟩ (.int .i64 ((rd_T73 l0 x7_1).f1))).setCell ⟨gb236, 2, none⟩ (.int .i64 ((rd_T73 l0 x7_1).f2))).setCell ⟨gb236, 3, none⟩ (.int .i64 ((rd_T73 l0 x7_1).f3))).setCell ⟨gb236, 4, none⟩ (.int .i64 ((rd_T73 l0 x7_1).f4))).setCell ⟨gb236, 5, none⟩ (.int .i64 ((rd_T73 l0 x7_1).f5))) = w24 at n0_ n1_ ⊢
        have BK236 := n0_
        have HB := n1_
        clear n0_ n1_
        replace BK236 := A_ (blk_drew BK236.out)
        replace HB := A_ (below_drew1 HB.out)
        refine start_ (n := 18) (S := fun w' => w'.cell? ⟨gb236, 0, none⟩ = some (.int .i64 ((rd_T73 l0 x7_1).f0)) ∧ w'.cell? ⟨gb236, 1, none⟩ = some (.int .i64 ((rd_T73 l0 x7_1).f1)) ∧ w'.cell? ⟨gb236, 2, none⟩ = some (.int .i64 ((rd_T73 l0 x7_1).f2)) ∧ w'.cell? ⟨gb236, 3, none⟩ = some (.int .i64 ((rd_T73 l0 x7_1).f3)) ∧ w'.cell? ⟨gb236, 4, none⟩ = some (.int .i64 ((rd_T73 l0 x7_1).f4)) ∧ w'.cell? ⟨gb236, 5, none⟩ = some (.int .i64 ((rd_T73 l0 x7_1).f5))) (ds := []) #[false, false, false, false, false, false, false, false, false, false, false, false, false, false, false, false, false, false] kr_ rfl rfl ⟨bc_ BK236 0 rfl, bc_ BK236 1 rfl, bc_ BK236 2 rfl, bc_ BK236 3 rfl, bc_ BK236 4 rfl, bc_ BK236 5 rfl⟩ (fun hHeld => ?_); refine with_tabW impl_areWarnings.tab4 impl_areWarnings.bits4 (fun HT_ HW_ => ?_)
        generalize w24.drew = w25 at BK236 HB hHeld ⊢
        refine take_ (i := 0) (N := some 12) #[true, false, false, false, false, false, false, false, false, false, false, false, false, false, false, false, false, false] rfl rfl (take_ofW HT_.out HW_.out kr_) (fun _ _ _ h => h) (Or.inl ⟨by rfl, mc136⟩) hHeld mc122 ?_
        refine one_ (i := 1) (N := some 13) #[true, true, false, false, false, false, false, false, false, false, false, false, false, false, false, false, false, false] rfl rfl (one_of HT_.out kr_) (by decide) (fun K hK => ?_)
        refine goes_ Tryz.func168 kr_ rfl #[.agg #[.int .i64 ((rd_T73 l0 x7_1).f0), .int .i64 ((rd_T73 l0 x7_1).f1), .int .i64 ((rd_T73 l0 x7_1).f2), .int .i64 ((rd_T73 l0 x7_1).f3), .int .i64 ((rd_T73 l0 x7_1).f4), .int .i64 ((rd_T73 l0 x7_1).f5)]] (by rfl) rfl rfl mc86 ?_
        with_reducible refine (impl_IsValidWarning.calls ((rd_T73 l0 x7_1).f0) ((rd_T73 l0 x7_1).f1) ((rd_T73 l0 x7_1).f2) ((rd_T73 l0 x7_1).f3) ((rd_T73 l0 x7_1).f4) ((rd_T73 l0 x7_1).f5) true _ A5.out).mono ?_
        rintro e w26 ⟨rfl, hb⟩
        refine ⟨_, rfl, ?_⟩
        replace BK236 := A_ (blk_below mc105 hb)
        replace HB := A_ (below_step mc57 hb)
        (try clear hb)
        refine hK.out _ _ ⟨bc_ BK236 0 rfl, bc_ BK236 1 rfl, bc_ BK236 2 rfl, bc_ BK236 3 rfl, bc_ BK236 4 rfl, bc_ BK236 5 rfl⟩ (fun hHeld => ?_)
        clear hK K
        refine norm_ mc88 ?_
        refine pure_ (i := 2) (N := some 14) #[true, true, true, false, false, false, false, false, false, false, false, false, false, false, false, false, false, false] rfl rfl (any_of HT_.out kr_) (fun _ _ _ h => h) (Or.inl ⟨by rfl, mc143⟩) mc122 ?_
        refine pure_ (i := 3) (N := some 15) #[true, true, true, true, false, false, false, false, false, false, false, false, false, false, false, false, false, false] rfl rfl (any_of HT_.out kr_) (fun _ _ _ h => h) (Or.inl ⟨by rfl, mc143⟩) mc122 ?_
        refine pure_ (i := 4) (N := some 16) #[true, true, true, true, true, false, false, false, false, false, false, false, false, false, false, false, false, false] rfl rfl (any_of HT_.out kr_) (fun _ _ _ h => h) (Or.inl ⟨by rfl, mc143⟩) mc122 ?_
        refine pure_ (i := 5) (N := some 17) #[true, true, true, true, true, true, false, false, false, false, false, false, false, false, false, false, false, false] rfl rfl (any_of HT_.out kr_) (fun _ _ _ h => h) (Or.inl ⟨by rfl, mc143⟩) mc122 ?_
        refine pure_ (i := 6) (N := some 18) #[true, true, true, true, true, true, true, false, false, false, false, false, false, false, false, false, false, false] rfl rfl (any_of HT_.out kr_) (fun _ _ _ h => h) (Or.inl ⟨by rfl, mc143⟩) mc122 ?_
        refine pure_ (i := 7) (N := some 19) (v := undef) (a' := ?_) #[true, true, true, true, true, true, true, true, false, false, false, false, false, false, false, false, false, false] rfl rfl (any_of HT_.out kr_) (fun _ _ _ h => h) (Or.inr ⟨by rfl, rfl⟩) ?_ ?_
        rotate_left
        ·
         simp only [Act.put, List.setIfInBounds_toArray, List.set_cons_zero, List.set_cons_succ, i64_w, i32_w]
         rfl
        refine pure_ (i := 8) (N := some 20) (v := undef) (a' := ?_) #[true, true, true, true, true, true, true, true, true, false, false, false, false, false, false, false, false, false] rfl rfl (any_of HT_.out kr_) (fun _ _ _ h => h) (Or.inr ⟨by rfl, rfl⟩) ?_ ?_
        rotate_left
        ·
         simp only [Act.put, List.setIfInBounds_toArray, List.set_cons_zero, List.set_cons_succ, i64_w, i32_w]
         rfl
        refine pure_ (i := 9) (N := some 21) (v := undef) (a' := ?_) #[true, true, true, true, true, true, true, true, true, true, false, false, false, false, false, false, false, false] rfl rfl (any_of HT_.out kr_) (fun _ _ _ h => h) (Or.inr ⟨by rfl, rfl⟩) ?_ ?_
        rotate_left
        ·
         simp only [Act.put, List.setIfInBounds_toArray, List.set_cons_zero, List.set_cons_succ, i64_w, i32_w]
         rfl
        refine pure_ (i := 10) (N := some 22) (v := undef) (a' := ?_) #[true, true, true, true, true, true, true, true, true, true, true, false, false, false, false, false, false, false] rfl rfl (any_of HT_.out kr_) (fun _ _ _ h => h) (Or.inr ⟨by rfl, rfl⟩) ?_ ?_
        rotate_left
        ·
         simp only [Act.put, List.setIfInBounds_toArray, List.set_cons_zero, List.set_cons_succ, i64_w, i32_w]
         rfl
        refine pure_ (i := 11) (N := some 23) (v := undef) (a' := ?_) #[true, true, true, true, true, true, true, true, true, true, true, true, false, false, false, false, false, false] rfl rfl (any_of HT_.out kr_) (fun _ _ _ h => h) (Or.inr ⟨by rfl, rfl⟩) ?_ ?_
        rotate_left
        ·
         simp only [Act.put, List.setIfInBounds_toArray, List.set_cons_zero, List.set_cons_succ, i64_w, i32_w]
         rfl
        refine pure_ (i := 12) (N := some 24) (v := undef) (a' := ?_) #[true, true, true, true, true, true, true, true, true, true, true, true, true, false, false, false, false, false] rfl rfl (any_of HT_.out kr_) (fun _ _ _ h => h) (Or.inr ⟨by rfl, rfl⟩) ?_ ?_
        rotate_left
        ·
         simp only [Act.put, List.setIfInBounds_toArray, List.set_cons_zero, List.set_cons_succ, i64_w, i32_w]
         rfl
        refine pure_ (i := 13) (N := some 25) (v := undef) (a' := ?_) #[true, true, true, true, true, true, true, true, true, true, true, true, true, true, false, false, false, false] rfl rfl (any_of HT_.out kr_) (fun _ _ _ h => h) (Or.inr ⟨by rfl, rfl⟩) ?_ ?_
        rotate_left
        ·
         simp only [Act.put, List.setIfInBounds_toArray, List.set_cons_zero, List.set_cons_succ, i64_w, i32_w]
         rfl
        refine pure_ (i := 14) (N := some 26) (v := undef) (a' := ?_) #[true, true, true, true, true, true, true, true, true, true, true, true, true, true, true, false, false, false] rfl rfl (any_of HT_.out kr_) (fun _ _ _ h => h) (Or.inr ⟨by rfl, rfl⟩) ?_ ?_
        rotate_left
        ·
         simp only [Act.put, List.setIfInBounds_toArray, List.set_cons_zero, List.set_cons_succ, i64_w, i32_w]
         rfl
        refine pure_ (i := 15) (N := some 27) (v := undef) (a' := ?_) #[true, true, true, true, true, true, true, true, true, true, true, true, true, true, true, true, false, false] rfl rfl (any_of HT_.out kr_) (fun _ _ _ h => h) (Or.inr ⟨by rfl, rfl⟩) ?_ ?_
        rotate_left
        ·
         simp only [Act.put, List.setIfInBounds_toArray, List.set_cons_zero, List.set_cons_succ, i64_w, i32_w]
         rfl
        refine pure_ (i := 16) (N := some 28) #[true, true, true, true, true, true, true, true, true, true, true, true, true, true, true, true, true, false] rfl rfl (any_of HT_.out kr_) (fun _ _ _ h => h) (Or.inl ⟨by rfl, mc143⟩) mc122 ?_
        refine pure_ (i := 17) (N := some 29) #[true, true, true, true, true, true, true, true, true, true, true, true, true, true, true, true, true, true] rfl rfl (any_of HT_.out kr_) (fun _ _ _ h => h) (Or.inl ⟨by rfl, mc143⟩) mc122 ?_
        refine done_ (done_of HT_.out kr_) ?_
        try go_wp2
        go_roundg k1
        case measure => have := HK1.out; omega
        case rel => exact ⟨(wrap64 (x7_1 + 1)), mc141, H', ⟨mc144⟩, ⟨mc57⟩⟩
      ·
       replace c6 := Bool.eq_false_iff.mpr c6
       subst c6
       rw [if_neg (show ¬ (false = true) by decide)] at H
       obtain rfl := Option.some.inj H
       have p235 : 0 ≤ (x7_1 : Int) := of_decide_eq_true mc139
       have q235 : x7_1 < (l0.length : Int) := of_decide_eq_true mc139
       obtain ⟨ad235, e235, hx235_0, hx235_1, hx235_2, hx235_3, hx235_4, hx235_5⟩ := at_T73 HR0.out x7_1 p235 q235
       cases e235
       replace hx235_0 := (HB.out.cell (World.block_lt_of_cell? w _ hx235_0)).trans hx235_0
       replace hx235_1 := (HB.out.cell (World.block_lt_of_cell? w _ hx235_1)).trans hx235_1
       replace hx235_2 := (HB.out.cell (World.block_lt_of_cell? w _ hx235_2)).trans hx235_2
       replace hx235_3 := (HB.out.cell (World.block_lt_of_cell? w _ hx235_3)).trans hx235_3
       replace hx235_4 := (HB.out.cell (World.block_lt_of_cell? w _ hx235_4)).trans hx235_4
       replace hx235_5 := (HB.out.cell (World.block_lt_of_cell? w _ hx235_5)).trans hx235_5
       replace p235 := eq_true p235
       replace q235 := eq_true q235
       try go_wp2_with (first | ((with_reducible refine gd_ 4 rfl ?_); refine box_event rfl (N := 4) rfl (cs := #[.int .i64 0, .int .i64 0, .int .i64 0, .int .i64 0, .int .i64 0, .int .i64 0]) (t := 73) mc142 ?_; intro gb236 hg w27 hbox hb; have BK236 := A_ (hbox); have GW236 := A_ ((mc45 : w.heap.size ≤ gb236)); have GE236 := A_ ((mc45 : w.heap.size ≤ gb236)); replace HB := A_ (below_step mc89 hb); clear hb hbox hg; have hcz28_0 : w27.cell? ⟨gb236, 0, none⟩ = some (.int .i64 0) := bc_ BK236 0 rfl; have hcz28_1 : w27.cell? ⟨gb236, 1, none⟩ = some (.int .i64 0) := bc_ BK236 1 rfl; have hcz28_2 : w27.cell? ⟨gb236, 2, none⟩ = some (.int .i64 0) := bc_ BK236 2 rfl; have hcz28_3 : w27.cell? ⟨gb236, 3, none⟩ = some (.int .i64 0) := bc_ BK236 3 rfl; have hcz28_4 : w27.cell? ⟨gb236, 4, none⟩ = some (.int .i64 0) := bc_ BK236 4 rfl; have hcz28_5 : w27.cell? ⟨gb236, 5, none⟩ = some (.int .i64 0) := bc_ BK236 5 rfl; have hfz28_0 := blk_frozen BK236.out 0; have hfz28_1 := blk_frozen BK236.out 1; have hfz28_2 := blk_frozen BK236.out 2; have hfz28_3 := blk_frozen BK236.out 3; have hfz28_4 := blk_frozen BK236.out 4; have hfz28_5 := blk_frozen BK236.out 5))
       have n0_ : Aside0 (((((((w27.setCell ⟨gb236, 0, none⟩ (.int .i64 ((rd_T73 l0 x7_1).f0))).setCell ⟨gb236, 1, none⟩ (.int .i64 ((rd_T73 l0 x7_1).f1))).setCell ⟨gb236, 2, none⟩ (.int .i64 ((rd_T73 l0 x7_1).f2))).setCell ⟨gb236, 3, none⟩ (.int .i64 ((rd_T73 l0 x7_1).f3))).setCell ⟨gb236, 4, none⟩ (.int .i64 ((rd_T73 l0 x7_1).f4))).setCell ⟨gb236, 5, none⟩ (.int .i64 ((rd_T73 l0 x7_1).f5))).heap[gb236]? = some (.cells #[.int .i64 ((rd_T73 l0 x7_1).f0), .int .i64 ((rd_T73 l0 x7_1).f1), .int .i64 ((rd_T73 l0 x7_1).f2), .int .i64 ((rd_T73 l0 x7_1).f3), .int .i64 ((rd_T73 l0 x7_1).f4), .int .i64 ((rd_T73 l0 x7_1).f5)] 73 (0, 0))) := ⟨mc2⟩
       have n1_ : Aside0 (Below w.heap.size w ((((((w27.setCell ⟨gb236, 0, none⟩ (.int .i64 ((rd_T73 l0 x7_1).f0))).setCell ⟨gb236, 1, none⟩ (.int .i64 ((rd_T73 l0 x7_1).f1))).setCell ⟨gb236, 2, none⟩ (.int .i64 ((rd_T73 l0 x7_1).f2))).setCell ⟨gb236, 3, none⟩ (.int .i64 ((rd_T73 l0 x7_1).f3))).setCell ⟨gb236, 4, none⟩ (.int .i64 ((rd_T73 l0 x7_1).f4))).setCell ⟨gb236, 5, none⟩ (.int .i64 ((rd_T73 l0 x7_1).f5)))) := ⟨mc57⟩
       (try clear BK236)
       (try clear HB)
       generalize ((((((w27.setCell ⟨gb236, 0, none⟩ (.int .i64 ((rd_T73 l0 x7_1).f0))).setCell ⟨gb236, 1, none⟩ (.int .i64 ((rd_T73 l0 x7_1).f1))).setCell ⟨gb236, 2, none⟩ (.int .i64 ((rd_T73 l0 x7_1).f2))).setCell ⟨gb236, 3, none⟩ (.int .i64 ((rd_T73 l0 x7_1).f3))).setCell ⟨gb236, 4, none⟩ (.int .i64 ((rd_T73 l0 x7_1).f4))).setCell ⟨gb236, 5, none⟩ (.int .i64 ((rd_T73 l0 x7_1).f5))) = w29 at n0_ n1_ ⊢
       have BK236 := n0_
       have HB := n1_
       clear n0_ n1_
       replace BK236 := A_ (blk_drew BK236.out)
       replace HB := A_ (below_drew1 HB.out)
       refine start_ (n := 18) (S := fun w' => w'.cell? ⟨gb236, 0, none⟩ = some (.int .i64 ((rd_T73 l0 x7_1).f0)) ∧ w'.cell? ⟨gb236, 1, none⟩ = some (.int .i64 ((rd_T73 l0 x7_1).f1)) ∧ w'.cell? ⟨gb236, 2, none⟩ = some (.int .i64 ((rd_T73 l0 x7_1).f2)) ∧ w'.cell? ⟨gb236, 3, none⟩ = some (.int .i64 ((rd_T73 l0 x7_1).f3)) ∧ w'.cell? ⟨gb236, 4, none⟩ = some (.int .i64 ((rd_T73 l0 x7_1).f4)) ∧ w'.cell? ⟨gb236, 5, none⟩ = some (.int .i64 ((rd_T73 l0 x7_1).f5))) (ds := []) #[false, false, false, false, false, false, false, false, false, false, false, false, false, false, false, false, false, false] kr_ rfl rfl ⟨bc_ BK236 0 rfl, bc_ BK236 1 rfl, bc_ BK236 2 rfl, bc_ BK236 3 rfl, bc_ BK236 4 rfl, bc_ BK236 5 rfl⟩ (fun hHeld => ?_); refine with_tabW impl_areWarnings.tab4 impl_areWarnings.bits4 (fun HT_ HW_ => ?_)
       generalize w29.drew = w30 at BK236 HB hHeld ⊢
       refine take_ (i := 0) (N := some 12) #[true, false, false, false, false, false, false, false, false, false, false, false, false, false, false, false, false, false] rfl rfl (take_ofW HT_.out HW_.out kr_) (fun _ _ _ h => h) (Or.inl ⟨by rfl, mc136⟩) hHeld mc122 ?_
       refine one_ (i := 1) (N := some 13) #[true, true, false, false, false, false, false, false, false, false, false, false, false, false, false, false, false, false] rfl rfl (one_of HT_.out kr_) (by decide) (fun K hK => ?_)
       refine goes_ Tryz.func168 kr_ rfl #[.agg #[.int .i64 ((rd_T73 l0 x7_1).f0), .int .i64 ((rd_T73 l0 x7_1).f1), .int .i64 ((rd_T73 l0 x7_1).f2), .int .i64 ((rd_T73 l0 x7_1).f3), .int .i64 ((rd_T73 l0 x7_1).f4), .int .i64 ((rd_T73 l0 x7_1).f5)]] (by rfl) rfl rfl mc86 ?_
       with_reducible refine (impl_IsValidWarning.calls ((rd_T73 l0 x7_1).f0) ((rd_T73 l0 x7_1).f1) ((rd_T73 l0 x7_1).f2) ((rd_T73 l0 x7_1).f3) ((rd_T73 l0 x7_1).f4) ((rd_T73 l0 x7_1).f5) false _ A5.out).mono ?_
       rintro e w31 ⟨rfl, hb⟩
       refine ⟨_, rfl, ?_⟩
       replace BK236 := A_ (blk_below mc105 hb)
       replace HB := A_ (below_step mc57 hb)
       (try clear hb)
       refine hK.out _ _ ⟨bc_ BK236 0 rfl, bc_ BK236 1 rfl, bc_ BK236 2 rfl, bc_ BK236 3 rfl, bc_ BK236 4 rfl, bc_ BK236 5 rfl⟩ (fun hHeld => ?_)
       clear hK K
       refine norm_ mc88 ?_
       refine pure_ (i := 2) (N := some 14) #[true, true, true, false, false, false, false, false, false, false, false, false, false, false, false, false, false, false] rfl rfl (any_of HT_.out kr_) (fun _ _ _ h => h) (Or.inl ⟨by rfl, mc143⟩) mc122 ?_
       refine pure_ (i := 3) (N := some 15) #[true, true, true, true, false, false, false, false, false, false, false, false, false, false, false, false, false, false] rfl rfl (any_of HT_.out kr_) (fun _ _ _ h => h) (Or.inl ⟨by rfl, mc143⟩) mc122 ?_
       refine pure_ (i := 4) (N := some 16) (v := undef) (a' := ?_) #[true, true, true, true, true, false, false, false, false, false, false, false, false, false, false, false, false, false] rfl rfl (any_of HT_.out kr_) (fun _ _ _ h => h) (Or.inr ⟨by rfl, rfl⟩) ?_ ?_
       rotate_left
       ·
        simp only [Act.put, List.setIfInBounds_toArray, List.set_cons_zero, List.set_cons_succ, i64_w, i32_w]
        rfl
       refine pure_ (i := 5) (N := some 17) (v := undef) (a' := ?_) #[true, true, true, true, true, true, false, false, false, false, false, false, false, false, false, false, false, false] rfl rfl (any_of HT_.out kr_) (fun _ _ _ h => h) (Or.inr ⟨by rfl, rfl⟩) ?_ ?_
       rotate_left
       ·
        simp only [Act.put, List.setIfInBounds_toArray, List.set_cons_zero, List.set_cons_succ, i64_w, i32_w]
        rfl
       refine pure_ (i := 6) (N := some 18) (v := undef) (a' := ?_) #[true, true, true, true, true, true, true, false, false, false, false, false, false, false, false, false, false, false] rfl rfl (any_of HT_.out kr_) (fun _ _ _ h => h) (Or.inr ⟨by rfl, rfl⟩) ?_ ?_
       rotate_left
       ·
        simp only [Act.put, List.setIfInBounds_toArray, List.set_cons_zero, List.set_cons_succ, i64_w, i32_w]
        rfl
       refine pure_ (i := 7) (N := some 19) (v := undef) (a' := ?_) #[true, true, true, true, true, true, true, true, false, false, false, false, false, false, false, false, false, false] rfl rfl (any_of HT_.out kr_) (fun _ _ _ h => h) (Or.inr ⟨by rfl, rfl⟩) ?_ ?_
       rotate_left
       ·
        simp only [Act.put, List.setIfInBounds_toArray, List.set_cons_zero, List.set_cons_succ, i64_w, i32_w]
        rfl
       refine pure_ (i := 8) (N := some 20) (v := undef) (a' := ?_) #[true, true, true, true, true, true, true, true, true, false, false, false, false, false, false, false, false, false] rfl rfl (any_of HT_.out kr_) (fun _ _ _ h => h) (Or.inr ⟨by rfl, rfl⟩) ?_ ?_
       rotate_left
       ·
        simp only [Act.put, List.setIfInBounds_toArray, List.set_cons_zero, List.set_cons_succ, i64_w, i32_w]
        rfl
       refine pure_ (i := 9) (N := some 21) (v := undef) (a' := ?_) #[true, true, true, true, true, true, true, true, true, true, false, false, false, false, false, false, false, false] rfl rfl (any_of HT_.out kr_) (fun _ _ _ h => h) (Or.inr ⟨by rfl, rfl⟩) ?_ ?_
       rotate_left
       ·
        simp only [Act.put, List.setIfInBounds_toArray, List.set_cons_zero, List.set_cons_succ, i64_w, i32_w]
        rfl
       refine pure_ (i := 10) (N := some 22) (v := undef) (a' := ?_) #[true, true, true, true, true, true, true, true, true, true, true, false, false, false, false, false, false, false] rfl rfl (any_of HT_.out kr_) (fun _ _ _ h => h) (Or.inr ⟨by rfl, rfl⟩) ?_ ?_
       rotate_left
       ·
        simp only [Act.put, List.setIfInBounds_toArray, List.set_cons_zero, List.set_cons_succ, i64_w, i32_w]
        rfl
       refine pure_ (i := 11) (N := some 23) (v := undef) (a' := ?_) #[true, true, true, true, true, true, true, true, true, true, true, true, false, false, false, false, false, false] rfl rfl (any_of HT_.out kr_) (fun _ _ _ h => h) (Or.inr ⟨by rfl, rfl⟩) ?_ ?_
       rotate_left
       ·
        simp only [Act.put, List.setIfInBounds_toArray, List.set_cons_zero, List.set_cons_succ, i64_w, i32_w]
        rfl
       refine pure_ (i := 12) (N := some 24) (v := undef) (a' := ?_) #[true, true, true, true, true, true, true, true, true, true, true, true, true, false, false, false, false, false] rfl rfl (any_of HT_.out kr_) (fun _ _ _ h => h) (Or.inr ⟨by rfl, rfl⟩) ?_ ?_
       rotate_left
       ·
        simp only [Act.put, List.setIfInBounds_toArray, List.set_cons_zero, List.set_cons_succ, i64_w, i32_w]
        rfl
       refine pure_ (i := 13) (N := some 25) (v := undef) (a' := ?_) #[true, true, true, true, true, true, true, true, true, true, true, true, true, true, false, false, false, false] rfl rfl (any_of HT_.out kr_) (fun _ _ _ h => h) (Or.inr ⟨by rfl, rfl⟩) ?_ ?_
       rotate_left
       ·
        simp only [Act.put, List.setIfInBounds_toArray, List.set_cons_zero, List.set_cons_succ, i64_w, i32_w]
        rfl
       refine pure_ (i := 14) (N := some 26) (v := undef) (a' := ?_) #[true, true, true, true, true, true, true, true, true, true, true, true, true, true, true, false, false, false] rfl rfl (any_of HT_.out kr_) (fun _ _ _ h => h) (Or.inr ⟨by rfl, rfl⟩) ?_ ?_
       rotate_left
       ·
        simp only [Act.put, List.setIfInBounds_toArray, List.set_cons_zero, List.set_cons_succ, i64_w, i32_w]
        rfl
       refine pure_ (i := 15) (N := some 27) (v := undef) (a' := ?_) #[true, true, true, true, true, true, true, true, true, true, true, true, true, true, true, true, false, false] rfl rfl (any_of HT_.out kr_) (fun _ _ _ h => h) (Or.inr ⟨by rfl, rfl⟩) ?_ ?_
       rotate_left
       ·
        simp only [Act.put, List.setIfInBounds_toArray, List.set_cons_zero, List.set_cons_succ, i64_w, i32_w]
        rfl
       refine pure_ (i := 16) (N := some 28) (v := undef) (a' := ?_) #[true, true, true, true, true, true, true, true, true, true, true, true, true, true, true, true, true, false] rfl rfl (any_of HT_.out kr_) (fun _ _ _ h => h) (Or.inr ⟨by rfl, rfl⟩) ?_ ?_
       rotate_left
       ·
        simp only [Act.put, List.setIfInBounds_toArray, List.set_cons_zero, List.set_cons_succ, i64_w, i32_w]
        rfl
       refine pure_ (i := 17) (N := some 29) #[true, true, true, true, true, true, true, true, true, true, true, true, true, true, true, true, true, true] rfl rfl (any_of HT_.out kr_) (fun _ _ _ h => h) (Or.inl ⟨by rfl, mc143⟩) mc122 ?_
       refine done_ (done_of HT_.out kr_) ?_
       try go_wp2
       go_ret
       exact ⟨mc133, mc57⟩
     ·
      rw [if_neg c4] at H
      exact absurd H (by simp)
    ·
     rw [if_neg c3] at H
     exact absurd H (by simp)
   ·
    rw [if_neg c2] at H
    have c2b0 : decide (x7_1 < (l0.length : Int)) = false := decide_eq_false c2
    clear c2
    obtain rfl := Option.some.inj H
    go_wp2
    go_ret
    exact ⟨mc133, mc89⟩

end Go.Proofs.YtlnlabndaikbnaaGreatDoor.P
