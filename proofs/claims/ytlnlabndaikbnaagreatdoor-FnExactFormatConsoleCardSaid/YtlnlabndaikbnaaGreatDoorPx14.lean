-- Made by pp.py of this session out of the kit's print and of contracts proved by hand; Lean checks it.
import Derived.Test.YtlnlabndaikbnaaGreatDoorMc
import Derived.Shelf.Abstract
import Derived.Test.YtlnlabndaikbnaaGreatDoorPx0
import Derived.Test.YtlnlabndaikbnaaGreatDoorPx2
import Derived.Test.YtlnlabndaikbnaaGreatDoorPx12
import Derived.Test.YtlnlabndaikbnaaGreatDoorPx13
namespace Go.Proofs.YtlnlabndaikbnaaGreatDoor.P
open Go.RowKit Go.Proofs.YtlnlabndaikbnaaGreatDoorW.PrintWords Go.Proofs.YtlnlabndaikbnaaGreatDoorW.PrintLast Go.Proofs.YtlnlabndaikbnaaGreatDoorW.PrintMore
attribute [local go_sem] max2_int min2_int max_two min_two max_three min_three max_four min_four   -- for this text's walks alone
set_option linter.unusedVariables false
set_option linter.unusedSimpArgs false

/-! ### has_IsConsistent_1: function 993116 -/
def meetP (d0 d1 d2 d3 d4 d5 : Int) (x : S73) : Bool := (impl_doMeet.f d0 d1 d2 d3 d4 d5 x.f0 x.f1 x.f2 x.f3 x.f4 x.f5).getD false
theorem meetP_some (d0 d1 d2 d3 d4 d5 : Int) (x : S73) : impl_doMeet.f d0 d1 d2 d3 d4 d5 x.f0 x.f1 x.f2 x.f3 x.f4 x.f5 = some (meetP d0 d1 d2 d3 d4 d5 x) := by
  unfold meetP impl_doMeet.f
  repeat' split
  all_goals rfl
def has_IsConsistent_1.f (l0 : List S73) (a1_0 a1_1 a1_2 a1_3 a1_4 a1_5 : Int) : Option Bool := some (l0.any fun o => meetP a1_0 a1_1 a1_2 a1_3 a1_4 a1_5 o)
set_option maxHeartbeats 1000000 in
theorem pred_IsConsistent_1 (gb : Nat) (d0 d1 d2 d3 d4 d5 : Int) (w : World) (hbk : w.heap[gb]? = some (.cells #[.int .i64 d0, .int .i64 d1, .int .i64 d2, .int .i64 d3, .int .i64 d4, .int .i64 d5] 73 (0, 0))) :
    PredD 116 #[.pointer (some ⟨gb, 0, none⟩)] (fun o => meetP d0 d1 d2 d3 d4 d5 o) w := by
  intro W x hb
  have hW := blk_below hbk hb
  have hc0 : W.cell? ⟨gb, 0, none⟩ = some (.int .i64 d0) := blk_cell hW 0
  have hc1 : W.cell? ⟨gb, 1, none⟩ = some (.int .i64 d1) := blk_cell hW 1
  have hc2 : W.cell? ⟨gb, 2, none⟩ = some (.int .i64 d2) := blk_cell hW 2
  have hc3 : W.cell? ⟨gb, 3, none⟩ = some (.int .i64 d3) := blk_cell hW 3
  have hc4 : W.cell? ⟨gb, 4, none⟩ = some (.int .i64 d4) := blk_cell hW 4
  have hc5 : W.cell? ⟨gb, 5, none⟩ = some (.int .i64 d5) := blk_cell hW 5
  have hBW : gb < W.heap.size := blk_lt hW
  have hne : gb ≠ W.heap.size := by omega
  have hHB := hb.alloc hb.size (.cells #[.int .i64 x.f0, .int .i64 x.f1, .int .i64 x.f2, .int .i64 x.f3, .int .i64 x.f4, .int .i64 x.f5] 73 (0, 0))
  have HB := A_ hHB
  have hcall := impl_doMeet.calls d0 d1 d2 d3 d4 d5 x.f0 x.f1 x.f2 x.f3 x.f4 x.f5 (meetP d0 d1 d2 d3 d4 d5 x) (W.alloc (.cells #[.int .i64 x.f0, .int .i64 x.f1, .int .i64 x.f2, .int .i64 x.f3, .int .i64 x.f4, .int .i64 x.f5] 73 (0, 0))) (meetP_some d0 d1 d2 d3 d4 d5 x)
  have hX := blk_new W (.cells #[.int .i64 x.f0, .int .i64 x.f1, .int .i64 x.f2, .int .i64 x.f3, .int .i64 x.f4, .int .i64 x.f5] 73 (0, 0))
  have hx0 : (W.alloc (.cells #[.int .i64 x.f0, .int .i64 x.f1, .int .i64 x.f2, .int .i64 x.f3, .int .i64 x.f4, .int .i64 x.f5] 73 (0, 0))).cell? ⟨W.heap.size, 0, none⟩ = some (.int .i64 x.f0) := blk_cell hX 0
  have hx1 : (W.alloc (.cells #[.int .i64 x.f0, .int .i64 x.f1, .int .i64 x.f2, .int .i64 x.f3, .int .i64 x.f4, .int .i64 x.f5] 73 (0, 0))).cell? ⟨W.heap.size, 1, none⟩ = some (.int .i64 x.f1) := blk_cell hX 1
  have hx2 : (W.alloc (.cells #[.int .i64 x.f0, .int .i64 x.f1, .int .i64 x.f2, .int .i64 x.f3, .int .i64 x.f4, .int .i64 x.f5] 73 (0, 0))).cell? ⟨W.heap.size, 2, none⟩ = some (.int .i64 x.f2) := blk_cell hX 2
  have hx3 : (W.alloc (.cells #[.int .i64 x.f0, .int .i64 x.f1, .int .i64 x.f2, .int .i64 x.f3, .int .i64 x.f4, .int .i64 x.f5] 73 (0, 0))).cell? ⟨W.heap.size, 3, none⟩ = some (.int .i64 x.f3) := blk_cell hX 3
  have hx4 : (W.alloc (.cells #[.int .i64 x.f0, .int .i64 x.f1, .int .i64 x.f2, .int .i64 x.f3, .int .i64 x.f4, .int .i64 x.f5] 73 (0, 0))).cell? ⟨W.heap.size, 4, none⟩ = some (.int .i64 x.f4) := blk_cell hX 4
  have hx5 : (W.alloc (.cells #[.int .i64 x.f0, .int .i64 x.f1, .int .i64 x.f2, .int .i64 x.f3, .int .i64 x.f4, .int .i64 x.f5] 73 (0, 0))).cell? ⟨W.heap.size, 5, none⟩ = some (.int .i64 x.f5) := blk_cell hX 5
  show Calls Tryz.prog 116 #[.agg #[.int .i64 x.f0, .int .i64 x.f1, .int .i64 x.f2, .int .i64 x.f3, .int .i64 x.f4, .int .i64 x.f5], .pointer (some ⟨gb, 0, none⟩)] W _
  obtain ⟨b, hb0⟩ : ∃ b, meetP d0 d1 d2 d3 d4 d5 x = b := ⟨_, rfl⟩
  rw [hb0] at hcall
  have HB0 := A_ hb0
  clear hb0
  clear hb hW hbk hHB hX
  go_enter Tryz.func116, Tryz.ntmps116
  go_wp2_with (go_at_call 117; refine hcall.mono ?_; rintro e w' ⟨rfl, hb'⟩)
  go_ret
  exact ⟨by rw [← HB0.out]; rfl, below_step HB.out hb'⟩
set_option maxHeartbeats 8000000 in
set_option maxRecDepth 100000 in
theorem has_IsConsistent_1.calls (A0 : Option Addr) (c0 : Nat) (l0 : List (S73)) (a1_0 : Int) (a1_1 : Int) (a1_2 : Int) (a1_3 : Int) (a1_4 : Int) (a1_5 : Int) (r : Bool) (w : World) (hr0 : Kd.C k73 w A0 l0.length l0) (hc0 : l0.length ≤ c0) (gb_ : Nat) (hbk_ : w.heap[gb_]? = some (.cells #[.int .i64 a1_0, .int .i64 a1_1, .int .i64 a1_2, .int .i64 a1_3, .int .i64 a1_4, .int .i64 a1_5] 73 (0, 0))) (h : has_IsConsistent_1.f l0 a1_0 a1_1 a1_2 a1_3 a1_4 a1_5 = some r) :
    Calls Tryz.prog 115 #[.slice A0 l0.length c0, .func (.func 116) #[] #[.pointer (some ⟨gb_, 0, none⟩)]] w fun e w' => e = .returned (.bool r) ∧ Below w.heap.size w w' := by
  obtain rfl := Option.some.inj h
  exact lib_ContainsFunc_D 116 #[.pointer (some ⟨gb_, 0, none⟩)] _ A0 c0 l0 w (enters_of Tryz.func116 kr_ rfl) hr0 (pred_IsConsistent_1 gb_ a1_0 a1_1 a1_2 a1_3 a1_4 a1_5 w hbk_)

/-! ### impl_IsConsistent: function 73 -/
def impl_IsConsistent.l0 : Nat → List (S73) → List (S73) → Int → Int → Option (Bool)
  | 0, _, _, _, _ => none
  | k + 1, x0, x8, x9, x10 => if x10 < x9 then (if 0 ≤ x10 then (if x10 < (x8.length : Int) then (if x10 ≤ (x0.length : Int) then ((has_IsConsistent_1.f (x0.take (x10 : Int).toNat) ((rd_T73 x8 x10).f0) ((rd_T73 x8 x10).f1) ((rd_T73 x8 x10).f2) ((rd_T73 x8 x10).f3) ((rd_T73 x8 x10).f4) ((rd_T73 x8 x10).f5)).bind fun t248 => (if t248 = true then (some false) else (impl_IsConsistent.l0 k x0 x8 x9 (wrap64 (x10 + 1))))) else (none)) else (none)) else (none)) else (some true)
def impl_IsConsistent.f (k : Nat) (l0 : List (S73)) : Option (Bool) := (impl_areWarnings.f k l0).bind fun t241 => (if t241 = true then (impl_IsConsistent.l0 k l0 l0 (l0.length : Int) 0) else (some false))
set_option maxHeartbeats 8000000 in
set_option maxRecDepth 100000 in
theorem impl_IsConsistent.calls (k : Nat) (A0 : Option Addr) (c0 : Nat) (l0 : List (S73)) (r : Bool) (w : World) (hr0 : Kd.C k73 w A0 l0.length l0) (hc0 : l0.length ≤ c0) (h : impl_IsConsistent.f k l0 = some r) :
    Calls Tryz.prog 73 #[.slice A0 l0.length c0] w fun e w' => e = .returned (.bool r) ∧ Below w.heap.size w w' := by
  have hu73 := Tryz.underlying73
  have HR0 := A_ hr0
  have HC0 := A_ hc0
  clear hr0 hc0
  have HB := A_ (Below.refl w.heap.size w)
  have H : ((impl_areWarnings.f k l0).bind fun t241 => (if t241 = true then (impl_IsConsistent.l0 k l0 l0 (l0.length : Int) 0) else (some false))) = some r := h
  clear h
  obtain ⟨t241, A20, H⟩ := oB_ H
  have A2 := A_ A20
  clear A20
  by_cases c3 : t241 = true
  · subst c3
    rw [if_pos rfl] at H
    have H' := A_ H
    clear H
    go_enter Tryz.func73, Tryz.ntmps73
    go_wp2_with (first | ((with_reducible refine gc_ 114 rfl ?_); refine goesL_ (some 6) rfl rfl Tryz.func114 kr_ rfl #[.slice A0 l0.length c0] rfl mc86 ?_; (with_reducible refine (impl_areWarnings.calls k _ _ l0 true _ ?side1 ?side2 A2.out).mono ?_); (case side1 => repeat (first | exact HR0.out | (with_reducible refine Kd.C_alloc ?_ _) | (with_reducible refine Kd.C_drewN ?_ _) | (with_reducible refine Kd.C_drew ?_))); (case side2 => exact HC0.out); rintro e w4 ⟨rfl, hb⟩; refine ⟨_, rfl, ?_⟩; replace HB := A_ (below_step mc89 hb); (try clear hb)))
    go_loopg [10] k (fun kq v10 w' => ∃ (x10_1 : Int), v10 = .int .i64 x10_1 ∧ Aside0 (impl_IsConsistent.l0 kq l0 l0 (l0.length : Int) x10_1 = some r) ∧ Aside0 (kq ≤ k) ∧ Aside0 (Below w.heap.size w w'))
    case atStart => exact ⟨(0), mc141, H', ⟨Nat.le_refl _⟩, ⟨mc89⟩⟩
    case round =>
      clear H'
      try clear p2
      obtain ⟨x10_1, rfl, HA, HK1, HB⟩ := hrel
      cases gk with
      | zero => exact absurd HA.out (by simp [impl_IsConsistent.l0])
      | succ k1 =>
        have H := HA.out
        clear HA
        simp only [impl_IsConsistent.l0] at H
        by_cases c5 : x10_1 < (l0.length : Int)
        · rw [if_pos c5] at H
          have c5b0 : decide (x10_1 < (l0.length : Int)) = true := decide_eq_true c5
          clear c5
          by_cases c6 : 0 ≤ x10_1
          · rw [if_pos c6] at H
            have c6b0 : decide (0 ≤ x10_1) = true := decide_eq_true c6
            clear c6
            by_cases c7 : x10_1 < (l0.length : Int)
            · rw [if_pos c7] at H
              have c7b0 : decide (x10_1 < (l0.length : Int)) = true := decide_eq_true c7
              clear c7
              have c8b0 := eq_true (of_decide_eq_true mc139 : 0 ≤ x10_1)
              by_cases c9 : x10_1 ≤ (l0.length : Int)
              · rw [if_pos c9] at H
                have c9b0 := eq_true c9
                have c9b1 : decide (x10_1 ≤ (l0.length : Int)) = true := decide_eq_true c9
                clear c9
                obtain ⟨y244, hy244⟩ : ∃ y_ : List (S73), y_ = (l0.take (x10_1 : Int).toNat) := ⟨_, rfl⟩
                replace H : ((has_IsConsistent_1.f y244 ((rd_T73 l0 x10_1).f0) ((rd_T73 l0 x10_1).f1) ((rd_T73 l0 x10_1).f2) ((rd_T73 l0 x10_1).f3) ((rd_T73 l0 x10_1).f4) ((rd_T73 l0 x10_1).f5)).bind fun t248 => (if t248 = true then (some false) else (impl_IsConsistent.l0 k1 l0 l0 (l0.length : Int) (wrap64 (x10_1 + 1))))) = some r := by first | (rw [hy244]; with_reducible exact H) | (have H2_ := (Option.bind_some _ _).symm.trans H; rw [hy244]; with_reducible exact H2_) | (have H2_ := (Option.bind_some _ _).symm.trans H; with_reducible exact H2_) | with_reducible exact H | (rw [hy244]; exact H) | exact H
                have Ny244 := A_ hy244
                clear hy244
                obtain ⟨t248, A100, H⟩ := oB_ H
                have A10 := A_ A100
                clear A100
                by_cases c11 : t248 = true
                · subst c11
                  rw [if_pos rfl] at H
                  obtain rfl := Option.some.inj H
                  have p242 : 0 ≤ (x10_1 : Int) := of_decide_eq_true mc139
                  have q242 : x10_1 < (l0.length : Int) := of_decide_eq_true mc139
                  obtain ⟨ad242, e242, hx242_0, hx242_1, hx242_2, hx242_3, hx242_4, hx242_5⟩ := at_T73 HR0.out x10_1 p242 q242
                  cases e242
                  replace hx242_0 := (HB.out.cell (World.block_lt_of_cell? w _ hx242_0)).trans hx242_0
                  replace hx242_1 := (HB.out.cell (World.block_lt_of_cell? w _ hx242_1)).trans hx242_1
                  replace hx242_2 := (HB.out.cell (World.block_lt_of_cell? w _ hx242_2)).trans hx242_2
                  replace hx242_3 := (HB.out.cell (World.block_lt_of_cell? w _ hx242_3)).trans hx242_3
                  replace hx242_4 := (HB.out.cell (World.block_lt_of_cell? w _ hx242_4)).trans hx242_4
                  replace hx242_5 := (HB.out.cell (World.block_lt_of_cell? w _ hx242_5)).trans hx242_5
                  replace p242 := eq_true p242
                  replace q242 := eq_true q242
                  go_wp2_with (first | ((with_reducible refine gd_ 4 rfl ?_); refine box_event rfl (N := 4) rfl (cs := #[.int .i64 0, .int .i64 0, .int .i64 0, .int .i64 0, .int .i64 0, .int .i64 0]) (t := 73) mc142 ?_; intro gb243 hg w12 hbox hb; have BK243 := A_ (hbox); have GW243 := A_ ((mc45 : w.heap.size ≤ gb243)); have GE243 := A_ ((mc45 : w.heap.size ≤ gb243)); replace HB := A_ (below_step mc89 hb); clear hb hbox hg; have hcz13_0 : w12.cell? ⟨gb243, 0, none⟩ = some (.int .i64 0) := bc_ BK243 0 rfl; have hcz13_1 : w12.cell? ⟨gb243, 1, none⟩ = some (.int .i64 0) := bc_ BK243 1 rfl; have hcz13_2 : w12.cell? ⟨gb243, 2, none⟩ = some (.int .i64 0) := bc_ BK243 2 rfl; have hcz13_3 : w12.cell? ⟨gb243, 3, none⟩ = some (.int .i64 0) := bc_ BK243 3 rfl; have hcz13_4 : w12.cell? ⟨gb243, 4, none⟩ = some (.int .i64 0) := bc_ BK243 4 rfl; have hcz13_5 : w12.cell? ⟨gb243, 5, none⟩ = some (.int .i64 0) := bc_ BK243 5 rfl; have hfz13_0 := blk_frozen BK243.out 0; have hfz13_1 := blk_frozen BK243.out 1; have hfz13_2 := blk_frozen BK243.out 2; have hfz13_3 := blk_frozen BK243.out 3; have hfz13_4 := blk_frozen BK243.out 4; have hfz13_5 := blk_frozen BK243.out 5) | ((with_reducible refine gate_store (t := 73) (p := 4) rfl ?_); refine store_event (t := 73) (p := 4) (v := ?vo_w14) (w1 := ((((((w12.setCell ⟨gb243, 0, none⟩ (.int .i64 ((rd_T73 l0 x10_1).f0))).setCell ⟨gb243, 1, none⟩ (.int .i64 ((rd_T73 l0 x10_1).f1))).setCell ⟨gb243, 2, none⟩ (.int .i64 ((rd_T73 l0 x10_1).f2))).setCell ⟨gb243, 3, none⟩ (.int .i64 ((rd_T73 l0 x10_1).f3))).setCell ⟨gb243, 4, none⟩ (.int .i64 ((rd_T73 l0 x10_1).f4))).setCell ⟨gb243, 5, none⟩ (.int .i64 ((rd_T73 l0 x10_1).f5)))) ?hg ?ho ?hn ?hr ?_; (case ho => rfl); (case hg => rfl); (case hn => rfl); (case hr => exact mc142); intro w14 hw; have n0_ : Aside0 (w14.heap[gb243]? = some (.cells #[.int .i64 ((rd_T73 l0 x10_1).f0), .int .i64 ((rd_T73 l0 x10_1).f1), .int .i64 ((rd_T73 l0 x10_1).f2), .int .i64 ((rd_T73 l0 x10_1).f3), .int .i64 ((rd_T73 l0 x10_1).f4), .int .i64 ((rd_T73 l0 x10_1).f5)] 73 (0, 0))) := ⟨mc0⟩; have n1_ : Aside0 (Below w.heap.size w w14) := ⟨mc41⟩; clear hw; clear BK243; clear HB; have BK243 := n0_; have HB := n1_; clear n0_ n1_; have q15 : (x10_1 : Int) ≤ ((l0.length : Int) : Int) := of_decide_eq_true mc139; obtain ⟨i015, hi015, _, hsz15, _⟩ := info_parts info73; have hroom15 : l0.length ≤ c0 := HC0.out; have hC15 : Kd.C k73 _ (some ad242) l0.length l0 := HR0.out; have hcut15 := cut_to (P := Tryz.prog) 30 73 .i64 Tryz.underlying30 hi015 (some ad242) l0.length c0 x10_1 (of_decide_eq_true mc139) q15 hroom15; have hr15 := Kd.C_take (m := (x10_1 : Int).toNat) hC15 (by omega); have hy15 : y244.length = (x10_1 : Int).toNat := (by rw [Ny244.out, List.length_take]; omega); rw [← Ny244.out] at hr15; rw [← hy15] at hcut15; have HR247 := A_ hr15; have HC247 := A_ (show y244.length ≤ c0 from by omega); clear hr15 hC15 hroom15 hi015 hsz15; have KY15 := A_ hy15; clear hy15; replace q15 := eq_true q15; have hcz16_0 : w14.cell? ⟨gb243, 0, none⟩ = some (.int .i64 ((rd_T73 l0 x10_1).f0)) := bc_ BK243 0 rfl; have hcz16_1 : w14.cell? ⟨gb243, 1, none⟩ = some (.int .i64 ((rd_T73 l0 x10_1).f1)) := bc_ BK243 1 rfl; have hcz16_2 : w14.cell? ⟨gb243, 2, none⟩ = some (.int .i64 ((rd_T73 l0 x10_1).f2)) := bc_ BK243 2 rfl; have hcz16_3 : w14.cell? ⟨gb243, 3, none⟩ = some (.int .i64 ((rd_T73 l0 x10_1).f3)) := bc_ BK243 3 rfl; have hcz16_4 : w14.cell? ⟨gb243, 4, none⟩ = some (.int .i64 ((rd_T73 l0 x10_1).f4)) := bc_ BK243 4 rfl; have hcz16_5 : w14.cell? ⟨gb243, 5, none⟩ = some (.int .i64 ((rd_T73 l0 x10_1).f5)) := bc_ BK243 5 rfl; have hfz16_0 := blk_frozen BK243.out 0; have hfz16_1 := blk_frozen BK243.out 1; have hfz16_2 := blk_frozen BK243.out 2; have hfz16_3 := blk_frozen BK243.out 3; have hfz16_4 := blk_frozen BK243.out 4; have hfz16_5 := blk_frozen BK243.out 5) | ((with_reducible refine gc_ 115 rfl ?_); refine goesL_ (some 19) rfl rfl Tryz.func115 kr_ rfl #[.slice (some ad242) y244.length c0, .func (.func 116) #[] #[.pointer (some ⟨gb243, 0, none⟩)]] rfl mc86 ?_; (with_reducible refine (has_IsConsistent_1.calls _ _ y244 ((rd_T73 l0 x10_1).f0) ((rd_T73 l0 x10_1).f1) ((rd_T73 l0 x10_1).f2) ((rd_T73 l0 x10_1).f3) ((rd_T73 l0 x10_1).f4) ((rd_T73 l0 x10_1).f5) true _ ?side1 ?side2 gb243 mc107 A10.out).mono ?_); (case side1 => repeat (first | exact (Kd.C_below HR247.out HB.out) | (with_reducible refine Kd.C_alloc ?_ _) | (with_reducible refine Kd.C_drewN ?_ _) | (with_reducible refine Kd.C_drew ?_))); (case side2 => exact HC247.out); rintro e w17 ⟨rfl, hb⟩; refine ⟨_, rfl, ?_⟩; replace BK243 := A_ (blk_below mc107 hb); replace HB := A_ (below_step mc59 hb); (try clear hb)))
                  go_ret
                  exact ⟨mc133, mc59⟩
                · replace c11 := Bool.eq_false_iff.mpr c11
                  subst c11
                  rw [if_neg (show ¬ (false = true) by decide)] at H
                  have H' := A_ H
                  clear H
                  have p242 : 0 ≤ (x10_1 : Int) := of_decide_eq_true mc139
                  have q242 : x10_1 < (l0.length : Int) := of_decide_eq_true mc139
                  obtain ⟨ad242, e242, hx242_0, hx242_1, hx242_2, hx242_3, hx242_4, hx242_5⟩ := at_T73 HR0.out x10_1 p242 q242
                  cases e242
                  replace hx242_0 := (HB.out.cell (World.block_lt_of_cell? w _ hx242_0)).trans hx242_0
                  replace hx242_1 := (HB.out.cell (World.block_lt_of_cell? w _ hx242_1)).trans hx242_1
                  replace hx242_2 := (HB.out.cell (World.block_lt_of_cell? w _ hx242_2)).trans hx242_2
                  replace hx242_3 := (HB.out.cell (World.block_lt_of_cell? w _ hx242_3)).trans hx242_3
                  replace hx242_4 := (HB.out.cell (World.block_lt_of_cell? w _ hx242_4)).trans hx242_4
                  replace hx242_5 := (HB.out.cell (World.block_lt_of_cell? w _ hx242_5)).trans hx242_5
                  replace p242 := eq_true p242
                  replace q242 := eq_true q242
                  go_wp2_with (first | ((with_reducible refine gd_ 4 rfl ?_); refine box_event rfl (N := 4) rfl (cs := #[.int .i64 0, .int .i64 0, .int .i64 0, .int .i64 0, .int .i64 0, .int .i64 0]) (t := 73) mc142 ?_; intro gb243 hg w18 hbox hb; have BK243 := A_ (hbox); have GW243 := A_ ((mc45 : w.heap.size ≤ gb243)); have GE243 := A_ ((mc45 : w.heap.size ≤ gb243)); replace HB := A_ (below_step mc89 hb); clear hb hbox hg; have hcz19_0 : w18.cell? ⟨gb243, 0, none⟩ = some (.int .i64 0) := bc_ BK243 0 rfl; have hcz19_1 : w18.cell? ⟨gb243, 1, none⟩ = some (.int .i64 0) := bc_ BK243 1 rfl; have hcz19_2 : w18.cell? ⟨gb243, 2, none⟩ = some (.int .i64 0) := bc_ BK243 2 rfl; have hcz19_3 : w18.cell? ⟨gb243, 3, none⟩ = some (.int .i64 0) := bc_ BK243 3 rfl; have hcz19_4 : w18.cell? ⟨gb243, 4, none⟩ = some (.int .i64 0) := bc_ BK243 4 rfl; have hcz19_5 : w18.cell? ⟨gb243, 5, none⟩ = some (.int .i64 0) := bc_ BK243 5 rfl; have hfz19_0 := blk_frozen BK243.out 0; have hfz19_1 := blk_frozen BK243.out 1; have hfz19_2 := blk_frozen BK243.out 2; have hfz19_3 := blk_frozen BK243.out 3; have hfz19_4 := blk_frozen BK243.out 4; have hfz19_5 := blk_frozen BK243.out 5) | ((with_reducible refine gate_store (t := 73) (p := 4) rfl ?_); refine store_event (t := 73) (p := 4) (v := ?vo_w20) (w1 := ((((((w18.setCell ⟨gb243, 0, none⟩ (.int .i64 ((rd_T73 l0 x10_1).f0))).setCell ⟨gb243, 1, none⟩ (.int .i64 ((rd_T73 l0 x10_1).f1))).setCell ⟨gb243, 2, none⟩ (.int .i64 ((rd_T73 l0 x10_1).f2))).setCell ⟨gb243, 3, none⟩ (.int .i64 ((rd_T73 l0 x10_1).f3))).setCell ⟨gb243, 4, none⟩ (.int .i64 ((rd_T73 l0 x10_1).f4))).setCell ⟨gb243, 5, none⟩ (.int .i64 ((rd_T73 l0 x10_1).f5)))) ?hg ?ho ?hn ?hr ?_; (case ho => rfl); (case hg => rfl); (case hn => rfl); (case hr => exact mc142); intro w20 hw; have n0_ : Aside0 (w20.heap[gb243]? = some (.cells #[.int .i64 ((rd_T73 l0 x10_1).f0), .int .i64 ((rd_T73 l0 x10_1).f1), .int .i64 ((rd_T73 l0 x10_1).f2), .int .i64 ((rd_T73 l0 x10_1).f3), .int .i64 ((rd_T73 l0 x10_1).f4), .int .i64 ((rd_T73 l0 x10_1).f5)] 73 (0, 0))) := ⟨mc0⟩; have n1_ : Aside0 (Below w.heap.size w w20) := ⟨mc41⟩; clear hw; clear BK243; clear HB; have BK243 := n0_; have HB := n1_; clear n0_ n1_; have q21 : (x10_1 : Int) ≤ ((l0.length : Int) : Int) := of_decide_eq_true mc139; obtain ⟨i021, hi021, _, hsz21, _⟩ := info_parts info73; have hroom21 : l0.length ≤ c0 := HC0.out; have hC21 : Kd.C k73 _ (some ad242) l0.length l0 := HR0.out; have hcut21 := cut_to (P := Tryz.prog) 30 73 .i64 Tryz.underlying30 hi021 (some ad242) l0.length c0 x10_1 (of_decide_eq_true mc139) q21 hroom21; have hr21 := Kd.C_take (m := (x10_1 : Int).toNat) hC21 (by omega); have hy21 : y244.length = (x10_1 : Int).toNat := (by rw [Ny244.out, List.length_take]; omega); rw [← Ny244.out] at hr21; rw [← hy21] at hcut21; have HR247 := A_ hr21; have HC247 := A_ (show y244.length ≤ c0 from by omega); clear hr21 hC21 hroom21 hi021 hsz21; have KY21 := A_ hy21; clear hy21; replace q21 := eq_true q21; have hcz22_0 : w20.cell? ⟨gb243, 0, none⟩ = some (.int .i64 ((rd_T73 l0 x10_1).f0)) := bc_ BK243 0 rfl; have hcz22_1 : w20.cell? ⟨gb243, 1, none⟩ = some (.int .i64 ((rd_T73 l0 x10_1).f1)) := bc_ BK243 1 rfl; have hcz22_2 : w20.cell? ⟨gb243, 2, none⟩ = some (.int .i64 ((rd_T73 l0 x10_1).f2)) := bc_ BK243 2 rfl; have hcz22_3 : w20.cell? ⟨gb243, 3, none⟩ = some (.int .i64 ((rd_T73 l0 x10_1).f3)) := bc_ BK243 3 rfl; have hcz22_4 : w20.cell? ⟨gb243, 4, none⟩ = some (.int .i64 ((rd_T73 l0 x10_1).f4)) := bc_ BK243 4 rfl; have hcz22_5 : w20.cell? ⟨gb243, 5, none⟩ = some (.int .i64 ((rd_T73 l0 x10_1).f5)) := bc_ BK243 5 rfl; have hfz22_0 := blk_frozen BK243.out 0; have hfz22_1 := blk_frozen BK243.out 1; have hfz22_2 := blk_frozen BK243.out 2; have hfz22_3 := blk_frozen BK243.out 3; have hfz22_4 := blk_frozen BK243.out 4; have hfz22_5 := blk_frozen BK243.out 5) | ((with_reducible refine gc_ 115 rfl ?_); refine goesL_ (some 19) rfl rfl Tryz.func115 kr_ rfl #[.slice (some ad242) y244.length c0, .func (.func 116) #[] #[.pointer (some ⟨gb243, 0, none⟩)]] rfl mc86 ?_; (with_reducible refine (has_IsConsistent_1.calls _ _ y244 ((rd_T73 l0 x10_1).f0) ((rd_T73 l0 x10_1).f1) ((rd_T73 l0 x10_1).f2) ((rd_T73 l0 x10_1).f3) ((rd_T73 l0 x10_1).f4) ((rd_T73 l0 x10_1).f5) false _ ?side1 ?side2 gb243 mc107 A10.out).mono ?_); (case side1 => repeat (first | exact (Kd.C_below HR247.out HB.out) | (with_reducible refine Kd.C_alloc ?_ _) | (with_reducible refine Kd.C_drewN ?_ _) | (with_reducible refine Kd.C_drew ?_))); (case side2 => exact HC247.out); rintro e w23 ⟨rfl, hb⟩; refine ⟨_, rfl, ?_⟩; replace BK243 := A_ (blk_below mc107 hb); replace HB := A_ (below_step mc59 hb); (try clear hb)))
                  go_roundg k1
                  case measure => have := HK1.out; omega
                  case rel => exact ⟨(wrap64 (x10_1 + 1)), mc141, H', ⟨mc144⟩, ⟨mc59⟩⟩
              · rw [if_neg c9] at H
                exact absurd H (by simp)
            · rw [if_neg c7] at H
              exact absurd H (by simp)
          · rw [if_neg c6] at H
            exact absurd H (by simp)
        · rw [if_neg c5] at H
          have c5b0 : decide (x10_1 < (l0.length : Int)) = false := decide_eq_false c5
          clear c5
          obtain rfl := Option.some.inj H
          go_wp2
          go_ret
          exact ⟨mc133, mc89⟩
  · replace c3 := Bool.eq_false_iff.mpr c3
    subst c3
    rw [if_neg (show ¬ (false = true) by decide)] at H
    obtain rfl := Option.some.inj H
    go_enter Tryz.func73, Tryz.ntmps73
    go_wp2_with (first | ((with_reducible refine gc_ 114 rfl ?_); refine goesL_ (some 6) rfl rfl Tryz.func114 kr_ rfl #[.slice A0 l0.length c0] rfl mc86 ?_; (with_reducible refine (impl_areWarnings.calls k _ _ l0 false _ ?side1 ?side2 A2.out).mono ?_); (case side1 => repeat (first | exact HR0.out | (with_reducible refine Kd.C_alloc ?_ _) | (with_reducible refine Kd.C_drewN ?_ _) | (with_reducible refine Kd.C_drew ?_))); (case side2 => exact HC0.out); rintro e w24 ⟨rfl, hb⟩; refine ⟨_, rfl, ?_⟩; replace HB := A_ (below_step mc89 hb); (try clear hb)))
    go_ret
    exact ⟨mc133, mc89⟩

end Go.Proofs.YtlnlabndaikbnaaGreatDoor.P
