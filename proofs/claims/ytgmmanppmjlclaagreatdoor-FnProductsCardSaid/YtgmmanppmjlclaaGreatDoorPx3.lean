-- Made by pp.py of this session out of the kit's print and of contracts proved by hand; Lean checks it.
import Derived.Test.YtgmmanppmjlclaaGreatDoorMc
import Derived.Test.YtgmmanppmjlclaaGreatDoorPx0
namespace Go.Proofs.YtgmmanppmjlclaaGreatDoor.P
open Go.RowKit Go.Proofs.YtgmmanppmjlclaaGreatDoorW.PrintWords Go.Proofs.YtgmmanppmjlclaaGreatDoorW.PrintLast Go.Proofs.YtgmmanppmjlclaaGreatDoorW.PrintMore
attribute [local go_sem] max2_int min2_int max_two min_two max_three min_three max_four min_four   -- for this text's walks alone
set_option linter.unusedVariables false
set_option linter.unusedSimpArgs false

/-! ### laws_rBig: function 4 -/
def laws_rBig.f (l0 : List Int) : Option (Bool) := some (decide ((l0.length : Int) > 65536))
set_option maxHeartbeats 8000000 in
set_option maxRecDepth 100000 in
theorem laws_rBig.calls (A0 : Option Addr) (c0 : Nat) (l0 : List Int) (r : Bool) (w : World) (hr0 : Kd.C (Kd.int .u8) w A0 l0.length l0) (hc0 : l0.length ≤ c0) (h : laws_rBig.f l0 = some r) :
    Calls Tryz.prog 4 #[.slice A0 l0.length c0] w fun e w' => e = .returned (.bool r) ∧ Drawn0 w w' := by
  have HR0 := A_ hr0
  have HC0 := A_ hc0
  clear hr0 hc0
  have H : (some (decide ((l0.length : Int) > 65536))) = some r := h
  clear h
  obtain rfl := Option.some.inj H
  go_enter Tryz.func4, Tryz.ntmps4
  go_wp2
  go_ret
  exact ⟨mc82, mc80⟩

/-! ### spec_l26Before: function 30 -/
def spec_l26Before.f (a0_0 : ByteArray) (a0_1 : Int) (a0_2 : ByteArray) (a1_0 : ByteArray) (a1_1 : Int) (a1_2 : ByteArray) : Option (Bool) := if (Op.bytesLess a0_0.toList a1_0.toList) = true then (some true) else (if a0_0.toList = a1_0.toList then (some (decide (a0_1 < a1_1))) else (some false))
theorem spec_l26Before.calls.L1 {P : Prop} (h : P := by
 obtain rfl := Option.some.inj H
 go_enter Tryz.func30, Tryz.ntmps30
 go_wp2_with (first | ((with_reducible refine gd_ 2 rfl ?_); refine box_event rfl (N := 2) rfl (cs := #[.string a0_0, .int .i64 a0_1, .string a0_2]) (t := 26) mc83 ?_; intro gb101 hg w4 hbox hb; have BK101 := A_ (hbox); have GW101 := A_ ((mc34 : w.heap.size ≤ gb101)); have GE101 := A_ ((mc34 : w.heap.size ≤ gb101)); replace HB := A_ (below_step mc53 hb); clear hb hbox hg) | ((with_reducible refine gd_ 3 rfl ?_); refine box_event rfl (N := 3) rfl (cs := #[.string a1_0, .int .i64 a1_1, .string a1_2]) (t := 26) mc83 ?_; intro gb102 hg w5 hbox hb; have BK102 := A_ (hbox); have GW102 := A_ ((mc19 : w.heap.size ≤ gb102)); have GE102 := A_ ((mc19 : w.heap.size ≤ gb102)); replace HB := A_ (below_step mc35 hb); have NB101_102 := A_ ((by rw [hg]; exact Nat.ne_of_lt (blk_lt mc54) : gb101 ≠ gb102)); have NB102_101 := A_ ((by rw [hg]; exact Nat.ne_of_gt (blk_lt mc54) : gb102 ≠ gb101)); replace BK101 := A_ (blk_below mc54 hb); clear hb hbox hg; have hnb6 := NB101_102.out; have hnc6 := NB102_101.out; have hcz7_0 : w5.cell? ⟨gb101, 0, none⟩ = some (.string a0_0) := bc_ BK101 0 rfl; have hcz7_1 : w5.cell? ⟨gb101, 1, none⟩ = some (.int .i64 a0_1) := bc_ BK101 1 rfl; have hcz7_2 : w5.cell? ⟨gb101, 2, none⟩ = some (.string a0_2) := bc_ BK101 2 rfl; have hfz7_0 := blk_frozen BK101.out 0; have hfz7_1 := blk_frozen BK101.out 1; have hfz7_2 := blk_frozen BK101.out 2; have hcz8_0 : w5.cell? ⟨gb102, 0, none⟩ = some (.string a1_0) := bc_ BK102 0 rfl; have hcz8_1 : w5.cell? ⟨gb102, 1, none⟩ = some (.int .i64 a1_1) := bc_ BK102 1 rfl; have hcz8_2 : w5.cell? ⟨gb102, 2, none⟩ = some (.string a1_2) := bc_ BK102 2 rfl; have hfz8_0 := blk_frozen BK102.out 0; have hfz8_1 := blk_frozen BK102.out 1; have hfz8_2 := blk_frozen BK102.out 2))
 go_ret
 exact ⟨mc76, by repeat (first | (with_reducible first | exact HB.out | apply below_alloc | apply pw_below_drewN | apply below_drew1 | refine below_set ?_ GE101.out | refine below_set ?_ GE102.out) | exact HB.out)⟩) : P := h
set_option maxHeartbeats 8000000 in
set_option maxRecDepth 100000 in
theorem spec_l26Before.calls (a0_0 : ByteArray) (a0_1 : Int) (a0_2 : ByteArray) (a1_0 : ByteArray) (a1_1 : Int) (a1_2 : ByteArray) (r : Bool) (w : World) (h : spec_l26Before.f a0_0 a0_1 a0_2 a1_0 a1_1 a1_2 = some r) :
    Calls Tryz.prog 30 #[.agg #[.string a0_0, .int .i64 a0_1, .string a0_2], .agg #[.string a1_0, .int .i64 a1_1, .string a1_2]] w fun e w' => e = .returned (.bool r) ∧ Below w.heap.size w w' := by
  have hu26 := Tryz.underlying26
  have HB := A_ (Below.refl w.heap.size w)
  have H : (if (Op.bytesLess a0_0.toList a1_0.toList) = true then (some true) else (if a0_0.toList = a1_0.toList then (some (decide (a0_1 < a1_1))) else (some false))) = some r := h
  clear h
  by_cases c3 : (Op.bytesLess a0_0.toList a1_0.toList) = true
  ·
   rw [if_pos c3] at H
   have c3b0 : (Op.bytesLess a0_0.toList a1_0.toList) = true := c3
   clear c3
   exact spec_l26Before.calls.L1
  ·
   rw [if_neg c3] at H
   have c3b0 : (Op.bytesLess a0_0.toList a1_0.toList) = false := by simpa using c3
   clear c3
   by_cases c9 : a0_0.toList = a1_0.toList
   ·
    rw [if_pos c9] at H
    have c9b0 : (a0_0.toList == a1_0.toList) = true := beq_iff_eq.mpr c9
    have c9b1 : (a0_0.toList != a1_0.toList) = false := bne_eq_false_iff_eq.mpr c9
    clear c9
    exact spec_l26Before.calls.L1
   ·
    rw [if_neg c9] at H
    have c9b0 : (a0_0.toList == a1_0.toList) = false := beq_eq_false_iff_ne.mpr c9
    have c9b1 : (a0_0.toList != a1_0.toList) = true := bne_iff_ne.mpr c9
    exact spec_l26Before.calls.L1
/-! ### spec_l1In: function 68 -/
def spec_l1In.f (a0 : Int) (a1 : Int) (a2 : Int) : Option (Bool) := if a0 ≥ a1 then (some (decide (a0 ≤ a2))) else (some false)
set_option maxHeartbeats 8000000 in
set_option maxRecDepth 100000 in
theorem spec_l1In.calls (a0 : Int) (a1 : Int) (a2 : Int) (r : Bool) (w : World) (h : spec_l1In.f a0 a1 a2 = some r) :
    Calls Tryz.prog 68 #[.int .i64 a0, .int .i64 a1, .int .i64 a2] w fun e w' => e = .returned (.bool r) ∧ Drawn0 w w' := by
  have H : (if a0 ≥ a1 then (some (decide (a0 ≤ a2))) else (some false)) = some r := h
  clear h
  by_cases c4 : a0 ≥ a1
  · rw [if_pos c4] at H
    have c4b0 : decide (a1 ≤ a0) = true := decide_eq_true c4
    clear c4
    obtain rfl := Option.some.inj H
    go_enter Tryz.func68, Tryz.ntmps68
    go_wp2
    go_ret
    exact ⟨mc82, mc80⟩
  · rw [if_neg c4] at H
    have c4b0 : decide (a1 ≤ a0) = false := decide_eq_false c4
    clear c4
    obtain rfl := Option.some.inj H
    go_enter Tryz.func68, Tryz.ntmps68
    go_wp2
    go_ret
    exact ⟨mc82, mc80⟩

/-! ### spec_l26Name: function 47 -/
def spec_l26Name.l0 : Nat → ByteArray → Int → Option (Bool)
  | 0, _, _ => none
  | k + 1, x0, x3 => if x3 < (x0.size : Int) then (if 0 ≤ x3 then (if (bt x0 x3) < 97 then (some false) else (if (bt x0 x3) > 122 then (some false) else (spec_l26Name.l0 k x0 (wrap64 (x3 + 1))))) else (none)) else ((spec_l1In.f (x0.size : Int) 1 8).bind fun t103 => (some t103))
def spec_l26Name.f (k : Nat) (a0 : ByteArray) : Option (Bool) := spec_l26Name.l0 k a0 0
set_option maxHeartbeats 8000000 in
set_option maxRecDepth 100000 in
theorem spec_l26Name.calls (k : Nat) (a0 : ByteArray) (r : Bool) (w : World) (h : spec_l26Name.f k a0 = some r) :
    Calls Tryz.prog 47 #[.string a0] w fun e w' => e = .returned (.bool r) ∧ Drawn0 w w' := by
  have H : (spec_l26Name.l0 k a0 0) = some r := h
  clear h
  have H' := A_ H
  clear H
  go_enter Tryz.func47, Tryz.ntmps47
  go_wp2
  go_loopg [3] k (fun kq v3 w' => ∃ (x3_1 : Int), v3 = .int .i64 x3_1 ∧ Aside0 (spec_l26Name.l0 kq a0 x3_1 = some r) ∧ Aside0 (kq ≤ k) ∧ Drawn0 w w')
  case atStart => exact ⟨(0), mc82, H', ⟨Nat.le_refl _⟩, mc80⟩
  case round =>
    clear H'
    obtain ⟨x3_1, rfl, HA, HK1, ⟨m1, rfl⟩⟩ := hrel
    cases gk with
    | zero => exact absurd HA.out (by simp [spec_l26Name.l0])
    | succ k1 =>
      have H := HA.out
      clear HA
      simp only [spec_l26Name.l0] at H
      by_cases c2 : x3_1 < (a0.size : Int)
      · rw [if_pos c2] at H
        have c2b0 : decide (x3_1 < (a0.size : Int)) = true := decide_eq_true c2
        clear c2
        by_cases c3 : 0 ≤ x3_1
        · rw [if_pos c3] at H
          have c3b0 : decide (0 ≤ x3_1) = true := decide_eq_true c3
          clear c3
          by_cases c5 : (bt a0 x3_1) < 97
          · rw [if_pos c5] at H
            have c5b0 : decide ((bt a0 x3_1) < 97) = true := decide_eq_true c5
            clear c5
            obtain rfl := Option.some.inj H
            have p4 : 0 ≤ (x3_1 : Int) := of_decide_eq_true mc81
            have q4 : x3_1 < (a0.size : Int) := of_decide_eq_true mc81
            have hx4 := bt_at a0 x3_1
            replace p4 := eq_true p4
            replace q4 := eq_true q4
            go_wp2
            go_ret
            exact ⟨mc82, mc80⟩
          · rw [if_neg c5] at H
            have c5b0 : decide ((bt a0 x3_1) < 97) = false := decide_eq_false c5
            clear c5
            by_cases c7 : (bt a0 x3_1) > 122
            · rw [if_pos c7] at H
              have c7b0 : decide (122 < (bt a0 x3_1)) = true := decide_eq_true c7
              clear c7
              obtain rfl := Option.some.inj H
              have p4 : 0 ≤ (x3_1 : Int) := of_decide_eq_true mc81
              have q4 : x3_1 < (a0.size : Int) := of_decide_eq_true mc81
              have hx4 := bt_at a0 x3_1
              replace p4 := eq_true p4
              replace q4 := eq_true q4
              have p6 : 0 ≤ (x3_1 : Int) := of_decide_eq_true mc81
              have q6 : x3_1 < (a0.size : Int) := of_decide_eq_true mc81
              have hx6 := bt_at a0 x3_1
              replace p6 := eq_true p6
              replace q6 := eq_true q6
              go_wp2
              go_ret
              exact ⟨mc82, mc80⟩
            · rw [if_neg c7] at H
              have c7b0 : decide (122 < (bt a0 x3_1)) = false := decide_eq_false c7
              clear c7
              have H' := A_ H
              clear H
              have p4 : 0 ≤ (x3_1 : Int) := of_decide_eq_true mc81
              have q4 : x3_1 < (a0.size : Int) := of_decide_eq_true mc81
              have hx4 := bt_at a0 x3_1
              replace p4 := eq_true p4
              replace q4 := eq_true q4
              have p6 : 0 ≤ (x3_1 : Int) := of_decide_eq_true mc81
              have q6 : x3_1 < (a0.size : Int) := of_decide_eq_true mc81
              have hx6 := bt_at a0 x3_1
              replace p6 := eq_true p6
              replace q6 := eq_true q6
              go_wp2
              go_roundg k1
              case measure => have := HK1.out; omega
              case rel => exact ⟨(wrap64 (x3_1 + 1)), mc82, H', ⟨mc86⟩, mc80⟩
        · rw [if_neg c3] at H
          exact absurd H (by simp)
      · rw [if_neg c2] at H
        have c2b0 : decide (x3_1 < (a0.size : Int)) = false := decide_eq_false c2
        clear c2
        obtain ⟨t103, A80, H⟩ := oB_ H
        have A8 := A_ A80
        clear A80
        obtain rfl := Option.some.inj H
        go_wp2_with (first | ((with_reducible refine gc_ 68 rfl ?_); refine goesL_ (some 22) rfl rfl Tryz.func68 kr_ rfl #[.int .i64 (a0.size : Int), .int .i64 1, .int .i64 8] rfl mc47 ?_; (with_reducible refine (spec_l1In.calls (a0.size : Int) 1 8 t103 _ A8.out).mono ?_); rintro e w' ⟨rfl, ⟨nd, rfl⟩⟩; refine ⟨_, rfl, ?_⟩))
        go_ret
        exact ⟨mc82, mc80⟩

/-! ### spec_l26Hour: function 74 -/
def spec_l26Hour.f (a0 : Int) : Option (Bool) := (spec_l1In.f a0 0 240).bind fun t104 => (some t104)
set_option maxHeartbeats 8000000 in
set_option maxRecDepth 100000 in
theorem spec_l26Hour.calls (a0 : Int) (r : Bool) (w : World) (h : spec_l26Hour.f a0 = some r) :
    Calls Tryz.prog 74 #[.int .i64 a0] w fun e w' => e = .returned (.bool r) ∧ Drawn0 w w' := by
  have H : ((spec_l1In.f a0 0 240).bind fun t104 => (some t104)) = some r := h
  clear h
  obtain ⟨t104, A20, H⟩ := oB_ H
  have A2 := A_ A20
  clear A20
  obtain rfl := Option.some.inj H
  go_enter Tryz.func74, Tryz.ntmps74
  go_wp2_with (first | ((with_reducible refine gc_ 68 rfl ?_); refine goesL_ (some 4) rfl rfl Tryz.func68 kr_ rfl #[.int .i64 a0, .int .i64 0, .int .i64 240] rfl mc47 ?_; (with_reducible refine (spec_l1In.calls a0 0 240 t104 _ A2.out).mono ?_); rintro e w' ⟨rfl, ⟨nd, rfl⟩⟩; refine ⟨_, rfl, ?_⟩))
  go_ret
  exact ⟨mc82, mc80⟩

/-! ### spec_l26Product: function 58 -/
def spec_l26Product.l0 : Nat → Int → ByteArray → Int → ByteArray → Option (Bool)
  | 0, _, _, _, _ => none
  | k + 1, x3, x106000, x106001, x106002 => if x3 < (x106002.size : Int) then (if 0 ≤ x3 then ((spec_l1In.f (wrap64 (bt x106002 x3)) 32 126).bind fun t106 => (if t106 = true then (spec_l26Product.l0 k (wrap64 (x3 + 1)) x106000 x106001 x106002) else (some false))) else (none)) else ((spec_l26Name.f k x106000).bind fun t107 => (if t107 = true then ((spec_l26Hour.f x106001).bind fun t108 => (if t108 = true then (some (decide ((x106002.size : Int) ≤ 60))) else (some false))) else (some false)))
def spec_l26Product.f (k : Nat) (a0_0 : ByteArray) (a0_1 : Int) (a0_2 : ByteArray) : Option (Bool) := spec_l26Product.l0 k 0 a0_0 a0_1 a0_2
theorem spec_l26Product.calls.L1 {P : Prop} (h : P := by
 obtain rfl := Option.some.inj H
 have hcz9_0 : wr.cell? ⟨gb105, 0, none⟩ = some (.string a0_0) := bc_ BK105 0 rfl
 have hcz9_1 : wr.cell? ⟨gb105, 1, none⟩ = some (.int .i64 a0_1) := bc_ BK105 1 rfl
 have hcz9_2 : wr.cell? ⟨gb105, 2, none⟩ = some (.string a0_2) := bc_ BK105 2 rfl
 have hfz9_0 := blk_frozen BK105.out 0
 have hfz9_1 := blk_frozen BK105.out 1
 have hfz9_2 := blk_frozen BK105.out 2
 first
 | have p5 : 0 ≤ (x3_1 : Int) := of_decide_eq_true mc81
   have q5 : x3_1 < (a0_2.size : Int) := of_decide_eq_true mc81
   have hx5 := bt_at a0_2 x3_1
   replace p5 := eq_true p5
   replace q5 := eq_true q5
   go_wp2_with (first | ((with_reducible refine gc_ 68 rfl ?_); refine goesL_ (some 16) rfl rfl Tryz.func68 kr_ rfl #[.int .i64 (wrap64 (bt a0_2 x3_1)), .int .i64 32, .int .i64 126] rfl mc47 ?_; (with_reducible refine (spec_l1In.calls (wrap64 (bt a0_2 x3_1)) 32 126 _ _ A6.out).mono ?_); rintro e w' ⟨rfl, ⟨nd, rfl⟩⟩; refine ⟨_, rfl, ?_⟩))
   go_ret
   exact ⟨mc76, mc42⟩
 | go_wp2_with (first | ((with_reducible refine gc_ 47 rfl ?_); refine goesL_ (some 20) rfl rfl Tryz.func47 kr_ rfl #[.string a0_0] rfl mc47 ?_; (with_reducible refine (spec_l26Name.calls k1 a0_0 _ _ A10.out).mono ?_); rintro e w' ⟨rfl, ⟨nd, rfl⟩⟩; refine ⟨_, rfl, ?_⟩) | (go_at_call 74; (with_reducible refine (spec_l26Hour.calls a0_1 _ _ A12.out).mono ?_); rintro e w' ⟨rfl, ⟨nd, rfl⟩⟩))
   go_ret
   exact ⟨mc76, mc42⟩) : P := h
set_option maxHeartbeats 8000000 in
set_option maxRecDepth 100000 in
theorem spec_l26Product.calls (k : Nat) (a0_0 : ByteArray) (a0_1 : Int) (a0_2 : ByteArray) (r : Bool) (w : World) (h : spec_l26Product.f k a0_0 a0_1 a0_2 = some r) :
    Calls Tryz.prog 58 #[.agg #[.string a0_0, .int .i64 a0_1, .string a0_2]] w fun e w' => e = .returned (.bool r) ∧ Below w.heap.size w w' := by
  have hu26 := Tryz.underlying26
  have HB := A_ (Below.refl w.heap.size w)
  have H : (spec_l26Product.l0 k 0 a0_0 a0_1 a0_2) = some r := h
  clear h
  have H' := A_ H
  clear H
  go_enter Tryz.func58, Tryz.ntmps58
  go_wp2_with (first | ((with_reducible refine gd_ 1 rfl ?_); (try (refine gate_guard (by rfl) ?_; dsimp only)); refine box_event rfl (N := 1) rfl (cs := #[.string a0_0, .int .i64 a0_1, .string a0_2]) (t := 26) mc83 ?_; intro gb105 hg w2 hbox hb; have BK105 := A_ (hbox); have GW105 := A_ ((mc34 : w.heap.size ≤ gb105)); have GE105 := A_ ((mc34 : w.heap.size ≤ gb105)); replace HB := A_ (below_step mc53 hb); clear hb hbox hg))
  go_loopg [3] k (fun kq v3 w' => ∃ (x3_1 : Int), v3 = .int .i64 x3_1 ∧ Aside0 (spec_l26Product.l0 kq x3_1 a0_0 a0_1 a0_2 = some r) ∧ Aside0 (kq ≤ k) ∧ Aside0 (w'.heap[gb105]? = some (.cells #[.string a0_0, .int .i64 a0_1, .string a0_2] 26 (0, 0))) ∧ Aside0 (Below w.heap.size w w'))
  case atStart => exact ⟨(0), mc82, H', ⟨Nat.le_refl _⟩, ⟨by (with_reducible repeat (first | refine blk_drewN ?_ _ | refine blk_drew ?_ | refine blk_alloc ?_ _)); exact BK105.out⟩, ⟨mc42⟩⟩
  case round =>
   clear H'
   try clear p2
   obtain ⟨x3_1, rfl, HA, HK1, BK105, HB⟩ := hrel
   cases gk with
   | zero => exact absurd HA.out (by simp [spec_l26Product.l0])
   | succ k1 =>
    have H := HA.out
    clear HA
    simp only [spec_l26Product.l0] at H
    by_cases c3 : x3_1 < (a0_2.size : Int)
    ·
     rw [if_pos c3] at H
     have c3b0 : decide (x3_1 < (a0_2.size : Int)) = true := decide_eq_true c3
     clear c3
     by_cases c4 : 0 ≤ x3_1
     ·
      rw [if_pos c4] at H
      have c4b0 : decide (0 ≤ x3_1) = true := decide_eq_true c4
      clear c4
      obtain ⟨t106, A60, H⟩ := oB_ H
      have A6 := A_ A60
      clear A60
      by_cases c7 : t106 = true
      ·
       subst c7
       rw [if_pos rfl] at H
       have H' := A_ H
       clear H
       have hcz8_0 : wr.cell? ⟨gb105, 0, none⟩ = some (.string a0_0) := bc_ BK105 0 rfl
       have hcz8_1 : wr.cell? ⟨gb105, 1, none⟩ = some (.int .i64 a0_1) := bc_ BK105 1 rfl
       have hcz8_2 : wr.cell? ⟨gb105, 2, none⟩ = some (.string a0_2) := bc_ BK105 2 rfl
       have hfz8_0 := blk_frozen BK105.out 0
       have hfz8_1 := blk_frozen BK105.out 1
       have hfz8_2 := blk_frozen BK105.out 2
       have p5 : 0 ≤ (x3_1 : Int) := of_decide_eq_true mc81
       have q5 : x3_1 < (a0_2.size : Int) := of_decide_eq_true mc81
       have hx5 := bt_at a0_2 x3_1
       replace p5 := eq_true p5
       replace q5 := eq_true q5
       go_wp2_with (first | ((with_reducible refine gc_ 68 rfl ?_); refine goesL_ (some 16) rfl rfl Tryz.func68 kr_ rfl #[.int .i64 (wrap64 (bt a0_2 x3_1)), .int .i64 32, .int .i64 126] rfl mc47 ?_; (with_reducible refine (spec_l1In.calls (wrap64 (bt a0_2 x3_1)) 32 126 true _ A6.out).mono ?_); rintro e w' ⟨rfl, ⟨nd, rfl⟩⟩; refine ⟨_, rfl, ?_⟩))
       go_roundg k1
       case measure => have := HK1.out; omega
       case rel => exact ⟨(wrap64 (x3_1 + 1)), mc82, H', ⟨mc86⟩, ⟨by (with_reducible repeat (first | refine blk_drewN ?_ _ | refine blk_drew ?_ | refine blk_alloc ?_ _)); exact BK105.out⟩, ⟨mc42⟩⟩
      ·
       replace c7 := Bool.eq_false_iff.mpr c7
       subst c7
       rw [if_neg (show ¬ (false = true) by decide)] at H
       exact spec_l26Product.calls.L1
     ·
      rw [if_neg c4] at H
      exact absurd H (by simp)
    ·
     rw [if_neg c3] at H
     have c3b0 : decide (x3_1 < (a0_2.size : Int)) = false := decide_eq_false c3
     clear c3
     obtain ⟨t107, A100, H⟩ := oB_ H
     have A10 := A_ A100
     clear A100
     by_cases c11 : t107 = true
     ·
      subst c11
      rw [if_pos rfl] at H
      obtain ⟨t108, A120, H⟩ := oB_ H
      have A12 := A_ A120
      clear A120
      by_cases c13 : t108 = true
      ·
       subst c13
       rw [if_pos rfl] at H
       exact spec_l26Product.calls.L1
      ·
       replace c13 := Bool.eq_false_iff.mpr c13
       subst c13
       rw [if_neg (show ¬ (false = true) by decide)] at H
       exact spec_l26Product.calls.L1
     ·
      replace c11 := Bool.eq_false_iff.mpr c11
      subst c11
      rw [if_neg (show ¬ (false = true) by decide)] at H
      exact spec_l26Product.calls.L1
end Go.Proofs.YtgmmanppmjlclaaGreatDoor.P
