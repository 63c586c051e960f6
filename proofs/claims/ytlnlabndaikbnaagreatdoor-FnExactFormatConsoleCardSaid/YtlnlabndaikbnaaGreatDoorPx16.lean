-- Made by pp.py of this session out of the kit's print and of contracts proved by hand; Lean checks it.
import Derived.Test.YtlnlabndaikbnaaGreatDoorMc
import Derived.Test.YtlnlabndaikbnaaGreatDoorPx0
import Derived.Test.YtlnlabndaikbnaaGreatDoorPx11
import Derived.Test.YtlnlabndaikbnaaGreatDoorPx15
namespace Go.Proofs.YtlnlabndaikbnaaGreatDoor.P
open Go.RowKit Go.Proofs.YtlnlabndaikbnaaGreatDoorW.PrintWords Go.Proofs.YtlnlabndaikbnaaGreatDoorW.PrintLast Go.Proofs.YtlnlabndaikbnaaGreatDoorW.PrintMore
attribute [local go_sem] max2_int min2_int max_two min_two max_three min_three max_four min_four   -- for this text's walks alone
set_option linter.unusedVariables false
set_option linter.unusedSimpArgs false

/-! ### impl_isPrinted: function 98 -/
def impl_isPrinted.l0 : Nat → ByteArray → ByteArray → Int → Option (Bool)
  | 0, _, _, _ => none
  | k + 1, x0, x1, x5 => if x5 < (x0.size : Int) then (if 0 ≤ x5 then (if (bt x0 x5) < 32 then (some false) else (if (bt x0 x5) > 126 then (some false) else (impl_isPrinted.l0 k x0 x1 (wrap64 (x5 + 1))))) else (none)) else ((strings_ContainsAny.f x0 x1).bind fun t249 => (some (!t249)))
def impl_isPrinted.f (k : Nat) (a0 : ByteArray) (a1 : ByteArray) : Option (Bool) := impl_isPrinted.l0 k a0 a1 0
set_option maxHeartbeats 8000000 in
set_option maxRecDepth 100000 in
theorem impl_isPrinted.calls (k : Nat) (a0 : ByteArray) (a1 : ByteArray) (r : Bool) (w : World) (h : impl_isPrinted.f k a0 a1 = some r) :
    Calls Tryz.prog 98 #[.string a0, .string a1] w fun e w' => e = .returned (.bool r) ∧ Below w.heap.size w w' := by
  have HB := A_ (Below.refl w.heap.size w)
  have H : (impl_isPrinted.l0 k a0 a1 0) = some r := h
  clear h
  have H' := A_ H
  clear H
  go_enter Tryz.func98, Tryz.ntmps98
  go_wp2
  go_loopg [5] k (fun kq v5 w' => ∃ (x5_1 : Int), v5 = .int .i64 x5_1 ∧ Aside0 (impl_isPrinted.l0 kq a0 a1 x5_1 = some r) ∧ Aside0 (kq ≤ k) ∧ Aside0 (Below w.heap.size w w'))
  case atStart => exact ⟨(0), mc141, H', ⟨Nat.le_refl _⟩, ⟨mc89⟩⟩
  case round =>
    clear H'
    try clear p2
    obtain ⟨x5_1, rfl, HA, HK1, HB⟩ := hrel
    cases gk with
    | zero => exact absurd HA.out (by simp [impl_isPrinted.l0])
    | succ k1 =>
      have H := HA.out
      clear HA
      simp only [impl_isPrinted.l0] at H
      by_cases c3 : x5_1 < (a0.size : Int)
      · rw [if_pos c3] at H
        have c3b0 : decide (x5_1 < (a0.size : Int)) = true := decide_eq_true c3
        clear c3
        by_cases c4 : 0 ≤ x5_1
        · rw [if_pos c4] at H
          have c4b0 : decide (0 ≤ x5_1) = true := decide_eq_true c4
          clear c4
          by_cases c6 : (bt a0 x5_1) < 32
          · rw [if_pos c6] at H
            have c6b0 : decide ((bt a0 x5_1) < 32) = true := decide_eq_true c6
            clear c6
            obtain rfl := Option.some.inj H
            have p5 : 0 ≤ (x5_1 : Int) := of_decide_eq_true mc139
            have q5 : x5_1 < (a0.size : Int) := of_decide_eq_true mc139
            have hx5 := bt_at a0 x5_1
            replace p5 := eq_true p5
            replace q5 := eq_true q5
            go_wp2
            go_ret
            exact ⟨mc133, mc89⟩
          · rw [if_neg c6] at H
            have c6b0 : decide ((bt a0 x5_1) < 32) = false := decide_eq_false c6
            clear c6
            by_cases c8 : (bt a0 x5_1) > 126
            · rw [if_pos c8] at H
              have c8b0 : decide (126 < (bt a0 x5_1)) = true := decide_eq_true c8
              clear c8
              obtain rfl := Option.some.inj H
              have p5 : 0 ≤ (x5_1 : Int) := of_decide_eq_true mc139
              have q5 : x5_1 < (a0.size : Int) := of_decide_eq_true mc139
              have hx5 := bt_at a0 x5_1
              replace p5 := eq_true p5
              replace q5 := eq_true q5
              have p7 : 0 ≤ (x5_1 : Int) := of_decide_eq_true mc139
              have q7 : x5_1 < (a0.size : Int) := of_decide_eq_true mc139
              have hx7 := bt_at a0 x5_1
              replace p7 := eq_true p7
              replace q7 := eq_true q7
              go_wp2
              go_ret
              exact ⟨mc133, mc89⟩
            · rw [if_neg c8] at H
              have c8b0 : decide (126 < (bt a0 x5_1)) = false := decide_eq_false c8
              clear c8
              have H' := A_ H
              clear H
              have p5 : 0 ≤ (x5_1 : Int) := of_decide_eq_true mc139
              have q5 : x5_1 < (a0.size : Int) := of_decide_eq_true mc139
              have hx5 := bt_at a0 x5_1
              replace p5 := eq_true p5
              replace q5 := eq_true q5
              have p7 : 0 ≤ (x5_1 : Int) := of_decide_eq_true mc139
              have q7 : x5_1 < (a0.size : Int) := of_decide_eq_true mc139
              have hx7 := bt_at a0 x5_1
              replace p7 := eq_true p7
              replace q7 := eq_true q7
              go_wp2
              go_roundg k1
              case measure => have := HK1.out; omega
              case rel => exact ⟨(wrap64 (x5_1 + 1)), mc141, H', ⟨mc144⟩, ⟨mc89⟩⟩
        · rw [if_neg c4] at H
          exact absurd H (by simp)
      · rw [if_neg c3] at H
        have c3b0 : decide (x5_1 < (a0.size : Int)) = false := decide_eq_false c3
        clear c3
        obtain ⟨t249, A90, H⟩ := oB_ H
        have A9 := A_ A90
        clear A90
        obtain rfl := Option.some.inj H
        go_wp2_with (first | ((with_reducible refine gc_ 150 rfl ?_); refine goesL_ (some 24) rfl rfl Tryz.func150 kr_ rfl #[.string a0, .string a1] rfl mc86 ?_; (with_reducible refine (strings_ContainsAny.calls a0 a1 t249 _ A9.out).mono ?_); rintro e w10 ⟨rfl, hb⟩; refine ⟨_, rfl, ?_⟩; replace HB := A_ (below_step mc89 hb); (try clear hb)))
        go_ret
        exact ⟨mc133, mc89⟩

/-! ### impl_isCommand: function 59 -/
def impl_isCommand.f (k : Nat) (a0 : ByteArray) : Option (Bool) := (impl_within.f (a0.size : Int) 1 160).bind fun t250 => (if t250 = true then ((impl_isPrinted.f k a0 (⟨#[35, 64]⟩ : ByteArray)).bind fun t251 => (some t251)) else (some false))
set_option maxHeartbeats 8000000 in
set_option maxRecDepth 100000 in
theorem impl_isCommand.calls (k : Nat) (a0 : ByteArray) (r : Bool) (w : World) (h : impl_isCommand.f k a0 = some r) :
    Calls Tryz.prog 59 #[.string a0] w fun e w' => e = .returned (.bool r) ∧ Below w.heap.size w w' := by
  have HB := A_ (Below.refl w.heap.size w)
  have H : ((impl_within.f (a0.size : Int) 1 160).bind fun t250 => (if t250 = true then ((impl_isPrinted.f k a0 (⟨#[35, 64]⟩ : ByteArray)).bind fun t251 => (some t251)) else (some false))) = some r := h
  clear h
  obtain ⟨t250, A20, H⟩ := oB_ H
  have A2 := A_ A20
  clear A20
  by_cases c3 : t250 = true
  · subst c3
    rw [if_pos rfl] at H
    obtain ⟨t251, A40, H⟩ := oB_ H
    have A4 := A_ A40
    clear A40
    obtain rfl := Option.some.inj H
    go_enter Tryz.func59, Tryz.ntmps59
    go_wp2_with (first | ((with_reducible refine gc_ 79 rfl ?_); refine goesL_ (some 5) rfl rfl Tryz.func79 kr_ rfl #[.int .i64 (a0.size : Int), .int .i64 1, .int .i64 160] rfl mc86 ?_; (with_reducible refine (impl_within.calls (a0.size : Int) 1 160 true _ A2.out).mono ?_); rintro e w' ⟨rfl, ⟨nd, rfl⟩⟩; refine ⟨_, rfl, ?_⟩) | (go_at_call 98; (with_reducible refine (impl_isPrinted.calls k a0 (⟨#[35, 64]⟩ : ByteArray) t251 _ A4.out).mono ?_); rintro e w5 ⟨rfl, hb⟩; replace HB := A_ (below_step mc89 hb); (try clear hb)))
    go_ret
    exact ⟨mc133, mc89⟩
  · replace c3 := Bool.eq_false_iff.mpr c3
    subst c3
    rw [if_neg (show ¬ (false = true) by decide)] at H
    obtain rfl := Option.some.inj H
    go_enter Tryz.func59, Tryz.ntmps59
    go_wp2_with (first | ((with_reducible refine gc_ 79 rfl ?_); refine goesL_ (some 5) rfl rfl Tryz.func79 kr_ rfl #[.int .i64 (a0.size : Int), .int .i64 1, .int .i64 160] rfl mc86 ?_; (with_reducible refine (impl_within.calls (a0.size : Int) 1 160 false _ A2.out).mono ?_); rintro e w' ⟨rfl, ⟨nd, rfl⟩⟩; refine ⟨_, rfl, ?_⟩))
    go_ret
    exact ⟨mc133, mc89⟩

/-! ### impl_IsValidRecord: function 107 -/
def impl_IsValidRecord.f (k : Nat) (a0_0 : ByteArray) (a0_1 : ByteArray) : Option (Bool) := (impl_isCommand.f k a0_0).bind fun t253 => (if t253 = true then (if (a0_1.size : Int) ≤ 200 then ((impl_isPrinted.f k a0_1 (⟨#[35]⟩ : ByteArray)).bind fun t254 => (some t254)) else (some false)) else (some false))
set_option maxHeartbeats 8000000 in
set_option maxRecDepth 100000 in
theorem impl_IsValidRecord.calls (k : Nat) (a0_0 : ByteArray) (a0_1 : ByteArray) (r : Bool) (w : World) (h : impl_IsValidRecord.f k a0_0 a0_1 = some r) :
    Calls Tryz.prog 107 #[.agg #[.string a0_0, .string a0_1]] w fun e w' => e = .returned (.bool r) ∧ Below w.heap.size w w' := by
  have hu62 := Tryz.underlying62
  have HB := A_ (Below.refl w.heap.size w)
  have H : ((impl_isCommand.f k a0_0).bind fun t253 => (if t253 = true then (if (a0_1.size : Int) ≤ 200 then ((impl_isPrinted.f k a0_1 (⟨#[35]⟩ : ByteArray)).bind fun t254 => (some t254)) else (some false)) else (some false))) = some r := h
  clear h
  obtain ⟨t253, A20, H⟩ := oB_ H
  have A2 := A_ A20
  clear A20
  by_cases c3 : t253 = true
  · subst c3
    rw [if_pos rfl] at H
    by_cases c4 : (a0_1.size : Int) ≤ 200
    · rw [if_pos c4] at H
      have c4b0 : decide ((a0_1.size : Int) ≤ 200) = true := decide_eq_true c4
      have c4b1 : decide (a0_1.size ≤ 200) = true := decide_eq_true (by omega)
      clear c4
      obtain ⟨t254, A50, H⟩ := oB_ H
      have A5 := A_ A50
      clear A50
      obtain rfl := Option.some.inj H
      go_enter Tryz.func107, Tryz.ntmps107
      go_wp2_with (first | ((with_reducible refine gd_ 1 rfl ?_); (try (refine gate_guard (by rfl) ?_; dsimp only)); refine box_event rfl (N := 1) rfl (cs := #[.string a0_0, .string a0_1]) (t := 62) mc142 ?_; intro gb252 hg w6 hbox hb; have BK252 := A_ (hbox); have GW252 := A_ ((mc45 : w.heap.size ≤ gb252)); have GE252 := A_ ((mc45 : w.heap.size ≤ gb252)); replace HB := A_ (below_step mc89 hb); clear hb hbox hg; have hcz7_0 : w6.cell? ⟨gb252, 0, none⟩ = some (.string a0_0) := bc_ BK252 0 rfl; have hcz7_1 : w6.cell? ⟨gb252, 1, none⟩ = some (.string a0_1) := bc_ BK252 1 rfl; have hfz7_0 := blk_frozen BK252.out 0; have hfz7_1 := blk_frozen BK252.out 1) | ((with_reducible refine gc_ 59 rfl ?_); refine goesL_ (some 5) rfl rfl Tryz.func59 kr_ rfl #[.string a0_0] rfl mc86 ?_; (with_reducible refine (impl_isCommand.calls k a0_0 true _ A2.out).mono ?_); rintro e w8 ⟨rfl, hb⟩; refine ⟨_, rfl, ?_⟩; replace BK252 := A_ (blk_below mc108 hb); replace HB := A_ (below_step mc60 hb); (try clear hb); have hcz9_0 : w8.cell? ⟨gb252, 0, none⟩ = some (.string a0_0) := bc_ BK252 0 rfl; have hcz9_1 : w8.cell? ⟨gb252, 1, none⟩ = some (.string a0_1) := bc_ BK252 1 rfl; have hfz9_0 := blk_frozen BK252.out 0; have hfz9_1 := blk_frozen BK252.out 1) | (go_at_call 98; (with_reducible refine (impl_isPrinted.calls k a0_1 (⟨#[35]⟩ : ByteArray) t254 _ A5.out).mono ?_); rintro e w10 ⟨rfl, hb⟩; replace BK252 := A_ (blk_below mc108 hb); replace HB := A_ (below_step mc60 hb); (try clear hb)))
      go_ret
      exact ⟨mc133, mc60⟩
    · rw [if_neg c4] at H
      have c4b0 : decide ((a0_1.size : Int) ≤ 200) = false := decide_eq_false c4
      have c4b1 : decide (a0_1.size ≤ 200) = false := decide_eq_false (by omega)
      clear c4
      obtain rfl := Option.some.inj H
      go_enter Tryz.func107, Tryz.ntmps107
      go_wp2_with (first | ((with_reducible refine gd_ 1 rfl ?_); (try (refine gate_guard (by rfl) ?_; dsimp only)); refine box_event rfl (N := 1) rfl (cs := #[.string a0_0, .string a0_1]) (t := 62) mc142 ?_; intro gb252 hg w11 hbox hb; have BK252 := A_ (hbox); have GW252 := A_ ((mc45 : w.heap.size ≤ gb252)); have GE252 := A_ ((mc45 : w.heap.size ≤ gb252)); replace HB := A_ (below_step mc89 hb); clear hb hbox hg; have hcz12_0 : w11.cell? ⟨gb252, 0, none⟩ = some (.string a0_0) := bc_ BK252 0 rfl; have hcz12_1 : w11.cell? ⟨gb252, 1, none⟩ = some (.string a0_1) := bc_ BK252 1 rfl; have hfz12_0 := blk_frozen BK252.out 0; have hfz12_1 := blk_frozen BK252.out 1) | ((with_reducible refine gc_ 59 rfl ?_); refine goesL_ (some 5) rfl rfl Tryz.func59 kr_ rfl #[.string a0_0] rfl mc86 ?_; (with_reducible refine (impl_isCommand.calls k a0_0 true _ A2.out).mono ?_); rintro e w13 ⟨rfl, hb⟩; refine ⟨_, rfl, ?_⟩; replace BK252 := A_ (blk_below mc108 hb); replace HB := A_ (below_step mc60 hb); (try clear hb); have hcz14_0 : w13.cell? ⟨gb252, 0, none⟩ = some (.string a0_0) := bc_ BK252 0 rfl; have hcz14_1 : w13.cell? ⟨gb252, 1, none⟩ = some (.string a0_1) := bc_ BK252 1 rfl; have hfz14_0 := blk_frozen BK252.out 0; have hfz14_1 := blk_frozen BK252.out 1))
      go_ret
      exact ⟨mc133, mc60⟩
  · replace c3 := Bool.eq_false_iff.mpr c3
    subst c3
    rw [if_neg (show ¬ (false = true) by decide)] at H
    obtain rfl := Option.some.inj H
    go_enter Tryz.func107, Tryz.ntmps107
    go_wp2_with (first | ((with_reducible refine gd_ 1 rfl ?_); (try (refine gate_guard (by rfl) ?_; dsimp only)); refine box_event rfl (N := 1) rfl (cs := #[.string a0_0, .string a0_1]) (t := 62) mc142 ?_; intro gb252 hg w15 hbox hb; have BK252 := A_ (hbox); have GW252 := A_ ((mc45 : w.heap.size ≤ gb252)); have GE252 := A_ ((mc45 : w.heap.size ≤ gb252)); replace HB := A_ (below_step mc89 hb); clear hb hbox hg; have hcz16_0 : w15.cell? ⟨gb252, 0, none⟩ = some (.string a0_0) := bc_ BK252 0 rfl; have hcz16_1 : w15.cell? ⟨gb252, 1, none⟩ = some (.string a0_1) := bc_ BK252 1 rfl; have hfz16_0 := blk_frozen BK252.out 0; have hfz16_1 := blk_frozen BK252.out 1) | ((with_reducible refine gc_ 59 rfl ?_); refine goesL_ (some 5) rfl rfl Tryz.func59 kr_ rfl #[.string a0_0] rfl mc86 ?_; (with_reducible refine (impl_isCommand.calls k a0_0 false _ A2.out).mono ?_); rintro e w17 ⟨rfl, hb⟩; refine ⟨_, rfl, ?_⟩; replace BK252 := A_ (blk_below mc108 hb); replace HB := A_ (below_step mc60 hb); (try clear hb)))
    go_ret
    exact ⟨mc133, mc60⟩

end Go.Proofs.YtlnlabndaikbnaaGreatDoor.P
