-- Made by pp.py of this session out of the kit's print and of contracts proved by hand; Lean checks it.
import Derived.Test.YtlnlabndaikbnaaGreatDoorMc
import Derived.Test.YtlnlabndaikbnaaGreatDoorPx0
import Derived.Test.YtlnlabndaikbnaaGreatDoorPx5
import Derived.Test.YtlnlabndaikbnaaGreatDoorPx6
namespace Go.Proofs.YtlnlabndaikbnaaGreatDoor.P
open Go.RowKit Go.Proofs.YtlnlabndaikbnaaGreatDoorW.PrintWords Go.Proofs.YtlnlabndaikbnaaGreatDoorW.PrintLast Go.Proofs.YtlnlabndaikbnaaGreatDoorW.PrintMore
attribute [local go_sem] max2_int min2_int max_two min_two max_three min_three max_four min_four   -- for this text's walks alone
set_option linter.unusedVariables false
set_option linter.unusedSimpArgs false

/-! ### spec_l27Log: function 50 -/
def spec_l27Log.f (k : Nat) (a0_0 : ByteArray) (a0_1 : ByteArray) (a0_2 : Int) : Option (Bool) := if (wrap64 ((a0_0.size : Int) + (a0_1.size : Int))) > 30000 then (some false) else (if a0_0.size + a0_1.size ≤ 9223372036854775807 then ((spec_l27Open.f k (a0_0 ++ a0_1)).bind fun bt153 => ((spec_l27Open.f k a0_0).bind fun bt157 => (if bt153.2 = (wrap64 ((a0_0.size : Int) + (a0_1.size : Int))) then (if bt157.2 = (a0_0.size : Int) then (some ((bt153.1.length : Int) == a0_2)) else (some false)) else (some false)))) else (none))
set_option maxHeartbeats 8000000 in
set_option maxRecDepth 100000 in
theorem spec_l27Log.calls (k : Nat) (a0_0 : ByteArray) (a0_1 : ByteArray) (a0_2 : Int) (r : Bool) (w : World) (h : spec_l27Log.f k a0_0 a0_1 a0_2 = some r) :
  Calls Tryz.prog 50 #[.agg #[.string a0_0, .string a0_1, .int .i64 a0_2]] w fun e w' => e = .returned (.bool r) ∧ Below w.heap.size w w' := by
 have hu31 := Tryz.underlying31
 have HB := A_ (Below.refl w.heap.size w)
 have H : (if (wrap64 ((a0_0.size : Int) + (a0_1.size : Int))) > 30000 then (some false) else (if a0_0.size + a0_1.size ≤ 9223372036854775807 then ((spec_l27Open.f k (a0_0 ++ a0_1)).bind fun bt153 => ((spec_l27Open.f k a0_0).bind fun bt157 => (if bt153.2 = (wrap64 ((a0_0.size : Int) + (a0_1.size : Int))) then (if bt157.2 = (a0_0.size : Int) then (some ((bt153.1.length : Int) == a0_2)) else (some false)) else (some false)))) else (none))) = some r := h
 clear h
 by_cases c2 : (wrap64 ((a0_0.size : Int) + (a0_1.size : Int))) > 30000
 ·
  rw [if_pos c2] at H
  have c2b0 : decide (30000 < (wrap64 ((a0_0.size : Int) + (a0_1.size : Int)))) = true := decide_eq_true c2
  clear c2
  obtain rfl := Option.some.inj H
  go_enter Tryz.func50, Tryz.ntmps50
  go_wp2_with (first | ((with_reducible refine gd_ 1 rfl ?_); (try (refine gate_guard (by rfl) ?_; dsimp only)); refine box_event rfl (N := 1) rfl (cs := #[.string a0_0, .string a0_1, .int .i64 a0_2]) (t := 31) mc142 ?_; intro gb152 hg w3 hbox hb; have BK152 := A_ (hbox); have GW152 := A_ ((mc45 : w.heap.size ≤ gb152)); have GE152 := A_ ((mc45 : w.heap.size ≤ gb152)); replace HB := A_ (below_step mc89 hb); clear hb hbox hg; have hcz4_0 : w3.cell? ⟨gb152, 0, none⟩ = some (.string a0_0) := bc_ BK152 0 rfl; have hcz4_1 : w3.cell? ⟨gb152, 1, none⟩ = some (.string a0_1) := bc_ BK152 1 rfl; have hcz4_2 : w3.cell? ⟨gb152, 2, none⟩ = some (.int .i64 a0_2) := bc_ BK152 2 rfl; have hfz4_0 := blk_frozen BK152.out 0; have hfz4_1 := blk_frozen BK152.out 1; have hfz4_2 := blk_frozen BK152.out 2))
  go_ret
  exact ⟨mc133, mc49⟩
 ·
  rw [if_neg c2] at H
  have c2b0 : decide (30000 < (wrap64 ((a0_0.size : Int) + (a0_1.size : Int)))) = false := decide_eq_false c2
  clear c2
  by_cases c5 : a0_0.size + a0_1.size ≤ 9223372036854775807
  ·
   rw [if_pos c5] at H
   have c5b0 := eq_true c5
   have c5b1 : decide (a0_0.size + a0_1.size ≤ 9223372036854775807) = true := decide_eq_true c5
   try have c5b2 : (9223372036854775807 < a0_0.size + a0_1.size) = False := eq_false (Nat.not_lt.2 c5)
   have hwz_ : wrap64 ((a0_0.size : Int) + (a0_1.size : Int)) = (a0_0.size : Int) + (a0_1.size : Int) := by unfold wrap64; omega
   try have c2b0w := by have h_ := c2b0; rw [hwz_] at h_; exact h_
   obtain ⟨⟨t153, t154⟩, A60, H⟩ := oB_ H
   have A6 := A_ A60
   clear A60
   obtain ⟨⟨t157, t158⟩, A70, H⟩ := oB_ H
   have A7 := A_ A70
   clear A70
   by_cases c8 : t154 = (wrap64 ((a0_0.size : Int) + (a0_1.size : Int)))
   ·
    rw [if_pos c8] at H
    have c8b0 : (t154 == (wrap64 ((a0_0.size : Int) + (a0_1.size : Int)))) = true := beq_iff_eq.mpr c8
    try have c8b0w := by have h_ := c8b0; rw [hwz_] at h_; exact h_
    have c8b1 : (t154 != (wrap64 ((a0_0.size : Int) + (a0_1.size : Int)))) = false := bne_eq_false_iff_eq.mpr c8
    try have c8b1w := by have h_ := c8b1; rw [hwz_] at h_; exact h_
    clear c8
    by_cases c9 : t158 = (a0_0.size : Int)
    ·
     rw [if_pos c9] at H
     have c9b0 : (t158 == (a0_0.size : Int)) = true := beq_iff_eq.mpr c9
     have c9b1 : (t158 != (a0_0.size : Int)) = false := bne_eq_false_iff_eq.mpr c9
     clear c9
     obtain rfl := Option.some.inj H
     go_enter Tryz.func50, Tryz.ntmps50
     go_wp2_with (first | ((with_reducible refine gd_ 1 rfl ?_); (try (refine gate_guard (by rfl) ?_; dsimp only)); refine box_event rfl (N := 1) rfl (cs := #[.string a0_0, .string a0_1, .int .i64 a0_2]) (t := 31) mc142 ?_; intro gb152 hg w10 hbox hb; have BK152 := A_ (hbox); have GW152 := A_ ((mc45 : w.heap.size ≤ gb152)); have GE152 := A_ ((mc45 : w.heap.size ≤ gb152)); replace HB := A_ (below_step mc89 hb); clear hb hbox hg; have hcz11_0 : w10.cell? ⟨gb152, 0, none⟩ = some (.string a0_0) := bc_ BK152 0 rfl; have hcz11_1 : w10.cell? ⟨gb152, 1, none⟩ = some (.string a0_1) := bc_ BK152 1 rfl; have hcz11_2 : w10.cell? ⟨gb152, 2, none⟩ = some (.int .i64 a0_2) := bc_ BK152 2 rfl; have hfz11_0 := blk_frozen BK152.out 0; have hfz11_1 := blk_frozen BK152.out 1; have hfz11_2 := blk_frozen BK152.out 2) | ((with_reducible refine gc_ 85 rfl ?_); refine goesL_ (some 21) rfl rfl Tryz.func85 kr_ rfl #[.string (a0_0 ++ a0_1)] rfl mc86 ?_; (with_reducible refine (spec_l27Open.calls k (a0_0 ++ a0_1) t153 t154 _ A6.out).mono ?_); rintro e w12 ⟨v155, rfl, ho0, hb⟩; refine ⟨_, rfl, ?_⟩; have HO156 := A_ (Kd.R_lower ho0 (below_size mc49)); replace BK152 := A_ (blk_below mc94 hb); replace HB := A_ (below_step mc49 hb); (try clear hb); (try clear ho0); have hcz13_0 : w12.cell? ⟨gb152, 0, none⟩ = some (.string a0_0) := bc_ BK152 0 rfl; have hcz13_1 : w12.cell? ⟨gb152, 1, none⟩ = some (.string a0_1) := bc_ BK152 1 rfl; have hcz13_2 : w12.cell? ⟨gb152, 2, none⟩ = some (.int .i64 a0_2) := bc_ BK152 2 rfl; have hfz13_0 := blk_frozen BK152.out 0; have hfz13_1 := blk_frozen BK152.out 1; have hfz13_2 := blk_frozen BK152.out 2) | ((with_reducible refine gc_ 85 rfl ?_); refine goesL_ (some 27) rfl rfl Tryz.func85 kr_ rfl #[.string a0_0] rfl mc86 ?_; (with_reducible refine (spec_l27Open.calls k a0_0 t157 t158 _ A7.out).mono ?_); rintro e w14 ⟨v159, rfl, ho0, hb⟩; refine ⟨_, rfl, ?_⟩; have HO160 := A_ (Kd.R_lower (Kd.R_new' ho0 (Kd.R_lt mc125)) (below_size mc49)); replace HO156 := A_ (Kd.R_elder' mc125 (Kd.R_base ho0) hb); replace BK152 := A_ (blk_below mc94 hb); replace HB := A_ (below_step mc49 hb); (try clear hb); (try clear ho0); have hcz15_0 : w14.cell? ⟨gb152, 0, none⟩ = some (.string a0_0) := bc_ BK152 0 rfl; have hcz15_1 : w14.cell? ⟨gb152, 1, none⟩ = some (.string a0_1) := bc_ BK152 1 rfl; have hcz15_2 : w14.cell? ⟨gb152, 2, none⟩ = some (.int .i64 a0_2) := bc_ BK152 2 rfl; have hfz15_0 := blk_frozen BK152.out 0; have hfz15_1 := blk_frozen BK152.out 1; have hfz15_2 := blk_frozen BK152.out 2; obtain ⟨Ao16, co16, eo16⟩ := Kd.R_slice HO156.out; subst eo16))
     go_ret
     exact ⟨mc133, mc49⟩
    ·
     rw [if_neg c9] at H
     have c9b0 : (t158 == (a0_0.size : Int)) = false := beq_eq_false_iff_ne.mpr c9
     have c9b1 : (t158 != (a0_0.size : Int)) = true := bne_iff_ne.mpr c9
     obtain rfl := Option.some.inj H
     go_enter Tryz.func50, Tryz.ntmps50
     go_wp2_with (first | ((with_reducible refine gd_ 1 rfl ?_); (try (refine gate_guard (by rfl) ?_; dsimp only)); refine box_event rfl (N := 1) rfl (cs := #[.string a0_0, .string a0_1, .int .i64 a0_2]) (t := 31) mc142 ?_; intro gb152 hg w17 hbox hb; have BK152 := A_ (hbox); have GW152 := A_ ((mc45 : w.heap.size ≤ gb152)); have GE152 := A_ ((mc45 : w.heap.size ≤ gb152)); replace HB := A_ (below_step mc89 hb); clear hb hbox hg; have hcz18_0 : w17.cell? ⟨gb152, 0, none⟩ = some (.string a0_0) := bc_ BK152 0 rfl; have hcz18_1 : w17.cell? ⟨gb152, 1, none⟩ = some (.string a0_1) := bc_ BK152 1 rfl; have hcz18_2 : w17.cell? ⟨gb152, 2, none⟩ = some (.int .i64 a0_2) := bc_ BK152 2 rfl; have hfz18_0 := blk_frozen BK152.out 0; have hfz18_1 := blk_frozen BK152.out 1; have hfz18_2 := blk_frozen BK152.out 2) | ((with_reducible refine gc_ 85 rfl ?_); refine goesL_ (some 21) rfl rfl Tryz.func85 kr_ rfl #[.string (a0_0 ++ a0_1)] rfl mc86 ?_; (with_reducible refine (spec_l27Open.calls k (a0_0 ++ a0_1) t153 t154 _ A6.out).mono ?_); rintro e w19 ⟨v155, rfl, ho0, hb⟩; refine ⟨_, rfl, ?_⟩; have HO156 := A_ (Kd.R_lower ho0 (below_size mc49)); replace BK152 := A_ (blk_below mc94 hb); replace HB := A_ (below_step mc49 hb); (try clear hb); (try clear ho0); have hcz20_0 : w19.cell? ⟨gb152, 0, none⟩ = some (.string a0_0) := bc_ BK152 0 rfl; have hcz20_1 : w19.cell? ⟨gb152, 1, none⟩ = some (.string a0_1) := bc_ BK152 1 rfl; have hcz20_2 : w19.cell? ⟨gb152, 2, none⟩ = some (.int .i64 a0_2) := bc_ BK152 2 rfl; have hfz20_0 := blk_frozen BK152.out 0; have hfz20_1 := blk_frozen BK152.out 1; have hfz20_2 := blk_frozen BK152.out 2) | ((with_reducible refine gc_ 85 rfl ?_); refine goesL_ (some 27) rfl rfl Tryz.func85 kr_ rfl #[.string a0_0] rfl mc86 ?_; (with_reducible refine (spec_l27Open.calls k a0_0 t157 t158 _ A7.out).mono ?_); rintro e w21 ⟨v159, rfl, ho0, hb⟩; refine ⟨_, rfl, ?_⟩; have HO160 := A_ (Kd.R_lower (Kd.R_new' ho0 (Kd.R_lt mc125)) (below_size mc49)); replace HO156 := A_ (Kd.R_elder' mc125 (Kd.R_base ho0) hb); replace BK152 := A_ (blk_below mc94 hb); replace HB := A_ (below_step mc49 hb); (try clear hb); (try clear ho0); have hcz22_0 : w21.cell? ⟨gb152, 0, none⟩ = some (.string a0_0) := bc_ BK152 0 rfl; have hcz22_1 : w21.cell? ⟨gb152, 1, none⟩ = some (.string a0_1) := bc_ BK152 1 rfl; have hcz22_2 : w21.cell? ⟨gb152, 2, none⟩ = some (.int .i64 a0_2) := bc_ BK152 2 rfl; have hfz22_0 := blk_frozen BK152.out 0; have hfz22_1 := blk_frozen BK152.out 1; have hfz22_2 := blk_frozen BK152.out 2))
     go_ret
     exact ⟨mc133, mc49⟩
   ·
    rw [if_neg c8] at H
    have c8b0 : (t154 == (wrap64 ((a0_0.size : Int) + (a0_1.size : Int)))) = false := beq_eq_false_iff_ne.mpr c8
    try have c8b0w := by have h_ := c8b0; rw [hwz_] at h_; exact h_
    have c8b1 : (t154 != (wrap64 ((a0_0.size : Int) + (a0_1.size : Int)))) = true := bne_iff_ne.mpr c8
    try have c8b1w := by have h_ := c8b1; rw [hwz_] at h_; exact h_
    obtain rfl := Option.some.inj H
    go_enter Tryz.func50, Tryz.ntmps50
    go_wp2_with (first | ((with_reducible refine gd_ 1 rfl ?_); (try (refine gate_guard (by rfl) ?_; dsimp only)); refine box_event rfl (N := 1) rfl (cs := #[.string a0_0, .string a0_1, .int .i64 a0_2]) (t := 31) mc142 ?_; intro gb152 hg w23 hbox hb; have BK152 := A_ (hbox); have GW152 := A_ ((mc45 : w.heap.size ≤ gb152)); have GE152 := A_ ((mc45 : w.heap.size ≤ gb152)); replace HB := A_ (below_step mc89 hb); clear hb hbox hg; have hcz24_0 : w23.cell? ⟨gb152, 0, none⟩ = some (.string a0_0) := bc_ BK152 0 rfl; have hcz24_1 : w23.cell? ⟨gb152, 1, none⟩ = some (.string a0_1) := bc_ BK152 1 rfl; have hcz24_2 : w23.cell? ⟨gb152, 2, none⟩ = some (.int .i64 a0_2) := bc_ BK152 2 rfl; have hfz24_0 := blk_frozen BK152.out 0; have hfz24_1 := blk_frozen BK152.out 1; have hfz24_2 := blk_frozen BK152.out 2) | ((with_reducible refine gc_ 85 rfl ?_); refine goesL_ (some 21) rfl rfl Tryz.func85 kr_ rfl #[.string (a0_0 ++ a0_1)] rfl mc86 ?_; (with_reducible refine (spec_l27Open.calls k (a0_0 ++ a0_1) t153 t154 _ A6.out).mono ?_); rintro e w25 ⟨v155, rfl, ho0, hb⟩; refine ⟨_, rfl, ?_⟩; have HO156 := A_ (Kd.R_lower ho0 (below_size mc49)); replace BK152 := A_ (blk_below mc94 hb); replace HB := A_ (below_step mc49 hb); (try clear hb); (try clear ho0); have hcz26_0 : w25.cell? ⟨gb152, 0, none⟩ = some (.string a0_0) := bc_ BK152 0 rfl; have hcz26_1 : w25.cell? ⟨gb152, 1, none⟩ = some (.string a0_1) := bc_ BK152 1 rfl; have hcz26_2 : w25.cell? ⟨gb152, 2, none⟩ = some (.int .i64 a0_2) := bc_ BK152 2 rfl; have hfz26_0 := blk_frozen BK152.out 0; have hfz26_1 := blk_frozen BK152.out 1; have hfz26_2 := blk_frozen BK152.out 2) | ((with_reducible refine gc_ 85 rfl ?_); refine goesL_ (some 27) rfl rfl Tryz.func85 kr_ rfl #[.string a0_0] rfl mc86 ?_; (with_reducible refine (spec_l27Open.calls k a0_0 t157 t158 _ A7.out).mono ?_); rintro e w27 ⟨v159, rfl, ho0, hb⟩; refine ⟨_, rfl, ?_⟩; have HO160 := A_ (Kd.R_lower (Kd.R_new' ho0 (Kd.R_lt mc125)) (below_size mc49)); replace HO156 := A_ (Kd.R_elder' mc125 (Kd.R_base ho0) hb); replace BK152 := A_ (blk_below mc94 hb); replace HB := A_ (below_step mc49 hb); (try clear hb); (try clear ho0); have hcz28_0 : w27.cell? ⟨gb152, 0, none⟩ = some (.string a0_0) := bc_ BK152 0 rfl; have hcz28_1 : w27.cell? ⟨gb152, 1, none⟩ = some (.string a0_1) := bc_ BK152 1 rfl; have hcz28_2 : w27.cell? ⟨gb152, 2, none⟩ = some (.int .i64 a0_2) := bc_ BK152 2 rfl; have hfz28_0 := blk_frozen BK152.out 0; have hfz28_1 := blk_frozen BK152.out 1; have hfz28_2 := blk_frozen BK152.out 2))
    go_ret
    exact ⟨mc133, mc49⟩
  ·
   rw [if_neg c5] at H
   exact absurd H (by simp)

/-! ### spec_l14Good: function 121 -/
def spec_l14Good.f (a0_0 : Int) (a0_1 : Int) (a0_2 : Int) (a0_3 : Int) (a0_4 : Int) (a0_5 : Int) : Option (Bool) := (spec_l1In.f a0_0 1 999).bind fun t162 => (if t162 = true then ((spec_l1In.f a0_1 1 5).bind fun t163 => (if t163 = true then ((spec_l1In.f a0_2 1 3).bind fun t164 => (if t164 = true then ((spec_l1In.f a0_3 1 9).bind fun t165 => (if t165 = true then ((spec_l1In.f a0_5 1 240).bind fun t166 => (if t166 = true then ((spec_l1In.f a0_4 0 (wrap64 (a0_5 - 1))).bind fun t167 => (some t167)) else (some false))) else (some false))) else (some false))) else (some false))) else (some false))
set_option maxHeartbeats 8000000 in
set_option maxRecDepth 100000 in
theorem spec_l14Good.calls (a0_0 : Int) (a0_1 : Int) (a0_2 : Int) (a0_3 : Int) (a0_4 : Int) (a0_5 : Int) (r : Bool) (w : World) (h : spec_l14Good.f a0_0 a0_1 a0_2 a0_3 a0_4 a0_5 = some r) :
  Calls Tryz.prog 121 #[.agg #[.int .i64 a0_0, .int .i64 a0_1, .int .i64 a0_2, .int .i64 a0_3, .int .i64 a0_4, .int .i64 a0_5]] w fun e w' => e = .returned (.bool r) ∧ Below w.heap.size w w' := by
 have hu73 := Tryz.underlying73
 have HB := A_ (Below.refl w.heap.size w)
 have H : ((spec_l1In.f a0_0 1 999).bind fun t162 => (if t162 = true then ((spec_l1In.f a0_1 1 5).bind fun t163 => (if t163 = true then ((spec_l1In.f a0_2 1 3).bind fun t164 => (if t164 = true then ((spec_l1In.f a0_3 1 9).bind fun t165 => (if t165 = true then ((spec_l1In.f a0_5 1 240).bind fun t166 => (if t166 = true then ((spec_l1In.f a0_4 0 (wrap64 (a0_5 - 1))).bind fun t167 => (some t167)) else (some false))) else (some false))) else (some false))) else (some false))) else (some false))) = some r := h
 clear h
 obtain ⟨t162, A20, H⟩ := oB_ H
 have A2 := A_ A20
 clear A20
 by_cases c3 : t162 = true
 ·
  subst c3
  rw [if_pos rfl] at H
  obtain ⟨t163, A40, H⟩ := oB_ H
  have A4 := A_ A40
  clear A40
  by_cases c5 : t163 = true
  ·
   subst c5
   rw [if_pos rfl] at H
   obtain ⟨t164, A60, H⟩ := oB_ H
   have A6 := A_ A60
   clear A60
   by_cases c7 : t164 = true
   ·
    subst c7
    rw [if_pos rfl] at H
    obtain ⟨t165, A80, H⟩ := oB_ H
    have A8 := A_ A80
    clear A80
    by_cases c9 : t165 = true
    ·
     subst c9
     rw [if_pos rfl] at H
     obtain ⟨t166, A100, H⟩ := oB_ H
     have A10 := A_ A100
     clear A100
     by_cases c11 : t166 = true
     ·
      subst c11
      rw [if_pos rfl] at H
      obtain ⟨t167, A120, H⟩ := oB_ H
      have A12 := A_ A120
      clear A120
      obtain rfl := Option.some.inj H
      go_enter Tryz.func121, Tryz.ntmps121
      go_wp2_with (first | ((with_reducible refine gd_ 1 rfl ?_); refine box_event rfl (N := 1) rfl (cs := #[.int .i64 a0_0, .int .i64 a0_1, .int .i64 a0_2, .int .i64 a0_3, .int .i64 a0_4, .int .i64 a0_5]) (t := 73) mc142 ?_; intro gb161 hg w13 hbox hb; have BK161 := A_ (hbox); have GW161 := A_ ((mc45 : w.heap.size ≤ gb161)); have GE161 := A_ ((mc45 : w.heap.size ≤ gb161)); replace HB := A_ (below_step mc89 hb); clear hb hbox hg; have hcz14_0 : w13.cell? ⟨gb161, 0, none⟩ = some (.int .i64 a0_0) := bc_ BK161 0 rfl; have hcz14_1 : w13.cell? ⟨gb161, 1, none⟩ = some (.int .i64 a0_1) := bc_ BK161 1 rfl; have hcz14_2 : w13.cell? ⟨gb161, 2, none⟩ = some (.int .i64 a0_2) := bc_ BK161 2 rfl; have hcz14_3 : w13.cell? ⟨gb161, 3, none⟩ = some (.int .i64 a0_3) := bc_ BK161 3 rfl; have hcz14_4 : w13.cell? ⟨gb161, 4, none⟩ = some (.int .i64 a0_4) := bc_ BK161 4 rfl; have hcz14_5 : w13.cell? ⟨gb161, 5, none⟩ = some (.int .i64 a0_5) := bc_ BK161 5 rfl; have hfz14_0 := blk_frozen BK161.out 0; have hfz14_1 := blk_frozen BK161.out 1; have hfz14_2 := blk_frozen BK161.out 2; have hfz14_3 := blk_frozen BK161.out 3; have hfz14_4 := blk_frozen BK161.out 4; have hfz14_5 := blk_frozen BK161.out 5) | ((with_reducible refine gc_ 132 rfl ?_); refine goesL_ (some 5) rfl rfl Tryz.func132 kr_ rfl #[.int .i64 a0_0, .int .i64 1, .int .i64 999] rfl mc86 ?_; (with_reducible refine (spec_l1In.calls a0_0 1 999 true _ A2.out).mono ?_); rintro e w' ⟨rfl, ⟨nd, rfl⟩⟩; refine ⟨_, rfl, ?_⟩) | (go_at_call 132; (with_reducible refine (spec_l1In.calls a0_1 1 5 true _ A4.out).mono ?_); rintro e w' ⟨rfl, ⟨nd, rfl⟩⟩) | (go_at_call 132; (with_reducible refine (spec_l1In.calls a0_2 1 3 true _ A6.out).mono ?_); rintro e w' ⟨rfl, ⟨nd, rfl⟩⟩) | (go_at_call 132; (with_reducible refine (spec_l1In.calls a0_3 1 9 true _ A8.out).mono ?_); rintro e w' ⟨rfl, ⟨nd, rfl⟩⟩) | (go_at_call 132; (with_reducible refine (spec_l1In.calls a0_5 1 240 true _ A10.out).mono ?_); rintro e w' ⟨rfl, ⟨nd, rfl⟩⟩) | (go_at_call 132; (with_reducible refine (spec_l1In.calls a0_4 0 (wrap64 (a0_5 - 1)) t167 _ A12.out).mono ?_); rintro e w' ⟨rfl, ⟨nd, rfl⟩⟩))
      go_ret
      exact ⟨mc133, mc73⟩
     ·
      replace c11 := Bool.eq_false_iff.mpr c11
      subst c11
      rw [if_neg (show ¬ (false = true) by decide)] at H
      obtain rfl := Option.some.inj H
      go_enter Tryz.func121, Tryz.ntmps121
      go_wp2_with (first | ((with_reducible refine gd_ 1 rfl ?_); refine box_event rfl (N := 1) rfl (cs := #[.int .i64 a0_0, .int .i64 a0_1, .int .i64 a0_2, .int .i64 a0_3, .int .i64 a0_4, .int .i64 a0_5]) (t := 73) mc142 ?_; intro gb161 hg w15 hbox hb; have BK161 := A_ (hbox); have GW161 := A_ ((mc45 : w.heap.size ≤ gb161)); have GE161 := A_ ((mc45 : w.heap.size ≤ gb161)); replace HB := A_ (below_step mc89 hb); clear hb hbox hg; have hcz16_0 : w15.cell? ⟨gb161, 0, none⟩ = some (.int .i64 a0_0) := bc_ BK161 0 rfl; have hcz16_1 : w15.cell? ⟨gb161, 1, none⟩ = some (.int .i64 a0_1) := bc_ BK161 1 rfl; have hcz16_2 : w15.cell? ⟨gb161, 2, none⟩ = some (.int .i64 a0_2) := bc_ BK161 2 rfl; have hcz16_3 : w15.cell? ⟨gb161, 3, none⟩ = some (.int .i64 a0_3) := bc_ BK161 3 rfl; have hcz16_4 : w15.cell? ⟨gb161, 4, none⟩ = some (.int .i64 a0_4) := bc_ BK161 4 rfl; have hcz16_5 : w15.cell? ⟨gb161, 5, none⟩ = some (.int .i64 a0_5) := bc_ BK161 5 rfl; have hfz16_0 := blk_frozen BK161.out 0; have hfz16_1 := blk_frozen BK161.out 1; have hfz16_2 := blk_frozen BK161.out 2; have hfz16_3 := blk_frozen BK161.out 3; have hfz16_4 := blk_frozen BK161.out 4; have hfz16_5 := blk_frozen BK161.out 5) | ((with_reducible refine gc_ 132 rfl ?_); refine goesL_ (some 5) rfl rfl Tryz.func132 kr_ rfl #[.int .i64 a0_0, .int .i64 1, .int .i64 999] rfl mc86 ?_; (with_reducible refine (spec_l1In.calls a0_0 1 999 true _ A2.out).mono ?_); rintro e w' ⟨rfl, ⟨nd, rfl⟩⟩; refine ⟨_, rfl, ?_⟩) | (go_at_call 132; (with_reducible refine (spec_l1In.calls a0_1 1 5 true _ A4.out).mono ?_); rintro e w' ⟨rfl, ⟨nd, rfl⟩⟩) | (go_at_call 132; (with_reducible refine (spec_l1In.calls a0_2 1 3 true _ A6.out).mono ?_); rintro e w' ⟨rfl, ⟨nd, rfl⟩⟩) | (go_at_call 132; (with_reducible refine (spec_l1In.calls a0_3 1 9 true _ A8.out).mono ?_); rintro e w' ⟨rfl, ⟨nd, rfl⟩⟩) | (go_at_call 132; (with_reducible refine (spec_l1In.calls a0_5 1 240 false _ A10.out).mono ?_); rintro e w' ⟨rfl, ⟨nd, rfl⟩⟩))
      go_ret
      exact ⟨mc133, mc73⟩
    ·
     replace c9 := Bool.eq_false_iff.mpr c9
     subst c9
     rw [if_neg (show ¬ (false = true) by decide)] at H
     obtain rfl := Option.some.inj H
     go_enter Tryz.func121, Tryz.ntmps121
     go_wp2_with (first | ((with_reducible refine gd_ 1 rfl ?_); refine box_event rfl (N := 1) rfl (cs := #[.int .i64 a0_0, .int .i64 a0_1, .int .i64 a0_2, .int .i64 a0_3, .int .i64 a0_4, .int .i64 a0_5]) (t := 73) mc142 ?_; intro gb161 hg w17 hbox hb; have BK161 := A_ (hbox); have GW161 := A_ ((mc45 : w.heap.size ≤ gb161)); have GE161 := A_ ((mc45 : w.heap.size ≤ gb161)); replace HB := A_ (below_step mc89 hb); clear hb hbox hg; have hcz18_0 : w17.cell? ⟨gb161, 0, none⟩ = some (.int .i64 a0_0) := bc_ BK161 0 rfl; have hcz18_1 : w17.cell? ⟨gb161, 1, none⟩ = some (.int .i64 a0_1) := bc_ BK161 1 rfl; have hcz18_2 : w17.cell? ⟨gb161, 2, none⟩ = some (.int .i64 a0_2) := bc_ BK161 2 rfl; have hcz18_3 : w17.cell? ⟨gb161, 3, none⟩ = some (.int .i64 a0_3) := bc_ BK161 3 rfl; have hcz18_4 : w17.cell? ⟨gb161, 4, none⟩ = some (.int .i64 a0_4) := bc_ BK161 4 rfl; have hcz18_5 : w17.cell? ⟨gb161, 5, none⟩ = some (.int .i64 a0_5) := bc_ BK161 5 rfl; have hfz18_0 := blk_frozen BK161.out 0; have hfz18_1 := blk_frozen BK161.out 1; have hfz18_2 := blk_frozen BK161.out 2; have hfz18_3 := blk_frozen BK161.out 3; have hfz18_4 := blk_frozen BK161.out 4; have hfz18_5 := blk_frozen BK161.out 5) | ((with_reducible refine gc_ 132 rfl ?_); refine goesL_ (some 5) rfl rfl Tryz.func132 kr_ rfl #[.int .i64 a0_0, .int .i64 1, .int .i64 999] rfl mc86 ?_; (with_reducible refine (spec_l1In.calls a0_0 1 999 true _ A2.out).mono ?_); rintro e w' ⟨rfl, ⟨nd, rfl⟩⟩; refine ⟨_, rfl, ?_⟩) | (go_at_call 132; (with_reducible refine (spec_l1In.calls a0_1 1 5 true _ A4.out).mono ?_); rintro e w' ⟨rfl, ⟨nd, rfl⟩⟩) | (go_at_call 132; (with_reducible refine (spec_l1In.calls a0_2 1 3 true _ A6.out).mono ?_); rintro e w' ⟨rfl, ⟨nd, rfl⟩⟩) | (go_at_call 132; (with_reducible refine (spec_l1In.calls a0_3 1 9 false _ A8.out).mono ?_); rintro e w' ⟨rfl, ⟨nd, rfl⟩⟩))
     go_ret
     exact ⟨mc133, mc73⟩
   ·
    replace c7 := Bool.eq_false_iff.mpr c7
    subst c7
    rw [if_neg (show ¬ (false = true) by decide)] at H
    obtain rfl := Option.some.inj H
    go_enter Tryz.func121, Tryz.ntmps121
    go_wp2_with (first | ((with_reducible refine gd_ 1 rfl ?_); refine box_event rfl (N := 1) rfl (cs := #[.int .i64 a0_0, .int .i64 a0_1, .int .i64 a0_2, .int .i64 a0_3, .int .i64 a0_4, .int .i64 a0_5]) (t := 73) mc142 ?_; intro gb161 hg w19 hbox hb; have BK161 := A_ (hbox); have GW161 := A_ ((mc45 : w.heap.size ≤ gb161)); have GE161 := A_ ((mc45 : w.heap.size ≤ gb161)); replace HB := A_ (below_step mc89 hb); clear hb hbox hg; have hcz20_0 : w19.cell? ⟨gb161, 0, none⟩ = some (.int .i64 a0_0) := bc_ BK161 0 rfl; have hcz20_1 : w19.cell? ⟨gb161, 1, none⟩ = some (.int .i64 a0_1) := bc_ BK161 1 rfl; have hcz20_2 : w19.cell? ⟨gb161, 2, none⟩ = some (.int .i64 a0_2) := bc_ BK161 2 rfl; have hcz20_3 : w19.cell? ⟨gb161, 3, none⟩ = some (.int .i64 a0_3) := bc_ BK161 3 rfl; have hcz20_4 : w19.cell? ⟨gb161, 4, none⟩ = some (.int .i64 a0_4) := bc_ BK161 4 rfl; have hcz20_5 : w19.cell? ⟨gb161, 5, none⟩ = some (.int .i64 a0_5) := bc_ BK161 5 rfl; have hfz20_0 := blk_frozen BK161.out 0; have hfz20_1 := blk_frozen BK161.out 1; have hfz20_2 := blk_frozen BK161.out 2; have hfz20_3 := blk_frozen BK161.out 3; have hfz20_4 := blk_frozen BK161.out 4; have hfz20_5 := blk_frozen BK161.out 5) | ((with_reducible refine gc_ 132 rfl ?_); refine goesL_ (some 5) rfl rfl Tryz.func132 kr_ rfl #[.int .i64 a0_0, .int .i64 1, .int .i64 999] rfl mc86 ?_; (with_reducible refine (spec_l1In.calls a0_0 1 999 true _ A2.out).mono ?_); rintro e w' ⟨rfl, ⟨nd, rfl⟩⟩; refine ⟨_, rfl, ?_⟩) | (go_at_call 132; (with_reducible refine (spec_l1In.calls a0_1 1 5 true _ A4.out).mono ?_); rintro e w' ⟨rfl, ⟨nd, rfl⟩⟩) | (go_at_call 132; (with_reducible refine (spec_l1In.calls a0_2 1 3 false _ A6.out).mono ?_); rintro e w' ⟨rfl, ⟨nd, rfl⟩⟩))
    go_ret
    exact ⟨mc133, mc73⟩
  ·
   replace c5 := Bool.eq_false_iff.mpr c5
   subst c5
   rw [if_neg (show ¬ (false = true) by decide)] at H
   obtain rfl := Option.some.inj H
   go_enter Tryz.func121, Tryz.ntmps121
   go_wp2_with (first | ((with_reducible refine gd_ 1 rfl ?_); refine box_event rfl (N := 1) rfl (cs := #[.int .i64 a0_0, .int .i64 a0_1, .int .i64 a0_2, .int .i64 a0_3, .int .i64 a0_4, .int .i64 a0_5]) (t := 73) mc142 ?_; intro gb161 hg w21 hbox hb; have BK161 := A_ (hbox); have GW161 := A_ ((mc45 : w.heap.size ≤ gb161)); have GE161 := A_ ((mc45 : w.heap.size ≤ gb161)); replace HB := A_ (below_step mc89 hb); clear hb hbox hg; have hcz22_0 : w21.cell? ⟨gb161, 0, none⟩ = some (.int .i64 a0_0) := bc_ BK161 0 rfl; have hcz22_1 : w21.cell? ⟨gb161, 1, none⟩ = some (.int .i64 a0_1) := bc_ BK161 1 rfl; have hcz22_2 : w21.cell? ⟨gb161, 2, none⟩ = some (.int .i64 a0_2) := bc_ BK161 2 rfl; have hcz22_3 : w21.cell? ⟨gb161, 3, none⟩ = some (.int .i64 a0_3) := bc_ BK161 3 rfl; have hcz22_4 : w21.cell? ⟨gb161, 4, none⟩ = some (.int .i64 a0_4) := bc_ BK161 4 rfl; have hcz22_5 : w21.cell? ⟨gb161, 5, none⟩ = some (.int .i64 a0_5) := bc_ BK161 5 rfl; have hfz22_0 := blk_frozen BK161.out 0; have hfz22_1 := blk_frozen BK161.out 1; have hfz22_2 := blk_frozen BK161.out 2; have hfz22_3 := blk_frozen BK161.out 3; have hfz22_4 := blk_frozen BK161.out 4; have hfz22_5 := blk_frozen BK161.out 5) | ((with_reducible refine gc_ 132 rfl ?_); refine goesL_ (some 5) rfl rfl Tryz.func132 kr_ rfl #[.int .i64 a0_0, .int .i64 1, .int .i64 999] rfl mc86 ?_; (with_reducible refine (spec_l1In.calls a0_0 1 999 true _ A2.out).mono ?_); rintro e w' ⟨rfl, ⟨nd, rfl⟩⟩; refine ⟨_, rfl, ?_⟩) | (go_at_call 132; (with_reducible refine (spec_l1In.calls a0_1 1 5 false _ A4.out).mono ?_); rintro e w' ⟨rfl, ⟨nd, rfl⟩⟩))
   go_ret
   exact ⟨mc133, mc73⟩
 ·
  replace c3 := Bool.eq_false_iff.mpr c3
  subst c3
  rw [if_neg (show ¬ (false = true) by decide)] at H
  obtain rfl := Option.some.inj H
  go_enter Tryz.func121, Tryz.ntmps121
  go_wp2_with (first | ((with_reducible refine gd_ 1 rfl ?_); refine box_event rfl (N := 1) rfl (cs := #[.int .i64 a0_0, .int .i64 a0_1, .int .i64 a0_2, .int .i64 a0_3, .int .i64 a0_4, .int .i64 a0_5]) (t := 73) mc142 ?_; intro gb161 hg w23 hbox hb; have BK161 := A_ (hbox); have GW161 := A_ ((mc45 : w.heap.size ≤ gb161)); have GE161 := A_ ((mc45 : w.heap.size ≤ gb161)); replace HB := A_ (below_step mc89 hb); clear hb hbox hg; have hcz24_0 : w23.cell? ⟨gb161, 0, none⟩ = some (.int .i64 a0_0) := bc_ BK161 0 rfl; have hcz24_1 : w23.cell? ⟨gb161, 1, none⟩ = some (.int .i64 a0_1) := bc_ BK161 1 rfl; have hcz24_2 : w23.cell? ⟨gb161, 2, none⟩ = some (.int .i64 a0_2) := bc_ BK161 2 rfl; have hcz24_3 : w23.cell? ⟨gb161, 3, none⟩ = some (.int .i64 a0_3) := bc_ BK161 3 rfl; have hcz24_4 : w23.cell? ⟨gb161, 4, none⟩ = some (.int .i64 a0_4) := bc_ BK161 4 rfl; have hcz24_5 : w23.cell? ⟨gb161, 5, none⟩ = some (.int .i64 a0_5) := bc_ BK161 5 rfl; have hfz24_0 := blk_frozen BK161.out 0; have hfz24_1 := blk_frozen BK161.out 1; have hfz24_2 := blk_frozen BK161.out 2; have hfz24_3 := blk_frozen BK161.out 3; have hfz24_4 := blk_frozen BK161.out 4; have hfz24_5 := blk_frozen BK161.out 5) | ((with_reducible refine gc_ 132 rfl ?_); refine goesL_ (some 5) rfl rfl Tryz.func132 kr_ rfl #[.int .i64 a0_0, .int .i64 1, .int .i64 999] rfl mc86 ?_; (with_reducible refine (spec_l1In.calls a0_0 1 999 false _ A2.out).mono ?_); rintro e w' ⟨rfl, ⟨nd, rfl⟩⟩; refine ⟨_, rfl, ?_⟩))
  go_ret
  exact ⟨mc133, mc73⟩

/-! ### spec_l14Meet: function 122 -/
def spec_l14Meet.f (a0_0 : Int) (a0_1 : Int) (a0_2 : Int) (a0_3 : Int) (a0_4 : Int) (a0_5 : Int) (a1_0 : Int) (a1_1 : Int) (a1_2 : Int) (a1_3 : Int) (a1_4 : Int) (a1_5 : Int) : Option (Bool) := if a0_1 = a1_1 then (if a0_3 = a1_3 then (if a0_4 < a1_5 then (some (decide (a1_4 < a0_5))) else (some false)) else (some false)) else (some false)
set_option maxHeartbeats 8000000 in
set_option maxRecDepth 100000 in
theorem spec_l14Meet.calls (a0_0 : Int) (a0_1 : Int) (a0_2 : Int) (a0_3 : Int) (a0_4 : Int) (a0_5 : Int) (a1_0 : Int) (a1_1 : Int) (a1_2 : Int) (a1_3 : Int) (a1_4 : Int) (a1_5 : Int) (r : Bool) (w : World) (h : spec_l14Meet.f a0_0 a0_1 a0_2 a0_3 a0_4 a0_5 a1_0 a1_1 a1_2 a1_3 a1_4 a1_5 = some r) :
  Calls Tryz.prog 122 #[.agg #[.int .i64 a0_0, .int .i64 a0_1, .int .i64 a0_2, .int .i64 a0_3, .int .i64 a0_4, .int .i64 a0_5], .agg #[.int .i64 a1_0, .int .i64 a1_1, .int .i64 a1_2, .int .i64 a1_3, .int .i64 a1_4, .int .i64 a1_5]] w fun e w' => e = .returned (.bool r) ∧ Below w.heap.size w w' := by
 have hu73 := Tryz.underlying73
 have HB := A_ (Below.refl w.heap.size w)
 have H : (if a0_1 = a1_1 then (if a0_3 = a1_3 then (if a0_4 < a1_5 then (some (decide (a1_4 < a0_5))) else (some false)) else (some false)) else (some false)) = some r := h
 clear h
 by_cases c3 : a0_1 = a1_1
 ·
  rw [if_pos c3] at H
  have c3b0 : (a0_1 == a1_1) = true := beq_iff_eq.mpr c3
  have c3b1 : (a0_1 != a1_1) = false := bne_eq_false_iff_eq.mpr c3
  clear c3
  by_cases c4 : a0_3 = a1_3
  ·
   rw [if_pos c4] at H
   have c4b0 : (a0_3 == a1_3) = true := beq_iff_eq.mpr c4
   have c4b1 : (a0_3 != a1_3) = false := bne_eq_false_iff_eq.mpr c4
   clear c4
   by_cases c5 : a0_4 < a1_5
   ·
    rw [if_pos c5] at H
    have c5b0 : decide (a0_4 < a1_5) = true := decide_eq_true c5
    clear c5
    obtain rfl := Option.some.inj H
    go_enter Tryz.func122, Tryz.ntmps122
    go_wp2_with (first | ((with_reducible refine gd_ 2 rfl ?_); refine box_event rfl (N := 2) rfl (cs := #[.int .i64 a0_0, .int .i64 a0_1, .int .i64 a0_2, .int .i64 a0_3, .int .i64 a0_4, .int .i64 a0_5]) (t := 73) mc142 ?_; intro gb168 hg w6 hbox hb; have BK168 := A_ (hbox); have GW168 := A_ ((mc45 : w.heap.size ≤ gb168)); have GE168 := A_ ((mc45 : w.heap.size ≤ gb168)); replace HB := A_ (below_step mc89 hb); clear hb hbox hg) | ((with_reducible refine gd_ 3 rfl ?_); refine box_event rfl (N := 3) rfl (cs := #[.int .i64 a1_0, .int .i64 a1_1, .int .i64 a1_2, .int .i64 a1_3, .int .i64 a1_4, .int .i64 a1_5]) (t := 73) mc142 ?_; intro gb169 hg w7 hbox hb; have BK169 := A_ (hbox); have GW169 := A_ ((mc20 : w.heap.size ≤ gb169)); have GE169 := A_ ((mc20 : w.heap.size ≤ gb169)); replace HB := A_ (below_step mc50 hb); have NB168_169 := A_ ((mc75 : gb168 ≠ gb169)); have NB169_168 := A_ ((mc76 : gb169 ≠ gb168)); replace BK168 := A_ (blk_below mc95 hb); clear hb hbox hg; have hnb8 := NB168_169.out; have hnc8 := NB169_168.out; have hcz9_0 : w7.cell? ⟨gb168, 0, none⟩ = some (.int .i64 a0_0) := bc_ BK168 0 rfl; have hcz9_1 : w7.cell? ⟨gb168, 1, none⟩ = some (.int .i64 a0_1) := bc_ BK168 1 rfl; have hcz9_2 : w7.cell? ⟨gb168, 2, none⟩ = some (.int .i64 a0_2) := bc_ BK168 2 rfl; have hcz9_3 : w7.cell? ⟨gb168, 3, none⟩ = some (.int .i64 a0_3) := bc_ BK168 3 rfl; have hcz9_4 : w7.cell? ⟨gb168, 4, none⟩ = some (.int .i64 a0_4) := bc_ BK168 4 rfl; have hcz9_5 : w7.cell? ⟨gb168, 5, none⟩ = some (.int .i64 a0_5) := bc_ BK168 5 rfl; have hfz9_0 := blk_frozen BK168.out 0; have hfz9_1 := blk_frozen BK168.out 1; have hfz9_2 := blk_frozen BK168.out 2; have hfz9_3 := blk_frozen BK168.out 3; have hfz9_4 := blk_frozen BK168.out 4; have hfz9_5 := blk_frozen BK168.out 5; have hcz10_0 : w7.cell? ⟨gb169, 0, none⟩ = some (.int .i64 a1_0) := bc_ BK169 0 rfl; have hcz10_1 : w7.cell? ⟨gb169, 1, none⟩ = some (.int .i64 a1_1) := bc_ BK169 1 rfl; have hcz10_2 : w7.cell? ⟨gb169, 2, none⟩ = some (.int .i64 a1_2) := bc_ BK169 2 rfl; have hcz10_3 : w7.cell? ⟨gb169, 3, none⟩ = some (.int .i64 a1_3) := bc_ BK169 3 rfl; have hcz10_4 : w7.cell? ⟨gb169, 4, none⟩ = some (.int .i64 a1_4) := bc_ BK169 4 rfl; have hcz10_5 : w7.cell? ⟨gb169, 5, none⟩ = some (.int .i64 a1_5) := bc_ BK169 5 rfl; have hfz10_0 := blk_frozen BK169.out 0; have hfz10_1 := blk_frozen BK169.out 1; have hfz10_2 := blk_frozen BK169.out 2; have hfz10_3 := blk_frozen BK169.out 3; have hfz10_4 := blk_frozen BK169.out 4; have hfz10_5 := blk_frozen BK169.out 5))
    go_ret
    exact ⟨mc133, mc37⟩
   ·
    rw [if_neg c5] at H
    have c5b0 : decide (a0_4 < a1_5) = false := decide_eq_false c5
    clear c5
    obtain rfl := Option.some.inj H
    go_enter Tryz.func122, Tryz.ntmps122
    go_wp2_with (first | ((with_reducible refine gd_ 2 rfl ?_); refine box_event rfl (N := 2) rfl (cs := #[.int .i64 a0_0, .int .i64 a0_1, .int .i64 a0_2, .int .i64 a0_3, .int .i64 a0_4, .int .i64 a0_5]) (t := 73) mc142 ?_; intro gb168 hg w11 hbox hb; have BK168 := A_ (hbox); have GW168 := A_ ((mc45 : w.heap.size ≤ gb168)); have GE168 := A_ ((mc45 : w.heap.size ≤ gb168)); replace HB := A_ (below_step mc89 hb); clear hb hbox hg) | ((with_reducible refine gd_ 3 rfl ?_); refine box_event rfl (N := 3) rfl (cs := #[.int .i64 a1_0, .int .i64 a1_1, .int .i64 a1_2, .int .i64 a1_3, .int .i64 a1_4, .int .i64 a1_5]) (t := 73) mc142 ?_; intro gb169 hg w12 hbox hb; have BK169 := A_ (hbox); have GW169 := A_ ((mc20 : w.heap.size ≤ gb169)); have GE169 := A_ ((mc20 : w.heap.size ≤ gb169)); replace HB := A_ (below_step mc50 hb); have NB168_169 := A_ ((mc75 : gb168 ≠ gb169)); have NB169_168 := A_ ((mc76 : gb169 ≠ gb168)); replace BK168 := A_ (blk_below mc95 hb); clear hb hbox hg; have hnb13 := NB168_169.out; have hnc13 := NB169_168.out; have hcz14_0 : w12.cell? ⟨gb168, 0, none⟩ = some (.int .i64 a0_0) := bc_ BK168 0 rfl; have hcz14_1 : w12.cell? ⟨gb168, 1, none⟩ = some (.int .i64 a0_1) := bc_ BK168 1 rfl; have hcz14_2 : w12.cell? ⟨gb168, 2, none⟩ = some (.int .i64 a0_2) := bc_ BK168 2 rfl; have hcz14_3 : w12.cell? ⟨gb168, 3, none⟩ = some (.int .i64 a0_3) := bc_ BK168 3 rfl; have hcz14_4 : w12.cell? ⟨gb168, 4, none⟩ = some (.int .i64 a0_4) := bc_ BK168 4 rfl; have hcz14_5 : w12.cell? ⟨gb168, 5, none⟩ = some (.int .i64 a0_5) := bc_ BK168 5 rfl; have hfz14_0 := blk_frozen BK168.out 0; have hfz14_1 := blk_frozen BK168.out 1; have hfz14_2 := blk_frozen BK168.out 2; have hfz14_3 := blk_frozen BK168.out 3; have hfz14_4 := blk_frozen BK168.out 4; have hfz14_5 := blk_frozen BK168.out 5; have hcz15_0 : w12.cell? ⟨gb169, 0, none⟩ = some (.int .i64 a1_0) := bc_ BK169 0 rfl; have hcz15_1 : w12.cell? ⟨gb169, 1, none⟩ = some (.int .i64 a1_1) := bc_ BK169 1 rfl; have hcz15_2 : w12.cell? ⟨gb169, 2, none⟩ = some (.int .i64 a1_2) := bc_ BK169 2 rfl; have hcz15_3 : w12.cell? ⟨gb169, 3, none⟩ = some (.int .i64 a1_3) := bc_ BK169 3 rfl; have hcz15_4 : w12.cell? ⟨gb169, 4, none⟩ = some (.int .i64 a1_4) := bc_ BK169 4 rfl; have hcz15_5 : w12.cell? ⟨gb169, 5, none⟩ = some (.int .i64 a1_5) := bc_ BK169 5 rfl; have hfz15_0 := blk_frozen BK169.out 0; have hfz15_1 := blk_frozen BK169.out 1; have hfz15_2 := blk_frozen BK169.out 2; have hfz15_3 := blk_frozen BK169.out 3; have hfz15_4 := blk_frozen BK169.out 4; have hfz15_5 := blk_frozen BK169.out 5))
    go_ret
    exact ⟨mc133, mc37⟩
  ·
   rw [if_neg c4] at H
   have c4b0 : (a0_3 == a1_3) = false := beq_eq_false_iff_ne.mpr c4
   have c4b1 : (a0_3 != a1_3) = true := bne_iff_ne.mpr c4
   obtain rfl := Option.some.inj H
   go_enter Tryz.func122, Tryz.ntmps122
   go_wp2_with (first | ((with_reducible refine gd_ 2 rfl ?_); refine box_event rfl (N := 2) rfl (cs := #[.int .i64 a0_0, .int .i64 a0_1, .int .i64 a0_2, .int .i64 a0_3, .int .i64 a0_4, .int .i64 a0_5]) (t := 73) mc142 ?_; intro gb168 hg w16 hbox hb; have BK168 := A_ (hbox); have GW168 := A_ ((mc45 : w.heap.size ≤ gb168)); have GE168 := A_ ((mc45 : w.heap.size ≤ gb168)); replace HB := A_ (below_step mc89 hb); clear hb hbox hg) | ((with_reducible refine gd_ 3 rfl ?_); refine box_event rfl (N := 3) rfl (cs := #[.int .i64 a1_0, .int .i64 a1_1, .int .i64 a1_2, .int .i64 a1_3, .int .i64 a1_4, .int .i64 a1_5]) (t := 73) mc142 ?_; intro gb169 hg w17 hbox hb; have BK169 := A_ (hbox); have GW169 := A_ ((mc20 : w.heap.size ≤ gb169)); have GE169 := A_ ((mc20 : w.heap.size ≤ gb169)); replace HB := A_ (below_step mc50 hb); have NB168_169 := A_ ((mc75 : gb168 ≠ gb169)); have NB169_168 := A_ ((mc76 : gb169 ≠ gb168)); replace BK168 := A_ (blk_below mc95 hb); clear hb hbox hg; have hnb18 := NB168_169.out; have hnc18 := NB169_168.out; have hcz19_0 : w17.cell? ⟨gb168, 0, none⟩ = some (.int .i64 a0_0) := bc_ BK168 0 rfl; have hcz19_1 : w17.cell? ⟨gb168, 1, none⟩ = some (.int .i64 a0_1) := bc_ BK168 1 rfl; have hcz19_2 : w17.cell? ⟨gb168, 2, none⟩ = some (.int .i64 a0_2) := bc_ BK168 2 rfl; have hcz19_3 : w17.cell? ⟨gb168, 3, none⟩ = some (.int .i64 a0_3) := bc_ BK168 3 rfl; have hcz19_4 : w17.cell? ⟨gb168, 4, none⟩ = some (.int .i64 a0_4) := bc_ BK168 4 rfl; have hcz19_5 : w17.cell? ⟨gb168, 5, none⟩ = some (.int .i64 a0_5) := bc_ BK168 5 rfl; have hfz19_0 := blk_frozen BK168.out 0; have hfz19_1 := blk_frozen BK168.out 1; have hfz19_2 := blk_frozen BK168.out 2; have hfz19_3 := blk_frozen BK168.out 3; have hfz19_4 := blk_frozen BK168.out 4; have hfz19_5 := blk_frozen BK168.out 5; have hcz20_0 : w17.cell? ⟨gb169, 0, none⟩ = some (.int .i64 a1_0) := bc_ BK169 0 rfl; have hcz20_1 : w17.cell? ⟨gb169, 1, none⟩ = some (.int .i64 a1_1) := bc_ BK169 1 rfl; have hcz20_2 : w17.cell? ⟨gb169, 2, none⟩ = some (.int .i64 a1_2) := bc_ BK169 2 rfl; have hcz20_3 : w17.cell? ⟨gb169, 3, none⟩ = some (.int .i64 a1_3) := bc_ BK169 3 rfl; have hcz20_4 : w17.cell? ⟨gb169, 4, none⟩ = some (.int .i64 a1_4) := bc_ BK169 4 rfl; have hcz20_5 : w17.cell? ⟨gb169, 5, none⟩ = some (.int .i64 a1_5) := bc_ BK169 5 rfl; have hfz20_0 := blk_frozen BK169.out 0; have hfz20_1 := blk_frozen BK169.out 1; have hfz20_2 := blk_frozen BK169.out 2; have hfz20_3 := blk_frozen BK169.out 3; have hfz20_4 := blk_frozen BK169.out 4; have hfz20_5 := blk_frozen BK169.out 5))
   go_ret
   exact ⟨mc133, mc37⟩
 ·
  rw [if_neg c3] at H
  have c3b0 : (a0_1 == a1_1) = false := beq_eq_false_iff_ne.mpr c3
  have c3b1 : (a0_1 != a1_1) = true := bne_iff_ne.mpr c3
  obtain rfl := Option.some.inj H
  go_enter Tryz.func122, Tryz.ntmps122
  go_wp2_with (first | ((with_reducible refine gd_ 2 rfl ?_); refine box_event rfl (N := 2) rfl (cs := #[.int .i64 a0_0, .int .i64 a0_1, .int .i64 a0_2, .int .i64 a0_3, .int .i64 a0_4, .int .i64 a0_5]) (t := 73) mc142 ?_; intro gb168 hg w21 hbox hb; have BK168 := A_ (hbox); have GW168 := A_ ((mc45 : w.heap.size ≤ gb168)); have GE168 := A_ ((mc45 : w.heap.size ≤ gb168)); replace HB := A_ (below_step mc89 hb); clear hb hbox hg) | ((with_reducible refine gd_ 3 rfl ?_); refine box_event rfl (N := 3) rfl (cs := #[.int .i64 a1_0, .int .i64 a1_1, .int .i64 a1_2, .int .i64 a1_3, .int .i64 a1_4, .int .i64 a1_5]) (t := 73) mc142 ?_; intro gb169 hg w22 hbox hb; have BK169 := A_ (hbox); have GW169 := A_ ((mc20 : w.heap.size ≤ gb169)); have GE169 := A_ ((mc20 : w.heap.size ≤ gb169)); replace HB := A_ (below_step mc50 hb); have NB168_169 := A_ ((mc75 : gb168 ≠ gb169)); have NB169_168 := A_ ((mc76 : gb169 ≠ gb168)); replace BK168 := A_ (blk_below mc95 hb); clear hb hbox hg; have hnb23 := NB168_169.out; have hnc23 := NB169_168.out; have hcz24_0 : w22.cell? ⟨gb168, 0, none⟩ = some (.int .i64 a0_0) := bc_ BK168 0 rfl; have hcz24_1 : w22.cell? ⟨gb168, 1, none⟩ = some (.int .i64 a0_1) := bc_ BK168 1 rfl; have hcz24_2 : w22.cell? ⟨gb168, 2, none⟩ = some (.int .i64 a0_2) := bc_ BK168 2 rfl; have hcz24_3 : w22.cell? ⟨gb168, 3, none⟩ = some (.int .i64 a0_3) := bc_ BK168 3 rfl; have hcz24_4 : w22.cell? ⟨gb168, 4, none⟩ = some (.int .i64 a0_4) := bc_ BK168 4 rfl; have hcz24_5 : w22.cell? ⟨gb168, 5, none⟩ = some (.int .i64 a0_5) := bc_ BK168 5 rfl; have hfz24_0 := blk_frozen BK168.out 0; have hfz24_1 := blk_frozen BK168.out 1; have hfz24_2 := blk_frozen BK168.out 2; have hfz24_3 := blk_frozen BK168.out 3; have hfz24_4 := blk_frozen BK168.out 4; have hfz24_5 := blk_frozen BK168.out 5; have hcz25_0 : w22.cell? ⟨gb169, 0, none⟩ = some (.int .i64 a1_0) := bc_ BK169 0 rfl; have hcz25_1 : w22.cell? ⟨gb169, 1, none⟩ = some (.int .i64 a1_1) := bc_ BK169 1 rfl; have hcz25_2 : w22.cell? ⟨gb169, 2, none⟩ = some (.int .i64 a1_2) := bc_ BK169 2 rfl; have hcz25_3 : w22.cell? ⟨gb169, 3, none⟩ = some (.int .i64 a1_3) := bc_ BK169 3 rfl; have hcz25_4 : w22.cell? ⟨gb169, 4, none⟩ = some (.int .i64 a1_4) := bc_ BK169 4 rfl; have hcz25_5 : w22.cell? ⟨gb169, 5, none⟩ = some (.int .i64 a1_5) := bc_ BK169 5 rfl; have hfz25_0 := blk_frozen BK169.out 0; have hfz25_1 := blk_frozen BK169.out 1; have hfz25_2 := blk_frozen BK169.out 2; have hfz25_3 := blk_frozen BK169.out 3; have hfz25_4 := blk_frozen BK169.out 4; have hfz25_5 := blk_frozen BK169.out 5))
  go_ret
  exact ⟨mc133, mc37⟩

end Go.Proofs.YtlnlabndaikbnaaGreatDoor.P
