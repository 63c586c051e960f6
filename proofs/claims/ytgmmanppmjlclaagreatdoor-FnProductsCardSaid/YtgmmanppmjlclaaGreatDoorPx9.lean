-- Made by pp.py of this session out of the kit's print and of contracts proved by hand; Lean checks it.
import Derived.Test.YtgmmanppmjlclaaGreatDoorMc
import Derived.Test.YtgmmanppmjlclaaGreatDoorPx0
import Derived.Test.YtgmmanppmjlclaaGreatDoorPx6
import Derived.Test.YtgmmanppmjlclaaGreatDoorPx7
import Derived.Test.YtgmmanppmjlclaaGreatDoorPx8
namespace Go.Proofs.YtgmmanppmjlclaaGreatDoor.P
open Go.RowKit Go.Proofs.YtgmmanppmjlclaaGreatDoorW.PrintWords Go.Proofs.YtgmmanppmjlclaaGreatDoorW.PrintLast Go.Proofs.YtgmmanppmjlclaaGreatDoorW.PrintMore
attribute [local go_sem] max2_int min2_int max_two min_two max_three min_three max_four min_four   -- for this text's walks alone
set_option linter.unusedVariables false
set_option linter.unusedSimpArgs false

/-! ### spec_DrawStoreProduct: function 5 -/
def spec_DrawStoreProduct.f (k : Nat) (l0 : List Int) : Option ((List (S26)) × ByteArray × Int × ByteArray) := (mk_l1Cur.f l0).bind fun bt273 => ((spec_l1Cur_archive.f k bt273.1 bt273.2.1 bt273.2.2).bind fun bt277 => ((spec_l1Cur_product.f bt273.1 bt277.2.1 bt277.2.2).bind fun bt282 => (some (bt277.1, bt282.1, bt282.2.1, bt282.2.2.1))))
set_option maxHeartbeats 8000000 in
set_option maxRecDepth 100000 in
theorem spec_DrawStoreProduct.calls (k : Nat) (A0 : Option Addr) (c0 : Nat) (l0 : List Int) (r1 : List (S26)) (r2 : ByteArray) (r3 : Int) (r4 : ByteArray) (w : World) (hr0 : Kd.C (Kd.int .u8) w A0 l0.length l0) (hc0 : l0.length ≤ c0) (h : spec_DrawStoreProduct.f k l0 = some (r1, r2, r3, r4)) :
    Calls Tryz.prog 5 #[.slice A0 l0.length c0] w fun e w' => ∃ v0_ : Value, e = .returned (.tuple #[v0_, .agg #[.string r2, .int .i64 r3, .string r4]]) ∧ Kd.R k26 26 w' w.heap.size (fun _ => True) v0_ r1 ∧ Below w.heap.size w w' := by
  have hu26 := Tryz.underlying26
  have HR0 := A_ hr0
  have HC0 := A_ hc0
  clear hr0 hc0
  have HB := A_ (Below.refl w.heap.size w)
  have H : ((mk_l1Cur.f l0).bind fun bt273 => ((spec_l1Cur_archive.f k bt273.1 bt273.2.1 bt273.2.2).bind fun bt277 => ((spec_l1Cur_product.f bt273.1 bt277.2.1 bt277.2.2).bind fun bt282 => (some (bt277.1, bt282.1, bt282.2.1, bt282.2.2.1))))) = some (r1, r2, r3, r4) := h
  clear h
  obtain ⟨⟨t273, t274, t275⟩, A20, H⟩ := oB_ H
  have A2 := A_ A20
  clear A20
  obtain ⟨⟨t277, t280, t281⟩, A30, H⟩ := oB_ H
  have A3 := A_ A30
  clear A30
  obtain ⟨⟨t282, t283, t284, t285, t286⟩, A40, H⟩ := oB_ H
  have A4 := A_ A40
  clear A40
  simp only [Option.some.injEq, Prod.mk.injEq] at H
  obtain ⟨rfl, rfl, rfl, rfl⟩ := H
  go_enter Tryz.func5, Tryz.ntmps5
  go_wp2_with (first | ((with_reducible refine gd_ 3 rfl ?_); refine box_event rfl (N := 3) rfl (cs := #[.string (⟨#[]⟩ : ByteArray), .int .i64 0, .string (⟨#[]⟩ : ByteArray)]) (t := 26) mc83 ?_; intro gb272 hg w5 hbox hb; have BK272 := A_ (hbox); have GW272 := A_ ((mc34 : w.heap.size ≤ gb272)); have GE272 := A_ ((mc34 : w.heap.size ≤ gb272)); replace HB := A_ (below_step mc53 hb); clear hb hbox hg) | ((with_reducible refine gd_ 8 rfl ?_); refine mk_l1Cur.box A0 c0 l0 t273 t274 t275 w A2.out ?side8 ?side9 ?side1 ?side2 ?side3 ?_; (case side8 => rfl); (case side1 => repeat (first | (with_reducible first | exact HB.out | apply below_alloc | apply pw_below_drewN | apply below_drew1 | refine below_set ?_ GE272.out) | exact HB.out)); (case side2 => exact HR0.out); (case side3 => exact HC0.out); (case side9 => exact mc83); intro g276 w6 hi hb hb2; replace HB := A_ (hb); have HI276 := A_ (hi); have NB276_272 := A_ (IsS50.ne_blk hi (blk_below mc58 hb2) (by decide)); have NB272_276 := A_ (Ne.symm (IsS50.ne_blk hi (blk_below mc58 hb2) (by decide))); replace BK272 := A_ (blk_below mc58 hb2); (try clear hb)) | ((with_reducible refine gc_ 22 rfl ?_); refine goesL_ (some 10) rfl rfl Tryz.func22 kr_ rfl #[.pointer (some ⟨g276, 0, none⟩)] rfl mc47 ?_; (with_reducible refine (spec_l1Cur_archive.calls k g276 t273 t274 t275 t277 t280 t281 w _ ?side1 ?side2 A3.out).mono ?_); (case side1 => exact mc11); (case side2 => exact mc13); rintro e w7 ⟨v278, rfl, ho0, hi, hb, hk⟩; refine ⟨_, rfl, ?_⟩; have HO279 := A_ (Kd.R_lower (Kd.R_newB ho0 (g := gb272) (o := .cells #[.string (⟨#[]⟩ : ByteArray), .int .i64 0, .string (⟨#[]⟩ : ByteArray)] 26 (0, 0)) mc58) (below_size (by repeat (first | (with_reducible first | exact HB.out | apply below_alloc | apply pw_below_drewN | apply below_drew1 | refine below_set ?_ (IsS50.ge HI276.out) | refine below_set ?_ GE272.out) | exact HB.out)))); replace BK272 := A_ (KeepBut.blk hk (g' := gb272) (o := .cells #[.string (⟨#[]⟩ : ByteArray), .int .i64 0, .string (⟨#[]⟩ : ByteArray)] 26 (0, 0)) mc58 NB272_276.out (by simp)); replace HB := A_ (hb); replace HI276 := A_ (hi); (try clear hb); (try clear ho0)) | ((with_reducible refine gc_ 23 rfl ?_); refine goesL_ (some 13) rfl rfl Tryz.func23 kr_ rfl #[.pointer (some ⟨g276, 0, none⟩)] rfl mc47 ?_; (with_reducible refine (spec_l1Cur_product.calls g276 t273 t280 t281 t282 t283 t284 t285 t286 w _ ?side1 ?side2 A4.out).mono ?_); (case side1 => exact mc11); (case side2 => exact mc13); rintro e w8 ⟨rfl, hi, hb, hk⟩; refine ⟨_, rfl, ?_⟩; replace BK272 := A_ (KeepBut.blk hk (g' := gb272) (o := .cells #[.string (⟨#[]⟩ : ByteArray), .int .i64 0, .string (⟨#[]⟩ : ByteArray)] 26 (0, 0)) mc58 NB272_276.out (by simp)); replace HO279 := A_ (Kd.R_mono (Kd.R_keep (IsS50.apart (show IsS50 w _ g276 t273 t280 t281 from by repeat (first | (with_reducible first | exact HI276.out | apply IsS50.alloc | apply IsS50.drewN | apply IsS50.drew | apply IsS50.set_1 | apply IsS50.set_2 | refine IsS50.far ?_ NB276_272.out _) | exact HI276.out)) (by (with_reducible repeat (first | apply Kd.R_alloc | apply Kd.R_drewN | apply Kd.R_drew)); exact HO279.out) (by decide)) hk (fun _ h => h.2)) (fun _ h => h.1)); replace HB := A_ (hb); replace HI276 := A_ (hi); (try clear hb); have hnb9 := NB272_276.out; have hnc9 := NB276_272.out; have hcz10_0 : w8.cell? ⟨gb272, 0, none⟩ = some (.string (⟨#[]⟩ : ByteArray)) := bc_ BK272 0 rfl; have hcz10_1 : w8.cell? ⟨gb272, 1, none⟩ = some (.int .i64 0) := bc_ BK272 1 rfl; have hcz10_2 : w8.cell? ⟨gb272, 2, none⟩ = some (.string (⟨#[]⟩ : ByteArray)) := bc_ BK272 2 rfl; have hfz10_0 := blk_frozen BK272.out 0; have hfz10_1 := blk_frozen BK272.out 1; have hfz10_2 := blk_frozen BK272.out 2))
  refine bodyPost_ret (results_tc rfl _ _ gb272 26 #[.string t282, .int .i64 t283, .string t284] (0, 0) _ rfl (by (with_reducible repeat (first | refine blk_drewN ?_ _ | refine blk_drew ?_ | refine blk_alloc ?_ _)); refine blk_put (cs := #[.string t282, .int .i64 t283, .string (⟨#[]⟩ : ByteArray)]) ?_ 2 _ rfl; (with_reducible repeat (first | refine blk_drewN ?_ _ | refine blk_drew ?_ | refine blk_alloc ?_ _)); refine blk_put (cs := #[.string t282, .int .i64 0, .string (⟨#[]⟩ : ByteArray)]) ?_ 1 _ rfl; (with_reducible repeat (first | refine blk_drewN ?_ _ | refine blk_drew ?_ | refine blk_alloc ?_ _)); refine blk_put (cs := #[.string (⟨#[]⟩ : ByteArray), .int .i64 0, .string (⟨#[]⟩ : ByteArray)]) ?_ 0 _ rfl; (with_reducible repeat (first | refine blk_drewN ?_ _ | refine blk_drew ?_ | refine blk_alloc ?_ _)); exact BK272.out) Tryz.underlying26 rfl kr_) rfl ?_
  exact ⟨_, mc76, by (with_reducible repeat (first | apply Kd.R_alloc | apply Kd.R_drewN | apply Kd.R_drew)); exact Kd.R_mono (Kd.R_far (p := ⟨gb272, 2, none⟩) (Kd.R_far (p := ⟨gb272, 1, none⟩) (Kd.R_far (p := ⟨gb272, 0, none⟩) (Kd.R_mono HO279.out (fun k_ hk => (⟨hk, hk.2⟩ : _ ∧ k_ ≠ gb272))) (fun _ hk => hk.2) (.string t282)) (fun _ hk => hk.2) (.int .i64 t283)) (fun _ hk => hk.2) (.string t284)) (fun _ hk => trivial), by repeat (first | (with_reducible first | exact HB.out | apply below_alloc | apply pw_below_drewN | apply below_drew1 | refine below_set ?_ (IsS50.ge HI276.out) | refine below_set ?_ GE272.out) | exact HB.out)⟩

/-! ### impl_within: function 32 -/
def impl_within.f (a0 : Int) (a1 : Int) (a2 : Int) : Option (Bool) := if a0 ≥ a1 then (some (decide (a0 ≤ a2))) else (some false)
set_option maxHeartbeats 8000000 in
set_option maxRecDepth 100000 in
theorem impl_within.calls (a0 : Int) (a1 : Int) (a2 : Int) (r : Bool) (w : World) (h : impl_within.f a0 a1 a2 = some r) :
    Calls Tryz.prog 32 #[.int .i64 a0, .int .i64 a1, .int .i64 a2] w fun e w' => e = .returned (.bool r) ∧ Drawn0 w w' := by
  have H : (if a0 ≥ a1 then (some (decide (a0 ≤ a2))) else (some false)) = some r := h
  clear h
  by_cases c4 : a0 ≥ a1
  · rw [if_pos c4] at H
    have c4b0 : decide (a1 ≤ a0) = true := decide_eq_true c4
    clear c4
    obtain rfl := Option.some.inj H
    go_enter Tryz.func32, Tryz.ntmps32
    go_wp2
    go_ret
    exact ⟨mc82, mc80⟩
  · rw [if_neg c4] at H
    have c4b0 : decide (a1 ≤ a0) = false := decide_eq_false c4
    clear c4
    obtain rfl := Option.some.inj H
    go_enter Tryz.func32, Tryz.ntmps32
    go_wp2
    go_ret
    exact ⟨mc82, mc80⟩

/-! ### impl_isProductName: function 31 -/
def impl_isProductName.l0 : Nat → ByteArray → Int → Option (Bool)
  | 0, _, _ => none
  | k + 1, x0, x3 => if x3 < (x0.size : Int) then (if 0 ≤ x3 then (if (bt x0 x3) < 97 then (some false) else (if (bt x0 x3) > 122 then (some false) else (impl_isProductName.l0 k x0 (wrap64 (x3 + 1))))) else (none)) else ((impl_within.f (x0.size : Int) 1 8).bind fun t287 => (some t287))
def impl_isProductName.f (k : Nat) (a0 : ByteArray) : Option (Bool) := impl_isProductName.l0 k a0 0
set_option maxHeartbeats 8000000 in
set_option maxRecDepth 100000 in
theorem impl_isProductName.calls (k : Nat) (a0 : ByteArray) (r : Bool) (w : World) (h : impl_isProductName.f k a0 = some r) :
    Calls Tryz.prog 31 #[.string a0] w fun e w' => e = .returned (.bool r) ∧ Drawn0 w w' := by
  have H : (impl_isProductName.l0 k a0 0) = some r := h
  clear h
  have H' := A_ H
  clear H
  go_enter Tryz.func31, Tryz.ntmps31
  go_wp2
  go_loopg [3] k (fun kq v3 w' => ∃ (x3_1 : Int), v3 = .int .i64 x3_1 ∧ Aside0 (impl_isProductName.l0 kq a0 x3_1 = some r) ∧ Aside0 (kq ≤ k) ∧ Drawn0 w w')
  case atStart => exact ⟨(0), mc82, H', ⟨Nat.le_refl _⟩, mc80⟩
  case round =>
    clear H'
    obtain ⟨x3_1, rfl, HA, HK1, ⟨m1, rfl⟩⟩ := hrel
    cases gk with
    | zero => exact absurd HA.out (by simp [impl_isProductName.l0])
    | succ k1 =>
      have H := HA.out
      clear HA
      simp only [impl_isProductName.l0] at H
      by_cases c2 : x3_1 < (a0.size : Int)
      · rw [if_pos c2] at H
        have c2b0 : decide (x3_1 < (a0.size : Int)) = true := decide_eq_true c2
        clear c2
        by_cases c3 : 0 ≤ x3_1
        · rw [if_pos c3] at H
          have c3b0 : decide (0 ≤ x3_1) = true := decide_eq_true c3
          clear c3
          by_cases c5 : (bt a0 x3_1) < 97
          · rw [if_pos c5] at H
            have c5b0 : decide ((bt a0 x3_1) < 97) = true := decide_eq_true c5
            clear c5
            obtain rfl := Option.some.inj H
            have p4 : 0 ≤ (x3_1 : Int) := of_decide_eq_true mc81
            have q4 : x3_1 < (a0.size : Int) := of_decide_eq_true mc81
            have hx4 := bt_at a0 x3_1
            replace p4 := eq_true p4
            replace q4 := eq_true q4
            go_wp2
            go_ret
            exact ⟨mc82, mc80⟩
          · rw [if_neg c5] at H
            have c5b0 : decide ((bt a0 x3_1) < 97) = false := decide_eq_false c5
            clear c5
            by_cases c7 : (bt a0 x3_1) > 122
            · rw [if_pos c7] at H
              have c7b0 : decide (122 < (bt a0 x3_1)) = true := decide_eq_true c7
              clear c7
              obtain rfl := Option.some.inj H
              have p4 : 0 ≤ (x3_1 : Int) := of_decide_eq_true mc81
              have q4 : x3_1 < (a0.size : Int) := of_decide_eq_true mc81
              have hx4 := bt_at a0 x3_1
              replace p4 := eq_true p4
              replace q4 := eq_true q4
              have p6 : 0 ≤ (x3_1 : Int) := of_decide_eq_true mc81
              have q6 : x3_1 < (a0.size : Int) := of_decide_eq_true mc81
              have hx6 := bt_at a0 x3_1
              replace p6 := eq_true p6
              replace q6 := eq_true q6
              go_wp2
              go_ret
              exact ⟨mc82, mc80⟩
            · rw [if_neg c7] at H
              have c7b0 : decide (122 < (bt a0 x3_1)) = false := decide_eq_false c7
              clear c7
              have H' := A_ H
              clear H
              have p4 : 0 ≤ (x3_1 : Int) := of_decide_eq_true mc81
              have q4 : x3_1 < (a0.size : Int) := of_decide_eq_true mc81
              have hx4 := bt_at a0 x3_1
              replace p4 := eq_true p4
              replace q4 := eq_true q4
              have p6 : 0 ≤ (x3_1 : Int) := of_decide_eq_true mc81
              have q6 : x3_1 < (a0.size : Int) := of_decide_eq_true mc81
              have hx6 := bt_at a0 x3_1
              replace p6 := eq_true p6
              replace q6 := eq_true q6
              go_wp2
              go_roundg k1
              case measure => have := HK1.out; omega
              case rel => exact ⟨(wrap64 (x3_1 + 1)), mc82, H', ⟨mc86⟩, mc80⟩
        · rw [if_neg c3] at H
          exact absurd H (by simp)
      · rw [if_neg c2] at H
        have c2b0 : decide (x3_1 < (a0.size : Int)) = false := decide_eq_false c2
        clear c2
        obtain ⟨t287, A80, H⟩ := oB_ H
        have A8 := A_ A80
        clear A80
        obtain rfl := Option.some.inj H
        go_wp2_with (first | ((with_reducible refine gc_ 32 rfl ?_); refine goesL_ (some 22) rfl rfl Tryz.func32 kr_ rfl #[.int .i64 (a0.size : Int), .int .i64 1, .int .i64 8] rfl mc47 ?_; (with_reducible refine (impl_within.calls (a0.size : Int) 1 8 t287 _ A8.out).mono ?_); rintro e w' ⟨rfl, ⟨nd, rfl⟩⟩; refine ⟨_, rfl, ?_⟩))
        go_ret
        exact ⟨mc82, mc80⟩

end Go.Proofs.YtgmmanppmjlclaaGreatDoor.P
