-- Made by pp.py of this session out of the kit's print and of contracts proved by hand; Lean checks it.
import Derived.Test.YtgmmanppmjlclaaGreatDoorMc
import Derived.Test.YtgmmanppmjlclaaGreatDoorPx0
import Derived.Test.YtgmmanppmjlclaaGreatDoorPx6
import Derived.Test.YtgmmanppmjlclaaGreatDoorPx7
import Derived.Test.YtgmmanppmjlclaaGreatDoorPx8
import Derived.Test.YtgmmanppmjlclaaGreatDoorPx9
import Derived.Test.YtgmmanppmjlclaaGreatDoorPx14
import Derived.Test.YtgmmanppmjlclaaGreatDoorPx18
namespace Go.Proofs.YtgmmanppmjlclaaGreatDoor.P
open Go.RowKit Go.Proofs.YtgmmanppmjlclaaGreatDoorW.PrintWords Go.Proofs.YtgmmanppmjlclaaGreatDoorW.PrintLast Go.Proofs.YtgmmanppmjlclaaGreatDoorW.PrintMore
attribute [local go_sem] max2_int min2_int max_two min_two max_three min_three max_four min_four   -- for this text's walks alone
set_option linter.unusedVariables false
set_option linter.unusedSimpArgs false

/-! ### impl_ValidProduct: function 9 -/
def impl_ValidProduct.f (k : Nat) (l0 : List (S26)) (a1 : ByteArray) (a2 : Int) : Option (ByteArray × Int × ByteArray × Bool) := (impl_IsValidArchive.f k l0).bind fun t312 => (if t312 = true then ((impl_isProductName.f k a1).bind fun t313 => (if t313 = true then ((impl_within.f a2 0 240).bind fun t314 => (if t314 = true then ((impl_validProduct.f l0 a1 a2).bind fun bt315 => (some (bt315.1, bt315.2.1, bt315.2.2.1, bt315.2.2.2))) else (some ((⟨#[]⟩ : ByteArray), 0, (⟨#[]⟩ : ByteArray), false)))) else (some ((⟨#[]⟩ : ByteArray), 0, (⟨#[]⟩ : ByteArray), false)))) else (some ((⟨#[]⟩ : ByteArray), 0, (⟨#[]⟩ : ByteArray), false)))
set_option maxHeartbeats 8000000 in
set_option maxRecDepth 100000 in
theorem impl_ValidProduct.calls (k : Nat) (A0 : Option Addr) (c0 : Nat) (l0 : List (S26)) (a1 : ByteArray) (a2 : Int) (r1 : ByteArray) (r2 : Int) (r3 : ByteArray) (r4 : Bool) (w : World) (hr0 : Kd.C k26 w A0 l0.length l0) (hc0 : l0.length ≤ c0) (h : impl_ValidProduct.f k l0 a1 a2 = some (r1, r2, r3, r4)) :
  Calls Tryz.prog 9 #[.slice A0 l0.length c0, .string a1, .int .i64 a2] w fun e w' => e = .returned (.tuple #[.agg #[.string r1, .int .i64 r2, .string r3], .bool r4]) ∧ Below w.heap.size w w' := by
 have hu26 := Tryz.underlying26
 have HR0 := A_ hr0
 have HC0 := A_ hc0
 clear hr0 hc0
 have HB := A_ (Below.refl w.heap.size w)
 have H : ((impl_IsValidArchive.f k l0).bind fun t312 => (if t312 = true then ((impl_isProductName.f k a1).bind fun t313 => (if t313 = true then ((impl_within.f a2 0 240).bind fun t314 => (if t314 = true then ((impl_validProduct.f l0 a1 a2).bind fun bt315 => (some (bt315.1, bt315.2.1, bt315.2.2.1, bt315.2.2.2))) else (some ((⟨#[]⟩ : ByteArray), 0, (⟨#[]⟩ : ByteArray), false)))) else (some ((⟨#[]⟩ : ByteArray), 0, (⟨#[]⟩ : ByteArray), false)))) else (some ((⟨#[]⟩ : ByteArray), 0, (⟨#[]⟩ : ByteArray), false)))) = some (r1, r2, r3, r4) := h
 clear h
 obtain ⟨t312, A40, H⟩ := oB_ H
 have A4 := A_ A40
 clear A40
 by_cases c5 : t312 = true
 ·
  subst c5
  rw [if_pos rfl] at H
  obtain ⟨t313, A60, H⟩ := oB_ H
  have A6 := A_ A60
  clear A60
  by_cases c7 : t313 = true
  ·
   subst c7
   rw [if_pos rfl] at H
   obtain ⟨t314, A80, H⟩ := oB_ H
   have A8 := A_ A80
   clear A80
   by_cases c9 : t314 = true
   ·
    subst c9
    rw [if_pos rfl] at H
    obtain ⟨⟨t315, t316, t317, t318⟩, A100, H⟩ := oB_ H
    have A10 := A_ A100
    clear A100
    simp only [Option.some.injEq, Prod.mk.injEq] at H
    obtain ⟨rfl, rfl, rfl, rfl⟩ := H
    go_enter Tryz.func9, Tryz.ntmps9
    go_wp2_with (first | ((with_reducible refine gd_ 6 rfl ?_); refine box_event rfl (N := 6) rfl (cs := #[.string (⟨#[]⟩ : ByteArray), .int .i64 0, .string (⟨#[]⟩ : ByteArray)]) (t := 26) mc83 ?_; intro gb311 hg w11 hbox hb; have BK311 := A_ (hbox); have GW311 := A_ ((mc34 : w.heap.size ≤ gb311)); have GE311 := A_ ((mc34 : w.heap.size ≤ gb311)); replace HB := A_ (below_step mc53 hb); clear hb hbox hg) | ((with_reducible refine gc_ 12 rfl ?_); refine goesL_ (some 9) rfl rfl Tryz.func12 kr_ rfl #[.slice A0 l0.length c0] rfl mc47 ?_; (with_reducible refine (impl_IsValidArchive.calls k _ _ l0 true _ ?side1 ?side2 A4.out).mono ?_); (case side1 => exact mc31); (case side2 => exact HC0.out); rintro e w12 ⟨rfl, hb⟩; refine ⟨_, rfl, ?_⟩; replace BK311 := A_ (blk_below mc61 hb); replace HB := A_ (below_step mc39 hb); (try clear hb)) | (go_at_call 31; (with_reducible refine (impl_isProductName.calls k a1 true _ A6.out).mono ?_); rintro e w' ⟨rfl, ⟨nd, rfl⟩⟩; (try (rw [drewN_self w12]; generalize hq_ : World.drewN w12 _ = w12; have n0_ : Aside0 (w12.heap[gb311]? = some (.cells #[.string (⟨#[]⟩ : ByteArray), .int .i64 0, .string (⟨#[]⟩ : ByteArray)] 26 (0, 0))) := ⟨mc46⟩; have n1_ : Aside0 (Below w.heap.size w w12) := ⟨mc24⟩; clear BK311 HB hq_; have BK311 := n0_; have HB := n1_; clear n0_ n1_))) | (go_at_call 32; (with_reducible refine (impl_within.calls a2 0 240 true _ A8.out).mono ?_); rintro e w' ⟨rfl, ⟨nd, rfl⟩⟩; (try (rw [drewN_self w12]; generalize hq_ : World.drewN w12 _ = w12; have n0_ : Aside0 (w12.heap[gb311]? = some (.cells #[.string (⟨#[]⟩ : ByteArray), .int .i64 0, .string (⟨#[]⟩ : ByteArray)] 26 (0, 0))) := ⟨mc46⟩; have n1_ : Aside0 (Below w.heap.size w w12) := ⟨mc24⟩; clear BK311 HB hq_; have BK311 := n0_; have HB := n1_; clear n0_ n1_))) | ((with_reducible refine gc_ 33 rfl ?_); refine goesL_ (some 25) rfl rfl Tryz.func33 kr_ rfl #[.slice A0 l0.length c0, .string a1, .int .i64 a2] rfl mc47 ?_; (with_reducible refine (impl_validProduct.calls _ _ l0 a1 a2 t315 t316 t317 t318 _ ?side1 ?side2 A10.out).mono ?_); (case side1 => exact mc31); (case side2 => exact HC0.out); rintro e w13 ⟨rfl, hb⟩; refine ⟨_, rfl, ?_⟩; replace BK311 := A_ (blk_below mc61 hb); replace HB := A_ (below_step mc39 hb); (try clear hb); have hcz14_0 : w13.cell? ⟨gb311, 0, none⟩ = some (.string (⟨#[]⟩ : ByteArray)) := bc_ BK311 0 rfl; have hcz14_1 : w13.cell? ⟨gb311, 1, none⟩ = some (.int .i64 0) := bc_ BK311 1 rfl; have hcz14_2 : w13.cell? ⟨gb311, 2, none⟩ = some (.string (⟨#[]⟩ : ByteArray)) := bc_ BK311 2 rfl; have hfz14_0 := blk_frozen BK311.out 0; have hfz14_1 := blk_frozen BK311.out 1; have hfz14_2 := blk_frozen BK311.out 2))
    refine bodyPost_ret (results_ct rfl _ _ gb311 26 #[.string t315, .int .i64 t316, .string t317] (0, 0) _ rfl (by (with_reducible repeat (first | refine blk_drewN ?_ _ | refine blk_drew ?_ | refine blk_alloc ?_ _)); refine blk_put (cs := #[.string t315, .int .i64 t316, .string (⟨#[]⟩ : ByteArray)]) ?_ 2 _ rfl; (with_reducible repeat (first | refine blk_drewN ?_ _ | refine blk_drew ?_ | refine blk_alloc ?_ _)); refine blk_put (cs := #[.string t315, .int .i64 0, .string (⟨#[]⟩ : ByteArray)]) ?_ 1 _ rfl; (with_reducible repeat (first | refine blk_drewN ?_ _ | refine blk_drew ?_ | refine blk_alloc ?_ _)); refine blk_put (cs := #[.string (⟨#[]⟩ : ByteArray), .int .i64 0, .string (⟨#[]⟩ : ByteArray)]) ?_ 0 _ rfl; (with_reducible repeat (first | refine blk_drewN ?_ _ | refine blk_drew ?_ | refine blk_alloc ?_ _)); exact BK311.out) Tryz.underlying26 rfl kr_) rfl ?_
    exact ⟨mc76, mc39⟩
   ·
    replace c9 := Bool.eq_false_iff.mpr c9
    subst c9
    rw [if_neg (show ¬ (false = true) by decide)] at H
    simp only [Option.some.injEq, Prod.mk.injEq] at H
    obtain ⟨rfl, rfl, rfl, rfl⟩ := H
    go_enter Tryz.func9, Tryz.ntmps9
    go_wp2_with (first | ((with_reducible refine gd_ 6 rfl ?_); refine box_event rfl (N := 6) rfl (cs := #[.string (⟨#[]⟩ : ByteArray), .int .i64 0, .string (⟨#[]⟩ : ByteArray)]) (t := 26) mc83 ?_; intro gb311 hg w15 hbox hb; have BK311 := A_ (hbox); have GW311 := A_ ((mc34 : w.heap.size ≤ gb311)); have GE311 := A_ ((mc34 : w.heap.size ≤ gb311)); replace HB := A_ (below_step mc53 hb); clear hb hbox hg) | ((with_reducible refine gc_ 12 rfl ?_); refine goesL_ (some 9) rfl rfl Tryz.func12 kr_ rfl #[.slice A0 l0.length c0] rfl mc47 ?_; (with_reducible refine (impl_IsValidArchive.calls k _ _ l0 true _ ?side1 ?side2 A4.out).mono ?_); (case side1 => exact mc31); (case side2 => exact HC0.out); rintro e w16 ⟨rfl, hb⟩; refine ⟨_, rfl, ?_⟩; replace BK311 := A_ (blk_below mc61 hb); replace HB := A_ (below_step mc39 hb); (try clear hb)) | (go_at_call 31; (with_reducible refine (impl_isProductName.calls k a1 true _ A6.out).mono ?_); rintro e w' ⟨rfl, ⟨nd, rfl⟩⟩; (try (rw [drewN_self w16]; generalize hq_ : World.drewN w16 _ = w16; have n0_ : Aside0 (w16.heap[gb311]? = some (.cells #[.string (⟨#[]⟩ : ByteArray), .int .i64 0, .string (⟨#[]⟩ : ByteArray)] 26 (0, 0))) := ⟨mc46⟩; have n1_ : Aside0 (Below w.heap.size w w16) := ⟨mc24⟩; clear BK311 HB hq_; have BK311 := n0_; have HB := n1_; clear n0_ n1_))) | (go_at_call 32; (with_reducible refine (impl_within.calls a2 0 240 false _ A8.out).mono ?_); rintro e w' ⟨rfl, ⟨nd, rfl⟩⟩; (try (rw [drewN_self w16]; generalize hq_ : World.drewN w16 _ = w16; have n0_ : Aside0 (w16.heap[gb311]? = some (.cells #[.string (⟨#[]⟩ : ByteArray), .int .i64 0, .string (⟨#[]⟩ : ByteArray)] 26 (0, 0))) := ⟨mc46⟩; have n1_ : Aside0 (Below w.heap.size w w16) := ⟨mc24⟩; clear BK311 HB hq_; have BK311 := n0_; have HB := n1_; clear n0_ n1_)); have hcz17_0 : w16.cell? ⟨gb311, 0, none⟩ = some (.string (⟨#[]⟩ : ByteArray)) := bc_ BK311 0 rfl; have hcz17_1 : w16.cell? ⟨gb311, 1, none⟩ = some (.int .i64 0) := bc_ BK311 1 rfl; have hcz17_2 : w16.cell? ⟨gb311, 2, none⟩ = some (.string (⟨#[]⟩ : ByteArray)) := bc_ BK311 2 rfl; have hfz17_0 := blk_frozen BK311.out 0; have hfz17_1 := blk_frozen BK311.out 1; have hfz17_2 := blk_frozen BK311.out 2))
    refine bodyPost_ret (results_ct rfl _ _ gb311 26 #[.string (⟨#[]⟩ : ByteArray), .int .i64 0, .string (⟨#[]⟩ : ByteArray)] (0, 0) _ rfl mc2 Tryz.underlying26 rfl kr_) rfl ?_
    exact ⟨mc76, mc39⟩
  ·
   replace c7 := Bool.eq_false_iff.mpr c7
   subst c7
   rw [if_neg (show ¬ (false = true) by decide)] at H
   simp only [Option.some.injEq, Prod.mk.injEq] at H
   obtain ⟨rfl, rfl, rfl, rfl⟩ := H
   go_enter Tryz.func9, Tryz.ntmps9
   go_wp2_with (first | ((with_reducible refine gd_ 6 rfl ?_); refine box_event rfl (N := 6) rfl (cs := #[.string (⟨#[]⟩ : ByteArray), .int .i64 0, .string (⟨#[]⟩ : ByteArray)]) (t := 26) mc83 ?_; intro gb311 hg w18 hbox hb; have BK311 := A_ (hbox); have GW311 := A_ ((mc34 : w.heap.size ≤ gb311)); have GE311 := A_ ((mc34 : w.heap.size ≤ gb311)); replace HB := A_ (below_step mc53 hb); clear hb hbox hg) | ((with_reducible refine gc_ 12 rfl ?_); refine goesL_ (some 9) rfl rfl Tryz.func12 kr_ rfl #[.slice A0 l0.length c0] rfl mc47 ?_; (with_reducible refine (impl_IsValidArchive.calls k _ _ l0 true _ ?side1 ?side2 A4.out).mono ?_); (case side1 => exact mc31); (case side2 => exact HC0.out); rintro e w19 ⟨rfl, hb⟩; refine ⟨_, rfl, ?_⟩; replace BK311 := A_ (blk_below mc61 hb); replace HB := A_ (below_step mc39 hb); (try clear hb)) | (go_at_call 31; (with_reducible refine (impl_isProductName.calls k a1 false _ A6.out).mono ?_); rintro e w' ⟨rfl, ⟨nd, rfl⟩⟩; (try (rw [drewN_self w19]; generalize hq_ : World.drewN w19 _ = w19; have n0_ : Aside0 (w19.heap[gb311]? = some (.cells #[.string (⟨#[]⟩ : ByteArray), .int .i64 0, .string (⟨#[]⟩ : ByteArray)] 26 (0, 0))) := ⟨mc46⟩; have n1_ : Aside0 (Below w.heap.size w w19) := ⟨mc24⟩; clear BK311 HB hq_; have BK311 := n0_; have HB := n1_; clear n0_ n1_)); have hcz20_0 : w19.cell? ⟨gb311, 0, none⟩ = some (.string (⟨#[]⟩ : ByteArray)) := bc_ BK311 0 rfl; have hcz20_1 : w19.cell? ⟨gb311, 1, none⟩ = some (.int .i64 0) := bc_ BK311 1 rfl; have hcz20_2 : w19.cell? ⟨gb311, 2, none⟩ = some (.string (⟨#[]⟩ : ByteArray)) := bc_ BK311 2 rfl; have hfz20_0 := blk_frozen BK311.out 0; have hfz20_1 := blk_frozen BK311.out 1; have hfz20_2 := blk_frozen BK311.out 2))
   refine bodyPost_ret (results_ct rfl _ _ gb311 26 #[.string (⟨#[]⟩ : ByteArray), .int .i64 0, .string (⟨#[]⟩ : ByteArray)] (0, 0) _ rfl mc2 Tryz.underlying26 rfl kr_) rfl ?_
   exact ⟨mc76, mc39⟩
 ·
  replace c5 := Bool.eq_false_iff.mpr c5
  subst c5
  rw [if_neg (show ¬ (false = true) by decide)] at H
  simp only [Option.some.injEq, Prod.mk.injEq] at H
  obtain ⟨rfl, rfl, rfl, rfl⟩ := H
  go_enter Tryz.func9, Tryz.ntmps9
  go_wp2_with (first | ((with_reducible refine gd_ 6 rfl ?_); refine box_event rfl (N := 6) rfl (cs := #[.string (⟨#[]⟩ : ByteArray), .int .i64 0, .string (⟨#[]⟩ : ByteArray)]) (t := 26) mc83 ?_; intro gb311 hg w21 hbox hb; have BK311 := A_ (hbox); have GW311 := A_ ((mc34 : w.heap.size ≤ gb311)); have GE311 := A_ ((mc34 : w.heap.size ≤ gb311)); replace HB := A_ (below_step mc53 hb); clear hb hbox hg) | ((with_reducible refine gc_ 12 rfl ?_); refine goesL_ (some 9) rfl rfl Tryz.func12 kr_ rfl #[.slice A0 l0.length c0] rfl mc47 ?_; (with_reducible refine (impl_IsValidArchive.calls k _ _ l0 false _ ?side1 ?side2 A4.out).mono ?_); (case side1 => exact mc31); (case side2 => exact HC0.out); rintro e w22 ⟨rfl, hb⟩; refine ⟨_, rfl, ?_⟩; replace BK311 := A_ (blk_below mc61 hb); replace HB := A_ (below_step mc39 hb); (try clear hb); have hcz23_0 : w22.cell? ⟨gb311, 0, none⟩ = some (.string (⟨#[]⟩ : ByteArray)) := bc_ BK311 0 rfl; have hcz23_1 : w22.cell? ⟨gb311, 1, none⟩ = some (.int .i64 0) := bc_ BK311 1 rfl; have hcz23_2 : w22.cell? ⟨gb311, 2, none⟩ = some (.string (⟨#[]⟩ : ByteArray)) := bc_ BK311 2 rfl; have hfz23_0 := blk_frozen BK311.out 0; have hfz23_1 := blk_frozen BK311.out 1; have hfz23_2 := blk_frozen BK311.out 2))
  refine bodyPost_ret (results_ct rfl _ _ gb311 26 #[.string (⟨#[]⟩ : ByteArray), .int .i64 0, .string (⟨#[]⟩ : ByteArray)] (0, 0) _ rfl mc2 Tryz.underlying26 rfl kr_) rfl ?_
  exact ⟨mc76, mc39⟩

/-! ### impl_VersionsOf: function 10 -/
mutual
def impl_VersionsOf.j0 : Nat → List (S26) → ByteArray → Bool → Option (List Int × Bool)
 | 0, _, _, _ => none
 | k + 1, x0, x1, x16 => if x16 = true then (some (([] : List Int), false)) else (impl_VersionsOf.l0 k x1 ([] : List Int) x0 (x0.length : Int) 0)
def impl_VersionsOf.l0 : Nat → ByteArray → List Int → List (S26) → Int → Int → Option (List Int × Bool)
 | 0, _, _, _, _, _ => none
 | k + 1, x1, x6, x17, x18, x19 => if x19 < x18 then (if 0 ≤ x19 then (if x19 < (x17.length : Int) then (if ((rd_T26 x17 x19).f0).toList = x1.toList then (if x6.length < 17592186044416 then (impl_VersionsOf.l0 k x1 (x6 ++ [(rd_T26 x17 x19).f1]) x17 x18 (wrap64 (x19 + 1))) else (none)) else (impl_VersionsOf.l0 k x1 x6 x17 x18 (wrap64 (x19 + 1)))) else (none)) else (none)) else (some (x6, true))
end
def impl_VersionsOf.f (k : Nat) (l0 : List (S26)) (a1 : ByteArray) : Option (List Int × Bool) := (impl_IsValidArchive.f k l0).bind fun t319 => (if t319 = true then ((impl_isProductName.f k a1).bind fun t320 => (impl_VersionsOf.j0 k l0 a1 (!t320))) else (impl_VersionsOf.j0 k l0 a1 true))
set_option maxHeartbeats 8000000 in
set_option maxRecDepth 100000 in
theorem impl_VersionsOf.calls (k : Nat) (A0 : Option Addr) (c0 : Nat) (l0 : List (S26)) (a1 : ByteArray) (r1 : List Int) (r2 : Bool) (w : World) (hr0 : Kd.C k26 w A0 l0.length l0) (hc0 : l0.length ≤ c0) (h : impl_VersionsOf.f k l0 a1 = some (r1, r2)) :
  Calls Tryz.prog 10 #[.slice A0 l0.length c0, .string a1] w fun e w' => ∃ v0_ : Value, e = .returned (.tuple #[v0_, .bool r2]) ∧ Kd.R (Kd.int .i64) 3 w' w.heap.size (fun _ => True) v0_ r1 ∧ Below w.heap.size w w' := by
 have hu26 := Tryz.underlying26
 have HR0 := A_ hr0
 have HC0 := A_ hc0
 clear hr0 hc0
 have HB := A_ (Below.refl w.heap.size w)
 have H : ((impl_IsValidArchive.f k l0).bind fun t319 => (if t319 = true then ((impl_isProductName.f k a1).bind fun t320 => (impl_VersionsOf.j0 k l0 a1 (!t320))) else (impl_VersionsOf.j0 k l0 a1 true))) = some (r1, r2) := h
 clear h
 have HC3 := A_ H
 clear H
 go_enter Tryz.func10, Tryz.ntmps10
 go_upto_region 1 with (fail)
 go_cut [16] (fun v16 wc => ∃ (kq : Nat) (x16_2 : Bool), v16 = .bool x16_2 ∧ Aside0 (impl_VersionsOf.j0 kq l0 a1 x16_2 = some (r1, r2)) ∧ Aside0 (kq ≤ k) ∧ Aside0 (Below w.heap.size w wc))
 case first =>
  have H := HC3.out
  clear HC3
  obtain ⟨t319, A40, H⟩ := oB_ H
  have A4 := A_ A40
  clear A40
  by_cases c5 : t319 = true
  ·
   subst c5
   rw [if_pos rfl] at H
   obtain ⟨t320, A60, H⟩ := oB_ H
   have A6 := A_ A60
   clear A60
   have H' := A_ H
   clear H
   go_wp2_with (first | ((with_reducible refine gc_ 12 rfl ?_); refine goesL_ (some 10) rfl rfl Tryz.func12 kr_ rfl #[.slice A0 l0.length c0] rfl mc47 ?_; (with_reducible refine (impl_IsValidArchive.calls k _ _ l0 true _ ?side1 ?side2 A4.out).mono ?_); (case side1 => exact mc31); (case side2 => exact HC0.out); rintro e w7 ⟨rfl, hb⟩; refine ⟨_, rfl, ?_⟩; replace HB := A_ (below_step mc53 hb); (try clear hb)) | (go_at_call 31; (with_reducible refine (impl_isProductName.calls k a1 t320 _ A6.out).mono ?_); rintro e w' ⟨rfl, ⟨nd, rfl⟩⟩))
   go_meet
   case rel => exact ⟨_, (!t320), mc82, H', ⟨mc85⟩, ⟨mc53⟩⟩
  ·
   replace c5 := Bool.eq_false_iff.mpr c5
   subst c5
   rw [if_neg (show ¬ (false = true) by decide)] at H
   have H' := A_ H
   clear H
   go_wp2_with (first | ((with_reducible refine gc_ 12 rfl ?_); refine goesL_ (some 10) rfl rfl Tryz.func12 kr_ rfl #[.slice A0 l0.length c0] rfl mc47 ?_; (with_reducible refine (impl_IsValidArchive.calls k _ _ l0 false _ ?side1 ?side2 A4.out).mono ?_); (case side1 => exact mc31); (case side2 => exact HC0.out); rintro e w8 ⟨rfl, hb⟩; refine ⟨_, rfl, ?_⟩; replace HB := A_ (below_step mc53 hb); (try clear hb)))
   go_meet
   case rel => exact ⟨_, (true), mc82, H', ⟨mc85⟩, ⟨mc53⟩⟩
 case rest =>
  clear HC3
  try clear p2
  obtain ⟨kq, x16_2, rfl, HA, HJ2, HB⟩ := hcut
  cases kq with
  | zero => exact absurd HA.out (by simp [impl_VersionsOf.j0])
  | succ kj2 =>
   have H := HA.out
   clear HA
   simp only [impl_VersionsOf.j0] at H
   by_cases c9 : x16_2 = true
   ·
    subst c9
    rw [if_pos rfl] at H
    simp only [Option.some.injEq, Prod.mk.injEq] at H
    obtain ⟨rfl, rfl⟩ := H
    go_wp2
    go_ret2
    exact ⟨_, mc76, by first | exact Kd.R_nil _ _ _ _ _ | exact Kd.N_nil _ _ _ _ _ | exact Kd.V_nil _ _ _ _ _ | exact Kd.Q_nil _ _ _ _ _ | exact Kd.S_nil _ _ _ _ _, mc53⟩
   ·
    replace c9 := Bool.eq_false_iff.mpr c9
    subst c9
    rw [if_neg (show ¬ (false = true) by decide)] at H
    have H' := A_ H
    clear H
    go_wp2
    go_loopg [6, 19] kj2 (fun kq v6 v19 w' => ∃ (x6_2 : List Int) (x19_2 : Int), v19 = .int .i64 x19_2 ∧ Aside0 (impl_VersionsOf.l0 kq a1 x6_2 l0 (l0.length : Int) x19_2 = some (r1, r2)) ∧ Aside0 (kq ≤ kj2) ∧ Aside0 (Kd.R (Kd.int .i64) 3 w' w.heap.size (fun _ => True) v6 x6_2) ∧ Aside0 (Below w.heap.size w w'))
    case atStart => exact ⟨(([] : List Int)), (0), mc82, H', ⟨Nat.le_refl _⟩, ⟨by first | exact Kd.R_nil _ _ _ _ _ | exact Kd.N_nil _ _ _ _ _ | exact Kd.V_nil _ _ _ _ _ | exact Kd.Q_nil _ _ _ _ _ | exact Kd.S_nil _ _ _ _ _⟩, ⟨mc53⟩⟩
    case round =>
     clear H'
     try clear p2
     try clear p2
     obtain ⟨x6_2, x19_2, rfl, HA, HK2, HO_6, HB⟩ := hrel
     cases gk with
     | zero => exact absurd HA.out (by simp [impl_VersionsOf.l0])
     | succ k2 =>
      have H := HA.out
      clear HA
      simp only [impl_VersionsOf.l0] at H
      by_cases c10 : x19_2 < (l0.length : Int)
      ·
       rw [if_pos c10] at H
       have c10b0 : decide (x19_2 < (l0.length : Int)) = true := decide_eq_true c10
       clear c10
       by_cases c11 : 0 ≤ x19_2
       ·
        rw [if_pos c11] at H
        have c11b0 : decide (0 ≤ x19_2) = true := decide_eq_true c11
        clear c11
        by_cases c12 : x19_2 < (l0.length : Int)
        ·
         rw [if_pos c12] at H
         have c12b0 : decide (x19_2 < (l0.length : Int)) = true := decide_eq_true c12
         clear c12
         by_cases c13 : ((rd_T26 l0 x19_2).f0).toList = a1.toList
         ·
          rw [if_pos c13] at H
          have c13b0 : (((rd_T26 l0 x19_2).f0).toList == a1.toList) = true := beq_iff_eq.mpr c13
          have c13b1 : (((rd_T26 l0 x19_2).f0).toList != a1.toList) = false := bne_eq_false_iff_eq.mpr c13
          clear c13
          by_cases c14 : x6_2.length < 17592186044416
          ·
           rw [if_pos c14] at H
           have LMc14 := A_ c14
           clear c14
           obtain ⟨y323, hy323⟩ : ∃ y_ : List Int, y_ = (x6_2 ++ [(rd_T26 l0 x19_2).f1]) := ⟨_, rfl⟩
           replace H : (impl_VersionsOf.l0 k2 a1 y323 l0 (l0.length : Int) (wrap64 (x19_2 + 1))) = some (r1, r2) := by first | (rw [hy323]; with_reducible exact H) | (have H2_ := (Option.bind_some _ _).symm.trans H; rw [hy323]; with_reducible exact H2_) | (have H2_ := (Option.bind_some _ _).symm.trans H; with_reducible exact H2_) | with_reducible exact H | (rw [hy323]; exact H) | exact H
           have Ny323 := A_ hy323
           clear hy323
           have H' := A_ H
           clear H
           have p321 : 0 ≤ (x19_2 : Int) := of_decide_eq_true mc81
           have q321 : x19_2 < (l0.length : Int) := of_decide_eq_true mc81
           obtain ⟨ad321, e321, hx321_0, hx321_1, hx321_2⟩ := at_T26 HR0.out x19_2 p321 q321
           cases e321
           replace hx321_0 := (HB.out.cell (World.block_lt_of_cell? w _ hx321_0)).trans hx321_0
           replace hx321_1 := (HB.out.cell (World.block_lt_of_cell? w _ hx321_1)).trans hx321_1
           replace hx321_2 := (HB.out.cell (World.block_lt_of_cell? w _ hx321_2)).trans hx321_2
           replace p321 := eq_true p321
           replace q321 := eq_true q321
           go_wp2_with (first | ((with_reducible refine gd_ 8 rfl ?_); refine box_event rfl (N := 8) rfl (cs := #[.string (⟨#[]⟩ : ByteArray), .int .i64 0, .string (⟨#[]⟩ : ByteArray)]) (t := 26) mc83 ?_; intro gb322 hg w15 hbox hb; replace HO_6 := A_ (Kd.R_below mc72 hb); have BK322 := A_ (hbox); have GW322 := A_ ((mc34 : w.heap.size ≤ gb322)); have GE322 := A_ ((mc34 : w.heap.size ≤ gb322)); replace HB := A_ (below_step mc53 hb); clear hb hbox hg; have hcz16_0 : w15.cell? ⟨gb322, 0, none⟩ = some (.string (⟨#[]⟩ : ByteArray)) := bc_ BK322 0 rfl; have hcz16_1 : w15.cell? ⟨gb322, 1, none⟩ = some (.int .i64 0) := bc_ BK322 1 rfl; have hcz16_2 : w15.cell? ⟨gb322, 2, none⟩ = some (.string (⟨#[]⟩ : ByteArray)) := bc_ BK322 2 rfl; have hfz16_0 := blk_frozen BK322.out 0; have hfz16_1 := blk_frozen BK322.out 1; have hfz16_2 := blk_frozen BK322.out 2) | ((with_reducible refine gate_builtin (b := .append) (xs := #[.tmp 27, .tmp 30]) rfl ?_); at_builtin; refine Kd.R_append (Kd.int .i64) (w0 := w) w.heap.size rfl (.tmp 27) (.tmp 30) 34 3 (.int .i64 0) 8 rfl Tryz.underlying34 info3 rfl (by decide) (by omega) u6 x6_2 ((rd_T26 l0 x19_2).f1) [.int .i64 ((rd_T26 l0 x19_2).f1)] (fun _ => True) (fun _ => False) rfl mc83 ?aP (fun _ hk => hk.elim) ?aF ?aO ?aB ?aS ?aL ?_; (case aP => exact rfl); (case aB => exact mc40); (case aF => exact (fun _ _ => trivial)); (case aO => exact (by (with_reducible repeat (first | apply Kd.R_alloc | apply Kd.R_drewN | apply Kd.R_drew)); exact Kd.R_mono (Kd.R_far (p := ⟨gb322, 2, none⟩) (Kd.R_far (p := ⟨gb322, 1, none⟩) (Kd.R_far (p := ⟨gb322, 0, none⟩) (Kd.R_types HO_6.out BK322.out (by decide)) (fun _ hk => hk.2) (.string ((rd_T26 l0 x19_2).f0))) (fun _ hk => hk.2) (.int .i64 ((rd_T26 l0 x19_2).f1))) (fun _ hk => hk.2) (.string ((rd_T26 l0 x19_2).f2))) (fun _ hk => trivial))); (case aS => exact (below_size mc40)); (case aL => have := LMc14.out; omega); intro v324 w17 ho hb hg hat; rw [← Ny323.out] at ho; replace BK322 := A_ (blk_grown (g := gb322) (o := .cells #[.string ((rd_T26 l0 x19_2).f0), .int .i64 ((rd_T26 l0 x19_2).f1), .string ((rd_T26 l0 x19_2).f2)] 26 (0, 0)) (by (with_reducible repeat (first | refine blk_drewN ?_ _ | refine blk_drew ?_ | refine blk_alloc ?_ _)); refine blk_put (cs := #[.string ((rd_T26 l0 x19_2).f0), .int .i64 ((rd_T26 l0 x19_2).f1), .string (⟨#[]⟩ : ByteArray)]) ?_ 2 _ rfl; (with_reducible repeat (first | refine blk_drewN ?_ _ | refine blk_drew ?_ | refine blk_alloc ?_ _)); refine blk_put (cs := #[.string ((rd_T26 l0 x19_2).f0), .int .i64 0, .string (⟨#[]⟩ : ByteArray)]) ?_ 1 _ rfl; (with_reducible repeat (first | refine blk_drewN ?_ _ | refine blk_drew ?_ | refine blk_alloc ?_ _)); refine blk_put (cs := #[.string (⟨#[]⟩ : ByteArray), .int .i64 0, .string (⟨#[]⟩ : ByteArray)]) ?_ 0 _ rfl; (with_reducible repeat (first | refine blk_drewN ?_ _ | refine blk_drew ?_ | refine blk_alloc ?_ _)); exact BK322.out) hg (Kd.R_ne HO_6.out BK322.out (by decide))); replace HB := A_ (hb); have HO325 := A_ (ho); clear HO_6; clear ho hb hg hat))
           go_roundg k2
           case measure => have := HJ2.out; have := HK2.out; omega
           case rel => exact ⟨(y323), (wrap64 (x19_2 + 1)), mc82, H', ⟨by have := HJ2.out; have := HK2.out; omega⟩, ⟨by (with_reducible repeat (first | apply Kd.R_alloc | apply Kd.R_drewN | apply Kd.R_drew)); exact HO325.out⟩, ⟨mc40⟩⟩
          ·
           rw [if_neg c14] at H
           exact absurd H (by simp)
         ·
          rw [if_neg c13] at H
          have c13b0 : (((rd_T26 l0 x19_2).f0).toList == a1.toList) = false := beq_eq_false_iff_ne.mpr c13
          have c13b1 : (((rd_T26 l0 x19_2).f0).toList != a1.toList) = true := bne_iff_ne.mpr c13
          have H' := A_ H
          clear H
          have p321 : 0 ≤ (x19_2 : Int) := of_decide_eq_true mc81
          have q321 : x19_2 < (l0.length : Int) := of_decide_eq_true mc81
          obtain ⟨ad321, e321, hx321_0, hx321_1, hx321_2⟩ := at_T26 HR0.out x19_2 p321 q321
          cases e321
          replace hx321_0 := (HB.out.cell (World.block_lt_of_cell? w _ hx321_0)).trans hx321_0
          replace hx321_1 := (HB.out.cell (World.block_lt_of_cell? w _ hx321_1)).trans hx321_1
          replace hx321_2 := (HB.out.cell (World.block_lt_of_cell? w _ hx321_2)).trans hx321_2
          replace p321 := eq_true p321
          replace q321 := eq_true q321
          go_wp2_with (first | ((with_reducible refine gd_ 8 rfl ?_); refine box_event rfl (N := 8) rfl (cs := #[.string (⟨#[]⟩ : ByteArray), .int .i64 0, .string (⟨#[]⟩ : ByteArray)]) (t := 26) mc83 ?_; intro gb322 hg w18 hbox hb; replace HO_6 := A_ (Kd.R_below mc72 hb); have BK322 := A_ (hbox); have GW322 := A_ ((mc34 : w.heap.size ≤ gb322)); have GE322 := A_ ((mc34 : w.heap.size ≤ gb322)); replace HB := A_ (below_step mc53 hb); clear hb hbox hg; have hcz19_0 : w18.cell? ⟨gb322, 0, none⟩ = some (.string (⟨#[]⟩ : ByteArray)) := bc_ BK322 0 rfl; have hcz19_1 : w18.cell? ⟨gb322, 1, none⟩ = some (.int .i64 0) := bc_ BK322 1 rfl; have hcz19_2 : w18.cell? ⟨gb322, 2, none⟩ = some (.string (⟨#[]⟩ : ByteArray)) := bc_ BK322 2 rfl; have hfz19_0 := blk_frozen BK322.out 0; have hfz19_1 := blk_frozen BK322.out 1; have hfz19_2 := blk_frozen BK322.out 2))
          go_roundg k2
          case measure => have := HJ2.out; have := HK2.out; omega
          case rel => exact ⟨(x6_2), (wrap64 (x19_2 + 1)), mc82, H', ⟨by have := HJ2.out; have := HK2.out; omega⟩, ⟨by (with_reducible repeat (first | apply Kd.R_alloc | apply Kd.R_drewN | apply Kd.R_drew)); exact Kd.R_mono (Kd.R_far (p := ⟨gb322, 2, none⟩) (Kd.R_far (p := ⟨gb322, 1, none⟩) (Kd.R_far (p := ⟨gb322, 0, none⟩) (Kd.R_types HO_6.out BK322.out (by decide)) (fun _ hk => hk.2) (.string ((rd_T26 l0 x19_2).f0))) (fun _ hk => hk.2) (.int .i64 ((rd_T26 l0 x19_2).f1))) (fun _ hk => hk.2) (.string ((rd_T26 l0 x19_2).f2))) (fun _ hk => trivial)⟩, ⟨mc40⟩⟩
        ·
         rw [if_neg c12] at H
         exact absurd H (by simp)
       ·
        rw [if_neg c11] at H
        exact absurd H (by simp)
      ·
       rw [if_neg c10] at H
       have c10b0 : decide (x19_2 < (l0.length : Int)) = false := decide_eq_false c10
       clear c10
       simp only [Option.some.injEq, Prod.mk.injEq] at H
       obtain ⟨rfl, rfl⟩ := H
       go_wp2
       go_ret2
       exact ⟨_, mc76, mc72, mc53⟩

/-! ### laws_rHas: function 11 -/
def laws_rHas.l0 : Nat → List Int → Int → Int → Option (Bool)
 | 0, _, _, _ => none
 | k + 1, x0, x1, x5 => if x5 < (x0.length : Int) then (if 0 ≤ x5 then (if (rd x0 x5) = x1 then (some true) else (laws_rHas.l0 k x0 x1 (wrap64 (x5 + 1)))) else (none)) else (some false)
def laws_rHas.f (k : Nat) (l0 : List Int) (a1 : Int) : Option (Bool) := laws_rHas.l0 k l0 a1 0
set_option maxHeartbeats 8000000 in
set_option maxRecDepth 100000 in
theorem laws_rHas.calls (k : Nat) (A0 : Option Addr) (c0 : Nat) (l0 : List Int) (a1 : Int) (r : Bool) (w : World) (hr0 : Kd.C (Kd.int .i64) w A0 l0.length l0) (hc0 : l0.length ≤ c0) (h : laws_rHas.f k l0 a1 = some r) :
  Calls Tryz.prog 11 #[.slice A0 l0.length c0, .int .i64 a1] w fun e w' => e = .returned (.bool r) ∧ Drawn0 w w' := by
 have HR0 := A_ hr0
 have HC0 := A_ hc0
 clear hr0 hc0
 have H : (laws_rHas.l0 k l0 a1 0) = some r := h
 clear h
 have H' := A_ H
 clear H
 go_enter Tryz.func11, Tryz.ntmps11
 go_wp2
 go_loopg [5] k (fun kq v5 w' => ∃ (x5_1 : Int), v5 = .int .i64 x5_1 ∧ Aside0 (laws_rHas.l0 kq l0 a1 x5_1 = some r) ∧ Aside0 (kq ≤ k) ∧ Drawn0 w w')
 case atStart => exact ⟨(0), mc82, H', ⟨Nat.le_refl _⟩, mc80⟩
 case round =>
  clear H'
  try clear p2
  obtain ⟨x5_1, rfl, HA, HK1, ⟨m1, rfl⟩⟩ := hrel
  cases gk with
  | zero => exact absurd HA.out (by simp [laws_rHas.l0])
  | succ k1 =>
   have H := HA.out
   clear HA
   simp only [laws_rHas.l0] at H
   by_cases c3 : x5_1 < (l0.length : Int)
   ·
    rw [if_pos c3] at H
    have c3b0 : decide (x5_1 < (l0.length : Int)) = true := decide_eq_true c3
    clear c3
    by_cases c4 : 0 ≤ x5_1
    ·
     rw [if_pos c4] at H
     have c4b0 : decide (0 ≤ x5_1) = true := decide_eq_true c4
     clear c4
     by_cases c5 : (rd l0 x5_1) = a1
     ·
      rw [if_pos c5] at H
      have c5b0 : ((rd l0 x5_1) == a1) = true := beq_iff_eq.mpr c5
      have c5b1 : ((rd l0 x5_1) != a1) = false := bne_eq_false_iff_eq.mpr c5
      clear c5
      obtain rfl := Option.some.inj H
      have p326 : 0 ≤ (x5_1 : Int) := of_decide_eq_true mc81
      have q326 : x5_1 < (l0.length : Int) := of_decide_eq_true mc81
      obtain ⟨ad326, e326, hx326_0⟩ := Kd.at_int HR0.out x5_1 p326 q326
      cases e326
      replace p326 := eq_true p326
      replace q326 := eq_true q326
      go_wp2
      go_ret
      exact ⟨mc82, mc80⟩
     ·
      rw [if_neg c5] at H
      have c5b0 : ((rd l0 x5_1) == a1) = false := beq_eq_false_iff_ne.mpr c5
      have c5b1 : ((rd l0 x5_1) != a1) = true := bne_iff_ne.mpr c5
      have H' := A_ H
      clear H
      have p326 : 0 ≤ (x5_1 : Int) := of_decide_eq_true mc81
      have q326 : x5_1 < (l0.length : Int) := of_decide_eq_true mc81
      obtain ⟨ad326, e326, hx326_0⟩ := Kd.at_int HR0.out x5_1 p326 q326
      cases e326
      replace p326 := eq_true p326
      replace q326 := eq_true q326
      go_wp2
      go_roundg k1
      case measure => have := HK1.out; omega
      case rel => exact ⟨(wrap64 (x5_1 + 1)), mc82, H', ⟨mc86⟩, mc80⟩
    ·
     rw [if_neg c4] at H
     exact absurd H (by simp)
   ·
    rw [if_neg c3] at H
    have c3b0 : decide (x5_1 < (l0.length : Int)) = false := decide_eq_false c3
    clear c3
    obtain rfl := Option.some.inj H
    go_wp2
    go_ret
    exact ⟨mc82, mc80⟩

/-! ### spec_DrawIsValidArchive: function 34 -/
def spec_DrawIsValidArchive.f (k : Nat) (l0 : List Int) : Option ((List (S26))) := (mk_l1Cur.f l0).bind fun bt327 => ((spec_l1Cur_archive.f k bt327.1 bt327.2.1 bt327.2.2).bind fun bt331 => (some bt331.1))
set_option maxHeartbeats 8000000 in
set_option maxRecDepth 100000 in
theorem spec_DrawIsValidArchive.calls (k : Nat) (A0 : Option Addr) (c0 : Nat) (l0 : List Int) (r : List (S26)) (w : World) (hr0 : Kd.C (Kd.int .u8) w A0 l0.length l0) (hc0 : l0.length ≤ c0) (h : spec_DrawIsValidArchive.f k l0 = some r) :
  Calls Tryz.prog 34 #[.slice A0 l0.length c0] w fun e w' => ∃ v0_ : Value, e = .returned (v0_) ∧ Kd.R k26 26 w' w.heap.size (fun _ => True) v0_ r ∧ Below w.heap.size w w' := by
 have HR0 := A_ hr0
 have HC0 := A_ hc0
 clear hr0 hc0
 have HB := A_ (Below.refl w.heap.size w)
 have H : ((mk_l1Cur.f l0).bind fun bt327 => ((spec_l1Cur_archive.f k bt327.1 bt327.2.1 bt327.2.2).bind fun bt331 => (some bt331.1))) = some r := h
 clear h
 obtain ⟨⟨t327, t328, t329⟩, A20, H⟩ := oB_ H
 have A2 := A_ A20
 clear A20
 obtain ⟨⟨t331, t334, t335⟩, A30, H⟩ := oB_ H
 have A3 := A_ A30
 clear A30
 obtain rfl := Option.some.inj H
 go_enter Tryz.func34, Tryz.ntmps34
 go_wp2_with (first | ((with_reducible refine gd_ 6 rfl ?_); refine mk_l1Cur.box A0 c0 l0 t327 t328 t329 w A2.out ?side8 ?side9 ?side1 ?side2 ?side3 ?_; (case side8 => rfl); (case side1 => exact mc53); (case side2 => exact HR0.out); (case side3 => exact HC0.out); (case side9 => exact mc83); intro g330 w4 hi hb hb2; replace HB := A_ (hb); have HI330 := A_ (hi); (try clear hb)) | ((with_reducible refine gc_ 22 rfl ?_); refine goesL_ (some 8) rfl rfl Tryz.func22 kr_ rfl #[.pointer (some ⟨g330, 0, none⟩)] rfl mc47 ?_; (with_reducible refine (spec_l1Cur_archive.calls k g330 t327 t328 t329 t331 t334 t335 w _ ?side1 ?side2 A3.out).mono ?_); (case side1 => repeat (first | (with_reducible first | exact HI330.out | apply IsS50.alloc | apply IsS50.drewN | apply IsS50.drew | apply IsS50.set_1 | apply IsS50.set_2) | exact HI330.out)); (case side2 => repeat (first | (with_reducible first | exact HB.out | apply below_alloc | apply pw_below_drewN | apply below_drew1 | refine below_set ?_ (IsS50.ge HI330.out)) | exact HB.out)); rintro e w5 ⟨v332, rfl, ho0, hi, hb, hk⟩; refine ⟨_, rfl, ?_⟩; have HO333 := A_ (Kd.R_lower ho0 (below_size (by repeat (first | (with_reducible first | exact HB.out | apply below_alloc | apply pw_below_drewN | apply below_drew1 | refine below_set ?_ (IsS50.ge HI330.out)) | exact HB.out)))); replace HB := A_ (hb); replace HI330 := A_ (hi); (try clear hb); (try clear ho0)))
 go_ret
 exact ⟨_, mc76, by (with_reducible repeat (first | apply Kd.R_alloc | apply Kd.R_drewN | apply Kd.R_drew)); exact HO333.out, by repeat (first | (with_reducible first | exact HB.out | apply below_alloc | apply pw_below_drewN | apply below_drew1 | refine below_set ?_ (IsS50.ge HI330.out)) | exact HB.out)⟩

/-! ### spec_DrawArchiveText: function 13 -/
def spec_DrawArchiveText.f (k : Nat) (l0 : List Int) : Option ((List (S26))) := (spec_DrawIsValidArchive.f k l0).bind fun t336 => (some t336)
set_option maxHeartbeats 8000000 in
set_option maxRecDepth 100000 in
theorem spec_DrawArchiveText.calls (k : Nat) (A0 : Option Addr) (c0 : Nat) (l0 : List Int) (r : List (S26)) (w : World) (hr0 : Kd.C (Kd.int .u8) w A0 l0.length l0) (hc0 : l0.length ≤ c0) (h : spec_DrawArchiveText.f k l0 = some r) :
  Calls Tryz.prog 13 #[.slice A0 l0.length c0] w fun e w' => ∃ v0_ : Value, e = .returned (v0_) ∧ Kd.R k26 26 w' w.heap.size (fun _ => True) v0_ r ∧ Below w.heap.size w w' := by
 have HR0 := A_ hr0
 have HC0 := A_ hc0
 clear hr0 hc0
 have HB := A_ (Below.refl w.heap.size w)
 have H : ((spec_DrawIsValidArchive.f k l0).bind fun t336 => (some t336)) = some r := h
 clear h
 obtain ⟨t336, A20, H⟩ := oB_ H
 have A2 := A_ A20
 clear A20
 obtain rfl := Option.some.inj H
 go_enter Tryz.func13, Tryz.ntmps13
 go_wp2_with (first | ((with_reducible refine gc_ 34 rfl ?_); refine goesL_ (some 4) rfl rfl Tryz.func34 kr_ rfl #[.slice A0 l0.length c0] rfl mc47 ?_; (with_reducible refine (spec_DrawIsValidArchive.calls k _ _ l0 t336 _ ?side1 ?side2 A2.out).mono ?_); (case side1 => exact mc43); (case side2 => exact HC0.out); rintro e w3 ⟨v337, rfl, ho0, hb⟩; refine ⟨_, rfl, ?_⟩; have HO338 := A_ (Kd.R_lower ho0 (below_size mc53)); replace HB := A_ (below_step mc53 hb); (try clear hb); (try clear ho0)))
 go_ret
 exact ⟨_, mc76, by (with_reducible repeat (first | apply Kd.R_alloc | apply Kd.R_drewN | apply Kd.R_drew)); exact HO338.out, mc53⟩

end Go.Proofs.YtgmmanppmjlclaaGreatDoor.P
