-- Made by pp.py of this session out of the kit's print and of contracts proved by hand; Lean checks it.
import Derived.Test.YtdhdifoenladpaaPx0
import Derived.Test.YtdhdifoenladpaaPx10
import Derived.Test.YtdhdifoenladpaaPx13
import Derived.Test.YtdhdifoenladpaaPx16
import Derived.Test.YtdhdifoenladpaaPx18
import Derived.Test.YtdhdifoenladpaaPx20
import Derived.Test.YtdhdifoenladpaaPx22
import Derived.Test.YtdhdifoenladpaaPx24
import Derived.Test.YtdhdifoenladpaaPx29
import Derived.Test.YtdhdifoenladpaaPx30
import Derived.Test.YtdhdifoenladpaaPx32
import Derived.Test.YtdhdifoenladpaaPx37
import Derived.Test.YtdhdifoenladpaaPx39
namespace Go.Proofs.Ytdhdifoenladpaa.P
open Go.RowKit Go.Proofs.YtdhdifoenladpaaW.PrintWords Go.Proofs.YtdhdifoenladpaaW.PrintLast Go.Proofs.YtdhdifoenladpaaW.PrintMore
attribute [local go_sem] max2_int min2_int max_two min_two max_three min_three max_four min_four   -- for this text's walks alone
set_option linter.unusedVariables false
set_option linter.unusedSimpArgs false

/-! ### laws_FnSeries: function 14 -/
mutual
def laws_FnSeries.j0 : Nat → List Int → List Int → Int → Int → Bool → Int → Int → Bool → Option (Bool)
  | 0, _, _, _, _, _, _, _, _ => none
  | k + 1, x0, x3, x4, x5, x6, x7, x8, x85 => if x85 = true then (some false) else ((spec_LowestDay.f k x3).bind fun bt653 => (if x7 = bt653.1 then (laws_FnSeries.j1 k x0 x3 x4 x5 x6 x7 (x8 != bt653.2.1)) else (laws_FnSeries.j1 k x0 x3 x4 x5 x6 x7 true)))
def laws_FnSeries.j1 : Nat → List Int → List Int → Int → Int → Bool → Int → Bool → Option (Bool)
  | 0, _, _, _, _, _, _, _ => none
  | k + 1, x0, x3, x4, x5, x6, x7, x99 => if x99 = true then (some false) else (if x6 = true then ((impl_RankOfDay.f k x3 x5).bind fun bt656 => ((impl_RecordDays.f x3).bind fun bt659 => (laws_FnSeries.l0 k x0 x3 x4 x5 x7 bt656.1 bt656.2.1 bt656.2.2 bt659.1 bt659.2 0 0))) else (laws_FnSeries.j3 k x0))
def laws_FnSeries.j3 : Nat → List Int → Option (Bool)
  | 0, _ => none
  | k + 1, x0 => (spec_DrawSeriesMean.f k x0).bind fun bt671 => ((impl_SeriesMean.f k bt671.1 bt671.2.1 bt671.2.2).bind fun bt676 => ((spec_SeriesMean.f k bt671.1 bt671.2.1 bt671.2.2).bind fun bt679 => (if bt676.1 = bt679.1 then (if bt676.2.1 = bt679.2.1 then (laws_FnSeries.j4 k x0 (bt676.2.2 != bt679.2.2)) else (laws_FnSeries.j4 k x0 true)) else (laws_FnSeries.j4 k x0 true))))
def laws_FnSeries.j4 : Nat → List Int → Bool → Option (Bool)
  | 0, _, _ => none
  | k + 1, x0, x236 => if x236 = true then (some false) else ((spec_DrawRankOfDay.f k x0).bind fun bt682 => ((impl_RankOfDay.f k bt682.1 bt682.2).bind fun bt686 => ((spec_RankOfDay.f k bt682.1 bt682.2).bind fun bt689 => (if bt686.1 = bt689.1 then (if bt686.2.1 = bt689.2.1 then (if (bt686.2.2 == bt689.2.2) = true then (if bt686.2.2 = true then (some (decide (bt686.1 ≤ bt686.2.1))) else (some true)) else (some false)) else (some false)) else (some false)))))
def laws_FnSeries.l0 : Nat → List Int → List Int → Int → Int → Int → Int → Int → Bool → List Int → Bool → Int → Int → Option (Bool)
  | 0, _, _, _, _, _, _, _, _, _, _, _, _ => none
  | k + 1, x0, x3, x4, x5, x7, x16, x17, x18, x19, x20, x21, x25 => if x25 < (x3.length : Int) then (if 0 ≤ x25 then (if (rd x3 x25) = (-9999) then (laws_FnSeries.l0 k x0 x3 x4 x5 x7 x16 x17 x18 x19 x20 x21 (wrap64 (x25 + 1))) else ((impl_AnomalyOf.f k x3 x25).bind fun bt668 => (if bt668.2.2 = true then (if bt668.2.1 = 0 then (none) else (if (Int.tmod x17 bt668.2.1) = 0 then (laws_FnSeries.l0 k x0 x3 x4 x5 x7 x16 x17 x18 x19 x20 (wrap64 (x21 + (wrap64 (bt668.1 * (wrap64 (Int.tdiv x17 bt668.2.1)))))) (wrap64 (x25 + 1))) else (some false))) else (some false)))) else (none)) else ((impl_SeriesMean.f k x3 0 (wrap64 ((x3.length : Int) - 1))).bind fun bt663 => (if x18 = true then (if x20 = true then (if bt663.2.2 = true then (if x16 = 1 then (if x21 = 0 then (if (x19.length : Int) = 0 then (some false) else (if 0 ≤ (wrap64 ((x19.length : Int) - 1)) then (if (wrap64 ((x19.length : Int) - 1)) < (x19.length : Int) then (if (rd x19 (wrap64 ((x19.length : Int) - 1))) = x5 then (if bt663.1 > (wrap64 (x4 * bt663.2.1)) then (some false) else (if bt663.1 < (wrap64 (x7 * bt663.2.1)) then (some false) else (laws_FnSeries.j3 k x0))) else (some false)) else (none)) else (none))) else (some false)) else (some false)) else (some false)) else (some false)) else (some false)))
end
def laws_FnSeries.f (k : Nat) (l0 : List Int) : Option (Bool) := (laws_rBig.f l0).bind fun t640 => (if t640 = true then (some true) else ((spec_DrawHighestDay.f k l0).bind fun t641 => ((impl_HighestDay.f k t641).bind fun bt644 => ((impl_LowestDay.f k t641).bind fun bt647 => ((spec_HighestDay.f k t641).bind fun bt650 => (if bt644.1 = bt650.1 then (if bt644.2.1 = bt650.2.1 then (if (bt644.2.2 != bt650.2.2) = true then (laws_FnSeries.j0 k l0 t641 bt644.1 bt644.2.1 bt644.2.2 bt647.1 bt647.2.1 true) else (laws_FnSeries.j0 k l0 t641 bt644.1 bt644.2.1 bt644.2.2 bt647.1 bt647.2.1 (bt647.2.2 != bt644.2.2))) else (laws_FnSeries.j0 k l0 t641 bt644.1 bt644.2.1 bt644.2.2 bt647.1 bt647.2.1 true)) else (laws_FnSeries.j0 k l0 t641 bt644.1 bt644.2.1 bt644.2.2 bt647.1 bt647.2.1 true)))))))
theorem laws_FnSeries.mono_l : ∀ k, (∀ y0 y1 y2 y3 y4 y5 y6 y7, LeO (laws_FnSeries.j0 k y0 y1 y2 y3 y4 y5 y6 y7) (laws_FnSeries.j0 (k + 1) y0 y1 y2 y3 y4 y5 y6 y7)) ∧ (∀ y0 y1 y2 y3 y4 y5 y6, LeO (laws_FnSeries.j1 k y0 y1 y2 y3 y4 y5 y6) (laws_FnSeries.j1 (k + 1) y0 y1 y2 y3 y4 y5 y6)) ∧ (∀ y0, LeO (laws_FnSeries.j3 k y0) (laws_FnSeries.j3 (k + 1) y0)) ∧ (∀ y0 y1, LeO (laws_FnSeries.j4 k y0 y1) (laws_FnSeries.j4 (k + 1) y0 y1)) ∧ (∀ y0 y1 y2 y3 y4 y5 y6 y7 y8 y9 y10 y11, LeO (laws_FnSeries.l0 k y0 y1 y2 y3 y4 y5 y6 y7 y8 y9 y10 y11) (laws_FnSeries.l0 (k + 1) y0 y1 y2 y3 y4 y5 y6 y7 y8 y9 y10 y11))
  | 0 => ⟨fun _ _ _ _ _ _ _ _ r h => by simp [laws_FnSeries.j0] at h, fun _ _ _ _ _ _ _ r h => by simp [laws_FnSeries.j1] at h, fun _ r h => by simp [laws_FnSeries.j3] at h, fun _ _ r h => by simp [laws_FnSeries.j4] at h, fun _ _ _ _ _ _ _ _ _ _ _ _ r h => by simp [laws_FnSeries.l0] at h⟩
  | k + 1 => by
    obtain ⟨ih0, ih1, ih2, ih3, ih4⟩ := laws_FnSeries.mono_l k
    refine ⟨?_, ?_, ?_, ?_, ?_⟩
    · intro y0 y1 y2 y3 y4 y5 y6 y7
      unfold laws_FnSeries.j0
      repeat' first
      | (with_reducible exact ih0 _ _ _ _ _ _ _ _)
      | (with_reducible exact ih1 _ _ _ _ _ _ _)
      | (with_reducible exact ih2 _)
      | (with_reducible exact ih3 _ _)
      | (with_reducible exact ih4 _ _ _ _ _ _ _ _ _ _ _ _)
      | (with_reducible exact impl_AnomalyOf.mono _ _ _)
      | (with_reducible exact impl_HighestDay.mono _ _)
      | (with_reducible exact impl_LowestDay.mono _ _)
      | (with_reducible exact impl_RankOfDay.mono _ _ _)
      | (with_reducible exact impl_SeriesMean.mono _ _ _ _)
      | (with_reducible exact spec_DrawHighestDay.mono _ _)
      | (with_reducible exact spec_DrawRankOfDay.mono _ _)
      | (with_reducible exact spec_DrawSeriesMean.mono _ _)
      | (with_reducible exact spec_HighestDay.mono _ _)
      | (with_reducible exact spec_LowestDay.mono _ _)
      | (with_reducible exact spec_RankOfDay.mono _ _ _)
      | (with_reducible exact spec_SeriesMean.mono _ _ _ _)
      | (with_reducible exact LeO.refl _)
      | (with_reducible exact LeO.none _)
      | (with_reducible refine LeO.ite ?_ ?_)
      | (with_reducible refine LeO.bind ?_ (fun _ => ?_))
      | exact ih0 _ _ _ _ _ _ _ _
      | exact ih1 _ _ _ _ _ _ _
      | exact ih2 _
      | exact ih3 _ _
      | exact ih4 _ _ _ _ _ _ _ _ _ _ _ _
      | exact impl_AnomalyOf.mono _ _ _
      | exact impl_HighestDay.mono _ _
      | exact impl_LowestDay.mono _ _
      | exact impl_RankOfDay.mono _ _ _
      | exact impl_SeriesMean.mono _ _ _ _
      | exact spec_DrawHighestDay.mono _ _
      | exact spec_DrawRankOfDay.mono _ _
      | exact spec_DrawSeriesMean.mono _ _
      | exact spec_HighestDay.mono _ _
      | exact spec_LowestDay.mono _ _
      | exact spec_RankOfDay.mono _ _ _
      | exact spec_SeriesMean.mono _ _ _ _
      | exact LeO.none _
      | refine LeO.ite ?_ ?_
      | refine LeO.bind ?_ (fun _ => ?_)
    · intro y0 y1 y2 y3 y4 y5 y6
      unfold laws_FnSeries.j1
      repeat' first
      | (with_reducible exact ih0 _ _ _ _ _ _ _ _)
      | (with_reducible exact ih1 _ _ _ _ _ _ _)
      | (with_reducible exact ih2 _)
      | (with_reducible exact ih3 _ _)
      | (with_reducible exact ih4 _ _ _ _ _ _ _ _ _ _ _ _)
      | (with_reducible exact impl_AnomalyOf.mono _ _ _)
      | (with_reducible exact impl_HighestDay.mono _ _)
      | (with_reducible exact impl_LowestDay.mono _ _)
      | (with_reducible exact impl_RankOfDay.mono _ _ _)
      | (with_reducible exact impl_SeriesMean.mono _ _ _ _)
      | (with_reducible exact spec_DrawHighestDay.mono _ _)
      | (with_reducible exact spec_DrawRankOfDay.mono _ _)
      | (with_reducible exact spec_DrawSeriesMean.mono _ _)
      | (with_reducible exact spec_HighestDay.mono _ _)
      | (with_reducible exact spec_LowestDay.mono _ _)
      | (with_reducible exact spec_RankOfDay.mono _ _ _)
      | (with_reducible exact spec_SeriesMean.mono _ _ _ _)
      | (with_reducible exact LeO.refl _)
      | (with_reducible exact LeO.none _)
      | (with_reducible refine LeO.ite ?_ ?_)
      | (with_reducible refine LeO.bind ?_ (fun _ => ?_))
      | exact ih0 _ _ _ _ _ _ _ _
      | exact ih1 _ _ _ _ _ _ _
      | exact ih2 _
      | exact ih3 _ _
      | exact ih4 _ _ _ _ _ _ _ _ _ _ _ _
      | exact impl_AnomalyOf.mono _ _ _
      | exact impl_HighestDay.mono _ _
      | exact impl_LowestDay.mono _ _
      | exact impl_RankOfDay.mono _ _ _
      | exact impl_SeriesMean.mono _ _ _ _
      | exact spec_DrawHighestDay.mono _ _
      | exact spec_DrawRankOfDay.mono _ _
      | exact spec_DrawSeriesMean.mono _ _
      | exact spec_HighestDay.mono _ _
      | exact spec_LowestDay.mono _ _
      | exact spec_RankOfDay.mono _ _ _
      | exact spec_SeriesMean.mono _ _ _ _
      | exact LeO.none _
      | refine LeO.ite ?_ ?_
      | refine LeO.bind ?_ (fun _ => ?_)
    · intro y0
      unfold laws_FnSeries.j3
      repeat' first
      | (with_reducible exact ih0 _ _ _ _ _ _ _ _)
      | (with_reducible exact ih1 _ _ _ _ _ _ _)
      | (with_reducible exact ih2 _)
      | (with_reducible exact ih3 _ _)
      | (with_reducible exact ih4 _ _ _ _ _ _ _ _ _ _ _ _)
      | (with_reducible exact impl_AnomalyOf.mono _ _ _)
      | (with_reducible exact impl_HighestDay.mono _ _)
      | (with_reducible exact impl_LowestDay.mono _ _)
      | (with_reducible exact impl_RankOfDay.mono _ _ _)
      | (with_reducible exact impl_SeriesMean.mono _ _ _ _)
      | (with_reducible exact spec_DrawHighestDay.mono _ _)
      | (with_reducible exact spec_DrawRankOfDay.mono _ _)
      | (with_reducible exact spec_DrawSeriesMean.mono _ _)
      | (with_reducible exact spec_HighestDay.mono _ _)
      | (with_reducible exact spec_LowestDay.mono _ _)
      | (with_reducible exact spec_RankOfDay.mono _ _ _)
      | (with_reducible exact spec_SeriesMean.mono _ _ _ _)
      | (with_reducible exact LeO.refl _)
      | (with_reducible exact LeO.none _)
      | (with_reducible refine LeO.ite ?_ ?_)
      | (with_reducible refine LeO.bind ?_ (fun _ => ?_))
      | exact ih0 _ _ _ _ _ _ _ _
      | exact ih1 _ _ _ _ _ _ _
      | exact ih2 _
      | exact ih3 _ _
      | exact ih4 _ _ _ _ _ _ _ _ _ _ _ _
      | exact impl_AnomalyOf.mono _ _ _
      | exact impl_HighestDay.mono _ _
      | exact impl_LowestDay.mono _ _
      | exact impl_RankOfDay.mono _ _ _
      | exact impl_SeriesMean.mono _ _ _ _
      | exact spec_DrawHighestDay.mono _ _
      | exact spec_DrawRankOfDay.mono _ _
      | exact spec_DrawSeriesMean.mono _ _
      | exact spec_HighestDay.mono _ _
      | exact spec_LowestDay.mono _ _
      | exact spec_RankOfDay.mono _ _ _
      | exact spec_SeriesMean.mono _ _ _ _
      | exact LeO.none _
      | refine LeO.ite ?_ ?_
      | refine LeO.bind ?_ (fun _ => ?_)
    · intro y0 y1
      unfold laws_FnSeries.j4
      repeat' first
      | (with_reducible exact ih0 _ _ _ _ _ _ _ _)
      | (with_reducible exact ih1 _ _ _ _ _ _ _)
      | (with_reducible exact ih2 _)
      | (with_reducible exact ih3 _ _)
      | (with_reducible exact ih4 _ _ _ _ _ _ _ _ _ _ _ _)
      | (with_reducible exact impl_AnomalyOf.mono _ _ _)
      | (with_reducible exact impl_HighestDay.mono _ _)
      | (with_reducible exact impl_LowestDay.mono _ _)
      | (with_reducible exact impl_RankOfDay.mono _ _ _)
      | (with_reducible exact impl_SeriesMean.mono _ _ _ _)
      | (with_reducible exact spec_DrawHighestDay.mono _ _)
      | (with_reducible exact spec_DrawRankOfDay.mono _ _)
      | (with_reducible exact spec_DrawSeriesMean.mono _ _)
      | (with_reducible exact spec_HighestDay.mono _ _)
      | (with_reducible exact spec_LowestDay.mono _ _)
      | (with_reducible exact spec_RankOfDay.mono _ _ _)
      | (with_reducible exact spec_SeriesMean.mono _ _ _ _)
      | (with_reducible exact LeO.refl _)
      | (with_reducible exact LeO.none _)
      | (with_reducible refine LeO.ite ?_ ?_)
      | (with_reducible refine LeO.bind ?_ (fun _ => ?_))
      | exact ih0 _ _ _ _ _ _ _ _
      | exact ih1 _ _ _ _ _ _ _
      | exact ih2 _
      | exact ih3 _ _
      | exact ih4 _ _ _ _ _ _ _ _ _ _ _ _
      | exact impl_AnomalyOf.mono _ _ _
      | exact impl_HighestDay.mono _ _
      | exact impl_LowestDay.mono _ _
      | exact impl_RankOfDay.mono _ _ _
      | exact impl_SeriesMean.mono _ _ _ _
      | exact spec_DrawHighestDay.mono _ _
      | exact spec_DrawRankOfDay.mono _ _
      | exact spec_DrawSeriesMean.mono _ _
      | exact spec_HighestDay.mono _ _
      | exact spec_LowestDay.mono _ _
      | exact spec_RankOfDay.mono _ _ _
      | exact spec_SeriesMean.mono _ _ _ _
      | exact LeO.none _
      | refine LeO.ite ?_ ?_
      | refine LeO.bind ?_ (fun _ => ?_)
    · intro y0 y1 y2 y3 y4 y5 y6 y7 y8 y9 y10 y11
      unfold laws_FnSeries.l0
      repeat' first
      | (with_reducible exact ih0 _ _ _ _ _ _ _ _)
      | (with_reducible exact ih1 _ _ _ _ _ _ _)
      | (with_reducible exact ih2 _)
      | (with_reducible exact ih3 _ _)
      | (with_reducible exact ih4 _ _ _ _ _ _ _ _ _ _ _ _)
      | (with_reducible exact impl_AnomalyOf.mono _ _ _)
      | (with_reducible exact impl_HighestDay.mono _ _)
      | (with_reducible exact impl_LowestDay.mono _ _)
      | (with_reducible exact impl_RankOfDay.mono _ _ _)
      | (with_reducible exact impl_SeriesMean.mono _ _ _ _)
      | (with_reducible exact spec_DrawHighestDay.mono _ _)
      | (with_reducible exact spec_DrawRankOfDay.mono _ _)
      | (with_reducible exact spec_DrawSeriesMean.mono _ _)
      | (with_reducible exact spec_HighestDay.mono _ _)
      | (with_reducible exact spec_LowestDay.mono _ _)
      | (with_reducible exact spec_RankOfDay.mono _ _ _)
      | (with_reducible exact spec_SeriesMean.mono _ _ _ _)
      | (with_reducible exact LeO.refl _)
      | (with_reducible exact LeO.none _)
      | (with_reducible refine LeO.ite ?_ ?_)
      | (with_reducible refine LeO.bind ?_ (fun _ => ?_))
      | exact ih0 _ _ _ _ _ _ _ _
      | exact ih1 _ _ _ _ _ _ _
      | exact ih2 _
      | exact ih3 _ _
      | exact ih4 _ _ _ _ _ _ _ _ _ _ _ _
      | exact impl_AnomalyOf.mono _ _ _
      | exact impl_HighestDay.mono _ _
      | exact impl_LowestDay.mono _ _
      | exact impl_RankOfDay.mono _ _ _
      | exact impl_SeriesMean.mono _ _ _ _
      | exact spec_DrawHighestDay.mono _ _
      | exact spec_DrawRankOfDay.mono _ _
      | exact spec_DrawSeriesMean.mono _ _
      | exact spec_HighestDay.mono _ _
      | exact spec_LowestDay.mono _ _
      | exact spec_RankOfDay.mono _ _ _
      | exact spec_SeriesMean.mono _ _ _ _
      | exact LeO.none _
      | refine LeO.ite ?_ ?_
      | refine LeO.bind ?_ (fun _ => ?_)
theorem laws_FnSeries.mono : ∀ a0 k, LeO (laws_FnSeries.f k a0) (laws_FnSeries.f (k + 1) a0) := by
  intro a0 k
  obtain ⟨ih0, ih1, ih2, ih3, ih4⟩ := laws_FnSeries.mono_l k
  unfold laws_FnSeries.f
  repeat' first
      | (with_reducible exact ih0 _ _ _ _ _ _ _ _)
      | (with_reducible exact ih1 _ _ _ _ _ _ _)
      | (with_reducible exact ih2 _)
      | (with_reducible exact ih3 _ _)
      | (with_reducible exact ih4 _ _ _ _ _ _ _ _ _ _ _ _)
      | (with_reducible exact impl_AnomalyOf.mono _ _ _)
      | (with_reducible exact impl_HighestDay.mono _ _)
      | (with_reducible exact impl_LowestDay.mono _ _)
      | (with_reducible exact impl_RankOfDay.mono _ _ _)
      | (with_reducible exact impl_SeriesMean.mono _ _ _ _)
      | (with_reducible exact spec_DrawHighestDay.mono _ _)
      | (with_reducible exact spec_DrawRankOfDay.mono _ _)
      | (with_reducible exact spec_DrawSeriesMean.mono _ _)
      | (with_reducible exact spec_HighestDay.mono _ _)
      | (with_reducible exact spec_LowestDay.mono _ _)
      | (with_reducible exact spec_RankOfDay.mono _ _ _)
      | (with_reducible exact spec_SeriesMean.mono _ _ _ _)
      | (with_reducible exact LeO.refl _)
      | (with_reducible exact LeO.none _)
      | (with_reducible refine LeO.ite ?_ ?_)
      | (with_reducible refine LeO.bind ?_ (fun _ => ?_))
      | exact ih0 _ _ _ _ _ _ _ _
      | exact ih1 _ _ _ _ _ _ _
      | exact ih2 _
      | exact ih3 _ _
      | exact ih4 _ _ _ _ _ _ _ _ _ _ _ _
      | exact impl_AnomalyOf.mono _ _ _
      | exact impl_HighestDay.mono _ _
      | exact impl_LowestDay.mono _ _
      | exact impl_RankOfDay.mono _ _ _
      | exact impl_SeriesMean.mono _ _ _ _
      | exact spec_DrawHighestDay.mono _ _
      | exact spec_DrawRankOfDay.mono _ _
      | exact spec_DrawSeriesMean.mono _ _
      | exact spec_HighestDay.mono _ _
      | exact spec_LowestDay.mono _ _
      | exact spec_RankOfDay.mono _ _ _
      | exact spec_SeriesMean.mono _ _ _ _
      | exact LeO.none _
      | refine LeO.ite ?_ ?_
      | refine LeO.bind ?_ (fun _ => ?_)
set_option maxHeartbeats 8000000 in
set_option maxRecDepth 100000 in
theorem laws_FnSeries.calls (k : Nat) (A0 : Option Addr) (c0 : Nat) (l0 : List Int) (r : Bool) (w : World) (hr0 : Kd.C (Kd.int .u8) w A0 l0.length l0) (hc0 : l0.length ≤ c0) (h : laws_FnSeries.f k l0 = some r) :
    Calls Try.prog 14 #[.slice A0 l0.length c0] w fun e w' => e = .returned (.bool r) ∧ Below w.heap.size w w' := by
  have HR0 := Aside0.mk hr0
  have HC0 := Aside0.mk hc0
  clear hr0 hc0
  have HB := Aside0.mk (Below.refl w.heap.size w)
  have H : ((laws_rBig.f l0).bind fun t640 => (if t640 = true then (some true) else ((spec_DrawHighestDay.f k l0).bind fun t641 => ((impl_HighestDay.f k t641).bind fun bt644 => ((impl_LowestDay.f k t641).bind fun bt647 => ((spec_HighestDay.f k t641).bind fun bt650 => (if bt644.1 = bt650.1 then (if bt644.2.1 = bt650.2.1 then (if (bt644.2.2 != bt650.2.2) = true then (laws_FnSeries.j0 k l0 t641 bt644.1 bt644.2.1 bt644.2.2 bt647.1 bt647.2.1 true) else (laws_FnSeries.j0 k l0 t641 bt644.1 bt644.2.1 bt644.2.2 bt647.1 bt647.2.1 (bt647.2.2 != bt644.2.2))) else (laws_FnSeries.j0 k l0 t641 bt644.1 bt644.2.1 bt644.2.2 bt647.1 bt647.2.1 true)) else (laws_FnSeries.j0 k l0 t641 bt644.1 bt644.2.1 bt644.2.2 bt647.1 bt647.2.1 true)))))))) = some r := h
  clear h
  replace H := Option.bind_eq_some_iff.mp H
  obtain ⟨t640, A20, H⟩ := H
  replace H : (if t640 = true then (some true) else ((spec_DrawHighestDay.f k l0).bind fun t641 => ((impl_HighestDay.f k t641).bind fun bt644 => ((impl_LowestDay.f k t641).bind fun bt647 => ((spec_HighestDay.f k t641).bind fun bt650 => (if bt644.1 = bt650.1 then (if bt644.2.1 = bt650.2.1 then (if (bt644.2.2 != bt650.2.2) = true then (laws_FnSeries.j0 k l0 t641 bt644.1 bt644.2.1 bt644.2.2 bt647.1 bt647.2.1 true) else (laws_FnSeries.j0 k l0 t641 bt644.1 bt644.2.1 bt644.2.2 bt647.1 bt647.2.1 (bt647.2.2 != bt644.2.2))) else (laws_FnSeries.j0 k l0 t641 bt644.1 bt644.2.1 bt644.2.2 bt647.1 bt647.2.1 true)) else (laws_FnSeries.j0 k l0 t641 bt644.1 bt644.2.1 bt644.2.2 bt647.1 bt647.2.1 true))))))) = some r := H
  have A2 := Aside0.mk A20
  clear A20
  by_cases c3 : t640 = true
  · subst c3
    have H1 : (some true) = some r := by rw [if_pos rfl] at H; exact H
    clear H
    have H := H1
    clear H1
    obtain rfl := Option.some.inj H
    go_enter Try.func14, Try.ntmps14
    go_wp2_with (first | ((with_reducible refine gate_callee (f := 39) rfl ?_); refine goesL_ (some 47) rfl rfl Try.func39 (by kernel_rfl) rfl #[.slice A0 l0.length c0] rfl (by (try simp only [List.map_toArray, List.map_cons, List.map_nil]); first | done | rfl | (simp only [List.length_drop, List.length_take]; rfl)) ?_; (with_reducible refine (laws_rBig.calls _ _ l0 true _ ?side1 ?side2 A2.out).mono ?_); (case side1 => repeat (first | exact HR0.out | (with_reducible refine Kd.C_alloc ?_ _) | (with_reducible refine Kd.C_drewN ?_ _) | (with_reducible refine Kd.C_drew ?_))); (case side2 => exact HC0.out); rintro e w' ⟨rfl, ⟨nd, rfl⟩⟩; refine ⟨_, rfl, ?_⟩))
    go_ret
    exact ⟨by first | rfl | (simp [errW_none, errW_some] <;> rfl) | (simp [*, errW_none, errW_some] <;> rfl), by repeat (first | (with_reducible first | exact HB.out | apply below_alloc | apply pw_below_drewN | apply below_drew1) | exact HB.out)⟩
  · replace c3 := Bool.eq_false_iff.mpr c3
    subst c3
    have H1 : ((spec_DrawHighestDay.f k l0).bind fun t641 => ((impl_HighestDay.f k t641).bind fun bt644 => ((impl_LowestDay.f k t641).bind fun bt647 => ((spec_HighestDay.f k t641).bind fun bt650 => (if bt644.1 = bt650.1 then (if bt644.2.1 = bt650.2.1 then (if (bt644.2.2 != bt650.2.2) = true then (laws_FnSeries.j0 k l0 t641 bt644.1 bt644.2.1 bt644.2.2 bt647.1 bt647.2.1 true) else (laws_FnSeries.j0 k l0 t641 bt644.1 bt644.2.1 bt644.2.2 bt647.1 bt647.2.1 (bt647.2.2 != bt644.2.2))) else (laws_FnSeries.j0 k l0 t641 bt644.1 bt644.2.1 bt644.2.2 bt647.1 bt647.2.1 true)) else (laws_FnSeries.j0 k l0 t641 bt644.1 bt644.2.1 bt644.2.2 bt647.1 bt647.2.1 true)))))) = some r := by rw [if_neg (show ¬ (false = true) by decide)] at H; exact H
    clear H
    have H := H1
    clear H1
    replace H := Option.bind_eq_some_iff.mp H
    obtain ⟨t641, A40, H⟩ := H
    replace H : ((impl_HighestDay.f k t641).bind fun bt644 => ((impl_LowestDay.f k t641).bind fun bt647 => ((spec_HighestDay.f k t641).bind fun bt650 => (if bt644.1 = bt650.1 then (if bt644.2.1 = bt650.2.1 then (if (bt644.2.2 != bt650.2.2) = true then (laws_FnSeries.j0 k l0 t641 bt644.1 bt644.2.1 bt644.2.2 bt647.1 bt647.2.1 true) else (laws_FnSeries.j0 k l0 t641 bt644.1 bt644.2.1 bt644.2.2 bt647.1 bt647.2.1 (bt647.2.2 != bt644.2.2))) else (laws_FnSeries.j0 k l0 t641 bt644.1 bt644.2.1 bt644.2.2 bt647.1 bt647.2.1 true)) else (laws_FnSeries.j0 k l0 t641 bt644.1 bt644.2.1 bt644.2.2 bt647.1 bt647.2.1 true))))) = some r := H
    have A4 := Aside0.mk A40
    clear A40
    replace H := Option.bind_eq_some_iff.mp H
    obtain ⟨⟨t644, t645, t646⟩, A50, H⟩ := H
    replace H : ((impl_LowestDay.f k t641).bind fun bt647 => ((spec_HighestDay.f k t641).bind fun bt650 => (if t644 = bt650.1 then (if t645 = bt650.2.1 then (if (t646 != bt650.2.2) = true then (laws_FnSeries.j0 k l0 t641 t644 t645 t646 bt647.1 bt647.2.1 true) else (laws_FnSeries.j0 k l0 t641 t644 t645 t646 bt647.1 bt647.2.1 (bt647.2.2 != t646))) else (laws_FnSeries.j0 k l0 t641 t644 t645 t646 bt647.1 bt647.2.1 true)) else (laws_FnSeries.j0 k l0 t641 t644 t645 t646 bt647.1 bt647.2.1 true)))) = some r := H
    have A5 := Aside0.mk A50
    clear A50
    replace H := Option.bind_eq_some_iff.mp H
    obtain ⟨⟨t647, t648, t649⟩, A60, H⟩ := H
    replace H : ((spec_HighestDay.f k t641).bind fun bt650 => (if t644 = bt650.1 then (if t645 = bt650.2.1 then (if (t646 != bt650.2.2) = true then (laws_FnSeries.j0 k l0 t641 t644 t645 t646 t647 t648 true) else (laws_FnSeries.j0 k l0 t641 t644 t645 t646 t647 t648 (t649 != t646))) else (laws_FnSeries.j0 k l0 t641 t644 t645 t646 t647 t648 true)) else (laws_FnSeries.j0 k l0 t641 t644 t645 t646 t647 t648 true))) = some r := H
    have A6 := Aside0.mk A60
    clear A60
    replace H := Option.bind_eq_some_iff.mp H
    obtain ⟨⟨t650, t651, t652⟩, A70, H⟩ := H
    replace H : (if t644 = t650 then (if t645 = t651 then (if (t646 != t652) = true then (laws_FnSeries.j0 k l0 t641 t644 t645 t646 t647 t648 true) else (laws_FnSeries.j0 k l0 t641 t644 t645 t646 t647 t648 (t649 != t646))) else (laws_FnSeries.j0 k l0 t641 t644 t645 t646 t647 t648 true)) else (laws_FnSeries.j0 k l0 t641 t644 t645 t646 t647 t648 true)) = some r := H
    have A7 := Aside0.mk A70
    clear A70
    have HC8 := Aside0.mk H
    clear H
    go_enter Try.func14, Try.ntmps14
    go_upto_region 7 with (first | ((with_reducible refine gate_callee (f := 39) rfl ?_); refine goesL_ (some 47) rfl rfl Try.func39 (by kernel_rfl) rfl #[.slice A0 l0.length c0] rfl (by (try simp only [List.map_toArray, List.map_cons, List.map_nil]); first | done | rfl | (simp only [List.length_drop, List.length_take]; rfl)) ?_; (with_reducible refine (laws_rBig.calls _ _ l0 false _ ?side1 ?side2 A2.out).mono ?_); (case side1 => repeat (first | exact HR0.out | (with_reducible refine Kd.C_alloc ?_ _) | (with_reducible refine Kd.C_drewN ?_ _) | (with_reducible refine Kd.C_drew ?_))); (case side2 => exact HC0.out); rintro e w' ⟨rfl, ⟨nd, rfl⟩⟩; refine ⟨_, rfl, ?_⟩) | ((with_reducible refine gate_callee (f := 45) rfl ?_); refine goesL_ (some 49) rfl rfl Try.func45 (by kernel_rfl) rfl #[.slice A0 l0.length c0] rfl (by (try simp only [List.map_toArray, List.map_cons, List.map_nil]); first | done | rfl | (simp only [List.length_drop, List.length_take]; rfl)) ?_; (with_reducible refine (spec_DrawHighestDay.calls k _ _ l0 t641 _ ?side1 ?side2 A4.out).mono ?_); (case side1 => repeat (first | exact HR0.out | (with_reducible refine Kd.C_alloc ?_ _) | (with_reducible refine Kd.C_drewN ?_ _) | (with_reducible refine Kd.C_drew ?_))); (case side2 => exact HC0.out); rintro e w9 ⟨v642, rfl, ho0, hb⟩; refine ⟨_, rfl, ?_⟩; have n0_ := Aside0.mk (Kd.R_lower ho0 (below_size (by repeat (first | (with_reducible first | exact HB.out | apply below_alloc | apply pw_below_drewN | apply below_drew1) | exact HB.out)))); have n1_ := Aside0.mk (below_step (by repeat (first | (with_reducible first | exact HB.out | apply below_alloc | apply pw_below_drewN | apply below_drew1) | exact HB.out)) hb); clear HB; have HO643 := n0_; have HB := n1_; clear n0_ n1_; (try clear hb); (try clear hb2); (try clear hk); (try clear hi); (try clear ho0); obtain ⟨Ao10, co10, eo10⟩ := Kd.R_slice HO643.out; subst eo10) | ((with_reducible refine gate_callee (f := 28) rfl ?_); refine goesL_ (some 52) rfl rfl Try.func28 (by kernel_rfl) rfl #[.slice Ao10 t641.length co10] rfl (by (try simp only [List.map_toArray, List.map_cons, List.map_nil]); first | done | rfl | (simp only [List.length_drop, List.length_take]; rfl)) ?_; (with_reducible refine (impl_HighestDay.calls k _ _ t641 t644 t645 t646 _ ?side1 ?side2 A5.out).mono ?_); (case side1 => repeat (first | exact (Kd.R_reads' HO643.out).2.2 | (with_reducible refine Kd.C_alloc ?_ _) | (with_reducible refine Kd.C_drewN ?_ _) | (with_reducible refine Kd.C_drew ?_))); (case side2 => exact (Kd.R_reads' HO643.out).2.1); rintro e w11 ⟨rfl, hb⟩; refine ⟨_, rfl, ?_⟩; have n0_ := Aside0.mk (Kd.R_below (by (with_reducible repeat (first | apply Kd.R_alloc | apply Kd.R_drewN | apply Kd.R_drew)); exact HO643.out) hb); have n1_ := Aside0.mk (below_step (by repeat (first | (with_reducible first | exact HB.out | apply below_alloc | apply pw_below_drewN | apply below_drew1) | exact HB.out)) hb); clear HO643; clear HB; have HO643 := n0_; have HB := n1_; clear n0_ n1_; (try clear hb); (try clear hb2); (try clear hk); (try clear hi)) | ((with_reducible refine gate_callee (f := 30) rfl ?_); refine goesL_ (some 58) rfl rfl Try.func30 (by kernel_rfl) rfl #[.slice Ao10 t641.length co10] rfl (by (try simp only [List.map_toArray, List.map_cons, List.map_nil]); first | done | rfl | (simp only [List.length_drop, List.length_take]; rfl)) ?_; (with_reducible refine (impl_LowestDay.calls k _ _ t641 t647 t648 t649 _ ?side1 ?side2 A6.out).mono ?_); (case side1 => repeat (first | exact (Kd.R_reads' HO643.out).2.2 | (with_reducible refine Kd.C_alloc ?_ _) | (with_reducible refine Kd.C_drewN ?_ _) | (with_reducible refine Kd.C_drew ?_))); (case side2 => exact (Kd.R_reads' HO643.out).2.1); rintro e w12 ⟨rfl, hb⟩; refine ⟨_, rfl, ?_⟩; have n0_ := Aside0.mk (Kd.R_below (by (with_reducible repeat (first | apply Kd.R_alloc | apply Kd.R_drewN | apply Kd.R_drew)); exact HO643.out) hb); have n1_ := Aside0.mk (below_step (by repeat (first | (with_reducible first | exact HB.out | apply below_alloc | apply pw_below_drewN | apply below_drew1) | exact HB.out)) hb); clear HO643; clear HB; have HO643 := n0_; have HB := n1_; clear n0_ n1_; (try clear hb); (try clear hb2); (try clear hk); (try clear hi)) | ((with_reducible refine gate_callee (f := 27) rfl ?_); refine goesL_ (some 64) rfl rfl Try.func27 (by kernel_rfl) rfl #[.slice Ao10 t641.length co10] rfl (by (try simp only [List.map_toArray, List.map_cons, List.map_nil]); first | done | rfl | (simp only [List.length_drop, List.length_take]; rfl)) ?_; (with_reducible refine (spec_HighestDay.calls k _ _ t641 t650 t651 t652 _ ?side1 ?side2 A7.out).mono ?_); (case side1 => repeat (first | exact (Kd.R_reads' HO643.out).2.2 | (with_reducible refine Kd.C_alloc ?_ _) | (with_reducible refine Kd.C_drewN ?_ _) | (with_reducible refine Kd.C_drew ?_))); (case side2 => exact (Kd.R_reads' HO643.out).2.1); rintro e w' ⟨rfl, ⟨nd, rfl⟩⟩; refine ⟨_, rfl, ?_⟩))
    (try simp only [Act.put, List.setIfInBounds_toArray, List.set_cons_zero, List.set_cons_succ])
    go_cut [85] (fun v85 wc => ∃ (kq : Nat) (x85_7 : Bool), v85 = .bool x85_7 ∧ Aside0 (laws_FnSeries.j0 kq l0 t641 t644 t645 t646 t647 t648 x85_7 = some r) ∧ Aside0 (kq ≤ k) ∧ Aside0 (Kd.R (Kd.int .i64) 3 wc w.heap.size (fun _ => True) (.slice Ao10 t641.length co10) t641) ∧ Aside0 (Below w.heap.size w wc))
    case first =>
      as_aux_lemma =>
        have H := HC8.out
        clear HC8
        by_cases c13 : t644 = t650
        · rw [if_pos c13] at H
          have c13b0 : (t644 == t650) = true := beq_iff_eq.mpr c13
          have c13b1 : (t644 != t650) = false := bne_eq_false_iff_eq.mpr c13
          clear c13
          (first | rw [c13b0] | (simp only [i64_w, i32_w]; rw [c13b0]) | skip)
          by_cases c14 : t645 = t651
          · rw [if_pos c14] at H
            have c14b0 : (t645 == t651) = true := beq_iff_eq.mpr c14
            have c14b1 : (t645 != t651) = false := bne_eq_false_iff_eq.mpr c14
            clear c14
            by_cases c15 : (t646 != t652) = true
            · rw [if_pos c15] at H
              have c15b0 : (t646 != t652) = true := c15
              (try (have c15b1 : decide (t646 = t652) = false := by simpa using c15))
              (try (have c15b2 : (t646 == t652) = false := by simpa using c15))
              (try (have c15b3 : ¬ (t646 = t652) := by simpa using c15))
              clear c15
              have H' := Aside0.mk H
              clear H
              go_wp2
              go_meet
              case rel => exact ⟨_, (true), (by first | rfl | (simp; done) | (simp [*]; done)), H', ⟨by first | omega | exact Nat.le_refl _⟩, ⟨by (with_reducible repeat (first | apply Kd.R_alloc | apply Kd.R_drewN | apply Kd.R_drew)); exact HO643.out⟩, ⟨by repeat (first | (with_reducible first | exact HB.out | apply below_alloc | apply pw_below_drewN | apply below_drew1) | exact HB.out)⟩⟩
            · rw [if_neg c15] at H
              have c15b0 : (t646 != t652) = false := by simpa using c15
              (try (have c15b1 : decide (t646 = t652) = true := by simpa using c15))
              (try (have c15b2 : (t646 == t652) = true := by simpa using c15))
              clear c15
              have H' := Aside0.mk H
              clear H
              go_wp2
              go_meet
              case rel => exact ⟨_, ((t649 != t646)), (by first | rfl | (simp; done) | (simp [*]; done)), H', ⟨by first | omega | exact Nat.le_refl _⟩, ⟨by (with_reducible repeat (first | apply Kd.R_alloc | apply Kd.R_drewN | apply Kd.R_drew)); exact HO643.out⟩, ⟨by repeat (first | (with_reducible first | exact HB.out | apply below_alloc | apply pw_below_drewN | apply below_drew1) | exact HB.out)⟩⟩
          · rw [if_neg c14] at H
            have c14b0 : (t645 == t651) = false := beq_eq_false_iff_ne.mpr c14
            have c14b1 : (t645 != t651) = true := bne_iff_ne.mpr c14
            have H' := Aside0.mk H
            clear H
            go_wp2
            go_meet
            case rel => exact ⟨_, (true), (by first | rfl | (simp; done) | (simp [*]; done)), H', ⟨by first | omega | exact Nat.le_refl _⟩, ⟨by (with_reducible repeat (first | apply Kd.R_alloc | apply Kd.R_drewN | apply Kd.R_drew)); exact HO643.out⟩, ⟨by repeat (first | (with_reducible first | exact HB.out | apply below_alloc | apply pw_below_drewN | apply below_drew1) | exact HB.out)⟩⟩
        · rw [if_neg c13] at H
          have c13b0 : (t644 == t650) = false := beq_eq_false_iff_ne.mpr c13
          have c13b1 : (t644 != t650) = true := bne_iff_ne.mpr c13
          (first | rw [c13b0] | (simp only [i64_w, i32_w]; rw [c13b0]) | skip)
          have H' := Aside0.mk H
          clear H
          go_wp2
          go_meet
          case rel => exact ⟨_, (true), (by first | rfl | (simp; done) | (simp [*]; done)), H', ⟨by first | omega | exact Nat.le_refl _⟩, ⟨by (with_reducible repeat (first | apply Kd.R_alloc | apply Kd.R_drewN | apply Kd.R_drew)); exact HO643.out⟩, ⟨by repeat (first | (with_reducible first | exact HB.out | apply below_alloc | apply pw_below_drewN | apply below_drew1) | exact HB.out)⟩⟩
    case rest =>
      as_aux_lemma =>
        clear HC8
        try clear c1
        try clear c2
        try clear p2
        try clear c3
        try clear c4
        try clear c13
        try clear c13b0
        try clear c13b1
        try clear c14
        try clear c14b0
        try clear c14b1
        try clear c15
        try clear c15b0
        try clear c15b1
        try clear c15b2
        obtain ⟨kq, x85_7, rfl, HA, HJ7, HO_3, HB⟩ := hcut
        cases kq with
        | zero => exact absurd HA.out (by simp [laws_FnSeries.j0])
        | succ kj7 =>
          have H := HA.out
          clear HA
          simp only [laws_FnSeries.j0] at H
          by_cases c16 : x85_7 = true
          · subst c16
            have H1 : (some false) = some r := by rw [if_pos rfl] at H; exact H
            clear H
            have H := H1
            clear H1
            obtain rfl := Option.some.inj H
            go_wp2
            go_ret
            exact ⟨by first | rfl | (simp [errW_none, errW_some] <;> rfl) | (simp [*, errW_none, errW_some] <;> rfl), by repeat (first | (with_reducible first | exact HB.out | apply below_alloc | apply pw_below_drewN | apply below_drew1) | exact HB.out)⟩
          · replace c16 := Bool.eq_false_iff.mpr c16
            subst c16
            have H1 : ((spec_LowestDay.f kj7 t641).bind fun bt653 => (if t647 = bt653.1 then (laws_FnSeries.j1 kj7 l0 t641 t644 t645 t646 t647 (t648 != bt653.2.1)) else (laws_FnSeries.j1 kj7 l0 t641 t644 t645 t646 t647 true))) = some r := by rw [if_neg (show ¬ (false = true) by decide)] at H; exact H
            clear H
            have H := H1
            clear H1
            replace H := Option.bind_eq_some_iff.mp H
            obtain ⟨⟨t653, t654, t655⟩, A170, H⟩ := H
            replace H : (if t647 = t653 then (laws_FnSeries.j1 kj7 l0 t641 t644 t645 t646 t647 (t648 != t654)) else (laws_FnSeries.j1 kj7 l0 t641 t644 t645 t646 t647 true)) = some r := H
            have A17 := Aside0.mk A170
            clear A170
            have HC18 := Aside0.mk H
            clear H
            go_upto_region 10 with (first | ((with_reducible refine gate_callee (f := 29) rfl ?_); refine goesL_ (some 88) rfl rfl Try.func29 (by kernel_rfl) rfl #[.slice Ao10 t641.length co10] rfl (by (try simp only [List.map_toArray, List.map_cons, List.map_nil]); first | done | rfl | (simp only [List.length_drop, List.length_take]; rfl)) ?_; (with_reducible refine (spec_LowestDay.calls kj7 _ _ t641 t653 t654 t655 _ ?side1 ?side2 A17.out).mono ?_); (case side1 => repeat (first | exact (Kd.R_reads' HO_3.out).2.2 | (with_reducible refine Kd.C_alloc ?_ _) | (with_reducible refine Kd.C_drewN ?_ _) | (with_reducible refine Kd.C_drew ?_))); (case side2 => exact (Kd.R_reads' HO_3.out).2.1); rintro e w' ⟨rfl, ⟨nd, rfl⟩⟩; refine ⟨_, rfl, ?_⟩))
            (try simp only [Act.put, List.setIfInBounds_toArray, List.set_cons_zero, List.set_cons_succ])
            go_cut [99] (fun v99 wc => ∃ (kq : Nat) (x99_17 : Bool), v99 = .bool x99_17 ∧ Aside0 (laws_FnSeries.j1 kq l0 t641 t644 t645 t646 t647 x99_17 = some r) ∧ Aside0 (kq ≤ kj7) ∧ Aside0 (Kd.R (Kd.int .i64) 3 wc w.heap.size (fun _ => True) (.slice Ao10 t641.length co10) t641) ∧ Aside0 (Below w.heap.size w wc))
            case first =>
              as_aux_lemma =>
                have H := HC18.out
                clear HC18
                by_cases c19 : t647 = t653
                · rw [if_pos c19] at H
                  have c19b0 : (t647 == t653) = true := beq_iff_eq.mpr c19
                  have c19b1 : (t647 != t653) = false := bne_eq_false_iff_eq.mpr c19
                  clear c19
                  (first | rw [c19b0] | (simp only [i64_w, i32_w]; rw [c19b0]) | skip)
                  have H' := Aside0.mk H
                  clear H
                  go_wp2
                  go_meet
                  case rel => exact ⟨_, ((t648 != t654)), (by first | rfl | (simp; done) | (simp [*]; done)), H', ⟨by have := HJ7.out; first | omega | exact Nat.le_refl _⟩, ⟨by (with_reducible repeat (first | apply Kd.R_alloc | apply Kd.R_drewN | apply Kd.R_drew)); exact HO_3.out⟩, ⟨by repeat (first | (with_reducible first | exact HB.out | apply below_alloc | apply pw_below_drewN | apply below_drew1) | exact HB.out)⟩⟩
                · rw [if_neg c19] at H
                  have c19b0 : (t647 == t653) = false := beq_eq_false_iff_ne.mpr c19
                  have c19b1 : (t647 != t653) = true := bne_iff_ne.mpr c19
                  (first | rw [c19b0] | (simp only [i64_w, i32_w]; rw [c19b0]) | skip)
                  have H' := Aside0.mk H
                  clear H
                  go_wp2
                  go_meet
                  case rel => exact ⟨_, (true), (by first | rfl | (simp; done) | (simp [*]; done)), H', ⟨by have := HJ7.out; first | omega | exact Nat.le_refl _⟩, ⟨by (with_reducible repeat (first | apply Kd.R_alloc | apply Kd.R_drewN | apply Kd.R_drew)); exact HO_3.out⟩, ⟨by repeat (first | (with_reducible first | exact HB.out | apply below_alloc | apply pw_below_drewN | apply below_drew1) | exact HB.out)⟩⟩
            case rest =>
              as_aux_lemma =>
                clear HC18
                try clear c1
                try clear c2
                try clear p2
                try clear c3
                try clear c4
                try clear c13
                try clear c13b0
                try clear c13b1
                try clear c14
                try clear c14b0
                try clear c14b1
                try clear c15
                try clear c15b0
                try clear c15b1
                try clear c15b2
                try clear c16
                try clear c19
                try clear c19b0
                try clear c19b1
                try clear p2
                obtain ⟨kq, x99_17, rfl, HA, HJ17, HO_3, HB⟩ := hcut
                cases kq with
                | zero => exact absurd HA.out (by simp [laws_FnSeries.j1])
                | succ kj17 =>
                  have H := HA.out
                  clear HA
                  simp only [laws_FnSeries.j1] at H
                  by_cases c20 : x99_17 = true
                  · subst c20
                    have H1 : (some false) = some r := by rw [if_pos rfl] at H; exact H
                    clear H
                    have H := H1
                    clear H1
                    obtain rfl := Option.some.inj H
                    go_wp2
                    go_ret
                    exact ⟨by first | rfl | (simp [errW_none, errW_some] <;> rfl) | (simp [*, errW_none, errW_some] <;> rfl), by repeat (first | (with_reducible first | exact HB.out | apply below_alloc | apply pw_below_drewN | apply below_drew1) | exact HB.out)⟩
                  · replace c20 := Bool.eq_false_iff.mpr c20
                    subst c20
                    have H1 : (if t646 = true then ((impl_RankOfDay.f kj17 t641 t645).bind fun bt656 => ((impl_RecordDays.f t641).bind fun bt659 => (laws_FnSeries.l0 kj17 l0 t641 t644 t645 t647 bt656.1 bt656.2.1 bt656.2.2 bt659.1 bt659.2 0 0))) else (laws_FnSeries.j3 kj17 l0)) = some r := by rw [if_neg (show ¬ (false = true) by decide)] at H; exact H
                    clear H
                    have H := H1
                    clear H1
                    have HC21 := Aside0.mk H
                    clear H
                    go_upto_if 100 with (fail)
                    go_cut [] (fun wc => ∃ (kq : Nat), Aside0 (laws_FnSeries.j3 kq l0 = some r) ∧ Aside0 (kq ≤ kj17) ∧ Aside0 (Below w.heap.size w wc))
                    case first =>
                      as_aux_lemma =>
                        have H := HC21.out
                        clear HC21
                        by_cases c22 : t646 = true
                        · subst c22
                          have H1 : ((impl_RankOfDay.f kj17 t641 t645).bind fun bt656 => ((impl_RecordDays.f t641).bind fun bt659 => (laws_FnSeries.l0 kj17 l0 t641 t644 t645 t647 bt656.1 bt656.2.1 bt656.2.2 bt659.1 bt659.2 0 0))) = some r := by rw [if_pos rfl] at H; exact H
                          clear H
                          have H := H1
                          clear H1
                          replace H := Option.bind_eq_some_iff.mp H
                          obtain ⟨⟨t656, t657, t658⟩, A230, H⟩ := H
                          replace H : ((impl_RecordDays.f t641).bind fun bt659 => (laws_FnSeries.l0 kj17 l0 t641 t644 t645 t647 t656 t657 t658 bt659.1 bt659.2 0 0)) = some r := H
                          have A23 := Aside0.mk A230
                          clear A230
                          replace H := Option.bind_eq_some_iff.mp H
                          obtain ⟨⟨t659, t660⟩, A240, H⟩ := H
                          replace H : (laws_FnSeries.l0 kj17 l0 t641 t644 t645 t647 t656 t657 t658 t659 t660 0 0) = some r := H
                          have A24 := Aside0.mk A240
                          clear A240
                          have H' := Aside0.mk H
                          clear H
                          go_wp2_with (first | ((with_reducible refine gate_callee (f := 26) rfl ?_); refine goesL_ (some 104) rfl rfl Try.func26 (by kernel_rfl) rfl #[.slice Ao10 t641.length co10, .int .i64 t645] rfl (by (try simp only [List.map_toArray, List.map_cons, List.map_nil]); first | done | rfl | (simp only [List.length_drop, List.length_take]; rfl)) ?_; (with_reducible refine (impl_RankOfDay.calls kj17 _ _ t641 t645 t656 t657 t658 _ ?side1 ?side2 A23.out).mono ?_); (case side1 => repeat (first | exact (Kd.R_reads' HO_3.out).2.2 | (with_reducible refine Kd.C_alloc ?_ _) | (with_reducible refine Kd.C_drewN ?_ _) | (with_reducible refine Kd.C_drew ?_))); (case side2 => exact (Kd.R_reads' HO_3.out).2.1); rintro e w25 ⟨rfl, hb⟩; refine ⟨_, rfl, ?_⟩; have n0_ := Aside0.mk (Kd.R_below (by (with_reducible repeat (first | apply Kd.R_alloc | apply Kd.R_drewN | apply Kd.R_drew)); exact HO_3.out) hb); have n1_ := Aside0.mk (below_step (by repeat (first | (with_reducible first | exact HB.out | apply below_alloc | apply pw_below_drewN | apply below_drew1) | exact HB.out)) hb); clear HO_3; clear HB; have HO_3 := n0_; have HB := n1_; clear n0_ n1_; (try clear hb); (try clear hb2); (try clear hk); (try clear hi)) | ((with_reducible refine gate_callee (f := 22) rfl ?_); refine goesL_ (some 110) rfl rfl Try.func22 (by kernel_rfl) rfl #[.slice Ao10 t641.length co10] rfl (by (try simp only [List.map_toArray, List.map_cons, List.map_nil]); first | done | rfl | (simp only [List.length_drop, List.length_take]; rfl)) ?_; (with_reducible refine (impl_RecordDays.calls _ _ t641 t659 t660 _ ?side1 ?side2 A24.out).mono ?_); (case side1 => repeat (first | exact (Kd.R_reads' HO_3.out).2.2 | (with_reducible refine Kd.C_alloc ?_ _) | (with_reducible refine Kd.C_drewN ?_ _) | (with_reducible refine Kd.C_drew ?_))); (case side2 => exact (Kd.R_reads' HO_3.out).2.1); rintro e w26 ⟨v661, rfl, ho0, hb⟩; refine ⟨_, rfl, ?_⟩; have n0_ := Aside0.mk (Kd.R_elder' (by (with_reducible repeat (first | apply Kd.R_alloc | apply Kd.R_drewN | apply Kd.R_drew)); exact HO_3.out) (Kd.R_base ho0) hb); have n1_ := Aside0.mk (Kd.R_lower (Kd.R_new' ho0 (Kd.R_lt (by (with_reducible repeat (first | apply Kd.R_alloc | apply Kd.R_drewN | apply Kd.R_drew)); exact HO_3.out))) (below_size (by repeat (first | (with_reducible first | exact HB.out | apply below_alloc | apply pw_below_drewN | apply below_drew1) | exact HB.out)))); have n2_ := Aside0.mk (below_step (by repeat (first | (with_reducible first | exact HB.out | apply below_alloc | apply pw_below_drewN | apply below_drew1) | exact HB.out)) hb); clear HO_3; clear HB; have HO_3 := n0_; have HO662 := n1_; have HB := n2_; clear n0_ n1_ n2_; (try clear hb); (try clear hb2); (try clear hk); (try clear hi); (try clear ho0)))
                          go_loopg [21, 25] kj17 (fun kq v21 v25 w' => ∃ (x21_3 : Int) (x25_3 : Int), v21 = .int .i64 x21_3 ∧ v25 = .int .i64 x25_3 ∧ Aside0 (laws_FnSeries.l0 kq l0 t641 t644 t645 t647 t656 t657 t658 t659 t660 x21_3 x25_3 = some r) ∧ Aside0 (kq ≤ kj17) ∧ Aside0 (Kd.R (Kd.int .i64) 3 w' w.heap.size (fun k_ => some k_ ≠ (v661 : Value).ownBlock) (.slice Ao10 t641.length co10) t641) ∧ Aside0 (Kd.R (Kd.int .i64) 3 w' w.heap.size (fun k_ => some k_ ≠ ((.slice Ao10 t641.length co10) : Value).ownBlock) v661 t659) ∧ Aside0 (Below w.heap.size w w'))
                          case atStart => exact ⟨(0), (0), (by first | rfl | (simp; done) | (simp [*]; done)), (by first | rfl | (simp; done) | (simp [*]; done)), H', ⟨Nat.le_refl _⟩, ⟨by (with_reducible repeat (first | apply Kd.R_alloc | apply Kd.R_drewN | apply Kd.R_drew)); exact Kd.R_mono HO_3.out (fun _ hk => hk.2)⟩, ⟨by (with_reducible repeat (first | apply Kd.R_alloc | apply Kd.R_drewN | apply Kd.R_drew)); exact Kd.R_mono HO662.out (fun _ hk => hk.2)⟩, ⟨by repeat (first | (with_reducible first | exact HB.out | apply below_alloc | apply pw_below_drewN | apply below_drew1) | exact HB.out)⟩⟩
                          case round =>
                            as_aux_lemma =>
                              clear H'
                              try clear c1
                              try clear c2
                              try clear p2
                              try clear c3
                              try clear c4
                              try clear c13
                              try clear c13b0
                              try clear c13b1
                              try clear c14
                              try clear c14b0
                              try clear c14b1
                              try clear c15
                              try clear c15b0
                              try clear c15b1
                              try clear c15b2
                              try clear c16
                              try clear c19
                              try clear c19b0
                              try clear c19b1
                              try clear c20
                              try clear c22
                              try clear c26
                              try clear p2
                              obtain ⟨x21_3, x25_3, rfl, rfl, HA, HK3, HO_3, HO_19, HB⟩ := hrel
                              cases gk with
                              | zero => exact absurd HA.out (by simp [laws_FnSeries.l0])
                              | succ k3 =>
                                have H := HA.out
                                clear HA
                                simp only [laws_FnSeries.l0] at H
                                by_cases c27 : x25_3 < (t641.length : Int)
                                · rw [if_pos c27] at H
                                  have c27b0 : decide (x25_3 < (t641.length : Int)) = true := decide_eq_true c27
                                  clear c27
                                  (first | rw [c27b0] | (simp only [i64_w, i32_w]; rw [c27b0]) | skip)
                                  by_cases c28 : 0 ≤ x25_3
                                  · rw [if_pos c28] at H
                                    have c28b0 : decide (0 ≤ x25_3) = true := decide_eq_true c28
                                    clear c28
                                    by_cases c29 : (rd t641 x25_3) = (-9999)
                                    · rw [if_pos c29] at H
                                      have c29b0 : ((rd t641 x25_3) == (-9999)) = true := beq_iff_eq.mpr c29
                                      have c29b1 : ((rd t641 x25_3) != (-9999)) = false := bne_eq_false_iff_eq.mpr c29
                                      clear c29
                                      have H' := Aside0.mk H
                                      clear H
                                      have p667 : 0 ≤ (x25_3 : Int) := of_decide_eq_true (by first | (with_reducible assumption) | assumption)
                                      have q667 : x25_3 < (t641.length : Int) := of_decide_eq_true (by first | (with_reducible assumption) | assumption)
                                      obtain ⟨ad667, e667, hx667_0⟩ := Kd.at_int (Kd.R_reads' HO_3.out).2.2 x25_3 p667 q667
                                      cases e667
                                      replace p667 := eq_true p667
                                      replace q667 := eq_true q667
                                      go_wp2
                                      go_roundg k3
                                      case measure => have := HJ7.out; have := HJ17.out; have := HK3.out; omega
                                      case rel => exact ⟨(x21_3), (wrap64 (x25_3 + 1)), (by first | rfl | (simp; done) | (simp [*]; done)), (by first | rfl | (simp; done) | (simp [*]; done)), H', ⟨by have := HJ7.out; have := HJ17.out; have := HK3.out; omega⟩, ⟨by (with_reducible repeat (first | apply Kd.R_alloc | apply Kd.R_drewN | apply Kd.R_drew)); exact HO_3.out⟩, ⟨by (with_reducible repeat (first | apply Kd.R_alloc | apply Kd.R_drewN | apply Kd.R_drew)); exact HO_19.out⟩, ⟨by repeat (first | (with_reducible first | exact HB.out | apply below_alloc | apply pw_below_drewN | apply below_drew1) | exact HB.out)⟩⟩
                                    · rw [if_neg c29] at H
                                      have c29b0 : ((rd t641 x25_3) == (-9999)) = false := beq_eq_false_iff_ne.mpr c29
                                      have c29b1 : ((rd t641 x25_3) != (-9999)) = true := bne_iff_ne.mpr c29
                                      replace H := Option.bind_eq_some_iff.mp H
                                      obtain ⟨⟨t668, t669, t670⟩, A300, H⟩ := H
                                      replace H : (if t670 = true then (if t669 = 0 then (none) else (if (Int.tmod t657 t669) = 0 then (laws_FnSeries.l0 k3 l0 t641 t644 t645 t647 t656 t657 t658 t659 t660 (wrap64 (x21_3 + (wrap64 (t668 * (wrap64 (Int.tdiv t657 t669)))))) (wrap64 (x25_3 + 1))) else (some false))) else (some false)) = some r := H
                                      have A30 := Aside0.mk A300
                                      clear A300
                                      by_cases c31 : t670 = true
                                      · subst c31
                                        have H1 : (if t669 = 0 then (none) else (if (Int.tmod t657 t669) = 0 then (laws_FnSeries.l0 k3 l0 t641 t644 t645 t647 t656 t657 t658 t659 t660 (wrap64 (x21_3 + (wrap64 (t668 * (wrap64 (Int.tdiv t657 t669)))))) (wrap64 (x25_3 + 1))) else (some false))) = some r := by rw [if_pos rfl] at H; exact H
                                        clear H
                                        have H := H1
                                        clear H1
                                        by_cases c32 : t669 = 0
                                        · rw [if_pos c32] at H
                                          exact absurd H (by simp)
                                        · rw [if_neg c32] at H
                                          have c32b0 : (t669 == 0) = false := beq_eq_false_iff_ne.mpr c32
                                          have c32b1 : (t669 != 0) = true := bne_iff_ne.mpr c32
                                          by_cases c33 : (Int.tmod t657 t669) = 0
                                          · rw [if_pos c33] at H
                                            have c33b0 : ((Int.tmod t657 t669) == 0) = true := beq_iff_eq.mpr c33
                                            have c33b1 : ((Int.tmod t657 t669) != 0) = false := bne_eq_false_iff_eq.mpr c33
                                            clear c33
                                            have H' := Aside0.mk H
                                            clear H
                                            have p667 : 0 ≤ (x25_3 : Int) := of_decide_eq_true (by first | (with_reducible assumption) | assumption)
                                            have q667 : x25_3 < (t641.length : Int) := of_decide_eq_true (by first | (with_reducible assumption) | assumption)
                                            obtain ⟨ad667, e667, hx667_0⟩ := Kd.at_int (Kd.R_reads' HO_3.out).2.2 x25_3 p667 q667
                                            cases e667
                                            replace p667 := eq_true p667
                                            replace q667 := eq_true q667
                                            go_wp2_with (first | ((with_reducible refine gate_callee (f := 36) rfl ?_); refine goesL_ (some 127) rfl rfl Try.func36 (by kernel_rfl) rfl #[.slice (some ad667) t641.length co10, .int .i64 x25_3] rfl (by (try simp only [List.map_toArray, List.map_cons, List.map_nil]); first | done | rfl | (simp only [List.length_drop, List.length_take]; rfl)) ?_; (with_reducible refine (impl_AnomalyOf.calls k3 _ _ t641 x25_3 t668 t669 true _ ?side1 ?side2 A30.out).mono ?_); (case side1 => repeat (first | exact (Kd.R_reads' HO_3.out).2.2 | (with_reducible refine Kd.C_alloc ?_ _) | (with_reducible refine Kd.C_drewN ?_ _) | (with_reducible refine Kd.C_drew ?_))); (case side2 => exact (Kd.R_reads' HO_3.out).2.1); rintro e w34 ⟨rfl, hb⟩; refine ⟨_, rfl, ?_⟩; have n0_ := Aside0.mk (Kd.R_below (by (with_reducible repeat (first | apply Kd.R_alloc | apply Kd.R_drewN | apply Kd.R_drew)); exact HO_3.out) hb); have n1_ := Aside0.mk (Kd.R_below (by (with_reducible repeat (first | apply Kd.R_alloc | apply Kd.R_drewN | apply Kd.R_drew)); exact HO_19.out) hb); have n2_ := Aside0.mk (below_step (by repeat (first | (with_reducible first | exact HB.out | apply below_alloc | apply pw_below_drewN | apply below_drew1) | exact HB.out)) hb); clear HO_3; clear HO_19; clear HB; have HO_3 := n0_; have HO_19 := n1_; have HB := n2_; clear n0_ n1_ n2_; (try clear hb); (try clear hb2); (try clear hk); (try clear hi)))
                                            go_roundg k3
                                            case measure => have := HJ7.out; have := HJ17.out; have := HK3.out; omega
                                            case rel => exact ⟨(wrap64 (x21_3 + (wrap64 (t668 * (wrap64 (Int.tdiv t657 t669)))))), (wrap64 (x25_3 + 1)), (by first | rfl | (simp; done) | (simp [*]; done)), (by first | rfl | (simp; done) | (simp [*]; done)), H', ⟨by have := HJ7.out; have := HJ17.out; have := HK3.out; omega⟩, ⟨by (with_reducible repeat (first | apply Kd.R_alloc | apply Kd.R_drewN | apply Kd.R_drew)); exact HO_3.out⟩, ⟨by (with_reducible repeat (first | apply Kd.R_alloc | apply Kd.R_drewN | apply Kd.R_drew)); exact HO_19.out⟩, ⟨by repeat (first | (with_reducible first | exact HB.out | apply below_alloc | apply pw_below_drewN | apply below_drew1) | exact HB.out)⟩⟩
                                          · rw [if_neg c33] at H
                                            have c33b0 : ((Int.tmod t657 t669) == 0) = false := beq_eq_false_iff_ne.mpr c33
                                            have c33b1 : ((Int.tmod t657 t669) != 0) = true := bne_iff_ne.mpr c33
                                            obtain rfl := Option.some.inj H
                                            have p667 : 0 ≤ (x25_3 : Int) := of_decide_eq_true (by first | (with_reducible assumption) | assumption)
                                            have q667 : x25_3 < (t641.length : Int) := of_decide_eq_true (by first | (with_reducible assumption) | assumption)
                                            obtain ⟨ad667, e667, hx667_0⟩ := Kd.at_int (Kd.R_reads' HO_3.out).2.2 x25_3 p667 q667
                                            cases e667
                                            replace p667 := eq_true p667
                                            replace q667 := eq_true q667
                                            go_wp2_with (first | ((with_reducible refine gate_callee (f := 36) rfl ?_); refine goesL_ (some 127) rfl rfl Try.func36 (by kernel_rfl) rfl #[.slice (some ad667) t641.length co10, .int .i64 x25_3] rfl (by (try simp only [List.map_toArray, List.map_cons, List.map_nil]); first | done | rfl | (simp only [List.length_drop, List.length_take]; rfl)) ?_; (with_reducible refine (impl_AnomalyOf.calls k3 _ _ t641 x25_3 t668 t669 true _ ?side1 ?side2 A30.out).mono ?_); (case side1 => repeat (first | exact (Kd.R_reads' HO_3.out).2.2 | (with_reducible refine Kd.C_alloc ?_ _) | (with_reducible refine Kd.C_drewN ?_ _) | (with_reducible refine Kd.C_drew ?_))); (case side2 => exact (Kd.R_reads' HO_3.out).2.1); rintro e w35 ⟨rfl, hb⟩; refine ⟨_, rfl, ?_⟩; have n0_ := Aside0.mk (Kd.R_below (by (with_reducible repeat (first | apply Kd.R_alloc | apply Kd.R_drewN | apply Kd.R_drew)); exact HO_3.out) hb); have n1_ := Aside0.mk (Kd.R_below (by (with_reducible repeat (first | apply Kd.R_alloc | apply Kd.R_drewN | apply Kd.R_drew)); exact HO_19.out) hb); have n2_ := Aside0.mk (below_step (by repeat (first | (with_reducible first | exact HB.out | apply below_alloc | apply pw_below_drewN | apply below_drew1) | exact HB.out)) hb); clear HO_3; clear HO_19; clear HB; have HO_3 := n0_; have HO_19 := n1_; have HB := n2_; clear n0_ n1_ n2_; (try clear hb); (try clear hb2); (try clear hk); (try clear hi)))
                                            go_ret
                                            exact ⟨by first | rfl | (simp [errW_none, errW_some] <;> rfl) | (simp [*, errW_none, errW_some] <;> rfl), by repeat (first | (with_reducible first | exact HB.out | apply below_alloc | apply pw_below_drewN | apply below_drew1) | exact HB.out)⟩
                                      · replace c31 := Bool.eq_false_iff.mpr c31
                                        subst c31
                                        have H1 : (some false) = some r := by rw [if_neg (show ¬ (false = true) by decide)] at H; exact H
                                        clear H
                                        have H := H1
                                        clear H1
                                        obtain rfl := Option.some.inj H
                                        have p667 : 0 ≤ (x25_3 : Int) := of_decide_eq_true (by first | (with_reducible assumption) | assumption)
                                        have q667 : x25_3 < (t641.length : Int) := of_decide_eq_true (by first | (with_reducible assumption) | assumption)
                                        obtain ⟨ad667, e667, hx667_0⟩ := Kd.at_int (Kd.R_reads' HO_3.out).2.2 x25_3 p667 q667
                                        cases e667
                                        replace p667 := eq_true p667
                                        replace q667 := eq_true q667
                                        go_wp2_with (first | ((with_reducible refine gate_callee (f := 36) rfl ?_); refine goesL_ (some 127) rfl rfl Try.func36 (by kernel_rfl) rfl #[.slice (some ad667) t641.length co10, .int .i64 x25_3] rfl (by (try simp only [List.map_toArray, List.map_cons, List.map_nil]); first | done | rfl | (simp only [List.length_drop, List.length_take]; rfl)) ?_; (with_reducible refine (impl_AnomalyOf.calls k3 _ _ t641 x25_3 t668 t669 false _ ?side1 ?side2 A30.out).mono ?_); (case side1 => repeat (first | exact (Kd.R_reads' HO_3.out).2.2 | (with_reducible refine Kd.C_alloc ?_ _) | (with_reducible refine Kd.C_drewN ?_ _) | (with_reducible refine Kd.C_drew ?_))); (case side2 => exact (Kd.R_reads' HO_3.out).2.1); rintro e w36 ⟨rfl, hb⟩; refine ⟨_, rfl, ?_⟩; have n0_ := Aside0.mk (Kd.R_below (by (with_reducible repeat (first | apply Kd.R_alloc | apply Kd.R_drewN | apply Kd.R_drew)); exact HO_3.out) hb); have n1_ := Aside0.mk (Kd.R_below (by (with_reducible repeat (first | apply Kd.R_alloc | apply Kd.R_drewN | apply Kd.R_drew)); exact HO_19.out) hb); have n2_ := Aside0.mk (below_step (by repeat (first | (with_reducible first | exact HB.out | apply below_alloc | apply pw_below_drewN | apply below_drew1) | exact HB.out)) hb); clear HO_3; clear HO_19; clear HB; have HO_3 := n0_; have HO_19 := n1_; have HB := n2_; clear n0_ n1_ n2_; (try clear hb); (try clear hb2); (try clear hk); (try clear hi)))
                                        go_ret
                                        exact ⟨by first | rfl | (simp [errW_none, errW_some] <;> rfl) | (simp [*, errW_none, errW_some] <;> rfl), by repeat (first | (with_reducible first | exact HB.out | apply below_alloc | apply pw_below_drewN | apply below_drew1) | exact HB.out)⟩
                                  · rw [if_neg c28] at H
                                    exact absurd H (by simp)
                                · rw [if_neg c27] at H
                                  have c27b0 : decide (x25_3 < (t641.length : Int)) = false := decide_eq_false c27
                                  clear c27
                                  (first | rw [c27b0] | (simp only [i64_w, i32_w]; rw [c27b0]) | skip)
                                  replace H := Option.bind_eq_some_iff.mp H
                                  obtain ⟨⟨t663, t664, t665⟩, A370, H⟩ := H
                                  replace H : (if t658 = true then (if t660 = true then (if t665 = true then (if t656 = 1 then (if x21_3 = 0 then (if (t659.length : Int) = 0 then (some false) else (if 0 ≤ (wrap64 ((t659.length : Int) - 1)) then (if (wrap64 ((t659.length : Int) - 1)) < (t659.length : Int) then (if (rd t659 (wrap64 ((t659.length : Int) - 1))) = t645 then (if t663 > (wrap64 (t644 * t664)) then (some false) else (if t663 < (wrap64 (t647 * t664)) then (some false) else (laws_FnSeries.j3 k3 l0))) else (some false)) else (none)) else (none))) else (some false)) else (some false)) else (some false)) else (some false)) else (some false)) = some r := H
                                  have A37 := Aside0.mk A370
                                  clear A370
                                  by_cases c38 : t658 = true
                                  · subst c38
                                    have H1 : (if t660 = true then (if t665 = true then (if t656 = 1 then (if x21_3 = 0 then (if (t659.length : Int) = 0 then (some false) else (if 0 ≤ (wrap64 ((t659.length : Int) - 1)) then (if (wrap64 ((t659.length : Int) - 1)) < (t659.length : Int) then (if (rd t659 (wrap64 ((t659.length : Int) - 1))) = t645 then (if t663 > (wrap64 (t644 * t664)) then (some false) else (if t663 < (wrap64 (t647 * t664)) then (some false) else (laws_FnSeries.j3 k3 l0))) else (some false)) else (none)) else (none))) else (some false)) else (some false)) else (some false)) else (some false)) = some r := by rw [if_pos rfl] at H; exact H
                                    clear H
                                    have H := H1
                                    clear H1
                                    by_cases c39 : t660 = true
                                    · subst c39
                                      have H1 : (if t665 = true then (if t656 = 1 then (if x21_3 = 0 then (if (t659.length : Int) = 0 then (some false) else (if 0 ≤ (wrap64 ((t659.length : Int) - 1)) then (if (wrap64 ((t659.length : Int) - 1)) < (t659.length : Int) then (if (rd t659 (wrap64 ((t659.length : Int) - 1))) = t645 then (if t663 > (wrap64 (t644 * t664)) then (some false) else (if t663 < (wrap64 (t647 * t664)) then (some false) else (laws_FnSeries.j3 k3 l0))) else (some false)) else (none)) else (none))) else (some false)) else (some false)) else (some false)) = some r := by rw [if_pos rfl] at H; exact H
                                      clear H
                                      have H := H1
                                      clear H1
                                      by_cases c40 : t665 = true
                                      · subst c40
                                        have H1 : (if t656 = 1 then (if x21_3 = 0 then (if (t659.length : Int) = 0 then (some false) else (if 0 ≤ (wrap64 ((t659.length : Int) - 1)) then (if (wrap64 ((t659.length : Int) - 1)) < (t659.length : Int) then (if (rd t659 (wrap64 ((t659.length : Int) - 1))) = t645 then (if t663 > (wrap64 (t644 * t664)) then (some false) else (if t663 < (wrap64 (t647 * t664)) then (some false) else (laws_FnSeries.j3 k3 l0))) else (some false)) else (none)) else (none))) else (some false)) else (some false)) = some r := by rw [if_pos rfl] at H; exact H
                                        clear H
                                        have H := H1
                                        clear H1
                                        by_cases c41 : t656 = 1
                                        · rw [if_pos c41] at H
                                          have c41b0 : (t656 == 1) = true := beq_iff_eq.mpr c41
                                          have c41b1 : (t656 != 1) = false := bne_eq_false_iff_eq.mpr c41
                                          clear c41
                                          by_cases c42 : x21_3 = 0
                                          · rw [if_pos c42] at H
                                            have c42b0 : (x21_3 == 0) = true := beq_iff_eq.mpr c42
                                            have c42b1 : (x21_3 != 0) = false := bne_eq_false_iff_eq.mpr c42
                                            clear c42
                                            by_cases c43 : (t659.length : Int) = 0
                                            · rw [if_pos c43] at H
                                              have c43b0 : ((t659.length : Int) == 0) = true := beq_iff_eq.mpr c43
                                              have c43b1 : ((t659.length : Int) != 0) = false := bne_eq_false_iff_eq.mpr c43
                                              clear c43
                                              obtain rfl := Option.some.inj H
                                              go_wp2_with (first | ((with_reducible refine gate_callee (f := 34) rfl ?_); refine goesL_ (some 151) rfl rfl Try.func34 (by kernel_rfl) rfl #[.slice Ao10 t641.length co10, .int .i64 0, .int .i64 (wrap64 ((t641.length : Int) - 1))] rfl (by (try simp only [List.map_toArray, List.map_cons, List.map_nil]); first | done | rfl | (simp only [List.length_drop, List.length_take]; rfl)) ?_; (with_reducible refine (impl_SeriesMean.calls k3 _ _ t641 0 (wrap64 ((t641.length : Int) - 1)) t663 t664 true _ ?side1 ?side2 A37.out).mono ?_); (case side1 => repeat (first | exact (Kd.R_reads' HO_3.out).2.2 | (with_reducible refine Kd.C_alloc ?_ _) | (with_reducible refine Kd.C_drewN ?_ _) | (with_reducible refine Kd.C_drew ?_))); (case side2 => exact (Kd.R_reads' HO_3.out).2.1); rintro e w44 ⟨rfl, hb⟩; refine ⟨_, rfl, ?_⟩; have n0_ := Aside0.mk (Kd.R_below (by (with_reducible repeat (first | apply Kd.R_alloc | apply Kd.R_drewN | apply Kd.R_drew)); exact HO_3.out) hb); have n1_ := Aside0.mk (Kd.R_below (by (with_reducible repeat (first | apply Kd.R_alloc | apply Kd.R_drewN | apply Kd.R_drew)); exact HO_19.out) hb); have n2_ := Aside0.mk (below_step (by repeat (first | (with_reducible first | exact HB.out | apply below_alloc | apply pw_below_drewN | apply below_drew1) | exact HB.out)) hb); clear HO_3; clear HO_19; clear HB; have HO_3 := n0_; have HO_19 := n1_; have HB := n2_; clear n0_ n1_ n2_; (try clear hb); (try clear hb2); (try clear hk); (try clear hi); obtain ⟨Ao45, co45, eo45⟩ := Kd.R_slice HO_19.out; subst eo45))
                                              go_ret
                                              exact ⟨by first | rfl | (simp [errW_none, errW_some] <;> rfl) | (simp [*, errW_none, errW_some] <;> rfl), by repeat (first | (with_reducible first | exact HB.out | apply below_alloc | apply pw_below_drewN | apply below_drew1) | exact HB.out)⟩
                                            · rw [if_neg c43] at H
                                              have c43b0 : ((t659.length : Int) == 0) = false := beq_eq_false_iff_ne.mpr c43
                                              have c43b1 : ((t659.length : Int) != 0) = true := bne_iff_ne.mpr c43
                                              have c43b2 : ¬ (t659 = []) := fun h_ => c43 (by rw [h_]; rfl)
                                              obtain ⟨ji46, hji46⟩ : ∃ j_ : Int, (wrap64 ((t659.length : Int) - 1)) = j_ := ⟨_, rfl⟩
                                              replace H : (if 0 ≤ (ji46) then (if (ji46) < (t659.length : Int) then (if (rd t659 (ji46)) = t645 then (if t663 > (wrap64 (t644 * t664)) then (some false) else (if t663 < (wrap64 (t647 * t664)) then (some false) else (laws_FnSeries.j3 k3 l0))) else (some false)) else (none)) else (none)) = some r := by first | (rw [hji46] at H; exact H) | (simp only [hji46] at H ⊢; exact H)
                                              (try rw [hji46] at A37)
                                              have hji46w : (IntKind.i64.wrap ((t659.length : Int) - 1)) = ji46 := (i64_w _).trans hji46
                                              by_cases c47 : 0 ≤ (ji46)
                                              · rw [if_pos c47] at H
                                                have c47b0 : decide (0 ≤ (ji46)) = true := decide_eq_true c47
                                                clear c47
                                                by_cases c48 : (ji46) < (t659.length : Int)
                                                · rw [if_pos c48] at H
                                                  have c48b0 : decide ((ji46) < (t659.length : Int)) = true := decide_eq_true c48
                                                  clear c48
                                                  by_cases c49 : (rd t659 (ji46)) = t645
                                                  · rw [if_pos c49] at H
                                                    have c49b0 : ((rd t659 (ji46)) == t645) = true := beq_iff_eq.mpr c49
                                                    have c49b1 : ((rd t659 (ji46)) != t645) = false := bne_eq_false_iff_eq.mpr c49
                                                    clear c49
                                                    by_cases c50 : t663 > (wrap64 (t644 * t664))
                                                    · rw [if_pos c50] at H
                                                      have c50b0 : decide ((wrap64 (t644 * t664)) < t663) = true := decide_eq_true c50
                                                      clear c50
                                                      obtain rfl := Option.some.inj H
                                                      go_wp2_with (first | ((with_reducible refine gate_callee (f := 34) rfl ?_); refine goesL_ (some 151) rfl rfl Try.func34 (by kernel_rfl) rfl #[.slice Ao10 t641.length co10, .int .i64 0, .int .i64 (wrap64 ((t641.length : Int) - 1))] rfl (by (try simp only [List.map_toArray, List.map_cons, List.map_nil]); first | done | rfl | (simp only [List.length_drop, List.length_take]; rfl)) ?_; (with_reducible refine (impl_SeriesMean.calls k3 _ _ t641 0 (wrap64 ((t641.length : Int) - 1)) t663 t664 true _ ?side1 ?side2 A37.out).mono ?_); (case side1 => repeat (first | exact (Kd.R_reads' HO_3.out).2.2 | (with_reducible refine Kd.C_alloc ?_ _) | (with_reducible refine Kd.C_drewN ?_ _) | (with_reducible refine Kd.C_drew ?_))); (case side2 => exact (Kd.R_reads' HO_3.out).2.1); rintro e w51 ⟨rfl, hb⟩; refine ⟨_, rfl, ?_⟩; have n0_ := Aside0.mk (Kd.R_below (by (with_reducible repeat (first | apply Kd.R_alloc | apply Kd.R_drewN | apply Kd.R_drew)); exact HO_3.out) hb); have n1_ := Aside0.mk (Kd.R_below (by (with_reducible repeat (first | apply Kd.R_alloc | apply Kd.R_drewN | apply Kd.R_drew)); exact HO_19.out) hb); have n2_ := Aside0.mk (below_step (by repeat (first | (with_reducible first | exact HB.out | apply below_alloc | apply pw_below_drewN | apply below_drew1) | exact HB.out)) hb); clear HO_3; clear HO_19; clear HB; have HO_3 := n0_; have HO_19 := n1_; have HB := n2_; clear n0_ n1_ n2_; (try clear hb); (try clear hb2); (try clear hk); (try clear hi); obtain ⟨Ao52, co52, eo52⟩ := Kd.R_slice HO_19.out; subst eo52; have p666 : 0 ≤ ((ji46) : Int) := of_decide_eq_true (by first | (with_reducible assumption) | assumption); have q666 : (ji46) < (t659.length : Int) := of_decide_eq_true (by first | (with_reducible assumption) | assumption); obtain ⟨ad666, e666, hx666_0⟩ := Kd.at_int (Kd.R_reads' HO_19.out).2.2 (ji46) p666 q666; cases e666; replace p666 := eq_true p666; replace q666 := eq_true q666))
                                                      go_ret
                                                      exact ⟨by first | rfl | (simp [errW_none, errW_some] <;> rfl) | (simp only [← hji46]; first | rfl | (simp [errW_none, errW_some] <;> rfl)) | (simp [*, errW_none, errW_some] <;> rfl), by repeat (first | (with_reducible first | exact HB.out | apply below_alloc | apply pw_below_drewN | apply below_drew1) | exact HB.out)⟩
                                                    · rw [if_neg c50] at H
                                                      have c50b0 : decide ((wrap64 (t644 * t664)) < t663) = false := decide_eq_false c50
                                                      clear c50
                                                      by_cases c53 : t663 < (wrap64 (t647 * t664))
                                                      · rw [if_pos c53] at H
                                                        have c53b0 : decide (t663 < (wrap64 (t647 * t664))) = true := decide_eq_true c53
                                                        clear c53
                                                        obtain rfl := Option.some.inj H
                                                        go_wp2_with (first | ((with_reducible refine gate_callee (f := 34) rfl ?_); refine goesL_ (some 151) rfl rfl Try.func34 (by kernel_rfl) rfl #[.slice Ao10 t641.length co10, .int .i64 0, .int .i64 (wrap64 ((t641.length : Int) - 1))] rfl (by (try simp only [List.map_toArray, List.map_cons, List.map_nil]); first | done | rfl | (simp only [List.length_drop, List.length_take]; rfl)) ?_; (with_reducible refine (impl_SeriesMean.calls k3 _ _ t641 0 (wrap64 ((t641.length : Int) - 1)) t663 t664 true _ ?side1 ?side2 A37.out).mono ?_); (case side1 => repeat (first | exact (Kd.R_reads' HO_3.out).2.2 | (with_reducible refine Kd.C_alloc ?_ _) | (with_reducible refine Kd.C_drewN ?_ _) | (with_reducible refine Kd.C_drew ?_))); (case side2 => exact (Kd.R_reads' HO_3.out).2.1); rintro e w54 ⟨rfl, hb⟩; refine ⟨_, rfl, ?_⟩; have n0_ := Aside0.mk (Kd.R_below (by (with_reducible repeat (first | apply Kd.R_alloc | apply Kd.R_drewN | apply Kd.R_drew)); exact HO_3.out) hb); have n1_ := Aside0.mk (Kd.R_below (by (with_reducible repeat (first | apply Kd.R_alloc | apply Kd.R_drewN | apply Kd.R_drew)); exact HO_19.out) hb); have n2_ := Aside0.mk (below_step (by repeat (first | (with_reducible first | exact HB.out | apply below_alloc | apply pw_below_drewN | apply below_drew1) | exact HB.out)) hb); clear HO_3; clear HO_19; clear HB; have HO_3 := n0_; have HO_19 := n1_; have HB := n2_; clear n0_ n1_ n2_; (try clear hb); (try clear hb2); (try clear hk); (try clear hi); obtain ⟨Ao55, co55, eo55⟩ := Kd.R_slice HO_19.out; subst eo55; have p666 : 0 ≤ ((ji46) : Int) := of_decide_eq_true (by first | (with_reducible assumption) | assumption); have q666 : (ji46) < (t659.length : Int) := of_decide_eq_true (by first | (with_reducible assumption) | assumption); obtain ⟨ad666, e666, hx666_0⟩ := Kd.at_int (Kd.R_reads' HO_19.out).2.2 (ji46) p666 q666; cases e666; replace p666 := eq_true p666; replace q666 := eq_true q666))
                                                        go_ret
                                                        exact ⟨by first | rfl | (simp [errW_none, errW_some] <;> rfl) | (simp only [← hji46]; first | rfl | (simp [errW_none, errW_some] <;> rfl)) | (simp [*, errW_none, errW_some] <;> rfl), by repeat (first | (with_reducible first | exact HB.out | apply below_alloc | apply pw_below_drewN | apply below_drew1) | exact HB.out)⟩
                                                      · rw [if_neg c53] at H
                                                        have c53b0 : decide (t663 < (wrap64 (t647 * t664))) = false := decide_eq_false c53
                                                        clear c53
                                                        have H' := Aside0.mk H
                                                        clear H
                                                        go_wp2_with (first | ((with_reducible refine gate_callee (f := 34) rfl ?_); refine goesL_ (some 151) rfl rfl Try.func34 (by kernel_rfl) rfl #[.slice Ao10 t641.length co10, .int .i64 0, .int .i64 (wrap64 ((t641.length : Int) - 1))] rfl (by (try simp only [List.map_toArray, List.map_cons, List.map_nil]); first | done | rfl | (simp only [List.length_drop, List.length_take]; rfl)) ?_; (with_reducible refine (impl_SeriesMean.calls k3 _ _ t641 0 (wrap64 ((t641.length : Int) - 1)) t663 t664 true _ ?side1 ?side2 A37.out).mono ?_); (case side1 => repeat (first | exact (Kd.R_reads' HO_3.out).2.2 | (with_reducible refine Kd.C_alloc ?_ _) | (with_reducible refine Kd.C_drewN ?_ _) | (with_reducible refine Kd.C_drew ?_))); (case side2 => exact (Kd.R_reads' HO_3.out).2.1); rintro e w56 ⟨rfl, hb⟩; refine ⟨_, rfl, ?_⟩; have n0_ := Aside0.mk (Kd.R_below (by (with_reducible repeat (first | apply Kd.R_alloc | apply Kd.R_drewN | apply Kd.R_drew)); exact HO_3.out) hb); have n1_ := Aside0.mk (Kd.R_below (by (with_reducible repeat (first | apply Kd.R_alloc | apply Kd.R_drewN | apply Kd.R_drew)); exact HO_19.out) hb); have n2_ := Aside0.mk (below_step (by repeat (first | (with_reducible first | exact HB.out | apply below_alloc | apply pw_below_drewN | apply below_drew1) | exact HB.out)) hb); clear HO_3; clear HO_19; clear HB; have HO_3 := n0_; have HO_19 := n1_; have HB := n2_; clear n0_ n1_ n2_; (try clear hb); (try clear hb2); (try clear hk); (try clear hi); obtain ⟨Ao57, co57, eo57⟩ := Kd.R_slice HO_19.out; subst eo57; have p666 : 0 ≤ ((ji46) : Int) := of_decide_eq_true (by first | (with_reducible assumption) | assumption); have q666 : (ji46) < (t659.length : Int) := of_decide_eq_true (by first | (with_reducible assumption) | assumption); obtain ⟨ad666, e666, hx666_0⟩ := Kd.at_int (Kd.R_reads' HO_19.out).2.2 (ji46) p666 q666; cases e666; replace p666 := eq_true p666; replace q666 := eq_true q666))
                                                        go_meet
                                                        case rel => exact ⟨_, H', ⟨by have := HJ7.out; have := HJ17.out; have := HK3.out; first | omega | exact Nat.le_refl _⟩, ⟨by repeat (first | (with_reducible first | exact HB.out | apply below_alloc | apply pw_below_drewN | apply below_drew1) | exact HB.out)⟩⟩
                                                  · rw [if_neg c49] at H
                                                    have c49b0 : ((rd t659 (ji46)) == t645) = false := beq_eq_false_iff_ne.mpr c49
                                                    have c49b1 : ((rd t659 (ji46)) != t645) = true := bne_iff_ne.mpr c49
                                                    obtain rfl := Option.some.inj H
                                                    go_wp2_with (first | ((with_reducible refine gate_callee (f := 34) rfl ?_); refine goesL_ (some 151) rfl rfl Try.func34 (by kernel_rfl) rfl #[.slice Ao10 t641.length co10, .int .i64 0, .int .i64 (wrap64 ((t641.length : Int) - 1))] rfl (by (try simp only [List.map_toArray, List.map_cons, List.map_nil]); first | done | rfl | (simp only [List.length_drop, List.length_take]; rfl)) ?_; (with_reducible refine (impl_SeriesMean.calls k3 _ _ t641 0 (wrap64 ((t641.length : Int) - 1)) t663 t664 true _ ?side1 ?side2 A37.out).mono ?_); (case side1 => repeat (first | exact (Kd.R_reads' HO_3.out).2.2 | (with_reducible refine Kd.C_alloc ?_ _) | (with_reducible refine Kd.C_drewN ?_ _) | (with_reducible refine Kd.C_drew ?_))); (case side2 => exact (Kd.R_reads' HO_3.out).2.1); rintro e w58 ⟨rfl, hb⟩; refine ⟨_, rfl, ?_⟩; have n0_ := Aside0.mk (Kd.R_below (by (with_reducible repeat (first | apply Kd.R_alloc | apply Kd.R_drewN | apply Kd.R_drew)); exact HO_3.out) hb); have n1_ := Aside0.mk (Kd.R_below (by (with_reducible repeat (first | apply Kd.R_alloc | apply Kd.R_drewN | apply Kd.R_drew)); exact HO_19.out) hb); have n2_ := Aside0.mk (below_step (by repeat (first | (with_reducible first | exact HB.out | apply below_alloc | apply pw_below_drewN | apply below_drew1) | exact HB.out)) hb); clear HO_3; clear HO_19; clear HB; have HO_3 := n0_; have HO_19 := n1_; have HB := n2_; clear n0_ n1_ n2_; (try clear hb); (try clear hb2); (try clear hk); (try clear hi); obtain ⟨Ao59, co59, eo59⟩ := Kd.R_slice HO_19.out; subst eo59; have p666 : 0 ≤ ((ji46) : Int) := of_decide_eq_true (by first | (with_reducible assumption) | assumption); have q666 : (ji46) < (t659.length : Int) := of_decide_eq_true (by first | (with_reducible assumption) | assumption); obtain ⟨ad666, e666, hx666_0⟩ := Kd.at_int (Kd.R_reads' HO_19.out).2.2 (ji46) p666 q666; cases e666; replace p666 := eq_true p666; replace q666 := eq_true q666))
                                                    go_ret
                                                    exact ⟨by first | rfl | (simp [errW_none, errW_some] <;> rfl) | (simp only [← hji46]; first | rfl | (simp [errW_none, errW_some] <;> rfl)) | (simp [*, errW_none, errW_some] <;> rfl), by repeat (first | (with_reducible first | exact HB.out | apply below_alloc | apply pw_below_drewN | apply below_drew1) | exact HB.out)⟩
                                                · rw [if_neg c48] at H
                                                  exact absurd H (by simp)
                                              · rw [if_neg c47] at H
                                                exact absurd H (by simp)
                                          · rw [if_neg c42] at H
                                            have c42b0 : (x21_3 == 0) = false := beq_eq_false_iff_ne.mpr c42
                                            have c42b1 : (x21_3 != 0) = true := bne_iff_ne.mpr c42
                                            obtain rfl := Option.some.inj H
                                            go_wp2_with (first | ((with_reducible refine gate_callee (f := 34) rfl ?_); refine goesL_ (some 151) rfl rfl Try.func34 (by kernel_rfl) rfl #[.slice Ao10 t641.length co10, .int .i64 0, .int .i64 (wrap64 ((t641.length : Int) - 1))] rfl (by (try simp only [List.map_toArray, List.map_cons, List.map_nil]); first | done | rfl | (simp only [List.length_drop, List.length_take]; rfl)) ?_; (with_reducible refine (impl_SeriesMean.calls k3 _ _ t641 0 (wrap64 ((t641.length : Int) - 1)) t663 t664 true _ ?side1 ?side2 A37.out).mono ?_); (case side1 => repeat (first | exact (Kd.R_reads' HO_3.out).2.2 | (with_reducible refine Kd.C_alloc ?_ _) | (with_reducible refine Kd.C_drewN ?_ _) | (with_reducible refine Kd.C_drew ?_))); (case side2 => exact (Kd.R_reads' HO_3.out).2.1); rintro e w60 ⟨rfl, hb⟩; refine ⟨_, rfl, ?_⟩; have n0_ := Aside0.mk (Kd.R_below (by (with_reducible repeat (first | apply Kd.R_alloc | apply Kd.R_drewN | apply Kd.R_drew)); exact HO_3.out) hb); have n1_ := Aside0.mk (Kd.R_below (by (with_reducible repeat (first | apply Kd.R_alloc | apply Kd.R_drewN | apply Kd.R_drew)); exact HO_19.out) hb); have n2_ := Aside0.mk (below_step (by repeat (first | (with_reducible first | exact HB.out | apply below_alloc | apply pw_below_drewN | apply below_drew1) | exact HB.out)) hb); clear HO_3; clear HO_19; clear HB; have HO_3 := n0_; have HO_19 := n1_; have HB := n2_; clear n0_ n1_ n2_; (try clear hb); (try clear hb2); (try clear hk); (try clear hi)))
                                            go_ret
                                            exact ⟨by first | rfl | (simp [errW_none, errW_some] <;> rfl) | (simp [*, errW_none, errW_some] <;> rfl), by repeat (first | (with_reducible first | exact HB.out | apply below_alloc | apply pw_below_drewN | apply below_drew1) | exact HB.out)⟩
                                        · rw [if_neg c41] at H
                                          have c41b0 : (t656 == 1) = false := beq_eq_false_iff_ne.mpr c41
                                          have c41b1 : (t656 != 1) = true := bne_iff_ne.mpr c41
                                          obtain rfl := Option.some.inj H
                                          go_wp2_with (first | ((with_reducible refine gate_callee (f := 34) rfl ?_); refine goesL_ (some 151) rfl rfl Try.func34 (by kernel_rfl) rfl #[.slice Ao10 t641.length co10, .int .i64 0, .int .i64 (wrap64 ((t641.length : Int) - 1))] rfl (by (try simp only [List.map_toArray, List.map_cons, List.map_nil]); first | done | rfl | (simp only [List.length_drop, List.length_take]; rfl)) ?_; (with_reducible refine (impl_SeriesMean.calls k3 _ _ t641 0 (wrap64 ((t641.length : Int) - 1)) t663 t664 true _ ?side1 ?side2 A37.out).mono ?_); (case side1 => repeat (first | exact (Kd.R_reads' HO_3.out).2.2 | (with_reducible refine Kd.C_alloc ?_ _) | (with_reducible refine Kd.C_drewN ?_ _) | (with_reducible refine Kd.C_drew ?_))); (case side2 => exact (Kd.R_reads' HO_3.out).2.1); rintro e w61 ⟨rfl, hb⟩; refine ⟨_, rfl, ?_⟩; have n0_ := Aside0.mk (Kd.R_below (by (with_reducible repeat (first | apply Kd.R_alloc | apply Kd.R_drewN | apply Kd.R_drew)); exact HO_3.out) hb); have n1_ := Aside0.mk (Kd.R_below (by (with_reducible repeat (first | apply Kd.R_alloc | apply Kd.R_drewN | apply Kd.R_drew)); exact HO_19.out) hb); have n2_ := Aside0.mk (below_step (by repeat (first | (with_reducible first | exact HB.out | apply below_alloc | apply pw_below_drewN | apply below_drew1) | exact HB.out)) hb); clear HO_3; clear HO_19; clear HB; have HO_3 := n0_; have HO_19 := n1_; have HB := n2_; clear n0_ n1_ n2_; (try clear hb); (try clear hb2); (try clear hk); (try clear hi)))
                                          go_ret
                                          exact ⟨by first | rfl | (simp [errW_none, errW_some] <;> rfl) | (simp [*, errW_none, errW_some] <;> rfl), by repeat (first | (with_reducible first | exact HB.out | apply below_alloc | apply pw_below_drewN | apply below_drew1) | exact HB.out)⟩
                                      · replace c40 := Bool.eq_false_iff.mpr c40
                                        subst c40
                                        have H1 : (some false) = some r := by rw [if_neg (show ¬ (false = true) by decide)] at H; exact H
                                        clear H
                                        have H := H1
                                        clear H1
                                        obtain rfl := Option.some.inj H
                                        go_wp2_with (first | ((with_reducible refine gate_callee (f := 34) rfl ?_); refine goesL_ (some 151) rfl rfl Try.func34 (by kernel_rfl) rfl #[.slice Ao10 t641.length co10, .int .i64 0, .int .i64 (wrap64 ((t641.length : Int) - 1))] rfl (by (try simp only [List.map_toArray, List.map_cons, List.map_nil]); first | done | rfl | (simp only [List.length_drop, List.length_take]; rfl)) ?_; (with_reducible refine (impl_SeriesMean.calls k3 _ _ t641 0 (wrap64 ((t641.length : Int) - 1)) t663 t664 false _ ?side1 ?side2 A37.out).mono ?_); (case side1 => repeat (first | exact (Kd.R_reads' HO_3.out).2.2 | (with_reducible refine Kd.C_alloc ?_ _) | (with_reducible refine Kd.C_drewN ?_ _) | (with_reducible refine Kd.C_drew ?_))); (case side2 => exact (Kd.R_reads' HO_3.out).2.1); rintro e w62 ⟨rfl, hb⟩; refine ⟨_, rfl, ?_⟩; have n0_ := Aside0.mk (Kd.R_below (by (with_reducible repeat (first | apply Kd.R_alloc | apply Kd.R_drewN | apply Kd.R_drew)); exact HO_3.out) hb); have n1_ := Aside0.mk (Kd.R_below (by (with_reducible repeat (first | apply Kd.R_alloc | apply Kd.R_drewN | apply Kd.R_drew)); exact HO_19.out) hb); have n2_ := Aside0.mk (below_step (by repeat (first | (with_reducible first | exact HB.out | apply below_alloc | apply pw_below_drewN | apply below_drew1) | exact HB.out)) hb); clear HO_3; clear HO_19; clear HB; have HO_3 := n0_; have HO_19 := n1_; have HB := n2_; clear n0_ n1_ n2_; (try clear hb); (try clear hb2); (try clear hk); (try clear hi)))
                                        go_ret
                                        exact ⟨by first | rfl | (simp [errW_none, errW_some] <;> rfl) | (simp [*, errW_none, errW_some] <;> rfl), by repeat (first | (with_reducible first | exact HB.out | apply below_alloc | apply pw_below_drewN | apply below_drew1) | exact HB.out)⟩
                                    · replace c39 := Bool.eq_false_iff.mpr c39
                                      subst c39
                                      have H1 : (some false) = some r := by rw [if_neg (show ¬ (false = true) by decide)] at H; exact H
                                      clear H
                                      have H := H1
                                      clear H1
                                      obtain rfl := Option.some.inj H
                                      go_wp2_with (first | ((with_reducible refine gate_callee (f := 34) rfl ?_); refine goesL_ (some 151) rfl rfl Try.func34 (by kernel_rfl) rfl #[.slice Ao10 t641.length co10, .int .i64 0, .int .i64 (wrap64 ((t641.length : Int) - 1))] rfl (by (try simp only [List.map_toArray, List.map_cons, List.map_nil]); first | done | rfl | (simp only [List.length_drop, List.length_take]; rfl)) ?_; (with_reducible refine (impl_SeriesMean.calls k3 _ _ t641 0 (wrap64 ((t641.length : Int) - 1)) t663 t664 t665 _ ?side1 ?side2 A37.out).mono ?_); (case side1 => repeat (first | exact (Kd.R_reads' HO_3.out).2.2 | (with_reducible refine Kd.C_alloc ?_ _) | (with_reducible refine Kd.C_drewN ?_ _) | (with_reducible refine Kd.C_drew ?_))); (case side2 => exact (Kd.R_reads' HO_3.out).2.1); rintro e w63 ⟨rfl, hb⟩; refine ⟨_, rfl, ?_⟩; have n0_ := Aside0.mk (Kd.R_below (by (with_reducible repeat (first | apply Kd.R_alloc | apply Kd.R_drewN | apply Kd.R_drew)); exact HO_3.out) hb); have n1_ := Aside0.mk (Kd.R_below (by (with_reducible repeat (first | apply Kd.R_alloc | apply Kd.R_drewN | apply Kd.R_drew)); exact HO_19.out) hb); have n2_ := Aside0.mk (below_step (by repeat (first | (with_reducible first | exact HB.out | apply below_alloc | apply pw_below_drewN | apply below_drew1) | exact HB.out)) hb); clear HO_3; clear HO_19; clear HB; have HO_3 := n0_; have HO_19 := n1_; have HB := n2_; clear n0_ n1_ n2_; (try clear hb); (try clear hb2); (try clear hk); (try clear hi)))
                                      go_ret
                                      exact ⟨by first | rfl | (simp [errW_none, errW_some] <;> rfl) | (simp [*, errW_none, errW_some] <;> rfl), by repeat (first | (with_reducible first | exact HB.out | apply below_alloc | apply pw_below_drewN | apply below_drew1) | exact HB.out)⟩
                                  · replace c38 := Bool.eq_false_iff.mpr c38
                                    subst c38
                                    have H1 : (some false) = some r := by rw [if_neg (show ¬ (false = true) by decide)] at H; exact H
                                    clear H
                                    have H := H1
                                    clear H1
                                    obtain rfl := Option.some.inj H
                                    go_wp2_with (first | ((with_reducible refine gate_callee (f := 34) rfl ?_); refine goesL_ (some 151) rfl rfl Try.func34 (by kernel_rfl) rfl #[.slice Ao10 t641.length co10, .int .i64 0, .int .i64 (wrap64 ((t641.length : Int) - 1))] rfl (by (try simp only [List.map_toArray, List.map_cons, List.map_nil]); first | done | rfl | (simp only [List.length_drop, List.length_take]; rfl)) ?_; (with_reducible refine (impl_SeriesMean.calls k3 _ _ t641 0 (wrap64 ((t641.length : Int) - 1)) t663 t664 t665 _ ?side1 ?side2 A37.out).mono ?_); (case side1 => repeat (first | exact (Kd.R_reads' HO_3.out).2.2 | (with_reducible refine Kd.C_alloc ?_ _) | (with_reducible refine Kd.C_drewN ?_ _) | (with_reducible refine Kd.C_drew ?_))); (case side2 => exact (Kd.R_reads' HO_3.out).2.1); rintro e w64 ⟨rfl, hb⟩; refine ⟨_, rfl, ?_⟩; have n0_ := Aside0.mk (Kd.R_below (by (with_reducible repeat (first | apply Kd.R_alloc | apply Kd.R_drewN | apply Kd.R_drew)); exact HO_3.out) hb); have n1_ := Aside0.mk (Kd.R_below (by (with_reducible repeat (first | apply Kd.R_alloc | apply Kd.R_drewN | apply Kd.R_drew)); exact HO_19.out) hb); have n2_ := Aside0.mk (below_step (by repeat (first | (with_reducible first | exact HB.out | apply below_alloc | apply pw_below_drewN | apply below_drew1) | exact HB.out)) hb); clear HO_3; clear HO_19; clear HB; have HO_3 := n0_; have HO_19 := n1_; have HB := n2_; clear n0_ n1_ n2_; (try clear hb); (try clear hb2); (try clear hk); (try clear hi)))
                                    go_ret
                                    exact ⟨by first | rfl | (simp [errW_none, errW_some] <;> rfl) | (simp [*, errW_none, errW_some] <;> rfl), by repeat (first | (with_reducible first | exact HB.out | apply below_alloc | apply pw_below_drewN | apply below_drew1) | exact HB.out)⟩
                        · replace c22 := Bool.eq_false_iff.mpr c22
                          subst c22
                          have H1 : (laws_FnSeries.j3 kj17 l0) = some r := by rw [if_neg (show ¬ (false = true) by decide)] at H; exact H
                          clear H
                          have H := H1
                          clear H1
                          have H' := Aside0.mk H
                          clear H
                          go_wp2
                          go_meet
                          case rel => exact ⟨_, H', ⟨by have := HJ7.out; have := HJ17.out; first | omega | exact Nat.le_refl _⟩, ⟨by repeat (first | (with_reducible first | exact HB.out | apply below_alloc | apply pw_below_drewN | apply below_drew1) | exact HB.out)⟩⟩
                    case rest =>
                      as_aux_lemma =>
                        clear HC21
                        try clear c1
                        try clear c2
                        try clear p2
                        try clear c3
                        try clear c4
                        try clear c5
                        try clear p6
                        try clear q6
                        try clear hx6
                        try clear c13
                        try clear c13b0
                        try clear c13b1
                        try clear c14
                        try clear c14b0
                        try clear c14b1
                        try clear c15
                        try clear c15b0
                        try clear c15b1
                        try clear c15b2
                        try clear c16
                        try clear c19
                        try clear c19b0
                        try clear c19b1
                        try clear c20
                        try clear c22
                        try clear c26
                        try clear c27
                        try clear c27b0
                        try clear c28
                        try clear c28b0
                        try clear c29
                        try clear c29b0
                        try clear c29b1
                        try clear c30
                        try clear c31
                        try clear c32
                        try clear c32b0
                        try clear c32b1
                        try clear c33
                        try clear c33b0
                        try clear c33b1
                        try clear c34
                        try clear c36
                        try clear c38
                        try clear c39
                        try clear c40
                        try clear c41
                        try clear c41b0
                        try clear c41b1
                        try clear c42
                        try clear c42b0
                        try clear c42b1
                        try clear c43
                        try clear c43b0
                        try clear c43b1
                        try clear c43b2
                        try clear c45
                        try clear c47
                        try clear c47b0
                        try clear c48
                        try clear c48b0
                        try clear c49
                        try clear c49b0
                        try clear c49b1
                        try clear c50
                        try clear c50b0
                        try clear c53
                        try clear c53b0
                        try clear p64
                        try clear hx666_0
                        try clear hx667_0
                        try clear p2
                        try clear p666
                        try clear p667
                        try clear q666
                        try clear q667
                        obtain ⟨kq, HA, HJ20, HB⟩ := hcut
                        cases kq with
                        | zero => exact absurd HA.out (by simp [laws_FnSeries.j3])
                        | succ kj20 =>
                          have H := HA.out
                          clear HA
                          simp only [laws_FnSeries.j3] at H
                          replace H := Option.bind_eq_some_iff.mp H
                          obtain ⟨⟨t671, t672, t673⟩, A650, H⟩ := H
                          replace H : ((impl_SeriesMean.f kj20 t671 t672 t673).bind fun bt676 => ((spec_SeriesMean.f kj20 t671 t672 t673).bind fun bt679 => (if bt676.1 = bt679.1 then (if bt676.2.1 = bt679.2.1 then (laws_FnSeries.j4 kj20 l0 (bt676.2.2 != bt679.2.2)) else (laws_FnSeries.j4 kj20 l0 true)) else (laws_FnSeries.j4 kj20 l0 true)))) = some r := H
                          have A65 := Aside0.mk A650
                          clear A650
                          replace H := Option.bind_eq_some_iff.mp H
                          obtain ⟨⟨t676, t677, t678⟩, A660, H⟩ := H
                          replace H : ((spec_SeriesMean.f kj20 t671 t672 t673).bind fun bt679 => (if t676 = bt679.1 then (if t677 = bt679.2.1 then (laws_FnSeries.j4 kj20 l0 (t678 != bt679.2.2)) else (laws_FnSeries.j4 kj20 l0 true)) else (laws_FnSeries.j4 kj20 l0 true))) = some r := H
                          have A66 := Aside0.mk A660
                          clear A660
                          replace H := Option.bind_eq_some_iff.mp H
                          obtain ⟨⟨t679, t680, t681⟩, A670, H⟩ := H
                          replace H : (if t676 = t679 then (if t677 = t680 then (laws_FnSeries.j4 kj20 l0 (t678 != t681)) else (laws_FnSeries.j4 kj20 l0 true)) else (laws_FnSeries.j4 kj20 l0 true)) = some r := H
                          have A67 := Aside0.mk A670
                          clear A670
                          have HC68 := Aside0.mk H
                          clear H
                          go_upto_region 30 with (first | ((with_reducible refine gate_callee (f := 46) rfl ?_); refine goesL_ (some 204) rfl rfl Try.func46 (by kernel_rfl) rfl #[.slice A0 l0.length c0] rfl (by (try simp only [List.map_toArray, List.map_cons, List.map_nil]); first | done | rfl | (simp only [List.length_drop, List.length_take]; rfl)) ?_; (with_reducible refine (spec_DrawSeriesMean.calls kj20 _ _ l0 t671 t672 t673 _ ?side1 ?side2 A65.out).mono ?_); (case side1 => repeat (first | exact (Kd.C_below HR0.out HB.out) | (with_reducible refine Kd.C_alloc ?_ _) | (with_reducible refine Kd.C_drewN ?_ _) | (with_reducible refine Kd.C_drew ?_))); (case side2 => exact HC0.out); rintro e w69 ⟨v674, rfl, ho0, hb⟩; refine ⟨_, rfl, ?_⟩; have n0_ := Aside0.mk (Kd.R_lower ho0 (below_size (by repeat (first | (with_reducible first | exact HB.out | apply below_alloc | apply pw_below_drewN | apply below_drew1) | exact HB.out)))); have n1_ := Aside0.mk (below_step (by repeat (first | (with_reducible first | exact HB.out | apply below_alloc | apply pw_below_drewN | apply below_drew1) | exact HB.out)) hb); clear HB; have HO675 := n0_; have HB := n1_; clear n0_ n1_; (try clear hb); (try clear hb2); (try clear hk); (try clear hi); (try clear ho0); obtain ⟨Ao70, co70, eo70⟩ := Kd.R_slice HO675.out; subst eo70) | ((with_reducible refine gate_callee (f := 34) rfl ?_); refine goesL_ (some 212) rfl rfl Try.func34 (by kernel_rfl) rfl #[.slice Ao70 t671.length co70, .int .i64 t672, .int .i64 t673] rfl (by (try simp only [List.map_toArray, List.map_cons, List.map_nil]); first | done | rfl | (simp only [List.length_drop, List.length_take]; rfl)) ?_; (with_reducible refine (impl_SeriesMean.calls kj20 _ _ t671 t672 t673 t676 t677 t678 _ ?side1 ?side2 A66.out).mono ?_); (case side1 => repeat (first | exact (Kd.R_reads' HO675.out).2.2 | (with_reducible refine Kd.C_alloc ?_ _) | (with_reducible refine Kd.C_drewN ?_ _) | (with_reducible refine Kd.C_drew ?_))); (case side2 => exact (Kd.R_reads' HO675.out).2.1); rintro e w71 ⟨rfl, hb⟩; refine ⟨_, rfl, ?_⟩; have n0_ := Aside0.mk (Kd.R_below (by (with_reducible repeat (first | apply Kd.R_alloc | apply Kd.R_drewN | apply Kd.R_drew)); exact HO675.out) hb); have n1_ := Aside0.mk (below_step (by repeat (first | (with_reducible first | exact HB.out | apply below_alloc | apply pw_below_drewN | apply below_drew1) | exact HB.out)) hb); clear HO675; clear HB; have HO675 := n0_; have HB := n1_; clear n0_ n1_; (try clear hb); (try clear hb2); (try clear hk); (try clear hi)) | ((with_reducible refine gate_callee (f := 33) rfl ?_); refine goesL_ (some 220) rfl rfl Try.func33 (by kernel_rfl) rfl #[.slice Ao70 t671.length co70, .int .i64 t672, .int .i64 t673] rfl (by (try simp only [List.map_toArray, List.map_cons, List.map_nil]); first | done | rfl | (simp only [List.length_drop, List.length_take]; rfl)) ?_; (with_reducible refine (spec_SeriesMean.calls kj20 _ _ t671 t672 t673 t679 t680 t681 _ ?side1 ?side2 A67.out).mono ?_); (case side1 => repeat (first | exact (Kd.R_reads' HO675.out).2.2 | (with_reducible refine Kd.C_alloc ?_ _) | (with_reducible refine Kd.C_drewN ?_ _) | (with_reducible refine Kd.C_drew ?_))); (case side2 => exact (Kd.R_reads' HO675.out).2.1); rintro e w' ⟨rfl, ⟨nd, rfl⟩⟩; refine ⟨_, rfl, ?_⟩))
                          (try simp only [Act.put, List.setIfInBounds_toArray, List.set_cons_zero, List.set_cons_succ])
                          go_cut [236] (fun v236 wc => ∃ (kq : Nat) (x236_67 : Bool), v236 = .bool x236_67 ∧ Aside0 (laws_FnSeries.j4 kq l0 x236_67 = some r) ∧ Aside0 (kq ≤ kj20) ∧ Aside0 (Below w.heap.size w wc))
                          case first =>
                            as_aux_lemma =>
                              have H := HC68.out
                              clear HC68
                              by_cases c72 : t676 = t679
                              · rw [if_pos c72] at H
                                have c72b0 : (t676 == t679) = true := beq_iff_eq.mpr c72
                                have c72b1 : (t676 != t679) = false := bne_eq_false_iff_eq.mpr c72
                                clear c72
                                (first | rw [c72b0] | (simp only [i64_w, i32_w]; rw [c72b0]) | skip)
                                by_cases c73 : t677 = t680
                                · rw [if_pos c73] at H
                                  have c73b0 : (t677 == t680) = true := beq_iff_eq.mpr c73
                                  have c73b1 : (t677 != t680) = false := bne_eq_false_iff_eq.mpr c73
                                  clear c73
                                  have H' := Aside0.mk H
                                  clear H
                                  go_wp2
                                  go_meet
                                  case rel => exact ⟨_, ((t678 != t681)), (by first | rfl | (simp; done) | (simp [*]; done)), H', ⟨by have := HJ7.out; have := HJ17.out; have := HJ20.out; first | omega | exact Nat.le_refl _⟩, ⟨by repeat (first | (with_reducible first | exact HB.out | apply below_alloc | apply pw_below_drewN | apply below_drew1) | exact HB.out)⟩⟩
                                · rw [if_neg c73] at H
                                  have c73b0 : (t677 == t680) = false := beq_eq_false_iff_ne.mpr c73
                                  have c73b1 : (t677 != t680) = true := bne_iff_ne.mpr c73
                                  have H' := Aside0.mk H
                                  clear H
                                  go_wp2
                                  go_meet
                                  case rel => exact ⟨_, (true), (by first | rfl | (simp; done) | (simp [*]; done)), H', ⟨by have := HJ7.out; have := HJ17.out; have := HJ20.out; first | omega | exact Nat.le_refl _⟩, ⟨by repeat (first | (with_reducible first | exact HB.out | apply below_alloc | apply pw_below_drewN | apply below_drew1) | exact HB.out)⟩⟩
                              · rw [if_neg c72] at H
                                have c72b0 : (t676 == t679) = false := beq_eq_false_iff_ne.mpr c72
                                have c72b1 : (t676 != t679) = true := bne_iff_ne.mpr c72
                                (first | rw [c72b0] | (simp only [i64_w, i32_w]; rw [c72b0]) | skip)
                                have H' := Aside0.mk H
                                clear H
                                go_wp2
                                go_meet
                                case rel => exact ⟨_, (true), (by first | rfl | (simp; done) | (simp [*]; done)), H', ⟨by have := HJ7.out; have := HJ17.out; have := HJ20.out; first | omega | exact Nat.le_refl _⟩, ⟨by repeat (first | (with_reducible first | exact HB.out | apply below_alloc | apply pw_below_drewN | apply below_drew1) | exact HB.out)⟩⟩
                          case rest =>
                            as_aux_lemma =>
                              clear HC68
                              try clear c1
                              try clear c2
                              try clear p2
                              try clear c3
                              try clear c4
                              try clear c5
                              try clear p6
                              try clear q6
                              try clear hx6
                              try clear c7
                              try clear c13
                              try clear c13b0
                              try clear c13b1
                              try clear c14
                              try clear c14b0
                              try clear c14b1
                              try clear c15
                              try clear c15b0
                              try clear c15b1
                              try clear c15b2
                              try clear c16
                              try clear c19
                              try clear c19b0
                              try clear c19b1
                              try clear c20
                              try clear c22
                              try clear c26
                              try clear c27
                              try clear c27b0
                              try clear c28
                              try clear c28b0
                              try clear c29
                              try clear c29b0
                              try clear c29b1
                              try clear c30
                              try clear c31
                              try clear c32
                              try clear c32b0
                              try clear c32b1
                              try clear c33
                              try clear c33b0
                              try clear c33b1
                              try clear c34
                              try clear c36
                              try clear c38
                              try clear c39
                              try clear c40
                              try clear c41
                              try clear c41b0
                              try clear c41b1
                              try clear c42
                              try clear c42b0
                              try clear c42b1
                              try clear c43
                              try clear c43b0
                              try clear c43b1
                              try clear c43b2
                              try clear c45
                              try clear c46
                              try clear c47
                              try clear c47b0
                              try clear c48
                              try clear c48b0
                              try clear c49
                              try clear c49b0
                              try clear c49b1
                              try clear c50
                              try clear c50b0
                              try clear c53
                              try clear c53b0
                              try clear p64
                              try clear p66
                              try clear q66
                              try clear hx66
                              try clear c72
                              try clear c72b0
                              try clear c72b1
                              try clear c73
                              try clear c73b0
                              try clear c73b1
                              try clear hx666_0
                              try clear hx667_0
                              try clear p2
                              try clear p6
                              try clear p64
                              try clear p666
                              try clear p667
                              try clear q6
                              try clear q666
                              try clear q667
                              obtain ⟨kq, x236_67, rfl, HA, HJ67, HB⟩ := hcut
                              cases kq with
                              | zero => exact absurd HA.out (by simp [laws_FnSeries.j4])
                              | succ kj67 =>
                                have H := HA.out
                                clear HA
                                simp only [laws_FnSeries.j4] at H
                                by_cases c74 : x236_67 = true
                                · subst c74
                                  have H1 : (some false) = some r := by rw [if_pos rfl] at H; exact H
                                  clear H
                                  have H := H1
                                  clear H1
                                  obtain rfl := Option.some.inj H
                                  go_wp2
                                  go_ret
                                  exact ⟨by first | rfl | (simp [errW_none, errW_some] <;> rfl) | (simp [*, errW_none, errW_some] <;> rfl), by repeat (first | (with_reducible first | exact HB.out | apply below_alloc | apply pw_below_drewN | apply below_drew1) | exact HB.out)⟩
                                · replace c74 := Bool.eq_false_iff.mpr c74
                                  subst c74
                                  have H1 : ((spec_DrawRankOfDay.f kj67 l0).bind fun bt682 => ((impl_RankOfDay.f kj67 bt682.1 bt682.2).bind fun bt686 => ((spec_RankOfDay.f kj67 bt682.1 bt682.2).bind fun bt689 => (if bt686.1 = bt689.1 then (if bt686.2.1 = bt689.2.1 then (if (bt686.2.2 == bt689.2.2) = true then (if bt686.2.2 = true then (some (decide (bt686.1 ≤ bt686.2.1))) else (some true)) else (some false)) else (some false)) else (some false))))) = some r := by rw [if_neg (show ¬ (false = true) by decide)] at H; exact H
                                  clear H
                                  have H := H1
                                  clear H1
                                  replace H := Option.bind_eq_some_iff.mp H
                                  obtain ⟨⟨t682, t683⟩, A750, H⟩ := H
                                  replace H : ((impl_RankOfDay.f kj67 t682 t683).bind fun bt686 => ((spec_RankOfDay.f kj67 t682 t683).bind fun bt689 => (if bt686.1 = bt689.1 then (if bt686.2.1 = bt689.2.1 then (if (bt686.2.2 == bt689.2.2) = true then (if bt686.2.2 = true then (some (decide (bt686.1 ≤ bt686.2.1))) else (some true)) else (some false)) else (some false)) else (some false)))) = some r := H
                                  have A75 := Aside0.mk A750
                                  clear A750
                                  replace H := Option.bind_eq_some_iff.mp H
                                  obtain ⟨⟨t686, t687, t688⟩, A760, H⟩ := H
                                  replace H : ((spec_RankOfDay.f kj67 t682 t683).bind fun bt689 => (if t686 = bt689.1 then (if t687 = bt689.2.1 then (if (t688 == bt689.2.2) = true then (if t688 = true then (some (decide (t686 ≤ t687))) else (some true)) else (some false)) else (some false)) else (some false))) = some r := H
                                  have A76 := Aside0.mk A760
                                  clear A760
                                  replace H := Option.bind_eq_some_iff.mp H
                                  obtain ⟨⟨t689, t690, t691⟩, A770, H⟩ := H
                                  replace H : (if t686 = t689 then (if t687 = t690 then (if (t688 == t691) = true then (if t688 = true then (some (decide (t686 ≤ t687))) else (some true)) else (some false)) else (some false)) else (some false)) = some r := H
                                  have A77 := Aside0.mk A770
                                  clear A770
                                  by_cases c78 : t686 = t689
                                  · rw [if_pos c78] at H
                                    have c78b0 : (t686 == t689) = true := beq_iff_eq.mpr c78
                                    have c78b1 : (t686 != t689) = false := bne_eq_false_iff_eq.mpr c78
                                    clear c78
                                    by_cases c79 : t687 = t690
                                    · rw [if_pos c79] at H
                                      have c79b0 : (t687 == t690) = true := beq_iff_eq.mpr c79
                                      have c79b1 : (t687 != t690) = false := bne_eq_false_iff_eq.mpr c79
                                      clear c79
                                      by_cases c80 : (t688 == t691) = true
                                      · rw [if_pos c80] at H
                                        have c80b0 : (t688 == t691) = true := c80
                                        (try (have c80b1 : decide (t688 = t691) = true := by simpa using c80))
                                        (try (have c80b2 : (t688 == t691) = true := by simpa using c80))
                                        clear c80
                                        by_cases c81 : t688 = true
                                        · subst c81
                                          have H1 : (some (decide (t686 ≤ t687))) = some r := by rw [if_pos rfl] at H; exact H
                                          clear H
                                          have H := H1
                                          clear H1
                                          obtain rfl := Option.some.inj H
                                          go_wp2_with (first | ((with_reducible refine gate_callee (f := 47) rfl ?_); refine goesL_ (some 239) rfl rfl Try.func47 (by kernel_rfl) rfl #[.slice A0 l0.length c0] rfl (by (try simp only [List.map_toArray, List.map_cons, List.map_nil]); first | done | rfl | (simp only [List.length_drop, List.length_take]; rfl)) ?_; (with_reducible refine (spec_DrawRankOfDay.calls kj67 _ _ l0 t682 t683 _ ?side1 ?side2 A75.out).mono ?_); (case side1 => repeat (first | exact (Kd.C_below HR0.out HB.out) | (with_reducible refine Kd.C_alloc ?_ _) | (with_reducible refine Kd.C_drewN ?_ _) | (with_reducible refine Kd.C_drew ?_))); (case side2 => exact HC0.out); rintro e w82 ⟨v684, rfl, ho0, hb⟩; refine ⟨_, rfl, ?_⟩; have n0_ := Aside0.mk (Kd.R_lower ho0 (below_size (by repeat (first | (with_reducible first | exact HB.out | apply below_alloc | apply pw_below_drewN | apply below_drew1) | exact HB.out)))); have n1_ := Aside0.mk (below_step (by repeat (first | (with_reducible first | exact HB.out | apply below_alloc | apply pw_below_drewN | apply below_drew1) | exact HB.out)) hb); clear HB; have HO685 := n0_; have HB := n1_; clear n0_ n1_; (try clear hb); (try clear hb2); (try clear hk); (try clear hi); (try clear ho0); obtain ⟨Ao83, co83, eo83⟩ := Kd.R_slice HO685.out; subst eo83) | ((with_reducible refine gate_callee (f := 26) rfl ?_); refine goesL_ (some 245) rfl rfl Try.func26 (by kernel_rfl) rfl #[.slice Ao83 t682.length co83, .int .i64 t683] rfl (by (try simp only [List.map_toArray, List.map_cons, List.map_nil]); first | done | rfl | (simp only [List.length_drop, List.length_take]; rfl)) ?_; (with_reducible refine (impl_RankOfDay.calls kj67 _ _ t682 t683 t686 t687 true _ ?side1 ?side2 A76.out).mono ?_); (case side1 => repeat (first | exact (Kd.R_reads' HO685.out).2.2 | (with_reducible refine Kd.C_alloc ?_ _) | (with_reducible refine Kd.C_drewN ?_ _) | (with_reducible refine Kd.C_drew ?_))); (case side2 => exact (Kd.R_reads' HO685.out).2.1); rintro e w84 ⟨rfl, hb⟩; refine ⟨_, rfl, ?_⟩; have n0_ := Aside0.mk (Kd.R_below (by (with_reducible repeat (first | apply Kd.R_alloc | apply Kd.R_drewN | apply Kd.R_drew)); exact HO685.out) hb); have n1_ := Aside0.mk (below_step (by repeat (first | (with_reducible first | exact HB.out | apply below_alloc | apply pw_below_drewN | apply below_drew1) | exact HB.out)) hb); clear HO685; clear HB; have HO685 := n0_; have HB := n1_; clear n0_ n1_; (try clear hb); (try clear hb2); (try clear hk); (try clear hi)) | ((with_reducible refine gate_callee (f := 25) rfl ?_); refine goesL_ (some 252) rfl rfl Try.func25 (by kernel_rfl) rfl #[.slice Ao83 t682.length co83, .int .i64 t683] rfl (by (try simp only [List.map_toArray, List.map_cons, List.map_nil]); first | done | rfl | (simp only [List.length_drop, List.length_take]; rfl)) ?_; (with_reducible refine (spec_RankOfDay.calls kj67 _ _ t682 t683 t689 t690 t691 _ ?side1 ?side2 A77.out).mono ?_); (case side1 => repeat (first | exact (Kd.R_reads' HO685.out).2.2 | (with_reducible refine Kd.C_alloc ?_ _) | (with_reducible refine Kd.C_drewN ?_ _) | (with_reducible refine Kd.C_drew ?_))); (case side2 => exact (Kd.R_reads' HO685.out).2.1); rintro e w' ⟨rfl, ⟨nd, rfl⟩⟩; refine ⟨_, rfl, ?_⟩))
                                          go_ret
                                          exact ⟨by first | rfl | (simp [errW_none, errW_some] <;> rfl) | (simp [*, errW_none, errW_some] <;> rfl), by repeat (first | (with_reducible first | exact HB.out | apply below_alloc | apply pw_below_drewN | apply below_drew1) | exact HB.out)⟩
                                        · replace c81 := Bool.eq_false_iff.mpr c81
                                          subst c81
                                          have H1 : (some true) = some r := by rw [if_neg (show ¬ (false = true) by decide)] at H; exact H
                                          clear H
                                          have H := H1
                                          clear H1
                                          obtain rfl := Option.some.inj H
                                          go_wp2_with (first | ((with_reducible refine gate_callee (f := 47) rfl ?_); refine goesL_ (some 239) rfl rfl Try.func47 (by kernel_rfl) rfl #[.slice A0 l0.length c0] rfl (by (try simp only [List.map_toArray, List.map_cons, List.map_nil]); first | done | rfl | (simp only [List.length_drop, List.length_take]; rfl)) ?_; (with_reducible refine (spec_DrawRankOfDay.calls kj67 _ _ l0 t682 t683 _ ?side1 ?side2 A75.out).mono ?_); (case side1 => repeat (first | exact (Kd.C_below HR0.out HB.out) | (with_reducible refine Kd.C_alloc ?_ _) | (with_reducible refine Kd.C_drewN ?_ _) | (with_reducible refine Kd.C_drew ?_))); (case side2 => exact HC0.out); rintro e w85 ⟨v684, rfl, ho0, hb⟩; refine ⟨_, rfl, ?_⟩; have n0_ := Aside0.mk (Kd.R_lower ho0 (below_size (by repeat (first | (with_reducible first | exact HB.out | apply below_alloc | apply pw_below_drewN | apply below_drew1) | exact HB.out)))); have n1_ := Aside0.mk (below_step (by repeat (first | (with_reducible first | exact HB.out | apply below_alloc | apply pw_below_drewN | apply below_drew1) | exact HB.out)) hb); clear HB; have HO685 := n0_; have HB := n1_; clear n0_ n1_; (try clear hb); (try clear hb2); (try clear hk); (try clear hi); (try clear ho0); obtain ⟨Ao86, co86, eo86⟩ := Kd.R_slice HO685.out; subst eo86) | ((with_reducible refine gate_callee (f := 26) rfl ?_); refine goesL_ (some 245) rfl rfl Try.func26 (by kernel_rfl) rfl #[.slice Ao86 t682.length co86, .int .i64 t683] rfl (by (try simp only [List.map_toArray, List.map_cons, List.map_nil]); first | done | rfl | (simp only [List.length_drop, List.length_take]; rfl)) ?_; (with_reducible refine (impl_RankOfDay.calls kj67 _ _ t682 t683 t686 t687 false _ ?side1 ?side2 A76.out).mono ?_); (case side1 => repeat (first | exact (Kd.R_reads' HO685.out).2.2 | (with_reducible refine Kd.C_alloc ?_ _) | (with_reducible refine Kd.C_drewN ?_ _) | (with_reducible refine Kd.C_drew ?_))); (case side2 => exact (Kd.R_reads' HO685.out).2.1); rintro e w87 ⟨rfl, hb⟩; refine ⟨_, rfl, ?_⟩; have n0_ := Aside0.mk (Kd.R_below (by (with_reducible repeat (first | apply Kd.R_alloc | apply Kd.R_drewN | apply Kd.R_drew)); exact HO685.out) hb); have n1_ := Aside0.mk (below_step (by repeat (first | (with_reducible first | exact HB.out | apply below_alloc | apply pw_below_drewN | apply below_drew1) | exact HB.out)) hb); clear HO685; clear HB; have HO685 := n0_; have HB := n1_; clear n0_ n1_; (try clear hb); (try clear hb2); (try clear hk); (try clear hi)) | ((with_reducible refine gate_callee (f := 25) rfl ?_); refine goesL_ (some 252) rfl rfl Try.func25 (by kernel_rfl) rfl #[.slice Ao86 t682.length co86, .int .i64 t683] rfl (by (try simp only [List.map_toArray, List.map_cons, List.map_nil]); first | done | rfl | (simp only [List.length_drop, List.length_take]; rfl)) ?_; (with_reducible refine (spec_RankOfDay.calls kj67 _ _ t682 t683 t689 t690 t691 _ ?side1 ?side2 A77.out).mono ?_); (case side1 => repeat (first | exact (Kd.R_reads' HO685.out).2.2 | (with_reducible refine Kd.C_alloc ?_ _) | (with_reducible refine Kd.C_drewN ?_ _) | (with_reducible refine Kd.C_drew ?_))); (case side2 => exact (Kd.R_reads' HO685.out).2.1); rintro e w' ⟨rfl, ⟨nd, rfl⟩⟩; refine ⟨_, rfl, ?_⟩))
                                          go_ret
                                          exact ⟨by first | rfl | (simp [errW_none, errW_some] <;> rfl) | (simp [*, errW_none, errW_some] <;> rfl), by repeat (first | (with_reducible first | exact HB.out | apply below_alloc | apply pw_below_drewN | apply below_drew1) | exact HB.out)⟩
                                      · rw [if_neg c80] at H
                                        have c80b0 : (t688 == t691) = false := by simpa using c80
                                        (try (have c80b1 : decide (t688 = t691) = false := by simpa using c80))
                                        (try (have c80b2 : (t688 == t691) = false := by simpa using c80))
                                        (try (have c80b3 : ¬ (t688 = t691) := by simpa using c80))
                                        clear c80
                                        obtain rfl := Option.some.inj H
                                        go_wp2_with (first | ((with_reducible refine gate_callee (f := 47) rfl ?_); refine goesL_ (some 239) rfl rfl Try.func47 (by kernel_rfl) rfl #[.slice A0 l0.length c0] rfl (by (try simp only [List.map_toArray, List.map_cons, List.map_nil]); first | done | rfl | (simp only [List.length_drop, List.length_take]; rfl)) ?_; (with_reducible refine (spec_DrawRankOfDay.calls kj67 _ _ l0 t682 t683 _ ?side1 ?side2 A75.out).mono ?_); (case side1 => repeat (first | exact (Kd.C_below HR0.out HB.out) | (with_reducible refine Kd.C_alloc ?_ _) | (with_reducible refine Kd.C_drewN ?_ _) | (with_reducible refine Kd.C_drew ?_))); (case side2 => exact HC0.out); rintro e w88 ⟨v684, rfl, ho0, hb⟩; refine ⟨_, rfl, ?_⟩; have n0_ := Aside0.mk (Kd.R_lower ho0 (below_size (by repeat (first | (with_reducible first | exact HB.out | apply below_alloc | apply pw_below_drewN | apply below_drew1) | exact HB.out)))); have n1_ := Aside0.mk (below_step (by repeat (first | (with_reducible first | exact HB.out | apply below_alloc | apply pw_below_drewN | apply below_drew1) | exact HB.out)) hb); clear HB; have HO685 := n0_; have HB := n1_; clear n0_ n1_; (try clear hb); (try clear hb2); (try clear hk); (try clear hi); (try clear ho0); obtain ⟨Ao89, co89, eo89⟩ := Kd.R_slice HO685.out; subst eo89) | ((with_reducible refine gate_callee (f := 26) rfl ?_); refine goesL_ (some 245) rfl rfl Try.func26 (by kernel_rfl) rfl #[.slice Ao89 t682.length co89, .int .i64 t683] rfl (by (try simp only [List.map_toArray, List.map_cons, List.map_nil]); first | done | rfl | (simp only [List.length_drop, List.length_take]; rfl)) ?_; (with_reducible refine (impl_RankOfDay.calls kj67 _ _ t682 t683 t686 t687 t688 _ ?side1 ?side2 A76.out).mono ?_); (case side1 => repeat (first | exact (Kd.R_reads' HO685.out).2.2 | (with_reducible refine Kd.C_alloc ?_ _) | (with_reducible refine Kd.C_drewN ?_ _) | (with_reducible refine Kd.C_drew ?_))); (case side2 => exact (Kd.R_reads' HO685.out).2.1); rintro e w90 ⟨rfl, hb⟩; refine ⟨_, rfl, ?_⟩; have n0_ := Aside0.mk (Kd.R_below (by (with_reducible repeat (first | apply Kd.R_alloc | apply Kd.R_drewN | apply Kd.R_drew)); exact HO685.out) hb); have n1_ := Aside0.mk (below_step (by repeat (first | (with_reducible first | exact HB.out | apply below_alloc | apply pw_below_drewN | apply below_drew1) | exact HB.out)) hb); clear HO685; clear HB; have HO685 := n0_; have HB := n1_; clear n0_ n1_; (try clear hb); (try clear hb2); (try clear hk); (try clear hi)) | ((with_reducible refine gate_callee (f := 25) rfl ?_); refine goesL_ (some 252) rfl rfl Try.func25 (by kernel_rfl) rfl #[.slice Ao89 t682.length co89, .int .i64 t683] rfl (by (try simp only [List.map_toArray, List.map_cons, List.map_nil]); first | done | rfl | (simp only [List.length_drop, List.length_take]; rfl)) ?_; (with_reducible refine (spec_RankOfDay.calls kj67 _ _ t682 t683 t689 t690 t691 _ ?side1 ?side2 A77.out).mono ?_); (case side1 => repeat (first | exact (Kd.R_reads' HO685.out).2.2 | (with_reducible refine Kd.C_alloc ?_ _) | (with_reducible refine Kd.C_drewN ?_ _) | (with_reducible refine Kd.C_drew ?_))); (case side2 => exact (Kd.R_reads' HO685.out).2.1); rintro e w' ⟨rfl, ⟨nd, rfl⟩⟩; refine ⟨_, rfl, ?_⟩))
                                        go_ret
                                        exact ⟨by first | rfl | (simp [errW_none, errW_some] <;> rfl) | (simp [*, errW_none, errW_some] <;> rfl), by repeat (first | (with_reducible first | exact HB.out | apply below_alloc | apply pw_below_drewN | apply below_drew1) | exact HB.out)⟩
                                    · rw [if_neg c79] at H
                                      have c79b0 : (t687 == t690) = false := beq_eq_false_iff_ne.mpr c79
                                      have c79b1 : (t687 != t690) = true := bne_iff_ne.mpr c79
                                      obtain rfl := Option.some.inj H
                                      go_wp2_with (first | ((with_reducible refine gate_callee (f := 47) rfl ?_); refine goesL_ (some 239) rfl rfl Try.func47 (by kernel_rfl) rfl #[.slice A0 l0.length c0] rfl (by (try simp only [List.map_toArray, List.map_cons, List.map_nil]); first | done | rfl | (simp only [List.length_drop, List.length_take]; rfl)) ?_; (with_reducible refine (spec_DrawRankOfDay.calls kj67 _ _ l0 t682 t683 _ ?side1 ?side2 A75.out).mono ?_); (case side1 => repeat (first | exact (Kd.C_below HR0.out HB.out) | (with_reducible refine Kd.C_alloc ?_ _) | (with_reducible refine Kd.C_drewN ?_ _) | (with_reducible refine Kd.C_drew ?_))); (case side2 => exact HC0.out); rintro e w91 ⟨v684, rfl, ho0, hb⟩; refine ⟨_, rfl, ?_⟩; have n0_ := Aside0.mk (Kd.R_lower ho0 (below_size (by repeat (first | (with_reducible first | exact HB.out | apply below_alloc | apply pw_below_drewN | apply below_drew1) | exact HB.out)))); have n1_ := Aside0.mk (below_step (by repeat (first | (with_reducible first | exact HB.out | apply below_alloc | apply pw_below_drewN | apply below_drew1) | exact HB.out)) hb); clear HB; have HO685 := n0_; have HB := n1_; clear n0_ n1_; (try clear hb); (try clear hb2); (try clear hk); (try clear hi); (try clear ho0); obtain ⟨Ao92, co92, eo92⟩ := Kd.R_slice HO685.out; subst eo92) | ((with_reducible refine gate_callee (f := 26) rfl ?_); refine goesL_ (some 245) rfl rfl Try.func26 (by kernel_rfl) rfl #[.slice Ao92 t682.length co92, .int .i64 t683] rfl (by (try simp only [List.map_toArray, List.map_cons, List.map_nil]); first | done | rfl | (simp only [List.length_drop, List.length_take]; rfl)) ?_; (with_reducible refine (impl_RankOfDay.calls kj67 _ _ t682 t683 t686 t687 t688 _ ?side1 ?side2 A76.out).mono ?_); (case side1 => repeat (first | exact (Kd.R_reads' HO685.out).2.2 | (with_reducible refine Kd.C_alloc ?_ _) | (with_reducible refine Kd.C_drewN ?_ _) | (with_reducible refine Kd.C_drew ?_))); (case side2 => exact (Kd.R_reads' HO685.out).2.1); rintro e w93 ⟨rfl, hb⟩; refine ⟨_, rfl, ?_⟩; have n0_ := Aside0.mk (Kd.R_below (by (with_reducible repeat (first | apply Kd.R_alloc | apply Kd.R_drewN | apply Kd.R_drew)); exact HO685.out) hb); have n1_ := Aside0.mk (below_step (by repeat (first | (with_reducible first | exact HB.out | apply below_alloc | apply pw_below_drewN | apply below_drew1) | exact HB.out)) hb); clear HO685; clear HB; have HO685 := n0_; have HB := n1_; clear n0_ n1_; (try clear hb); (try clear hb2); (try clear hk); (try clear hi)) | ((with_reducible refine gate_callee (f := 25) rfl ?_); refine goesL_ (some 252) rfl rfl Try.func25 (by kernel_rfl) rfl #[.slice Ao92 t682.length co92, .int .i64 t683] rfl (by (try simp only [List.map_toArray, List.map_cons, List.map_nil]); first | done | rfl | (simp only [List.length_drop, List.length_take]; rfl)) ?_; (with_reducible refine (spec_RankOfDay.calls kj67 _ _ t682 t683 t689 t690 t691 _ ?side1 ?side2 A77.out).mono ?_); (case side1 => repeat (first | exact (Kd.R_reads' HO685.out).2.2 | (with_reducible refine Kd.C_alloc ?_ _) | (with_reducible refine Kd.C_drewN ?_ _) | (with_reducible refine Kd.C_drew ?_))); (case side2 => exact (Kd.R_reads' HO685.out).2.1); rintro e w' ⟨rfl, ⟨nd, rfl⟩⟩; refine ⟨_, rfl, ?_⟩))
                                      go_ret
                                      exact ⟨by first | rfl | (simp [errW_none, errW_some] <;> rfl) | (simp [*, errW_none, errW_some] <;> rfl), by repeat (first | (with_reducible first | exact HB.out | apply below_alloc | apply pw_below_drewN | apply below_drew1) | exact HB.out)⟩
                                  · rw [if_neg c78] at H
                                    have c78b0 : (t686 == t689) = false := beq_eq_false_iff_ne.mpr c78
                                    have c78b1 : (t686 != t689) = true := bne_iff_ne.mpr c78
                                    obtain rfl := Option.some.inj H
                                    go_wp2_with (first | ((with_reducible refine gate_callee (f := 47) rfl ?_); refine goesL_ (some 239) rfl rfl Try.func47 (by kernel_rfl) rfl #[.slice A0 l0.length c0] rfl (by (try simp only [List.map_toArray, List.map_cons, List.map_nil]); first | done | rfl | (simp only [List.length_drop, List.length_take]; rfl)) ?_; (with_reducible refine (spec_DrawRankOfDay.calls kj67 _ _ l0 t682 t683 _ ?side1 ?side2 A75.out).mono ?_); (case side1 => repeat (first | exact (Kd.C_below HR0.out HB.out) | (with_reducible refine Kd.C_alloc ?_ _) | (with_reducible refine Kd.C_drewN ?_ _) | (with_reducible refine Kd.C_drew ?_))); (case side2 => exact HC0.out); rintro e w94 ⟨v684, rfl, ho0, hb⟩; refine ⟨_, rfl, ?_⟩; have n0_ := Aside0.mk (Kd.R_lower ho0 (below_size (by repeat (first | (with_reducible first | exact HB.out | apply below_alloc | apply pw_below_drewN | apply below_drew1) | exact HB.out)))); have n1_ := Aside0.mk (below_step (by repeat (first | (with_reducible first | exact HB.out | apply below_alloc | apply pw_below_drewN | apply below_drew1) | exact HB.out)) hb); clear HB; have HO685 := n0_; have HB := n1_; clear n0_ n1_; (try clear hb); (try clear hb2); (try clear hk); (try clear hi); (try clear ho0); obtain ⟨Ao95, co95, eo95⟩ := Kd.R_slice HO685.out; subst eo95) | ((with_reducible refine gate_callee (f := 26) rfl ?_); refine goesL_ (some 245) rfl rfl Try.func26 (by kernel_rfl) rfl #[.slice Ao95 t682.length co95, .int .i64 t683] rfl (by (try simp only [List.map_toArray, List.map_cons, List.map_nil]); first | done | rfl | (simp only [List.length_drop, List.length_take]; rfl)) ?_; (with_reducible refine (impl_RankOfDay.calls kj67 _ _ t682 t683 t686 t687 t688 _ ?side1 ?side2 A76.out).mono ?_); (case side1 => repeat (first | exact (Kd.R_reads' HO685.out).2.2 | (with_reducible refine Kd.C_alloc ?_ _) | (with_reducible refine Kd.C_drewN ?_ _) | (with_reducible refine Kd.C_drew ?_))); (case side2 => exact (Kd.R_reads' HO685.out).2.1); rintro e w96 ⟨rfl, hb⟩; refine ⟨_, rfl, ?_⟩; have n0_ := Aside0.mk (Kd.R_below (by (with_reducible repeat (first | apply Kd.R_alloc | apply Kd.R_drewN | apply Kd.R_drew)); exact HO685.out) hb); have n1_ := Aside0.mk (below_step (by repeat (first | (with_reducible first | exact HB.out | apply below_alloc | apply pw_below_drewN | apply below_drew1) | exact HB.out)) hb); clear HO685; clear HB; have HO685 := n0_; have HB := n1_; clear n0_ n1_; (try clear hb); (try clear hb2); (try clear hk); (try clear hi)) | ((with_reducible refine gate_callee (f := 25) rfl ?_); refine goesL_ (some 252) rfl rfl Try.func25 (by kernel_rfl) rfl #[.slice Ao95 t682.length co95, .int .i64 t683] rfl (by (try simp only [List.map_toArray, List.map_cons, List.map_nil]); first | done | rfl | (simp only [List.length_drop, List.length_take]; rfl)) ?_; (with_reducible refine (spec_RankOfDay.calls kj67 _ _ t682 t683 t689 t690 t691 _ ?side1 ?side2 A77.out).mono ?_); (case side1 => repeat (first | exact (Kd.R_reads' HO685.out).2.2 | (with_reducible refine Kd.C_alloc ?_ _) | (with_reducible refine Kd.C_drewN ?_ _) | (with_reducible refine Kd.C_drew ?_))); (case side2 => exact (Kd.R_reads' HO685.out).2.1); rintro e w' ⟨rfl, ⟨nd, rfl⟩⟩; refine ⟨_, rfl, ?_⟩))
                                    go_ret
                                    exact ⟨by first | rfl | (simp [errW_none, errW_some] <;> rfl) | (simp [*, errW_none, errW_some] <;> rfl), by repeat (first | (with_reducible first | exact HB.out | apply below_alloc | apply pw_below_drewN | apply below_drew1) | exact HB.out)⟩

/-- THE ONE PURE STATEMENT of laws_FnSeries: yours. -/
def laws_FnSeries.Pure : Prop := ∀ (l0 : List Int), l0.length ≤ maxLen → l0.length * 1 ≤ 140737488351232 → (∀ x ∈ l0, (Lit.int .u8 x).wf = true) → ∃ k, laws_FnSeries.f k l0 = some true
theorem laws_FnSeries.walk (P : laws_FnSeries.Pure) (a0 : Option Addr) (len0 cap0 : Nat) (z0 : List Int) (w : World) (w0 : (a0 = none ∧ len0 = 0 ∧ cap0 = 0 ∧ z0 = []) ∨ ∃ x, a0 = some x ∧ len0 ≤ cap0 ∧ cap0 ≤ maxLen ∧ z0.length = cap0 ∧ (∀ i, i < z0.length → w.cell? (x.add i) = some (.int .u8 (z0.getD i 0))) ∧ ∀ n ∈ z0, (Lit.int .u8 n).wf = true) (y0 : len0 * 1 ≤ 140737488351232) :
    Calls Try.prog 14 #[.slice a0 len0 cap0] w fun e w' => e = .returned (.bool true) ∧ Below w.heap.size w w' := by
  obtain ⟨l0, rfl, hr0, hm0, hw0, hc0⟩ := ReadsInt.ofRowC w0
  obtain ⟨k, h⟩ := P l0 hm0 y0 hw0
  refine (laws_FnSeries.calls k _ _ l0 true w (Kd.C_of_reads (d := (0 : Int)) (h1 := fun _ => rfl) hr0) hc0 h).mono ?_
  rintro e w' ⟨rfl, hd⟩
  exact ⟨rfl, hd⟩

end Go.Proofs.Ytdhdifoenladpaa.P
