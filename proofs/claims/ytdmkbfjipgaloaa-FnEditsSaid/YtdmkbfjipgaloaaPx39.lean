-- Made by pp.py of this session out of the kit's print and of contracts proved by hand; Lean checks it.
import Derived.Test.YtdmkbfjipgaloaaMc
import Derived.Test.YtdmkbfjipgaloaaPx0
import Derived.Test.YtdmkbfjipgaloaaPx16
import Derived.Test.YtdmkbfjipgaloaaPx18
import Derived.Test.YtdmkbfjipgaloaaPx21
import Derived.Test.YtdmkbfjipgaloaaPx29
namespace Go.Proofs.Ytdmkbfjipgaloaa.P
open Go.RowKit Go.Proofs.YtdmkbfjipgaloaaW.PrintWords Go.Proofs.YtdmkbfjipgaloaaW.PrintLast Go.Proofs.YtdmkbfjipgaloaaW.PrintMore
attribute [local go_sem] max2_int min2_int max_two min_two max_three min_three max_four min_four   -- for this text's walks alone
set_option linter.unusedVariables false
set_option linter.unusedSimpArgs false

/-! ### spec_l1Cur_regionOf: function 76 -/
def spec_l1Cur_regionOf.l0 : Nat → List Int → Int → List Int → Int → Int → Int → Int → List Int → Option (List Int × Int × Int)
 | 0, _, _, _, _, _, _, _, _ => none
 | k + 1, x5, x6, x1000, x1001, x1002, x1035000, x1035001, x1035002 => if x6 < (x1035002.length : Int) then ((spec_l1Cur_one.f x1000 x1001 x1002 3).bind fun bt1038 => (if bt1038.1 = true then (if x5.length < 17592186044416 then (spec_l1Cur_regionOf.l0 k (x5 ++ [x6]) (wrap64 (x6 + 1)) x1000 bt1038.2.1 bt1038.2.2 x1035000 x1035001 x1035002) else (none)) else (spec_l1Cur_regionOf.l0 k x5 (wrap64 (x6 + 1)) x1000 bt1038.2.1 bt1038.2.2 x1035000 x1035001 x1035002))) else ((spec_l1Cur_one.f x1000 x1001 x1002 16).bind fun bt1044 => (if bt1044.1 = true then ((spec_l1Cur_among.f x1000 bt1044.2.1 bt1044.2.2 (([64, 0, (-1)] : List Int))).bind fun bt1050 => (if x5.length < 17592186044416 then (some ((x5 ++ [bt1050.1]), bt1050.2.1, bt1050.2.2)) else (none))) else (some (x5, bt1044.2.1, bt1044.2.2))))
def spec_l1Cur_regionOf.f (k : Nat) (s0_0 : List Int) (s0_1 : Int) (s0_2 : Int) (a1_0 : Int) (a1_1 : Int) (l1_2 : List Int) : Option (List Int × Int × Int) := spec_l1Cur_regionOf.l0 k (([] : List Int)) 0 s0_0 s0_1 s0_2 a1_0 a1_1 l1_2
set_option maxHeartbeats 8000000 in
set_option maxRecDepth 100000 in
theorem spec_l1Cur_regionOf.calls (k : Nat) (g : Nat) (s0_0 : List Int) (s0_1 : Int) (s0_2 : Int) (a1_0 : Int) (a1_1 : Int) (A1_2 : Option Addr) (c1_2 : Nat) (l1_2 : List Int) (r1 : List Int) (r2 : Int) (r3 : Int) (w0 w : World) (hI : IsS61 w0 w g s0_0 s0_1 s0_2) (hB : Below w0.heap.size w0 w) (hr1_2 : Kd.C (Kd.int .i64) w A1_2 l1_2.length l1_2) (hc1_2 : l1_2.length ≤ c1_2) (hf1_2 : ∀ ad, A1_2 = some ad → 0 < l1_2.length → ad.block ≠ g) (h : spec_l1Cur_regionOf.f k s0_0 s0_1 s0_2 a1_0 a1_1 l1_2 = some (r1, r2, r3)) :
  Calls Try.prog 76 #[.pointer (some ⟨g, 0, none⟩), .agg #[.int .i64 a1_0, .int .i64 a1_1, .slice A1_2 l1_2.length c1_2]] w fun e w' => ∃ v0_ : Value, e = .returned (v0_) ∧ Kd.R (Kd.int .i64) 3 w' w.heap.size (fun _ => True) v0_ r1 ∧ IsS61 w0 w' g s0_0 r2 r3 ∧ Below w0.heap.size w0 w' ∧ KeepBut w w' g none := by
 have hu26 := Try.underlying26
 have HR1_2 := A_ hr1_2
 have HC1_2 := A_ hc1_2
 clear hr1_2 hc1_2
 have HI0 := A_ hI
 have HK := A_ (KeepBut.refl w g none)
 have HL := A_ hB.size
 clear hI
 have HW0 := A_ hB.size
 have HB := A_ hB
 clear hB
 have H : (spec_l1Cur_regionOf.l0 k (([] : List Int)) 0 s0_0 s0_1 s0_2 a1_0 a1_1 l1_2) = some (r1, r2, r3) := h
 clear h
 obtain ⟨y1035, hy1035⟩ : ∃ y_ : List Int, y_ = (([] : List Int)) := ⟨_, rfl⟩
 replace H : (spec_l1Cur_regionOf.l0 k y1035 0 s0_0 s0_1 s0_2 a1_0 a1_1 l1_2) = some (r1, r2, r3) := by first | (rw [hy1035]; with_reducible exact H) | (have H2_ := (Option.bind_some _ _).symm.trans H; rw [hy1035]; with_reducible exact H2_) | (have H2_ := (Option.bind_some _ _).symm.trans H; with_reducible exact H2_) | with_reducible exact H | (rw [hy1035]; exact H) | exact H
 have Ny1035 := A_ hy1035
 clear hy1035
 have H' := A_ H
 clear H
 go_enter Try.func76, Try.ntmps76
 go_wp2_with (first | ((with_reducible refine gd_ 3 rfl ?_); refine box_event rfl (N := 3) rfl (cs := #[.int .i64 a1_0, .int .i64 a1_1, .slice A1_2 l1_2.length c1_2]) (t := 26) mc353 ?_; intro gb1034 hg w3 hbox hb; replace HB := A_ (below_step mc202 hb); have BK1034 := A_ (hbox); have GW1034 := A_ ((mc145 : w.heap.size ≤ gb1034)); have GE1034 := A_ ((Nat.le_trans HW0.out (mc145 : w.heap.size ≤ gb1034) : w0.heap.size ≤ gb1034)); replace HK := A_ (KeepBut.trans mc245 (KeepBut.of_below hb g none) (.inl rfl)); have NB0_1034 := A_ ((mc100 : g ≠ gb1034)); have NB1034_0 := A_ ((mc101 : gb1034 ≠ g)); replace HI0 := A_ (IsS61.below mc207 hb); clear hb hbox hg) | ((with_reducible refine gd_ 7 rfl ?_); refine Kd.R_lit (Kd.int .i64) _ 3 ?hg (N := 7) ?hd (xs := ([] : List Int)) (inner := []) (ok := fun _ => True) (okp := fun _ => True) ?hr ?hp (fun _ hk => hk) trivial (Below.refl _ _) (Nat.le_refl _) (by simp) ?_; (case hd => rfl); (case hg => rfl); (case hr => exact mc353); (case hp => exact (Reps.none _ _)); intro v1036 w4 ho5 hb hg_ hnew_; clear hg_ hnew_; (first | rw [← Ny1035.out] at ho5 | (simp only [Int.reduceToNat] at ho5; rw [← Ny1035.out] at ho5)); have HO1037 := A_ (Kd.R_lower ho5 (keep_size (w := w) (g := g) (row := none) mc195)); replace BK1034 := A_ (blk_below mc251 hb); replace HK := A_ (KeepBut.trans mc195 (KeepBut.of_below hb g none) (.inl rfl)); replace HB := A_ (below_step mc151 hb); replace HI0 := A_ (IsS61.below mc149 hb); clear hb ho5))
 go_loopg [5, 6] k (fun kq v5 v6 w' => ∃ (x5_1 : List Int) (x6_1 : Int) (x1001_1 : Int) (x1002_1 : Int), v6 = .int .i64 x6_1 ∧ Aside0 (spec_l1Cur_regionOf.l0 kq x5_1 x6_1 s0_0 x1001_1 x1002_1 a1_0 a1_1 l1_2 = some (r1, r2, r3)) ∧ Aside0 (kq ≤ k) ∧ Aside0 (Kd.R (Kd.int .i64) 3 w' w.heap.size (fun _ => True) v5 x5_1) ∧ Aside0 (w'.heap[gb1034]? = some (.cells #[.int .i64 a1_0, .int .i64 a1_1, (.slice A1_2 l1_2.length c1_2)] 26 (0, 0))) ∧ Aside0 (IsS61 w0 w' g s0_0 x1001_1 x1002_1) ∧ Aside0 (KeepBut w w' g none) ∧ Aside0 (Below w0.heap.size w0 w'))
 case atStart => exact ⟨(y1035), (0), (s0_1), (s0_2), mc352, H', ⟨Nat.le_refl _⟩, ⟨by (with_reducible repeat (first | apply Kd.R_alloc | apply Kd.R_drewN | apply Kd.R_drew)); exact HO1037.out⟩, ⟨mc251⟩, ⟨mc149⟩, ⟨mc195⟩, ⟨mc151⟩⟩
 case round =>
  clear H'
  try clear p2
  obtain ⟨x5_1, x6_1, x1001_1, x1002_1, rfl, HA, HK1, HO_5, BK1034, HI0, HK, HB⟩ := hrel
  cases gk with
  | zero => exact absurd HA.out (by simp [spec_l1Cur_regionOf.l0])
  | succ k1 =>
   have H := HA.out
   clear HA
   simp only [spec_l1Cur_regionOf.l0] at H
   by_cases c6 : x6_1 < (l1_2.length : Int)
   ·
    rw [if_pos c6] at H
    have c6b0 : decide (x6_1 < (l1_2.length : Int)) = true := decide_eq_true c6
    clear c6
    obtain ⟨⟨t1038, t1039, t1040⟩, A70, H⟩ := oB_ H
    have A7 := A_ A70
    clear A70
    by_cases c8 : t1038 = true
    rotate_left
    ·
     replace c8 := Bool.eq_false_iff.mpr c8
     subst c8
     rw [if_neg (show ¬ (false = true) by decide)] at H
     have H' := A_ H
     clear H
     have hnb14 := NB1034_0.out
     have hnc14 := NB0_1034.out
     have hcz15_0 : wr.cell? ⟨gb1034, 0, none⟩ = some (.int .i64 a1_0) := bc_ BK1034 0 rfl
     have hcz15_1 : wr.cell? ⟨gb1034, 1, none⟩ = some (.int .i64 a1_1) := bc_ BK1034 1 rfl
     have hcz15_2 : wr.cell? ⟨gb1034, 2, none⟩ = some (.slice A1_2 l1_2.length c1_2) := bc_ BK1034 2 rfl
     have hfz15_0 := blk_frozen BK1034.out 0
     have hfz15_1 := blk_frozen BK1034.out 1
     have hfz15_2 := blk_frozen BK1034.out 2
     go_wp2_with (first | ((with_reducible refine gc_ 78 rfl ?_); refine goesL_ (some 16) rfl rfl Try.func78 kr_ rfl #[.pointer (some ⟨g, 0, none⟩), .int .i64 3] rfl mc247 ?_; (with_reducible refine (spec_l1Cur_one.calls g s0_0 x1001_1 x1002_1 3 false t1039 t1040 w0 _ ?side1 ?side2 A7.out).mono ?_); (case side1 => exact mc149); (case side2 => exact mc151); rintro e w16 ⟨rfl, hi, hb, hk⟩; refine ⟨_, rfl, ?_⟩; replace HO_5 := A_ (Kd.R_mono (Kd.R_keep (IsS61.apart (show IsS61 w0 _ g s0_0 x1001_1 x1002_1 from by repeat (first | (with_reducible first | exact HI0.out | apply IsS61.alloc | apply IsS61.drewN | apply IsS61.drew | apply IsS61.set_1 | apply IsS61.set_2 | refine IsS61.far ?_ NB0_1034.out _) | exact HI0.out)) mc329 (by decide)) hk (fun _ h => h.2)) (fun _ h => h.1)); replace BK1034 := A_ (KeepBut.blk hk (g' := gb1034) (o := .cells #[.int .i64 a1_0, .int .i64 a1_1, .slice A1_2 l1_2.length c1_2] 26 (0, 0)) mc251 NB1034_0.out (by simp)); replace HK := A_ (KeepBut.trans mc195 hk (.inl rfl)); replace HB := A_ (hb); replace HI0 := A_ (hi); (try clear hb)))
     go_roundg k1
     case measure => have := HK1.out; omega
     case rel => exact ⟨(x5_1), (wrap64 (x6_1 + 1)), (t1039), (t1040), mc352, H', ⟨mc356⟩, ⟨mc329⟩, ⟨mc251⟩, ⟨mc149⟩, ⟨mc195⟩, ⟨mc151⟩⟩
    subst c8
    rw [if_pos rfl] at H
    by_cases c9 : x5_1.length < 17592186044416
    rotate_left
    ·
     rw [if_neg c9] at H
     exact absurd H (by simp)
    rw [if_pos c9] at H
    have LMc9 := A_ c9
    clear c9
    obtain ⟨y1041, hy1041⟩ : ∃ y_ : List Int, y_ = (x5_1 ++ [x6_1]) := ⟨_, rfl⟩
    replace H : (spec_l1Cur_regionOf.l0 k1 y1041 (wrap64 (x6_1 + 1)) s0_0 t1039 t1040 a1_0 a1_1 l1_2) = some (r1, r2, r3) := by first | (rw [hy1041]; with_reducible exact H) | (have H2_ := (Option.bind_some _ _).symm.trans H; rw [hy1041]; with_reducible exact H2_) | (have H2_ := (Option.bind_some _ _).symm.trans H; with_reducible exact H2_) | with_reducible exact H | (rw [hy1041]; exact H) | exact H
    have Ny1041 := A_ hy1041
    clear hy1041
    have H' := A_ H
    clear H
    have hnb10 := NB1034_0.out
    have hnc10 := NB0_1034.out
    have hcz11_0 : wr.cell? ⟨gb1034, 0, none⟩ = some (.int .i64 a1_0) := bc_ BK1034 0 rfl
    have hcz11_1 : wr.cell? ⟨gb1034, 1, none⟩ = some (.int .i64 a1_1) := bc_ BK1034 1 rfl
    have hcz11_2 : wr.cell? ⟨gb1034, 2, none⟩ = some (.slice A1_2 l1_2.length c1_2) := bc_ BK1034 2 rfl
    have hfz11_0 := blk_frozen BK1034.out 0
    have hfz11_1 := blk_frozen BK1034.out 1
    have hfz11_2 := blk_frozen BK1034.out 2
    go_wp2_with (first | ((with_reducible refine gc_ 78 rfl ?_); refine goesL_ (some 16) rfl rfl Try.func78 kr_ rfl #[.pointer (some ⟨g, 0, none⟩), .int .i64 3] rfl mc247 ?_; (with_reducible refine (spec_l1Cur_one.calls g s0_0 x1001_1 x1002_1 3 true t1039 t1040 w0 _ ?side1 ?side2 A7.out).mono ?_); (case side1 => exact mc149); (case side2 => exact mc151); rintro e w12 ⟨rfl, hi, hb, hk⟩; refine ⟨_, rfl, ?_⟩; replace HO_5 := A_ (Kd.R_mono (Kd.R_keep (IsS61.apart (show IsS61 w0 _ g s0_0 x1001_1 x1002_1 from by repeat (first | (with_reducible first | exact HI0.out | apply IsS61.alloc | apply IsS61.drewN | apply IsS61.drew | apply IsS61.set_1 | apply IsS61.set_2 | refine IsS61.far ?_ NB0_1034.out _) | exact HI0.out)) mc329 (by decide)) hk (fun _ h => h.2)) (fun _ h => h.1)); replace BK1034 := A_ (KeepBut.blk hk (g' := gb1034) (o := .cells #[.int .i64 a1_0, .int .i64 a1_1, .slice A1_2 l1_2.length c1_2] 26 (0, 0)) mc251 NB1034_0.out (by simp)); replace HK := A_ (KeepBut.trans mc195 hk (.inl rfl)); replace HB := A_ (hb); replace HI0 := A_ (hi); (try clear hb)) | ((with_reducible refine gate_builtin (b := .append) (xs := #[.tmp 17, .tmp 19]) rfl ?_); at_builtin; refine Kd.R_append (Kd.int .i64) w.heap.size rfl (.tmp 17) (.tmp 19) 24 3 (.int .i64 0) 8 rfl Try.underlying24 info3 rfl (by decide) (by omega) u5 x5_1 x6_1 [.int .i64 x6_1] (fun _ => True) (fun _ => False) rfl rfl ?aP (fun _ hk => hk.elim) ?aF ?aO (Below.refl _ _) ?aS ?aL ?_; (case aP => exact rfl); (case aF => exact (fun _ _ => trivial)); (case aO => exact mc329); (case aS => exact (keep_size (w := w) (g := g) (row := none) mc195)); (case aL => have := LMc9.out; omega); intro v1042 w13 ho hb hg hat; rw [← Ny1041.out] at ho; replace BK1034 := A_ (blk_grown (g := gb1034) (o := .cells #[.int .i64 a1_0, .int .i64 a1_1, .slice A1_2 l1_2.length c1_2] 26 (0, 0)) mc251 hg (Kd.R_ne HO_5.out BK1034.out (by decide))); replace HB := A_ (below_weaken mc151 HL.out hb); replace HI0 := A_ (IsS61.grown mc149 hg (IsS61.own_ne HI0.out HO_5.out (by decide))); replace HK := A_ (KeepBut.trans mc195 (KeepBut.of_grown hg g) (Kd.R_base2 HO_5.out)); have HO1043 := A_ (ho); clear HO_5; clear ho hb hg hat))
    go_roundg k1
    case measure => have := HK1.out; omega
    case rel => exact ⟨(y1041), (wrap64 (x6_1 + 1)), (t1039), (t1040), mc352, H', ⟨mc356⟩, ⟨by (with_reducible repeat (first | apply Kd.R_alloc | apply Kd.R_drewN | apply Kd.R_drew)); exact HO1043.out⟩, ⟨mc251⟩, ⟨mc149⟩, ⟨mc195⟩, ⟨mc151⟩⟩
   rw [if_neg c6] at H
   have c6b0 : decide (x6_1 < (l1_2.length : Int)) = false := decide_eq_false c6
   clear c6
   obtain ⟨⟨t1044, t1045, t1046⟩, A170, H⟩ := oB_ H
   have A17 := A_ A170
   clear A170
   by_cases c18 : t1044 = true
   rotate_left
   ·
    replace c18 := Bool.eq_false_iff.mpr c18
    subst c18
    rw [if_neg (show ¬ (false = true) by decide)] at H
    simp only [Option.some.injEq, Prod.mk.injEq] at H
    obtain ⟨rfl, rfl, rfl⟩ := H
    have hnb29 := NB1034_0.out
    have hnc29 := NB0_1034.out
    have hcz30_0 : wr.cell? ⟨gb1034, 0, none⟩ = some (.int .i64 a1_0) := bc_ BK1034 0 rfl
    have hcz30_1 : wr.cell? ⟨gb1034, 1, none⟩ = some (.int .i64 a1_1) := bc_ BK1034 1 rfl
    have hcz30_2 : wr.cell? ⟨gb1034, 2, none⟩ = some (.slice A1_2 l1_2.length c1_2) := bc_ BK1034 2 rfl
    have hfz30_0 := blk_frozen BK1034.out 0
    have hfz30_1 := blk_frozen BK1034.out 1
    have hfz30_2 := blk_frozen BK1034.out 2
    go_wp2_with (first | ((with_reducible refine gc_ 78 rfl ?_); refine goesL_ (some 22) rfl rfl Try.func78 kr_ rfl #[.pointer (some ⟨g, 0, none⟩), .int .i64 16] rfl mc247 ?_; (with_reducible refine (spec_l1Cur_one.calls g s0_0 x1001_1 x1002_1 16 false t1045 t1046 w0 _ ?side1 ?side2 A17.out).mono ?_); (case side1 => exact mc149); (case side2 => exact mc151); rintro e w31 ⟨rfl, hi, hb, hk⟩; refine ⟨_, rfl, ?_⟩; replace HO_5 := A_ (Kd.R_mono (Kd.R_keep (IsS61.apart (show IsS61 w0 _ g s0_0 x1001_1 x1002_1 from by repeat (first | (with_reducible first | exact HI0.out | apply IsS61.alloc | apply IsS61.drewN | apply IsS61.drew | apply IsS61.set_1 | apply IsS61.set_2 | refine IsS61.far ?_ NB0_1034.out _) | exact HI0.out)) mc329 (by decide)) hk (fun _ h => h.2)) (fun _ h => h.1)); replace BK1034 := A_ (KeepBut.blk hk (g' := gb1034) (o := .cells #[.int .i64 a1_0, .int .i64 a1_1, .slice A1_2 l1_2.length c1_2] 26 (0, 0)) mc251 NB1034_0.out (by simp)); replace HK := A_ (KeepBut.trans mc195 hk (.inl rfl)); replace HB := A_ (hb); replace HI0 := A_ (hi); (try clear hb)))
    go_ret
    exact ⟨_, mc332, mc329, mc149, mc151, mc195⟩
   subst c18
   rw [if_pos rfl] at H
   obtain ⟨y1047, hy1047⟩ : ∃ y_ : List Int, y_ = (([64, 0, (-1)] : List Int)) := ⟨_, rfl⟩
   replace H : ((spec_l1Cur_among.f s0_0 t1045 t1046 y1047).bind fun bt1050 => (if x5_1.length < 17592186044416 then (some ((x5_1 ++ [bt1050.1]), bt1050.2.1, bt1050.2.2)) else (none))) = some (r1, r2, r3) := by first | (rw [hy1047]; with_reducible exact H) | (have H2_ := (Option.bind_some _ _).symm.trans H; rw [hy1047]; with_reducible exact H2_) | (have H2_ := (Option.bind_some _ _).symm.trans H; with_reducible exact H2_) | with_reducible exact H | (rw [hy1047]; exact H) | exact H
   have Ny1047 := A_ hy1047
   clear hy1047
   obtain ⟨⟨t1050, t1051, t1052⟩, A190, H⟩ := oB_ H
   have A19 := A_ A190
   clear A190
   by_cases c20 : x5_1.length < 17592186044416
   rotate_left
   ·
    rw [if_neg c20] at H
    exact absurd H (by simp)
   rw [if_pos c20] at H
   have LMc20 := A_ c20
   clear c20
   obtain ⟨y1053, hy1053⟩ : ∃ y_ : List Int, y_ = (x5_1 ++ [t1050]) := ⟨_, rfl⟩
   replace H : (some (y1053, t1051, t1052)) = some (r1, r2, r3) := by first | (rw [hy1053]; with_reducible exact H) | (have H2_ := (Option.bind_some _ _).symm.trans H; rw [hy1053]; with_reducible exact H2_) | (have H2_ := (Option.bind_some _ _).symm.trans H; with_reducible exact H2_) | with_reducible exact H | (rw [hy1053]; exact H) | exact H
   have Ny1053 := A_ hy1053
   clear hy1053
   simp only [Option.some.injEq, Prod.mk.injEq] at H
   obtain ⟨rfl, rfl, rfl⟩ := H
   have hnb21 := NB1034_0.out
   have hnc21 := NB0_1034.out
   have hcz22_0 : wr.cell? ⟨gb1034, 0, none⟩ = some (.int .i64 a1_0) := bc_ BK1034 0 rfl
   have hcz22_1 : wr.cell? ⟨gb1034, 1, none⟩ = some (.int .i64 a1_1) := bc_ BK1034 1 rfl
   have hcz22_2 : wr.cell? ⟨gb1034, 2, none⟩ = some (.slice A1_2 l1_2.length c1_2) := bc_ BK1034 2 rfl
   have hfz22_0 := blk_frozen BK1034.out 0
   have hfz22_1 := blk_frozen BK1034.out 1
   have hfz22_2 := blk_frozen BK1034.out 2
   go_wp2_with (first | ((with_reducible refine gc_ 78 rfl ?_); refine goesL_ (some 22) rfl rfl Try.func78 kr_ rfl #[.pointer (some ⟨g, 0, none⟩), .int .i64 16] rfl mc247 ?_; (with_reducible refine (spec_l1Cur_one.calls g s0_0 x1001_1 x1002_1 16 true t1045 t1046 w0 _ ?side1 ?side2 A17.out).mono ?_); (case side1 => exact mc149); (case side2 => exact mc151); rintro e w23 ⟨rfl, hi, hb, hk⟩; refine ⟨_, rfl, ?_⟩; replace HO_5 := A_ (Kd.R_mono (Kd.R_keep (IsS61.apart (show IsS61 w0 _ g s0_0 x1001_1 x1002_1 from by repeat (first | (with_reducible first | exact HI0.out | apply IsS61.alloc | apply IsS61.drewN | apply IsS61.drew | apply IsS61.set_1 | apply IsS61.set_2 | refine IsS61.far ?_ NB0_1034.out _) | exact HI0.out)) mc329 (by decide)) hk (fun _ h => h.2)) (fun _ h => h.1)); replace BK1034 := A_ (KeepBut.blk hk (g' := gb1034) (o := .cells #[.int .i64 a1_0, .int .i64 a1_1, .slice A1_2 l1_2.length c1_2] 26 (0, 0)) mc251 NB1034_0.out (by simp)); replace HK := A_ (KeepBut.trans mc195 hk (.inl rfl)); replace HB := A_ (hb); replace HI0 := A_ (hi); (try clear hb)) | ((with_reducible refine gd_ 25 rfl ?_); refine Kd.R_lit (Kd.int .i64) _ 3 ?hg (N := 25) ?hd (xs := ([64, 0, (-1)] : List Int)) (inner := [.int .i64 64, .int .i64 0, .int .i64 (-1)]) (ok := fun _ => True) (okp := fun _ => True) ?hr ?hp (fun _ hk => hk) trivial (Below.refl _ _) (Nat.le_refl _) (by simp) ?_; (case hd => rfl); (case hg => rfl); (case hr => exact mc353); (case hp => exact (Reps.one (show Kd.M (Kd.int .i64) _ _ _ 64 [.int .i64 64] from rfl) (Reps.one (show Kd.M (Kd.int .i64) _ _ _ 0 [.int .i64 0] from rfl) (Reps.one (show Kd.M (Kd.int .i64) _ _ _ (-1) [.int .i64 (-1)] from rfl) (Reps.none _ _))))); intro v1048 w24 ho25 hb hg_ hnew_; clear hg_ hnew_; (first | rw [← Ny1047.out] at ho25 | (simp only [Int.reduceToNat] at ho25; rw [← Ny1047.out] at ho25)); have HO1049 := A_ (Kd.R_lower (Kd.R_new' ho25 (Kd.R_lt mc329)) (keep_size (w := w) (g := g) (row := none) mc195)); replace HO_5 := A_ (Kd.R_elder' mc329 (Kd.R_base ho25) hb); replace BK1034 := A_ (blk_below mc251 hb); replace HK := A_ (KeepBut.trans mc195 (KeepBut.of_below hb g none) (.inl rfl)); replace HB := A_ (below_step mc151 hb); replace HI0 := A_ (IsS61.below mc149 hb); clear hb ho25; obtain ⟨Ao26, co26, eo26⟩ := Kd.R_slice HO1049.out; subst eo26) | ((with_reducible refine gc_ 43 rfl ?_); refine goesL_ (some 26) rfl rfl Try.func43 kr_ rfl #[.pointer (some ⟨g, 0, none⟩), .slice Ao26 y1047.length co26] rfl mc247 ?_; (with_reducible refine (spec_l1Cur_among.calls g s0_0 t1045 t1046 _ _ y1047 t1050 t1051 t1052 w0 _ ?side1 ?side2 ?side3 ?side4 ?side5 A19.out).mono ?_); (case side1 => exact mc149); (case side2 => exact mc151); (case side3 => repeat (first | exact (Kd.R_reads' HO1049.out).2.2 | (with_reducible refine Kd.C_alloc ?_ _) | (with_reducible refine Kd.C_drewN ?_ _) | (with_reducible refine Kd.C_drew ?_))); (case side4 => exact (Kd.R_reads' HO1049.out).2.1); (case side5 => exact far_slice (IsS61.own_ne HI0.out HO1049.out (by decide))); rintro e w27 ⟨rfl, hi, hb, hk⟩; refine ⟨_, rfl, ?_⟩; replace HO_5 := A_ (Kd.R_mono (Kd.R_keep (IsS61.apart (show IsS61 w0 _ g s0_0 t1045 t1046 from by repeat (first | (with_reducible first | exact HI0.out | apply IsS61.alloc | apply IsS61.drewN | apply IsS61.drew | apply IsS61.set_1 | apply IsS61.set_2 | refine IsS61.far ?_ NB0_1034.out _) | exact HI0.out)) mc329 (by decide)) hk (fun _ h => h.2)) (fun _ h => h.1)); replace BK1034 := A_ (KeepBut.blk hk (g' := gb1034) (o := .cells #[.int .i64 a1_0, .int .i64 a1_1, .slice A1_2 l1_2.length c1_2] 26 (0, 0)) mc251 NB1034_0.out (by simp)); replace HO1049 := A_ (Kd.R_mono (Kd.R_keep (IsS61.apart (show IsS61 w0 _ g s0_0 t1045 t1046 from by repeat (first | (with_reducible first | exact HI0.out | apply IsS61.alloc | apply IsS61.drewN | apply IsS61.drew | apply IsS61.set_1 | apply IsS61.set_2 | refine IsS61.far ?_ NB0_1034.out _) | exact HI0.out)) mc313 (by decide)) hk (fun _ h => h.2)) (fun _ h => h.1)); replace HK := A_ (KeepBut.trans mc195 hk (.inl rfl)); replace HB := A_ (hb); replace HI0 := A_ (hi); (try clear hb)) | ((with_reducible refine gate_builtin (b := .append) (xs := #[.tmp 23, .tmp 27]) rfl ?_); at_builtin; refine Kd.R_append (Kd.int .i64) w.heap.size rfl (.tmp 23) (.tmp 27) 24 3 (.int .i64 0) 8 rfl Try.underlying24 info3 rfl (by decide) (by omega) u5 x5_1 t1050 [.int .i64 t1050] (fun k_ => some k_ ≠ (.slice Ao26 y1047.length co26 : Value).ownBlock) (fun _ => False) rfl rfl ?aP (fun _ hk => hk.elim) ?aF ?aO (Below.refl _ _) ?aS ?aL ?_; (case aP => exact rfl); (case aF => exact (fun k_ hk => Kd.fresh' (Kd.R_lt mc313) k_ hk)); (case aO => exact (by (with_reducible repeat (first | apply Kd.R_alloc | apply Kd.R_drewN | apply Kd.R_drew)); exact Kd.R_mono HO_5.out (fun _ hk => hk.2))); (case aS => exact (keep_size (w := w) (g := g) (row := none) mc195)); (case aL => have := LMc20.out; omega); intro v1054 w28 ho hb hg hat; rw [← Ny1053.out] at ho; replace BK1034 := A_ (blk_grown (g := gb1034) (o := .cells #[.int .i64 a1_0, .int .i64 a1_1, .slice A1_2 l1_2.length c1_2] 26 (0, 0)) mc251 hg (Kd.R_ne HO_5.out BK1034.out (by decide))); replace HO1049 := A_ (Kd.R_after (ok := (fun _ => True)) mc313 hg hat); replace HB := A_ (below_weaken mc151 HL.out hb); replace HI0 := A_ (IsS61.grown mc149 hg (IsS61.own_ne HI0.out HO_5.out (by decide))); replace HK := A_ (KeepBut.trans mc195 (KeepBut.of_grown hg g) (Kd.R_base2 HO_5.out)); have HO1055 := A_ (ho); clear HO_5; clear ho hb hg hat))
   go_ret
   exact ⟨_, mc332, by (with_reducible repeat (first | apply Kd.R_alloc | apply Kd.R_drewN | apply Kd.R_drew)); exact Kd.R_mono HO1055.out (fun _ hk => trivial), mc149, mc151, mc195⟩

/-! ### spec_DrawSetRegion: function 36 -/
def spec_DrawSetRegion.f (k : Nat) (l0 : List Int) : Option (Int × Int × List Int × List Int × Int) := (mk_l1Cur.f l0).bind fun bt1057 => ((spec_l1Cur_anyField.f k bt1057.1 bt1057.2.1 bt1057.2.2).bind fun bt1061 => ((spec_l1Cur_regionOf.f k bt1057.1 bt1061.2.2.2.1 bt1061.2.2.2.2 bt1061.1 bt1061.2.1 bt1061.2.2.1).bind fun bt1069 => ((spec_l1Cur_among.f bt1057.1 bt1069.2.1 bt1069.2.2 (([0, 7, (-9999), 9000, 9001] : List Int))).bind fun bt1077 => (some (bt1061.1, bt1061.2.1, bt1061.2.2.1, bt1069.1, bt1077.1)))))
def spec_DrawSetRegion.T3 : Bool × List (List Nat × List Nat) := (true, [([], []), ([], []), ([], []), ([1, 2], [1, 2]), ([], []), ([], []), ([4, 5, 3], [4, 5]), ([0, 6, 0], [0]), ([3, 7, 0, 1, 2, 3, 7], [3]), ([6, 8, 0, 1, 2, 3, 4, 5, 6, 7, 8], [6])])
def spec_DrawSetRegion.B3 : List Nat := [0, 0, 0, 6, 0, 0, 62, 127, 255, 511]
theorem spec_DrawSetRegion.tab3 : rtab .any (opsOf Try.f36 3) = spec_DrawSetRegion.T3 := by kernel_rfl
theorem spec_DrawSetRegion.bits3 : waitsOk spec_DrawSetRegion.T3.2 spec_DrawSetRegion.B3 = true := by kernel_rfl
set_option maxHeartbeats 8000000 in
set_option maxRecDepth 100000 in
theorem spec_DrawSetRegion.calls (k : Nat) (A0 : Option Addr) (c0 : Nat) (l0 : List Int) (r1 : Int) (r2 : Int) (r3 : List Int) (r4 : List Int) (r5 : Int) (w : World) (hr0 : Kd.C (Kd.int .u8) w A0 l0.length l0) (hc0 : l0.length ≤ c0) (h : spec_DrawSetRegion.f k l0 = some (r1, r2, r3, r4, r5)) :
  Calls Try.prog 36 #[.slice A0 l0.length c0] w fun e w' => ∃ v2_ v3_ : Value, e = .returned (.tuple #[.agg #[.int .i64 r1, .int .i64 r2, v2_], v3_, .int .i64 r5]) ∧ Kd.Q (Kd.int .i64) 3 w' w.heap.size (fun k_ => some k_ ≠ (v3_ : Value).ownBlock) v2_ r3 ∧ Kd.R (Kd.int .i64) 3 w' w.heap.size (fun k_ => some k_ ≠ (v2_ : Value).ownBlock) v3_ r4 ∧ Below w.heap.size w w' := by
 have hu26 := Try.underlying26
 have HR0 := A_ hr0
 have HC0 := A_ hc0
 clear hr0 hc0
 have HB := A_ (Below.refl w.heap.size w)
 have H : ((mk_l1Cur.f l0).bind fun bt1057 => ((spec_l1Cur_anyField.f k bt1057.1 bt1057.2.1 bt1057.2.2).bind fun bt1061 => ((spec_l1Cur_regionOf.f k bt1057.1 bt1061.2.2.2.1 bt1061.2.2.2.2 bt1061.1 bt1061.2.1 bt1061.2.2.1).bind fun bt1069 => ((spec_l1Cur_among.f bt1057.1 bt1069.2.1 bt1069.2.2 (([0, 7, (-9999), 9000, 9001] : List Int))).bind fun bt1077 => (some (bt1061.1, bt1061.2.1, bt1061.2.2.1, bt1069.1, bt1077.1)))))) = some (r1, r2, r3, r4, r5) := h
 clear h
 obtain ⟨⟨t1057, t1058, t1059⟩, A20, H⟩ := oB_ H
 have A2 := A_ A20
 clear A20
 obtain ⟨⟨t1061, t1062, t1063, t1066, t1067⟩, A30, H⟩ := oB_ H
 have A3 := A_ A30
 clear A30
 obtain ⟨⟨t1069, t1072, t1073⟩, A40, H⟩ := oB_ H
 have A4 := A_ A40
 clear A40
 obtain ⟨y1074, hy1074⟩ : ∃ y_ : List Int, y_ = (([0, 7, (-9999), 9000, 9001] : List Int)) := ⟨_, rfl⟩
 replace H : ((spec_l1Cur_among.f t1057 t1072 t1073 y1074).bind fun bt1077 => (some (t1061, t1062, t1063, t1069, bt1077.1))) = some (r1, r2, r3, r4, r5) := by first | (rw [hy1074]; with_reducible exact H) | (have H2_ := (Option.bind_some _ _).symm.trans H; rw [hy1074]; with_reducible exact H2_) | (have H2_ := (Option.bind_some _ _).symm.trans H; with_reducible exact H2_) | with_reducible exact H | (rw [hy1074]; exact H) | exact H
 have Ny1074 := A_ hy1074
 clear hy1074
 obtain ⟨⟨t1077, t1078, t1079⟩, A50, H⟩ := oB_ H
 have A5 := A_ A50
 clear A50
 simp only [Option.some.injEq, Prod.mk.injEq] at H
 obtain ⟨rfl, rfl, rfl, rfl, rfl⟩ := H
 go_enter Try.func36, Try.ntmps36
 try go_wp2_with (first | ((with_reducible refine gd_ 2 rfl ?_); refine box_event rfl (N := 2) rfl (cs := #[.int .i64 0, .int .i64 0, .slice none 0 0]) (t := 26) mc353 ?_; intro gb1056 hg w6 hbox hb; have BK1056 := A_ (hbox); have GW1056 := A_ ((mc213 : w.heap.size ≤ gb1056)); have GE1056 := A_ ((mc213 : w.heap.size ≤ gb1056)); replace HB := A_ (below_step mc249 hb); clear hb hbox hg) | ((with_reducible refine gd_ 9 rfl ?_); refine mk_l1Cur.box A0 c0 l0 t1057 t1058 t1059 w A2.out ?side8 ?side9 ?side1 ?side2 ?side3 ?_; (case side8 => rfl); (case side1 => repeat (first | (with_reducible first | exact HB.out | apply below_alloc | apply pw_below_drewN | apply below_drew1 | refine below_set ?_ GE1056.out) | exact HB.out)); (case side2 => exact HR0.out); (case side3 => exact HC0.out); (case side9 => exact mc353); intro g1060 w7 hi hb hb2; replace HB := A_ (hb); have HI1060 := A_ (hi); have NB1060_1056 := A_ (IsS61.ne_blk hi (blk_below mc252 hb2) (by decide)); have NB1056_1060 := A_ (Ne.symm (IsS61.ne_blk hi (blk_below mc252 hb2) (by decide))); replace BK1056 := A_ (blk_below mc252 hb2); (try clear hb)) | ((with_reducible refine gc_ 75 rfl ?_); refine goesL_ (some 11) rfl rfl Try.func75 kr_ rfl #[.pointer (some ⟨g1060, 0, none⟩)] rfl mc247 ?_; (with_reducible refine (spec_l1Cur_anyField.calls k g1060 t1057 t1058 t1059 t1061 t1062 t1063 t1066 t1067 w _ ?side1 ?side2 A3.out).mono ?_); (case side1 => repeat (first | (with_reducible first | exact HI1060.out | apply IsS61.alloc | apply IsS61.drewN | apply IsS61.drew | apply IsS61.set_1 | apply IsS61.set_2 | refine IsS61.far ?_ NB1060_1056.out _) | exact HI1060.out)); (case side2 => repeat (first | (with_reducible first | exact HB.out | apply below_alloc | apply pw_below_drewN | apply below_drew1 | refine below_set ?_ (IsS61.ge HI1060.out) | refine below_set ?_ GE1056.out) | exact HB.out)); rintro e w8 ⟨v1064, rfl, ho0, hi, hb, hk⟩; refine ⟨_, rfl, ?_⟩; replace BK1056 := A_ (KeepBut.blk hk (g' := gb1056) (o := .cells #[.int .i64 0, .int .i64 0, .slice none 0 0] 26 (0, 0)) mc252 NB1056_1060.out (by simp)); have HO1065 := A_ (Kd.Q_lower ho0 (below_size mc146)); replace HB := A_ (hb); replace HI1060 := A_ (hi); (try clear hb); (try clear ho0)) | ((with_reducible refine gd_ 6 rfl ?_); refine box_event rfl (N := 6) rfl (cs := #[.int .i64 0, .int .i64 0, .slice none 0 0]) (t := 26) mc353 ?_; intro gb1068 hg w9 hbox hb; replace HO1065 := A_ (Kd.Q_below mc314 hb); have BK1068 := A_ (hbox); have GW1068 := A_ ((mc114 : w.heap.size ≤ gb1068)); have GE1068 := A_ ((mc114 : w.heap.size ≤ gb1068)); replace HB := A_ (below_step mc146 hb); have NB1056_1068 := A_ ((by rw [hg]; exact Nat.ne_of_lt (blk_lt mc252) : gb1056 ≠ gb1068)); have NB1068_1056 := A_ ((by rw [hg]; exact Nat.ne_of_gt (blk_lt mc252) : gb1068 ≠ gb1056)); replace BK1056 := A_ (blk_below mc252 hb); have NB1060_1068 := A_ ((by rw [hg]; exact Nat.ne_of_lt (IsS61.lt (show IsS61 w _ g1060 t1057 t1066 t1067 from by repeat (first | (with_reducible first | exact HI1060.out | apply IsS61.alloc | apply IsS61.drewN | apply IsS61.drew | apply IsS61.set_1 | apply IsS61.set_2 | refine IsS61.far ?_ NB1060_1056.out _) | exact HI1060.out))) : g1060 ≠ gb1068)); have NB1068_1060 := A_ ((by rw [hg]; exact Nat.ne_of_gt (IsS61.lt (show IsS61 w _ g1060 t1057 t1066 t1067 from by repeat (first | (with_reducible first | exact HI1060.out | apply IsS61.alloc | apply IsS61.drewN | apply IsS61.drew | apply IsS61.set_1 | apply IsS61.set_2 | refine IsS61.far ?_ NB1060_1056.out _) | exact HI1060.out))) : gb1068 ≠ g1060)); replace HI1060 := A_ (IsS61.below (by repeat (first | (with_reducible first | exact HI1060.out | apply IsS61.alloc | apply IsS61.drewN | apply IsS61.drew | apply IsS61.set_1 | apply IsS61.set_2 | refine IsS61.far ?_ NB1060_1056.out _) | exact HI1060.out)) hb); clear hb hbox hg; have hnb10 := NB1068_1056.out; have hnc10 := NB1056_1068.out; have hnb11 := NB1068_1060.out; have hnc11 := NB1060_1068.out; have hcz12_0 : w9.cell? ⟨gb1068, 0, none⟩ = some (.int .i64 0) := bc_ BK1068 0 rfl; have hcz12_1 : w9.cell? ⟨gb1068, 1, none⟩ = some (.int .i64 0) := bc_ BK1068 1 rfl; have hcz12_2 : w9.cell? ⟨gb1068, 2, none⟩ = some (.slice none 0 0) := bc_ BK1068 2 rfl; have hfz12_0 := blk_frozen BK1068.out 0; have hfz12_1 := blk_frozen BK1068.out 1; have hfz12_2 := blk_frozen BK1068.out 2; obtain ⟨Ao13, co13, eo13, _⟩ := Kd.Q_slice HO1065.out; subst eo13))
 have n0_ : Aside0 (Kd.Q (Kd.int .i64) 3 (((w9.setCell ⟨gb1068, 0, none⟩ (.int .i64 t1061)).setCell ⟨gb1068, 1, none⟩ (.int .i64 t1062)).setCell ⟨gb1068, 2, none⟩ (.slice Ao13 t1063.length co13)) w.heap.size (fun _ => True) (.slice Ao13 t1063.length co13) t1063) := ⟨by (with_reducible repeat (first | apply Kd.Q_alloc | apply Kd.Q_drewN | apply Kd.Q_drew)); exact Kd.Q_mono (Kd.Q_far (p := ⟨gb1068, 2, none⟩) (Kd.Q_far (p := ⟨gb1068, 1, none⟩) (Kd.Q_far (p := ⟨gb1068, 0, none⟩) (Kd.Q_types HO1065.out BK1068.out (by decide)) (fun _ hk => by first | exact hk.2 | exact hk.1 | exact hk | exact trivial | exact ⟨hk.1.1, hk.1.2⟩ | exact hk.1.1 | exact hk.1.2) (.int .i64 t1061)) (fun _ hk => by first | exact hk.2 | exact hk.1 | exact hk | exact trivial | exact ⟨hk.1.1, hk.1.2⟩ | exact hk.1.1 | exact hk.1.2) (.int .i64 t1062)) (fun _ hk => by first | exact hk.2 | exact hk.1 | exact hk | exact trivial | exact ⟨hk.1.1, hk.1.2⟩ | exact hk.1.1 | exact hk.1.2) (.slice Ao13 t1063.length co13)) (fun _ hk => trivial)⟩
 have n1_ : Aside0 ((((w9.setCell ⟨gb1068, 0, none⟩ (.int .i64 t1061)).setCell ⟨gb1068, 1, none⟩ (.int .i64 t1062)).setCell ⟨gb1068, 2, none⟩ (.slice Ao13 t1063.length co13)).heap[gb1056]? = some (.cells #[.int .i64 0, .int .i64 0, .slice none 0 0] 26 (0, 0))) := ⟨by (with_reducible repeat (first | refine blk_drewN ?_ _ | refine blk_drew ?_ | refine blk_alloc ?_ _)); refine blk_far ?_ NB1056_1068.out _; (with_reducible repeat (first | refine blk_drewN ?_ _ | refine blk_drew ?_ | refine blk_alloc ?_ _)); refine blk_far ?_ NB1056_1068.out _; (with_reducible repeat (first | refine blk_drewN ?_ _ | refine blk_drew ?_ | refine blk_alloc ?_ _)); refine blk_far ?_ NB1056_1068.out _; (with_reducible repeat (first | refine blk_drewN ?_ _ | refine blk_drew ?_ | refine blk_alloc ?_ _)); exact BK1056.out⟩
 have n2_ : Aside0 ((((w9.setCell ⟨gb1068, 0, none⟩ (.int .i64 t1061)).setCell ⟨gb1068, 1, none⟩ (.int .i64 t1062)).setCell ⟨gb1068, 2, none⟩ (.slice Ao13 t1063.length co13)).heap[gb1068]? = some (.cells #[.int .i64 t1061, .int .i64 t1062, .slice Ao13 t1063.length co13] 26 (0, 0))) := ⟨by (with_reducible repeat (first | refine blk_drewN ?_ _ | refine blk_drew ?_ | refine blk_alloc ?_ _)); refine blk_put (cs := #[.int .i64 t1061, .int .i64 t1062, .slice none 0 0]) ?_ 2 _ rfl; (with_reducible repeat (first | refine blk_drewN ?_ _ | refine blk_drew ?_ | refine blk_alloc ?_ _)); refine blk_put (cs := #[.int .i64 t1061, .int .i64 0, .slice none 0 0]) ?_ 1 _ rfl; (with_reducible repeat (first | refine blk_drewN ?_ _ | refine blk_drew ?_ | refine blk_alloc ?_ _)); refine blk_put (cs := #[.int .i64 0, .int .i64 0, .slice none 0 0]) ?_ 0 _ rfl; (with_reducible repeat (first | refine blk_drewN ?_ _ | refine blk_drew ?_ | refine blk_alloc ?_ _)); exact BK1068.out⟩
 have n3_ : Aside0 (IsS61 w (((w9.setCell ⟨gb1068, 0, none⟩ (.int .i64 t1061)).setCell ⟨gb1068, 1, none⟩ (.int .i64 t1062)).setCell ⟨gb1068, 2, none⟩ (.slice Ao13 t1063.length co13)) g1060 t1057 t1066 t1067) := ⟨by repeat (first | (with_reducible first | exact HI1060.out | apply IsS61.alloc | apply IsS61.drewN | apply IsS61.drew | apply IsS61.set_1 | apply IsS61.set_2 | refine IsS61.far ?_ NB1060_1056.out _ | refine IsS61.far ?_ NB1060_1068.out _) | exact HI1060.out)⟩
 have n4_ : Aside0 (Below w.heap.size w (((w9.setCell ⟨gb1068, 0, none⟩ (.int .i64 t1061)).setCell ⟨gb1068, 1, none⟩ (.int .i64 t1062)).setCell ⟨gb1068, 2, none⟩ (.slice Ao13 t1063.length co13))) := ⟨mc111⟩
 (try clear HO1065)
 (try clear BK1056)
 (try clear BK1068)
 (try clear HI1060)
 (try clear HB)
 generalize (((w9.setCell ⟨gb1068, 0, none⟩ (.int .i64 t1061)).setCell ⟨gb1068, 1, none⟩ (.int .i64 t1062)).setCell ⟨gb1068, 2, none⟩ (.slice Ao13 t1063.length co13)) = w14 at n0_ n1_ n2_ n3_ n4_ ⊢
 have HO1065 := n0_
 have BK1056 := n1_
 have BK1068 := n2_
 have HI1060 := n3_
 have HB := n4_
 clear n0_ n1_ n2_ n3_ n4_
 replace HO1065 := A_ (Kd.Q_drew HO1065.out)
 replace BK1056 := A_ (blk_drew BK1056.out)
 replace BK1068 := A_ (blk_drew BK1068.out)
 replace HI1060 := A_ (IsS61.drew HI1060.out)
 replace HB := A_ (below_drew1 HB.out)
 refine start_ (n := 10) (S := fun w' => True) (ds := []) #[false, false, false, false, false, false, false, false, false, false] kr_ rfl rfl trivial (fun hHeld => ?_); refine with_tabW spec_DrawSetRegion.tab3 spec_DrawSetRegion.bits3 (fun HT_ HW_ => ?_)
 generalize w14.drew = w15 at HO1065 BK1056 BK1068 HI1060 HB hHeld ⊢
 refine pure_ (i := 1) (N := some 13) #[false, true, false, false, false, false, false, false, false, false] rfl rfl (any_of HT_.out kr_) (fun _ _ _ h => h) (Or.inl ⟨by rfl, mc354⟩) mc312 ?_
 refine pure_ (i := 4) (N := some 16) #[false, true, false, false, true, false, false, false, false, false] rfl rfl (any_of HT_.out kr_) (fun _ _ _ h => h) (Or.inl ⟨by rfl, mc354⟩) mc312 ?_
 refine inv_at [0, 2, 3, 5, 6, 7, 8, 9] (fun a0_ b a w' => ∃ (v1070 : Value) (v1075 : Value) (m8_ : Value), a = putSel a0_ b [(0, 12, .agg #[.int .i64 t1061, .int .i64 t1062, .slice Ao13 t1063.length co13]), (2, 14, .agg #[.int .i64 t1061, .int .i64 t1062, .slice Ao13 t1063.length co13]), (3, 15, v1070), (5, 17, v1075), (6, 18, .int .i64 t1077), (8, 3, m8_), (9, 4, .int .i64 t1077)] ∧ (Kd.Q (Kd.int .i64) 3 w' w.heap.size (fun _ => True) (.slice Ao13 t1063.length co13) t1063) ∧ (b 7 = false → w'.heap[gb1056]? = some (.cells #[.int .i64 0, .int .i64 0, .slice none 0 0] 26 (0, 0))) ∧ (w'.heap[gb1068]? = some (.cells #[.int .i64 t1061, .int .i64 t1062, .slice Ao13 t1063.length co13] 26 (0, 0))) ∧ (b 3 = false → IsS61 w w' g1060 t1057 t1066 t1067) ∧ (Below w.heap.size w w') ∧ (b 3 = true → Kd.R (Kd.int .i64) 3 w' w.heap.size (fun k_ => some k_ ≠ (.slice Ao13 t1063.length co13 : Value).ownBlock) v1070 t1069) ∧ (b 3 = true → b 6 = false → IsS61 w w' g1060 t1057 t1072 t1073) ∧ (b 5 = true → Kd.R (Kd.int .i64) 3 w' w.heap.size (fun k_ => some k_ ≠ (.slice Ao13 t1063.length co13 : Value).ownBlock) v1075 y1074) ∧ (b 6 = true → IsS61 w w' g1060 t1057 t1078 t1079) ∧ (b 7 = true → w'.heap[gb1056]? = some (.cells #[.int .i64 t1061, .int .i64 t1062, .slice Ao13 t1063.length co13] 26 (0, 0))) ∧ (b 8 = true → (m8_ : Value) = v1070)) HT_.out HW_.out kr_ kr_ ?_ ?_ ?_
 ·
  exact ⟨.bool false, .bool false, .bool false, by simp only [putSel, Bool.false_eq_true, if_false], HO1065.out, fun _ => BK1056.out, BK1068.out, fun _ => HI1060.out, HB.out, fun h_ => absurd h_ (by decide), fun h_ => absurd h_ (by decide), fun h_ => absurd h_ (by decide), fun h_ => absurd h_ (by decide), fun h_ => absurd h_ (by decide), fun h_ => absurd h_ (by decide)⟩
 ·
  skip
  clear BK1056 BK1068 HB HI1060 HO1065
  refine steps_cons ?_ ?_
  ·
   rintro b a w' ⟨v1070, v1075, m8_, ha, Q_HO1065, Q_BK1056, Q_BK1068, Q_HI1060, Q_HB, Q_HO1071, Q_HI1060_e3, Q_HO1076, Q_HI1060_e6, Q_BK1056_e7, Q_X8_⟩ hb_ hon hoff
   refine ⟨_, rfl, fun K hK => ?_⟩
   have e6 : a.tmps[6]? = some (.pointer (some ⟨gb1068, 0, none⟩)) := by rw [ha]; exact (putSel_off rfl).trans rfl
   replace ha := A_ ha
   have HO1065 := A_ Q_HO1065
   have BK1056 := A_ (Q_BK1056 (hoff 7 kr_))
   have BK1068 := A_ Q_BK1068
   have HB := A_ Q_HB
   have hc0_ : w'.cell? ⟨gb1068, 0, none⟩ = some (.int .i64 t1061) := bc_ BK1068 0 rfl
   have hc1_ : w'.cell? ⟨gb1068, 1, none⟩ = some (.int .i64 t1062) := bc_ BK1068 1 rfl
   have hc2_ : w'.cell? ⟨gb1068, 2, none⟩ = some (.slice Ao13 t1063.length co13) := bc_ BK1068 2 rfl
   refine value_ (w1 := w') (v := .agg #[.int .i64 t1061, .int .i64 t1062, .slice Ao13 t1063.length co13]) (by rfl) rfl ?_ ?_
   ·
    go_simp
    (try simp only [i64_w])
    try rfl
   refine hK.out _ _ ⟨v1070, v1075, m8_, (by rw [ha.out]; exact putSel_upk 0 hb_ rfl rfl rfl), Q_HO1065, Q_BK1056, Q_BK1068, Q_HI1060, Q_HB, Q_HO1071, Q_HI1060_e3, Q_HO1076, Q_HI1060_e6, fun h0_ => absurd ((hoff 7 kr_).symm.trans h0_) (by decide), fun h0_ => absurd ((hoff 8 kr_).symm.trans h0_) (by decide)⟩
  refine steps_cons ?_ ?_
  ·
   rintro b a w' ⟨v1070, v1075, m8_, ha, Q_HO1065, Q_BK1056, Q_BK1068, Q_HI1060, Q_HB, Q_HO1071, Q_HI1060_e3, Q_HO1076, Q_HI1060_e6, Q_BK1056_e7, Q_X8_⟩ hb_ hon hoff
   refine ⟨_, rfl, fun K hK => ?_⟩
   have e6 : a.tmps[6]? = some (.pointer (some ⟨gb1068, 0, none⟩)) := by rw [ha]; exact (putSel_off rfl).trans rfl
   replace ha := A_ ha
   have HO1065 := A_ Q_HO1065
   have BK1056 := A_ (Q_BK1056 (hoff 7 kr_))
   have BK1068 := A_ Q_BK1068
   have HI1060 := A_ (Q_HI1060 (hoff 3 kr_))
   have HB := A_ Q_HB
   have hc0_ : w'.cell? ⟨gb1068, 0, none⟩ = some (.int .i64 t1061) := bc_ BK1068 0 rfl
   have hc1_ : w'.cell? ⟨gb1068, 1, none⟩ = some (.int .i64 t1062) := bc_ BK1068 1 rfl
   have hc2_ : w'.cell? ⟨gb1068, 2, none⟩ = some (.slice Ao13 t1063.length co13) := bc_ BK1068 2 rfl
   refine value_ (w1 := w') (v := .agg #[.int .i64 t1061, .int .i64 t1062, .slice Ao13 t1063.length co13]) (by rfl) rfl ?_ ?_
   ·
    go_simp
    (try simp only [i64_w])
    try rfl
   refine hK.out _ _ ⟨v1070, v1075, m8_, (by rw [ha.out]; exact putSel_upk 1 hb_ rfl rfl rfl), Q_HO1065, Q_BK1056, Q_BK1068, Q_HI1060, Q_HB, fun h0_ => absurd ((hoff 3 kr_).symm.trans h0_) (by decide), fun h0_ _ => absurd ((hoff 3 kr_).symm.trans h0_) (by decide), Q_HO1076, fun h0_ => absurd ((hoff 6 kr_).symm.trans h0_) (by decide), fun h0_ => absurd ((hoff 7 kr_).symm.trans h0_) (by decide), fun h0_ => absurd ((hoff 8 kr_).symm.trans h0_) (by decide)⟩
  refine steps_cons ?_ ?_
  ·
   rintro b a w' ⟨v1070, v1075, m8_, ha, Q_HO1065, Q_BK1056, Q_BK1068, Q_HI1060, Q_HB, Q_HO1071, Q_HI1060_e3, Q_HO1076, Q_HI1060_e6, Q_BK1056_e7, Q_X8_⟩ hb_ hon hoff
   refine ⟨_, rfl, fun K hK => ?_⟩
   have e13 : a.tmps[13]? = some (.pointer (some ⟨g1060, 0, none⟩)) := by rw [ha]; exact (putSel_off rfl).trans rfl
   have e14 : a.tmps[14]? = some (.agg #[.int .i64 t1061, .int .i64 t1062, .slice Ao13 t1063.length co13]) := by rw [ha]; exact putSel_on (e := (2, 14, .agg #[.int .i64 t1061, .int .i64 t1062, .slice Ao13 t1063.length co13])) 1 rfl rfl (hon 2 kr_) rfl
   replace ha := A_ ha
   have HO1065 := A_ Q_HO1065
   have BK1056 := A_ (Q_BK1056 (hoff 7 kr_))
   have BK1068 := A_ Q_BK1068
   have HI1060 := A_ (Q_HI1060 hb_)
   have HB := A_ Q_HB
   refine goes_ Try.func76 kr_ rfl #[.pointer (some ⟨g1060, 0, none⟩), .agg #[.int .i64 t1061, .int .i64 t1062, .slice Ao13 t1063.length co13]] (by rfl) rfl rfl mc79 ?_
   with_reducible refine (spec_l1Cur_regionOf.calls k g1060 t1057 t1066 t1067 t1061 t1062 _ _ t1063 t1069 t1072 t1073 w _ ?side1 ?side2 ?side3 ?side4 ?side5 A4.out).mono ?_
   (case side1 => exact mc92)
   (case side2 => exact mc111)
   (case side3 => repeat (first | exact (Kd.Q_reads' HO1065.out).2.2 | (with_reducible refine Kd.C_alloc ?_ _) | (with_reducible refine Kd.C_drewN ?_ _) | (with_reducible refine Kd.C_drew ?_)))
   (case side4 => exact (Kd.Q_reads' HO1065.out).2.1)
   (case side5 => exact far_slice (IsS61.own_neQ HI1060.out HO1065.out (by decide)))
   rintro e w16 ⟨v1070, rfl, ho0, hi, hb, hk⟩
   refine ⟨_, rfl, ?_⟩
   have n0_ := A_ (KeepBut.blk hk (g' := gb1056) (o := .cells #[.int .i64 0, .int .i64 0, .slice none 0 0] 26 (0, 0)) mc252 NB1056_1060.out (by simp))
   have n1_ := A_ (Kd.Q_mono (Kd.Q_told (Kd.Q_oldK (IsS61.apartQ (show IsS61 w _ g1060 t1057 t1066 t1067 from by repeat (first | (with_reducible first | exact HI1060.out | apply IsS61.alloc | apply IsS61.drewN | apply IsS61.drew | apply IsS61.set_1 | apply IsS61.set_2 | refine IsS61.far ?_ NB1060_1056.out _ | refine IsS61.far ?_ NB1060_1068.out _) | exact HI1060.out)) mc314 (by decide)) hk) (Kd.R_base ho0)) (fun _ h_ => h_.1))
   have n2_ := A_ (KeepBut.blk hk (g' := gb1068) (o := .cells #[.int .i64 t1061, .int .i64 t1062, .slice Ao13 t1063.length co13] 26 (0, 0)) mc253 NB1068_1060.out (by simp))
   have n3_ := A_ (Kd.R_lower (Kd.R_new' ho0 (Kd.Q_lt mc314)) (below_size mc111))
   have n4_ := A_ (hb)
   have n5_ := A_ (hi)
   have z_HO1076 := fun (h0_ : b 5 = true) => (show Kd.R (Kd.int .i64) 3 w16 w.heap.size (fun k_ => some k_ ≠ (.slice Ao13 t1063.length co13 : Value).ownBlock) v1075 y1074 from by first | exact (Kd.R_mono (Kd.R_told (Kd.R_oldK (IsS61.apart (show IsS61 w _ g1060 t1057 t1066 t1067 from by repeat (first | (with_reducible first | exact HI1060.out | apply IsS61.alloc | apply IsS61.drewN | apply IsS61.drew | apply IsS61.set_1 | apply IsS61.set_2 | refine IsS61.far ?_ NB1060_1056.out _ | refine IsS61.far ?_ NB1060_1068.out _) | exact HI1060.out)) (by (with_reducible repeat (first | apply Kd.R_alloc | apply Kd.R_drewN | apply Kd.R_drew)); exact (Q_HO1076 h0_)) (by decide)) hk) (Kd.R_base ho0)) (fun _ h_ => h_.1)) | exact Kd.R_mono (Kd.R_mono (Kd.R_told (Kd.R_oldK (IsS61.apart (show IsS61 w _ g1060 t1057 t1066 t1067 from by repeat (first | (with_reducible first | exact HI1060.out | apply IsS61.alloc | apply IsS61.drewN | apply IsS61.drew | apply IsS61.set_1 | apply IsS61.set_2 | refine IsS61.far ?_ NB1060_1056.out _ | refine IsS61.far ?_ NB1060_1068.out _) | exact HI1060.out)) (by (with_reducible repeat (first | apply Kd.R_alloc | apply Kd.R_drewN | apply Kd.R_drew)); exact (Q_HO1076 h0_)) (by decide)) hk) (Kd.R_base ho0)) (fun _ h_ => h_.1)) (fun _ h_ => by first | trivial | exact h_ | exact h_.1))
   clear BK1056
   clear HO1065
   clear BK1068
   clear HB
   clear HI1060
   have BK1056 := n0_
   have HO1065 := n1_
   have BK1068 := n2_
   have HO1071 := n3_
   have HB := n4_
   have HI1060 := n5_
   clear n0_ n1_ n2_ n3_ n4_ n5_
   (try clear hb)
   (try clear ho0)
   refine hK.out _ _ ⟨v1070, v1075, m8_, (by rw [ha.out]; exact putSel_upk 2 hb_ rfl rfl rfl), mc104, fun _ => mc252, mc253, fun h0_ => absurd ((up_self b 3).symm.trans h0_) (by decide), mc111, fun _ => (by (with_reducible repeat (first | apply Kd.R_alloc | apply Kd.R_drewN | apply Kd.R_drew)); exact Kd.R_mono HO1071.out (fun _ hk => by first | exact hk.2 | exact hk.1 | exact hk | exact trivial | exact ⟨hk.1.1, hk.1.2⟩ | exact hk.1.1 | exact hk.1.2)), fun _ _ => mc92, z_HO1076, fun h0_ => absurd ((hoff 6 kr_).symm.trans h0_) (by decide), fun h0_ => absurd ((hoff 7 kr_).symm.trans h0_) (by decide), fun h0_ => absurd ((hoff 8 kr_).symm.trans h0_) (by decide)⟩
  refine steps_cons ?_ ?_
  ·
   rintro b a w' ⟨v1070, v1075, m8_, ha, Q_HO1065, Q_BK1056, Q_BK1068, Q_HI1060, Q_HB, Q_HO1071, Q_HI1060_e3, Q_HO1076, Q_HI1060_e6, Q_BK1056_e7, Q_X8_⟩ hb_ hon hoff
   refine ⟨_, rfl, fun K hK => ?_⟩
   replace ha := A_ ha
   have HO1065 := A_ Q_HO1065
   have BK1056 := A_ (Q_BK1056 (hoff 7 kr_))
   have BK1068 := A_ Q_BK1068
   have HB := A_ Q_HB
   refine Kd.R_lit_step (Kd.int .i64) _ 3 ?hg (N := 17) ?hd (xs := ([0, 7, (-9999), 9000, 9001] : List Int)) (inner := [.int .i64 0, .int .i64 7, .int .i64 (-9999), .int .i64 9000, .int .i64 9001]) (ok := fun _ => True) (okp := fun _ => True) ?hr ?hp (fun _ hk => hk) trivial (Below.refl _ _) (Nat.le_refl _) (by simp) ?_; (case hd => rfl); (case hg => rfl); (case hr => exact mc353); (case hp => exact (Reps.one (show Kd.M (Kd.int .i64) _ _ _ 0 [.int .i64 0] from rfl) (Reps.one (show Kd.M (Kd.int .i64) _ _ _ 7 [.int .i64 7] from rfl) (Reps.one (show Kd.M (Kd.int .i64) _ _ _ (-9999) [.int .i64 (-9999)] from rfl) (Reps.one (show Kd.M (Kd.int .i64) _ _ _ 9000 [.int .i64 9000] from rfl) (Reps.one (show Kd.M (Kd.int .i64) _ _ _ 9001 [.int .i64 9001] from rfl) (Reps.none _ _)))))))
   intro v1075 w16 ho17 hb hg_ hnew_
   clear hg_ hnew_
   (first | rw [← Ny1074.out] at ho17 | (simp only [Int.reduceToNat] at ho17; rw [← Ny1074.out] at ho17))
   have n0_ := A_ (Kd.Q_elder' mc314 (Kd.R_base ho17) hb)
   have n1_ := A_ (Kd.R_lower (Kd.R_new' ho17 (Kd.Q_lt mc314)) (below_size mc156))
   have n2_ := A_ (blk_below mc252 hb)
   have n4_ := A_ (blk_below mc253 hb)
   have n5_ := A_ (below_step mc156 hb)
   have z_HI1060 := fun (h0_ : b 3 = false) => (show IsS61 w w16 g1060 t1057 t1066 t1067 from by first | exact (IsS61.below (by repeat (first | (with_reducible first | exact (Q_HI1060 h0_) | apply IsS61.alloc | apply IsS61.drewN | apply IsS61.drew | apply IsS61.set_1 | apply IsS61.set_2 | refine IsS61.far ?_ NB1060_1056.out _ | refine IsS61.far ?_ NB1060_1068.out _) | exact (Q_HI1060 h0_))) hb))
   have z_HO1071 := fun (h0_ : b 3 = true) => (show Kd.R (Kd.int .i64) 3 w16 w.heap.size (fun k_ => some k_ ≠ (.slice Ao13 t1063.length co13 : Value).ownBlock) v1070 t1069 from by first | exact (Kd.R_elder' (by (with_reducible repeat (first | apply Kd.R_alloc | apply Kd.R_drewN | apply Kd.R_drew)); exact (Q_HO1071 h0_)) (Kd.R_base ho17) hb) | exact Kd.R_mono (Kd.R_elder' (by (with_reducible repeat (first | apply Kd.R_alloc | apply Kd.R_drewN | apply Kd.R_drew)); exact (Q_HO1071 h0_)) (Kd.R_base ho17) hb) (fun _ h_ => by first | trivial | exact h_ | exact h_.1))
   have z_HI1060_e3 := fun (h0_ : b 3 = true) (h1_ : b 6 = false) => (show IsS61 w w16 g1060 t1057 t1072 t1073 from by first | exact (IsS61.below (by repeat (first | (with_reducible first | exact (Q_HI1060_e3 h0_ h1_) | apply IsS61.alloc | apply IsS61.drewN | apply IsS61.drew | apply IsS61.set_1 | apply IsS61.set_2 | refine IsS61.far ?_ NB1060_1056.out _ | refine IsS61.far ?_ NB1060_1068.out _) | exact (Q_HI1060_e3 h0_ h1_))) hb))
   clear HO1065
   clear BK1056
   clear BK1068
   clear HB
   have HO1065 := n0_
   have HO1076 := n1_
   have BK1056 := n2_
   have BK1068 := n4_
   have HB := n5_
   clear n0_ n1_ n2_ n4_ n5_
   clear hb ho17
   refine hK.out _ _ ⟨v1070, v1075, m8_, (by rw [ha.out]; exact putSel_upk 3 hb_ rfl rfl rfl), mc104, fun _ => mc252, mc253, z_HI1060, mc156, z_HO1071, z_HI1060_e3, fun _ => (by (with_reducible repeat (first | apply Kd.R_alloc | apply Kd.R_drewN | apply Kd.R_drew)); exact Kd.R_mono HO1076.out (fun _ hk => by first | exact hk.2 | exact hk.1 | exact hk | exact trivial | exact ⟨hk.1.1, hk.1.2⟩ | exact hk.1.1 | exact hk.1.2)), fun h0_ => absurd ((hoff 6 kr_).symm.trans h0_) (by decide), fun h0_ => absurd ((hoff 7 kr_).symm.trans h0_) (by decide), fun h0_ => absurd ((hoff 8 kr_).symm.trans h0_) (by decide)⟩
  refine steps_cons ?_ ?_
  ·
   rintro b a w' ⟨v1070, v1075, m8_, ha, Q_HO1065, Q_BK1056, Q_BK1068, Q_HI1060, Q_HB, Q_HO1071, Q_HI1060_e3, Q_HO1076, Q_HI1060_e6, Q_BK1056_e7, Q_X8_⟩ hb_ hon hoff
   refine ⟨_, rfl, fun K hK => ?_⟩
   have e16 : a.tmps[16]? = some (.pointer (some ⟨g1060, 0, none⟩)) := by rw [ha]; exact (putSel_off rfl).trans rfl
   have e17 : a.tmps[17]? = some (v1075) := by rw [ha]; exact putSel_on (e := (5, 17, v1075)) 3 rfl rfl (hon 5 kr_) rfl
   replace ha := A_ ha
   have HO1065 := A_ Q_HO1065
   have BK1056 := A_ (Q_BK1056 (hoff 7 kr_))
   have BK1068 := A_ Q_BK1068
   have HB := A_ Q_HB
   have HO1071 := A_ (Q_HO1071 (hon 3 kr_))
   have HI1060 := A_ (Q_HI1060_e3 (hon 3 kr_) hb_)
   have HO1076 := A_ (Q_HO1076 (hon 5 kr_))
   obtain ⟨Ao20, co20, eo20⟩ := Kd.R_slice HO1076.out
   (first | subst eo20 | (injection eo20 with f1_ f2_ f3_; have f4_ := f1_.symm; have f5_ := f3_.symm; clear f1_ f2_ f3_; subst f4_; subst f5_))
   refine goes_ Try.func43 kr_ rfl #[.pointer (some ⟨g1060, 0, none⟩), .slice Ao20 y1074.length co20] (by rfl) rfl rfl mc80 ?_
   with_reducible refine (spec_l1Cur_among.calls g1060 t1057 t1072 t1073 _ _ y1074 t1077 t1078 t1079 w _ ?side1 ?side2 ?side3 ?side4 ?side5 A5.out).mono ?_
   (case side1 => exact mc92)
   (case side2 => exact mc111)
   (case side3 => repeat (first | exact (Kd.R_reads' HO1076.out).2.2 | (with_reducible refine Kd.C_alloc ?_ _) | (with_reducible refine Kd.C_drewN ?_ _) | (with_reducible refine Kd.C_drew ?_)))
   (case side4 => exact (Kd.R_reads' HO1076.out).2.1)
   (case side5 => exact far_slice (IsS61.own_ne HI1060.out HO1076.out (by decide)))
   rintro e w21 ⟨rfl, hi, hb, hk⟩
   refine ⟨_, rfl, ?_⟩
   replace BK1056 := A_ (KeepBut.blk hk (g' := gb1056) (o := .cells #[.int .i64 0, .int .i64 0, .slice none 0 0] 26 (0, 0)) mc252 NB1056_1060.out (by simp))
   replace HO1065 := A_ (Kd.Q_mono (Kd.Q_keep (IsS61.apartQ (show IsS61 w _ g1060 t1057 t1072 t1073 from by repeat (first | (with_reducible first | exact HI1060.out | apply IsS61.alloc | apply IsS61.drewN | apply IsS61.drew | apply IsS61.set_1 | apply IsS61.set_2 | refine IsS61.far ?_ NB1060_1056.out _ | refine IsS61.far ?_ NB1060_1068.out _) | exact HI1060.out)) mc314 (by decide)) hk (fun _ h => h.2)) (fun _ h => h.1))
   replace BK1068 := A_ (KeepBut.blk hk (g' := gb1068) (o := .cells #[.int .i64 t1061, .int .i64 t1062, .slice Ao13 t1063.length co13] 26 (0, 0)) mc253 NB1068_1060.out (by simp))
   replace HO1071 := A_ (Kd.R_mono (Kd.R_keep (IsS61.apart (show IsS61 w _ g1060 t1057 t1072 t1073 from by repeat (first | (with_reducible first | exact HI1060.out | apply IsS61.alloc | apply IsS61.drewN | apply IsS61.drew | apply IsS61.set_1 | apply IsS61.set_2 | refine IsS61.far ?_ NB1060_1056.out _ | refine IsS61.far ?_ NB1060_1068.out _) | exact HI1060.out)) (by (with_reducible repeat (first | apply Kd.R_alloc | apply Kd.R_drewN | apply Kd.R_drew)); exact HO1071.out) (by decide)) hk (fun _ h => h.2)) (fun _ h => h.1))
   replace HO1076 := A_ (Kd.R_mono (Kd.R_keep (IsS61.apart (show IsS61 w _ g1060 t1057 t1072 t1073 from by repeat (first | (with_reducible first | exact HI1060.out | apply IsS61.alloc | apply IsS61.drewN | apply IsS61.drew | apply IsS61.set_1 | apply IsS61.set_2 | refine IsS61.far ?_ NB1060_1056.out _ | refine IsS61.far ?_ NB1060_1068.out _) | exact HI1060.out)) (by (with_reducible repeat (first | apply Kd.R_alloc | apply Kd.R_drewN | apply Kd.R_drew)); exact HO1076.out) (by decide)) hk (fun _ h => h.2)) (fun _ h => h.1))
   replace HB := A_ (hb)
   replace HI1060 := A_ (hi)
   (try clear hb)
   refine hK.out _ _ ⟨v1070, .slice Ao20 y1074.length co20, m8_, (by rw [ha.out]; exact putSel_upk 4 hb_ rfl rfl rfl), mc314, fun _ => mc252, mc253, fun h0_ => absurd ((hon 3 kr_).symm.trans h0_) (by decide), mc111, fun _ => (by (with_reducible repeat (first | apply Kd.R_alloc | apply Kd.R_drewN | apply Kd.R_drew)); exact HO1071.out), fun _ h1_ => absurd ((up_self b 6).symm.trans h1_) (by decide), fun _ => (by (with_reducible repeat (first | apply Kd.R_alloc | apply Kd.R_drewN | apply Kd.R_drew)); exact HO1076.out), fun _ => mc92, fun h0_ => absurd ((hoff 7 kr_).symm.trans h0_) (by decide), fun h0_ => absurd ((hoff 8 kr_).symm.trans h0_) (by decide)⟩
  refine steps_cons ?_ ?_
  ·
   rintro b a w' ⟨v1070, v1075, m8_, ha, Q_HO1065, Q_BK1056, Q_BK1068, Q_HI1060, Q_HB, Q_HO1071, Q_HI1060_e3, Q_HO1076, Q_HI1060_e6, Q_BK1056_e7, Q_X8_⟩ hb_ hon hoff
   refine ⟨_, rfl, fun K hK => ?_⟩
   have e2 : a.tmps[2]? = some (.pointer (some ⟨gb1056, 0, none⟩)) := by rw [ha]; exact (putSel_off rfl).trans rfl
   have e12 : a.tmps[12]? = some (.agg #[.int .i64 t1061, .int .i64 t1062, .slice Ao13 t1063.length co13]) := by rw [ha]; exact putSel_on (e := (0, 12, .agg #[.int .i64 t1061, .int .i64 t1062, .slice Ao13 t1063.length co13])) 0 rfl rfl (hon 0 kr_) rfl
   replace ha := A_ ha
   have HO1065 := A_ Q_HO1065
   have BK1056 := A_ (Q_BK1056 hb_)
   have BK1068 := A_ Q_BK1068
   have HB := A_ Q_HB
   have HO1071 := A_ (Q_HO1071 (hon 3 kr_))
   have HO1076 := A_ (Q_HO1076 (hon 5 kr_))
   have HI1060 := A_ (Q_HI1060_e6 (hon 6 kr_))
   have hs22 : w'.cell? ⟨gb1056, 0, none⟩ = some (.int .i64 0) := bc_ BK1056 0 rfl
   have hfs22 := blk_frozen BK1056.out 0
   have hns22_1 := NB1068_1056.out
   have hms22_1 := NB1056_1068.out
   have hs23 : w'.cell? ⟨gb1056, 1, none⟩ = some (.int .i64 0) := bc_ BK1056 1 rfl
   have hfs23 := blk_frozen BK1056.out 1
   have hns23_1 := NB1068_1056.out
   have hms23_1 := NB1056_1068.out
   have hs24 : w'.cell? ⟨gb1056, 2, none⟩ = some (.slice none 0 0) := bc_ BK1056 2 rfl
   have hfs24 := blk_frozen BK1056.out 2
   have hns24_1 := NB1068_1056.out
   have hms24_1 := NB1056_1068.out
   refine skip_ (w1 := ?_) (by rfl) rfl ?_ ?_
   rotate_left
   ·
    go_simp
    rfl
   refine hK.out _ _ ⟨v1070, v1075, m8_, (by rw [ha.out]; exact putSel_none (v := undef) rfl), (by (with_reducible repeat (first | apply Kd.Q_alloc | apply Kd.Q_drewN | apply Kd.Q_drew)); exact Kd.Q_mono (Kd.Q_far (p := ⟨gb1056, 2, none⟩) (Kd.Q_far (p := ⟨gb1056, 1, none⟩) (Kd.Q_far (p := ⟨gb1056, 0, none⟩) (Kd.Q_types HO1065.out BK1056.out (by decide)) (fun _ hk => by first | exact hk.2 | exact hk.1 | exact hk | exact trivial | exact ⟨hk.1.1, hk.1.2⟩ | exact hk.1.1 | exact hk.1.2) (.int .i64 t1061)) (fun _ hk => by first | exact hk.2 | exact hk.1 | exact hk | exact trivial | exact ⟨hk.1.1, hk.1.2⟩ | exact hk.1.1 | exact hk.1.2) (.int .i64 t1062)) (fun _ hk => by first | exact hk.2 | exact hk.1 | exact hk | exact trivial | exact ⟨hk.1.1, hk.1.2⟩ | exact hk.1.1 | exact hk.1.2) (.slice Ao13 t1063.length co13)) (fun _ hk => by first | exact hk.2 | exact hk.1 | exact hk | exact trivial | exact ⟨hk.1.1, hk.1.2⟩ | exact hk.1.1 | exact hk.1.2)), fun h0_ => absurd ((up_self b 7).symm.trans h0_) (by decide), (by (with_reducible repeat (first | refine blk_drewN ?_ _ | refine blk_drew ?_ | refine blk_alloc ?_ _)); refine blk_far ?_ NB1068_1056.out _; (with_reducible repeat (first | refine blk_drewN ?_ _ | refine blk_drew ?_ | refine blk_alloc ?_ _)); refine blk_far ?_ NB1068_1056.out _; (with_reducible repeat (first | refine blk_drewN ?_ _ | refine blk_drew ?_ | refine blk_alloc ?_ _)); refine blk_far ?_ NB1068_1056.out _; (with_reducible repeat (first | refine blk_drewN ?_ _ | refine blk_drew ?_ | refine blk_alloc ?_ _)); exact BK1068.out), fun h0_ => absurd ((hon 3 kr_).symm.trans h0_) (by decide), mc111, fun _ => (by (with_reducible repeat (first | apply Kd.R_alloc | apply Kd.R_drewN | apply Kd.R_drew)); exact Kd.R_mono (Kd.R_far (p := ⟨gb1056, 2, none⟩) (Kd.R_far (p := ⟨gb1056, 1, none⟩) (Kd.R_far (p := ⟨gb1056, 0, none⟩) (Kd.R_types HO1071.out BK1056.out (by decide)) (fun _ hk => by first | exact hk.2 | exact hk.1 | exact hk | exact trivial | exact ⟨hk.1.1, hk.1.2⟩ | exact hk.1.1 | exact hk.1.2) (.int .i64 t1061)) (fun _ hk => by first | exact hk.2 | exact hk.1 | exact hk | exact trivial | exact ⟨hk.1.1, hk.1.2⟩ | exact hk.1.1 | exact hk.1.2) (.int .i64 t1062)) (fun _ hk => by first | exact hk.2 | exact hk.1 | exact hk | exact trivial | exact ⟨hk.1.1, hk.1.2⟩ | exact hk.1.1 | exact hk.1.2) (.slice Ao13 t1063.length co13)) (fun _ hk => by first | exact hk.2 | exact hk.1 | exact hk | exact trivial | exact ⟨hk.1.1, hk.1.2⟩ | exact hk.1.1 | exact hk.1.2)), fun _ h1_ => absurd ((hon 6 kr_).symm.trans h1_) (by decide), fun _ => (by (with_reducible repeat (first | apply Kd.R_alloc | apply Kd.R_drewN | apply Kd.R_drew)); exact Kd.R_mono (Kd.R_far (p := ⟨gb1056, 2, none⟩) (Kd.R_far (p := ⟨gb1056, 1, none⟩) (Kd.R_far (p := ⟨gb1056, 0, none⟩) (Kd.R_types HO1076.out BK1056.out (by decide)) (fun _ hk => by first | exact hk.2 | exact hk.1 | exact hk | exact trivial | exact ⟨hk.1.1, hk.1.2⟩ | exact hk.1.1 | exact hk.1.2) (.int .i64 t1061)) (fun _ hk => by first | exact hk.2 | exact hk.1 | exact hk | exact trivial | exact ⟨hk.1.1, hk.1.2⟩ | exact hk.1.1 | exact hk.1.2) (.int .i64 t1062)) (fun _ hk => by first | exact hk.2 | exact hk.1 | exact hk | exact trivial | exact ⟨hk.1.1, hk.1.2⟩ | exact hk.1.1 | exact hk.1.2) (.slice Ao13 t1063.length co13)) (fun _ hk => by first | exact hk.2 | exact hk.1 | exact hk | exact trivial | exact ⟨hk.1.1, hk.1.2⟩ | exact hk.1.1 | exact hk.1.2)), fun _ => mc92, fun _ => (by (with_reducible repeat (first | refine blk_drewN ?_ _ | refine blk_drew ?_ | refine blk_alloc ?_ _)); refine blk_put (cs := #[.int .i64 t1061, .int .i64 t1062, .slice none 0 0]) ?_ 2 _ rfl; (with_reducible repeat (first | refine blk_drewN ?_ _ | refine blk_drew ?_ | refine blk_alloc ?_ _)); refine blk_put (cs := #[.int .i64 t1061, .int .i64 0, .slice none 0 0]) ?_ 1 _ rfl; (with_reducible repeat (first | refine blk_drewN ?_ _ | refine blk_drew ?_ | refine blk_alloc ?_ _)); refine blk_put (cs := #[.int .i64 0, .int .i64 0, .slice none 0 0]) ?_ 0 _ rfl; (with_reducible repeat (first | refine blk_drewN ?_ _ | refine blk_drew ?_ | refine blk_alloc ?_ _)); exact BK1056.out), fun h0_ => absurd ((hoff 8 kr_).symm.trans h0_) (by decide)⟩
  refine steps_cons ?_ ?_
  ·
   rintro b a w' ⟨v1070, v1075, m8_, ha, Q_HO1065, Q_BK1056, Q_BK1068, Q_HI1060, Q_HB, Q_HO1071, Q_HI1060_e3, Q_HO1076, Q_HI1060_e6, Q_BK1056_e7, Q_X8_⟩ hb_ hon hoff
   refine ⟨_, rfl, fun K hK => ?_⟩
   have e15 : a.tmps[15]? = some (v1070) := by rw [ha]; exact putSel_on (e := (3, 15, v1070)) 2 rfl rfl (hon 3 kr_) rfl
   replace ha := A_ ha
   have HO1065 := A_ Q_HO1065
   have BK1068 := A_ Q_BK1068
   have HB := A_ Q_HB
   have HO1071 := A_ (Q_HO1071 (hon 3 kr_))
   have HO1076 := A_ (Q_HO1076 (hon 5 kr_))
   have HI1060 := A_ (Q_HI1060_e6 (hon 6 kr_))
   have BK1056 := A_ (Q_BK1056_e7 (hon 7 kr_))
   refine value_ (w1 := w') (v := v1070) (by rfl) rfl ?_ ?_
   ·
    go_simp
    (try simp only [i64_w])
    try rfl
   refine hK.out _ _ ⟨v1070, v1075, (v1070), (by rw [ha.out]; exact putSel_upk 5 hb_ rfl rfl rfl), Q_HO1065, fun h0_ => absurd ((hon 7 kr_).symm.trans h0_) (by decide), Q_BK1068, fun h0_ => absurd ((hon 3 kr_).symm.trans h0_) (by decide), Q_HB, Q_HO1071, fun _ h1_ => absurd ((hon 6 kr_).symm.trans h1_) (by decide), Q_HO1076, Q_HI1060_e6, Q_BK1056_e7, fun _ => rfl⟩
  refine steps_cons ?_ ?_
  ·
   rintro b a w' ⟨v1070, v1075, m8_, ha, Q_HO1065, Q_BK1056, Q_BK1068, Q_HI1060, Q_HB, Q_HO1071, Q_HI1060_e3, Q_HO1076, Q_HI1060_e6, Q_BK1056_e7, Q_X8_⟩ hb_ hon hoff
   refine ⟨_, rfl, fun K hK => ?_⟩
   have e18 : a.tmps[18]? = some (.int .i64 t1077) := by rw [ha]; exact putSel_on (e := (6, 18, .int .i64 t1077)) 4 rfl rfl (hon 6 kr_) rfl
   replace ha := A_ ha
   have HO1065 := A_ Q_HO1065
   have BK1068 := A_ Q_BK1068
   have HB := A_ Q_HB
   have HO1071 := A_ (Q_HO1071 (hon 3 kr_))
   have HO1076 := A_ (Q_HO1076 (hon 5 kr_))
   have HI1060 := A_ (Q_HI1060_e6 (hon 6 kr_))
   have BK1056 := A_ (Q_BK1056_e7 (hon 7 kr_))
   refine value_ (w1 := w') (v := .int .i64 t1077) (by rfl) rfl ?_ ?_
   ·
    go_simp
    (try simp only [i64_w])
    try rfl
   refine hK.out _ _ ⟨v1070, v1075, m8_, (by rw [ha.out]; exact putSel_upk 6 hb_ rfl rfl rfl), Q_HO1065, fun h0_ => absurd ((hon 7 kr_).symm.trans h0_) (by decide), Q_BK1068, fun h0_ => absurd ((hon 3 kr_).symm.trans h0_) (by decide), Q_HB, Q_HO1071, fun _ h1_ => absurd ((hon 6 kr_).symm.trans h1_) (by decide), Q_HO1076, Q_HI1060_e6, Q_BK1056_e7, Q_X8_⟩
  exact steps_nil
 rintro b a w24 hall ⟨v1070, v1075, m8_, ha, Q_HO1065, Q_BK1056, Q_BK1068, Q_HI1060, Q_HB, Q_HO1071, Q_HI1060_e3, Q_HO1076, Q_HI1060_e6, Q_BK1056_e7, Q_X8_⟩
 clear BK1056 BK1068 HB HI1060 HO1065
 have hb0_ := hall 0 kr_
 have hb2_ := hall 2 kr_
 have hb3_ := hall 3 kr_
 have hb5_ := hall 5 kr_
 have hb6_ := hall 6 kr_
 have hb7_ := hall 7 kr_
 have hb8_ := hall 8 kr_
 have hb9_ := hall 9 kr_
 subst ha
 obtain rfl := Q_X8_ hb8_
 simp only [putSel, hb0_, hb2_, hb3_, hb5_, hb6_, hb7_, hb8_, hb9_, if_true, Act.put, List.setIfInBounds_toArray, List.set_cons_zero, List.set_cons_succ]
 have HO1065 := A_ Q_HO1065
 clear Q_HO1065
 clear Q_BK1056
 have BK1068 := A_ Q_BK1068
 clear Q_BK1068
 clear Q_HI1060
 have HB := A_ Q_HB
 clear Q_HB
 have HO1071 := A_ (Q_HO1071 hb3_)
 clear Q_HO1071
 clear Q_HI1060_e3
 have HO1076 := A_ (Q_HO1076 hb5_)
 clear Q_HO1076
 have HI1060 := A_ (Q_HI1060_e6 hb6_)
 clear Q_HI1060_e6
 have BK1056 := A_ (Q_BK1056_e7 hb7_)
 clear Q_BK1056_e7
 clear hall hb0_ hb2_ hb3_ hb5_ hb6_ hb7_ hb8_ hb9_
 try go_wp2
 refine bodyPost_ret (results_ctt rfl _ _ gb1056 26 #[.int .i64 t1061, .int .i64 t1062, .slice Ao13 t1063.length co13] (0, 0) _ rfl mc252 Try.underlying26 rfl kr_) rfl ?_
 exact ⟨_, _, mc332, by (with_reducible repeat (first | apply Kd.Q_alloc | apply Kd.Q_drewN | apply Kd.Q_drew)); exact Kd.Q_mono (Kd.Q_tight rfl HO1065.out) (fun k_ hk hx_ => HO1071.out.1 k_ hx_.symm hk), by (with_reducible repeat (first | apply Kd.R_alloc | apply Kd.R_drewN | apply Kd.R_drew)); exact Kd.R_mono HO1071.out (fun _ hk => by first | exact hk.2 | exact hk.1 | exact hk | exact trivial | exact ⟨hk.1.1, hk.1.2⟩ | exact hk.1.1 | exact hk.1.2), mc111⟩

/-! ### impl_EditedRegion: function 37 -/
def impl_EditedRegion.l0 : Nat → List Int → List Int → Int → Int → Int → Int → List Int → Option (List Int × Bool)
 | 0, _, _, _, _, _, _, _ => none
 | k + 1, x6, x15, x16, x17, x1082000, x1082001, x1082002 => if x17 < x16 then (if 0 ≤ x17 then (if x17 < (x15.length : Int) then (if x17 < (x1082002.length : Int) then (if (rd x15 x17) = (rd x1082002 x17) then (impl_EditedRegion.l0 k x6 x15 x16 (wrap64 (x17 + 1)) x1082000 x1082001 x1082002) else (if x6.length < 17592186044416 then (impl_EditedRegion.l0 k (x6 ++ [x17]) x15 x16 (wrap64 (x17 + 1)) x1082000 x1082001 x1082002) else (none))) else (none)) else (none)) else (none)) else (some (x6, true))
def impl_EditedRegion.f (k : Nat) (a0_0 : Int) (a0_1 : Int) (l0_2 : List Int) (a1_0 : Int) (a1_1 : Int) (l1_2 : List Int) : Option (List Int × Bool) := (impl_areAlike.f k (([(⟨a0_0, a0_1, l0_2⟩ : S26), (⟨a1_0, a1_1, l1_2⟩ : S26)] : List (S26)))).bind fun t1085 => (if t1085 = true then (impl_EditedRegion.l0 k ([] : List Int) l0_2 (l0_2.length : Int) 0 a1_0 a1_1 l1_2) else (some (([] : List Int), false)))
set_option maxHeartbeats 8000000 in
set_option maxRecDepth 100000 in
theorem impl_EditedRegion.calls (k : Nat) (a0_0 : Int) (a0_1 : Int) (P0_2_ : Nat → Prop) (A0_2 : Option Addr) (c0_2 : Nat) (l0_2 : List Int) (a1_0 : Int) (a1_1 : Int) (P1_2_ : Nat → Prop) (A1_2 : Option Addr) (c1_2 : Nat) (l1_2 : List Int) (r1 : List Int) (r2 : Bool) (w : World) (hs0_2 : Kd.V (Kd.int .i64) 3 w w.heap.size (fun k_ => P0_2_ k_) (.slice A0_2 l0_2.length c0_2) l0_2) (hs1_2 : Kd.V (Kd.int .i64) 3 w w.heap.size (fun k_ => P1_2_ k_) (.slice A1_2 l1_2.length c1_2) l1_2) (h : impl_EditedRegion.f k a0_0 a0_1 l0_2 a1_0 a1_1 l1_2 = some (r1, r2)) :
  Calls Try.prog 37 #[.agg #[.int .i64 a0_0, .int .i64 a0_1, .slice A0_2 l0_2.length c0_2], .agg #[.int .i64 a1_0, .int .i64 a1_1, .slice A1_2 l1_2.length c1_2]] w fun e w' => ∃ v0_ : Value, e = .returned (.tuple #[v0_, .bool r2]) ∧ Kd.R (Kd.int .i64) 3 w' w.heap.size (fun k_ => (w.heap.size ≤ k_)) v0_ r1 ∧ Below w.heap.size w w' := by
 have hu26 := Try.underlying26
 have HO0_2 := A_ (show Kd.V (Kd.int .i64) 3 w w.heap.size (fun k_ => ((P0_2_ k_ ∨ P1_2_ k_) ∨ w.heap.size ≤ k_)) (.slice A0_2 l0_2.length c0_2) l0_2 from Kd.V_mono hs0_2 (fun k_ hk => .inl (.inl hk)))
 have HO1_2 := A_ (show Kd.V (Kd.int .i64) 3 w w.heap.size (fun k_ => ((P0_2_ k_ ∨ P1_2_ k_) ∨ w.heap.size ≤ k_)) (.slice A1_2 l1_2.length c1_2) l1_2 from Kd.V_mono hs1_2 (fun k_ hk => .inl (.inr hk)))
 have HB := A_ (Below.refl w.heap.size w)
 have H : ((impl_areAlike.f k (([(⟨a0_0, a0_1, l0_2⟩ : S26), (⟨a1_0, a1_1, l1_2⟩ : S26)] : List (S26)))).bind fun t1085 => (if t1085 = true then (impl_EditedRegion.l0 k ([] : List Int) l0_2 (l0_2.length : Int) 0 a1_0 a1_1 l1_2) else (some (([] : List Int), false)))) = some (r1, r2) := h
 clear h
 obtain ⟨y1082, hy1082⟩ : ∃ y_ : List (S26), y_ = (([(⟨a0_0, a0_1, l0_2⟩ : S26), (⟨a1_0, a1_1, l1_2⟩ : S26)] : List (S26))) := ⟨_, rfl⟩
 replace H : ((impl_areAlike.f k y1082).bind fun t1085 => (if t1085 = true then (impl_EditedRegion.l0 k ([] : List Int) l0_2 (l0_2.length : Int) 0 a1_0 a1_1 l1_2) else (some (([] : List Int), false)))) = some (r1, r2) := by first | (rw [hy1082]; with_reducible exact H) | (have H2_ := (Option.bind_some _ _).symm.trans H; rw [hy1082]; with_reducible exact H2_) | (have H2_ := (Option.bind_some _ _).symm.trans H; with_reducible exact H2_) | with_reducible exact H | (rw [hy1082]; exact H) | exact H
 have Ny1082 := A_ hy1082
 clear hy1082
 obtain ⟨t1085, A30, H⟩ := oB_ H
 have A3 := A_ A30
 clear A30
 by_cases c4 : t1085 = true
 rotate_left
 ·
  replace c4 := Bool.eq_false_iff.mpr c4
  subst c4
  rw [if_neg (show ¬ (false = true) by decide)] at H
  simp only [Option.some.injEq, Prod.mk.injEq] at H
  obtain ⟨rfl, rfl⟩ := H
  go_enter Try.func37, Try.ntmps37
  go_wp2_with (first | ((with_reducible refine gd_ 2 rfl ?_); refine box_event rfl (N := 2) rfl (cs := #[.int .i64 a0_0, .int .i64 a0_1, .slice A0_2 l0_2.length c0_2]) (t := 26) mc353 ?_; intro gb1080 hg w26 hbox hb; replace HO0_2 := A_ (Kd.V_below (Kd.V_elderB mc325 gb1080 (Nat.le_of_eq hg.symm)) hb); replace HO1_2 := A_ (Kd.V_below (Kd.V_elderB mc326 gb1080 (Nat.le_of_eq hg.symm)) hb); have BK1080 := A_ (hbox); have GW1080 := A_ ((mc213 : w.heap.size ≤ gb1080)); have GE1080 := A_ ((mc213 : w.heap.size ≤ gb1080)); replace HB := A_ (below_step mc249 hb); clear hb hbox hg) | ((with_reducible refine gd_ 3 rfl ?_); refine box_event rfl (N := 3) rfl (cs := #[.int .i64 a1_0, .int .i64 a1_1, .slice A1_2 l1_2.length c1_2]) (t := 26) mc353 ?_; intro gb1081 hg w27 hbox hb; replace HO0_2 := A_ (Kd.V_below (Kd.V_elderB mc325 gb1081 (Nat.le_of_eq hg.symm)) hb); replace HO1_2 := A_ (Kd.V_below (Kd.V_elderB mc326 gb1081 (Nat.le_of_eq hg.symm)) hb); have BK1081 := A_ (hbox); have GW1081 := A_ ((mc161 : w.heap.size ≤ gb1081)); have GE1081 := A_ ((mc161 : w.heap.size ≤ gb1081)); replace HB := A_ (below_step mc209 hb); have NB1080_1081 := A_ ((by rw [hg]; exact Nat.ne_of_lt (blk_lt mc254) : gb1080 ≠ gb1081)); have NB1081_1080 := A_ ((by rw [hg]; exact Nat.ne_of_gt (blk_lt mc254) : gb1081 ≠ gb1080)); replace BK1080 := A_ (blk_below mc254 hb); clear hb hbox hg; have hnb28 := NB1080_1081.out; have hnc28 := NB1081_1080.out; have hcz29_0 : w27.cell? ⟨gb1080, 0, none⟩ = some (.int .i64 a0_0) := bc_ BK1080 0 rfl; have hcz29_1 : w27.cell? ⟨gb1080, 1, none⟩ = some (.int .i64 a0_1) := bc_ BK1080 1 rfl; have hcz29_2 : w27.cell? ⟨gb1080, 2, none⟩ = some (.slice A0_2 l0_2.length c0_2) := bc_ BK1080 2 rfl; have hfz29_0 := blk_frozen BK1080.out 0; have hfz29_1 := blk_frozen BK1080.out 1; have hfz29_2 := blk_frozen BK1080.out 2; have hcz30_0 : w27.cell? ⟨gb1081, 0, none⟩ = some (.int .i64 a1_0) := bc_ BK1081 0 rfl; have hcz30_1 : w27.cell? ⟨gb1081, 1, none⟩ = some (.int .i64 a1_1) := bc_ BK1081 1 rfl; have hcz30_2 : w27.cell? ⟨gb1081, 2, none⟩ = some (.slice A1_2 l1_2.length c1_2) := bc_ BK1081 2 rfl; have hfz30_0 := blk_frozen BK1081.out 0; have hfz30_1 := blk_frozen BK1081.out 1; have hfz30_2 := blk_frozen BK1081.out 2) | ((with_reducible refine gd_ 11 rfl ?_); refine Kd.N_lit k26 _ 26 ?hg (N' := 11) ?hd (xs := ([(⟨a0_0, a0_1, l0_2⟩ : S26), (⟨a1_0, a1_1, l1_2⟩ : S26)] : List (S26))) (inner := [.int .i64 a0_0, .int .i64 a0_1, .slice A0_2 l0_2.length c0_2, .int .i64 a1_0, .int .i64 a1_1, .slice A1_2 l1_2.length c1_2]) (ok := (fun k_ => ((P0_2_ k_ ∨ P1_2_ k_) ∨ w.heap.size ≤ k_) ∧ k_ ≠ gb1080 ∧ k_ ≠ gb1081)) (okp := (fun k_ => ((P0_2_ k_ ∨ P1_2_ k_) ∨ w.heap.size ≤ k_) ∧ k_ ≠ gb1080 ∧ k_ ≠ gb1081)) ?hr ?hp (fun _ hk => hk) ((show ∀ k_, w27.heap.size ≤ k_ → (fun k_ => ((P0_2_ k_ ∨ P1_2_ k_) ∨ w.heap.size ≤ k_) ∧ k_ ≠ gb1080 ∧ k_ ≠ gb1081) k_ from fun k_ hk => ⟨(.inr (Nat.le_trans (below_size mc157) hk)), Kd.freshB (g := gb1080) (o := .cells #[.int .i64 a0_0, .int .i64 a0_1, .slice A0_2 l0_2.length c0_2] 26 (0, 0)) mc254 k_ hk, Kd.freshB (g := gb1081) (o := .cells #[.int .i64 a1_0, .int .i64 a1_1, .slice A1_2 l1_2.length c1_2] 26 (0, 0)) mc255 k_ hk⟩) _ (Nat.le_refl _)) (Below.refl _ _) (Nat.le_refl _) (by simp) ?_; (case hd => rfl); (case hg => rfl); (case hr => exact mc353); (case hp => exact (Reps.c3 (show Kd.FK k26 _ _ (⟨a0_0, a0_1, l0_2⟩ : S26) [.int .i64 a0_0, .int .i64 a0_1, .slice A0_2 l0_2.length c0_2] from (k26_mkF _ _ (⟨a0_0, a0_1, l0_2⟩ : S26) (Kd.V_reads' (Kd.V_mono (ok' := (fun k_ => ((P0_2_ k_ ∨ P1_2_ k_) ∨ w.heap.size ≤ k_) ∧ k_ ≠ gb1080 ∧ k_ ≠ gb1081)) (HO0_2.out) (fun k_ hk => ⟨hk.1.1, ⟨hk.1.2, hk.2⟩⟩))).2.1 (Kd.V_F (Kd.V_mono (ok' := (fun k_ => ((P0_2_ k_ ∨ P1_2_ k_) ∨ w.heap.size ≤ k_) ∧ k_ ≠ gb1080 ∧ k_ ≠ gb1081)) (HO0_2.out) (fun k_ hk => ⟨hk.1.1, ⟨hk.1.2, hk.2⟩⟩))))) (Reps.c3 (show Kd.FK k26 _ _ (⟨a1_0, a1_1, l1_2⟩ : S26) [.int .i64 a1_0, .int .i64 a1_1, .slice A1_2 l1_2.length c1_2] from (k26_mkF _ _ (⟨a1_0, a1_1, l1_2⟩ : S26) (Kd.V_reads' (Kd.V_mono (ok' := (fun k_ => ((P0_2_ k_ ∨ P1_2_ k_) ∨ w.heap.size ≤ k_) ∧ k_ ≠ gb1080 ∧ k_ ≠ gb1081)) (HO1_2.out) (fun k_ hk => ⟨hk.1.1, ⟨hk.1.2, hk.2⟩⟩))).2.1 (Kd.V_F (Kd.V_mono (ok' := (fun k_ => ((P0_2_ k_ ∨ P1_2_ k_) ∨ w.heap.size ≤ k_) ∧ k_ ≠ gb1080 ∧ k_ ≠ gb1081)) (HO1_2.out) (fun k_ hk => ⟨hk.1.1, ⟨hk.1.2, hk.2⟩⟩))))) (Reps.none _ _)))); intro v1083 w31 ho32 hb hg_ hnew_; clear hg_ hnew_; (first | rw [← Ny1082.out] at ho32 | (simp only [Int.reduceToNat] at ho32; rw [← Ny1082.out] at ho32)); replace HO0_2 := A_ (Kd.V_elder' mc325 (Kd.N_base ho32) hb); replace HO1_2 := A_ (Kd.V_elder' mc326 (Kd.N_base ho32) hb); have HO1084 := A_ (Kd.N_lower ho32 (below_size mc157)); replace BK1080 := A_ (blk_below mc254 hb); replace BK1081 := A_ (blk_below mc255 hb); replace HB := A_ (below_step mc157 hb); clear hb ho32; obtain ⟨Ao33, co33, eo33⟩ := Kd.N_slice HO1084.out; subst eo33) | ((with_reducible refine gc_ 64 rfl ?_); refine goesL_ (some 12) rfl rfl Try.func64 kr_ rfl #[.slice Ao33 y1082.length co33] rfl mc247 ?_; (with_reducible refine (impl_areAlike.calls k _ _ y1082 false _ ?side1 ?side2 A3.out).mono ?_); (case side1 => repeat (first | exact (Kd.N_reads' HO1084.out).2.2 | (with_reducible refine Kd.C_alloc ?_ _) | (with_reducible refine Kd.C_drewN ?_ _) | (with_reducible refine Kd.C_drew ?_))); (case side2 => exact (Kd.N_reads' HO1084.out).2.1); rintro e w34 ⟨rfl, hb⟩; refine ⟨_, rfl, ?_⟩; replace HO0_2 := A_ (Kd.V_below mc325 hb); replace HO1_2 := A_ (Kd.V_below mc326 hb); replace HO1084 := A_ (Kd.N_below (by (with_reducible repeat (first | apply Kd.N_alloc | apply Kd.N_drewN | apply Kd.N_drew)); exact HO1084.out) hb); replace BK1080 := A_ (blk_below mc254 hb); replace BK1081 := A_ (blk_below mc255 hb); replace HB := A_ (below_step mc157 hb); (try clear hb)))
  go_ret2
  exact ⟨_, mc332, mc246, mc157⟩
 subst c4
 rw [if_pos rfl] at H
 have H' := A_ H
 clear H
 go_enter Try.func37, Try.ntmps37
 go_wp2_with (first | ((with_reducible refine gd_ 2 rfl ?_); refine box_event rfl (N := 2) rfl (cs := #[.int .i64 a0_0, .int .i64 a0_1, .slice A0_2 l0_2.length c0_2]) (t := 26) mc353 ?_; intro gb1080 hg w5 hbox hb; replace HO0_2 := A_ (Kd.V_below (Kd.V_elderB mc325 gb1080 (Nat.le_of_eq hg.symm)) hb); replace HO1_2 := A_ (Kd.V_below (Kd.V_elderB mc326 gb1080 (Nat.le_of_eq hg.symm)) hb); have BK1080 := A_ (hbox); have GW1080 := A_ ((mc213 : w.heap.size ≤ gb1080)); have GE1080 := A_ ((mc213 : w.heap.size ≤ gb1080)); replace HB := A_ (below_step mc249 hb); clear hb hbox hg) | ((with_reducible refine gd_ 3 rfl ?_); refine box_event rfl (N := 3) rfl (cs := #[.int .i64 a1_0, .int .i64 a1_1, .slice A1_2 l1_2.length c1_2]) (t := 26) mc353 ?_; intro gb1081 hg w6 hbox hb; replace HO0_2 := A_ (Kd.V_below (Kd.V_elderB mc325 gb1081 (Nat.le_of_eq hg.symm)) hb); replace HO1_2 := A_ (Kd.V_below (Kd.V_elderB mc326 gb1081 (Nat.le_of_eq hg.symm)) hb); have BK1081 := A_ (hbox); have GW1081 := A_ ((mc161 : w.heap.size ≤ gb1081)); have GE1081 := A_ ((mc161 : w.heap.size ≤ gb1081)); replace HB := A_ (below_step mc209 hb); have NB1080_1081 := A_ ((by rw [hg]; exact Nat.ne_of_lt (blk_lt mc254) : gb1080 ≠ gb1081)); have NB1081_1080 := A_ ((by rw [hg]; exact Nat.ne_of_gt (blk_lt mc254) : gb1081 ≠ gb1080)); replace BK1080 := A_ (blk_below mc254 hb); clear hb hbox hg; have hnb7 := NB1080_1081.out; have hnc7 := NB1081_1080.out; have hcz8_0 : w6.cell? ⟨gb1080, 0, none⟩ = some (.int .i64 a0_0) := bc_ BK1080 0 rfl; have hcz8_1 : w6.cell? ⟨gb1080, 1, none⟩ = some (.int .i64 a0_1) := bc_ BK1080 1 rfl; have hcz8_2 : w6.cell? ⟨gb1080, 2, none⟩ = some (.slice A0_2 l0_2.length c0_2) := bc_ BK1080 2 rfl; have hfz8_0 := blk_frozen BK1080.out 0; have hfz8_1 := blk_frozen BK1080.out 1; have hfz8_2 := blk_frozen BK1080.out 2; have hcz9_0 : w6.cell? ⟨gb1081, 0, none⟩ = some (.int .i64 a1_0) := bc_ BK1081 0 rfl; have hcz9_1 : w6.cell? ⟨gb1081, 1, none⟩ = some (.int .i64 a1_1) := bc_ BK1081 1 rfl; have hcz9_2 : w6.cell? ⟨gb1081, 2, none⟩ = some (.slice A1_2 l1_2.length c1_2) := bc_ BK1081 2 rfl; have hfz9_0 := blk_frozen BK1081.out 0; have hfz9_1 := blk_frozen BK1081.out 1; have hfz9_2 := blk_frozen BK1081.out 2) | ((with_reducible refine gd_ 11 rfl ?_); refine Kd.N_lit k26 _ 26 ?hg (N' := 11) ?hd (xs := ([(⟨a0_0, a0_1, l0_2⟩ : S26), (⟨a1_0, a1_1, l1_2⟩ : S26)] : List (S26))) (inner := [.int .i64 a0_0, .int .i64 a0_1, .slice A0_2 l0_2.length c0_2, .int .i64 a1_0, .int .i64 a1_1, .slice A1_2 l1_2.length c1_2]) (ok := (fun k_ => ((P0_2_ k_ ∨ P1_2_ k_) ∨ w.heap.size ≤ k_) ∧ k_ ≠ gb1080 ∧ k_ ≠ gb1081)) (okp := (fun k_ => ((P0_2_ k_ ∨ P1_2_ k_) ∨ w.heap.size ≤ k_) ∧ k_ ≠ gb1080 ∧ k_ ≠ gb1081)) ?hr ?hp (fun _ hk => hk) ((show ∀ k_, w6.heap.size ≤ k_ → (fun k_ => ((P0_2_ k_ ∨ P1_2_ k_) ∨ w.heap.size ≤ k_) ∧ k_ ≠ gb1080 ∧ k_ ≠ gb1081) k_ from fun k_ hk => ⟨(.inr (Nat.le_trans (below_size mc157) hk)), Kd.freshB (g := gb1080) (o := .cells #[.int .i64 a0_0, .int .i64 a0_1, .slice A0_2 l0_2.length c0_2] 26 (0, 0)) mc254 k_ hk, Kd.freshB (g := gb1081) (o := .cells #[.int .i64 a1_0, .int .i64 a1_1, .slice A1_2 l1_2.length c1_2] 26 (0, 0)) mc255 k_ hk⟩) _ (Nat.le_refl _)) (Below.refl _ _) (Nat.le_refl _) (by simp) ?_; (case hd => rfl); (case hg => rfl); (case hr => exact mc353); (case hp => exact (Reps.c3 (show Kd.FK k26 _ _ (⟨a0_0, a0_1, l0_2⟩ : S26) [.int .i64 a0_0, .int .i64 a0_1, .slice A0_2 l0_2.length c0_2] from (k26_mkF _ _ (⟨a0_0, a0_1, l0_2⟩ : S26) (Kd.V_reads' (Kd.V_mono (ok' := (fun k_ => ((P0_2_ k_ ∨ P1_2_ k_) ∨ w.heap.size ≤ k_) ∧ k_ ≠ gb1080 ∧ k_ ≠ gb1081)) (HO0_2.out) (fun k_ hk => ⟨hk.1.1, ⟨hk.1.2, hk.2⟩⟩))).2.1 (Kd.V_F (Kd.V_mono (ok' := (fun k_ => ((P0_2_ k_ ∨ P1_2_ k_) ∨ w.heap.size ≤ k_) ∧ k_ ≠ gb1080 ∧ k_ ≠ gb1081)) (HO0_2.out) (fun k_ hk => ⟨hk.1.1, ⟨hk.1.2, hk.2⟩⟩))))) (Reps.c3 (show Kd.FK k26 _ _ (⟨a1_0, a1_1, l1_2⟩ : S26) [.int .i64 a1_0, .int .i64 a1_1, .slice A1_2 l1_2.length c1_2] from (k26_mkF _ _ (⟨a1_0, a1_1, l1_2⟩ : S26) (Kd.V_reads' (Kd.V_mono (ok' := (fun k_ => ((P0_2_ k_ ∨ P1_2_ k_) ∨ w.heap.size ≤ k_) ∧ k_ ≠ gb1080 ∧ k_ ≠ gb1081)) (HO1_2.out) (fun k_ hk => ⟨hk.1.1, ⟨hk.1.2, hk.2⟩⟩))).2.1 (Kd.V_F (Kd.V_mono (ok' := (fun k_ => ((P0_2_ k_ ∨ P1_2_ k_) ∨ w.heap.size ≤ k_) ∧ k_ ≠ gb1080 ∧ k_ ≠ gb1081)) (HO1_2.out) (fun k_ hk => ⟨hk.1.1, ⟨hk.1.2, hk.2⟩⟩))))) (Reps.none _ _)))); intro v1083 w10 ho11 hb hg_ hnew_; clear hg_ hnew_; (first | rw [← Ny1082.out] at ho11 | (simp only [Int.reduceToNat] at ho11; rw [← Ny1082.out] at ho11)); replace HO0_2 := A_ (Kd.V_elder' mc325 (Kd.N_base ho11) hb); replace HO1_2 := A_ (Kd.V_elder' mc326 (Kd.N_base ho11) hb); have HO1084 := A_ (Kd.N_lower ho11 (below_size mc157)); replace BK1080 := A_ (blk_below mc254 hb); replace BK1081 := A_ (blk_below mc255 hb); replace HB := A_ (below_step mc157 hb); clear hb ho11; obtain ⟨Ao12, co12, eo12⟩ := Kd.N_slice HO1084.out; subst eo12) | ((with_reducible refine gc_ 64 rfl ?_); refine goesL_ (some 12) rfl rfl Try.func64 kr_ rfl #[.slice Ao12 y1082.length co12] rfl mc247 ?_; (with_reducible refine (impl_areAlike.calls k _ _ y1082 true _ ?side1 ?side2 A3.out).mono ?_); (case side1 => repeat (first | exact (Kd.N_reads' HO1084.out).2.2 | (with_reducible refine Kd.C_alloc ?_ _) | (with_reducible refine Kd.C_drewN ?_ _) | (with_reducible refine Kd.C_drew ?_))); (case side2 => exact (Kd.N_reads' HO1084.out).2.1); rintro e w13 ⟨rfl, hb⟩; refine ⟨_, rfl, ?_⟩; replace HO0_2 := A_ (Kd.V_below mc325 hb); replace HO1_2 := A_ (Kd.V_below mc326 hb); replace HO1084 := A_ (Kd.N_below (by (with_reducible repeat (first | apply Kd.N_alloc | apply Kd.N_drewN | apply Kd.N_drew)); exact HO1084.out) hb); replace BK1080 := A_ (blk_below mc254 hb); replace BK1081 := A_ (blk_below mc255 hb); replace HB := A_ (below_step mc157 hb); (try clear hb); have hcz14_0 : w13.cell? ⟨gb1080, 0, none⟩ = some (.int .i64 a0_0) := bc_ BK1080 0 rfl; have hcz14_1 : w13.cell? ⟨gb1080, 1, none⟩ = some (.int .i64 a0_1) := bc_ BK1080 1 rfl; have hcz14_2 : w13.cell? ⟨gb1080, 2, none⟩ = some (.slice A0_2 l0_2.length c0_2) := bc_ BK1080 2 rfl; have hfz14_0 := blk_frozen BK1080.out 0; have hfz14_1 := blk_frozen BK1080.out 1; have hfz14_2 := blk_frozen BK1080.out 2))
 go_loopg [6, 17] k (fun kq v6 v17 w' => ∃ (x6_1 : List Int) (x17_1 : Int), v17 = .int .i64 x17_1 ∧ Aside0 (impl_EditedRegion.l0 kq x6_1 l0_2 (l0_2.length : Int) x17_1 a1_0 a1_1 l1_2 = some (r1, r2)) ∧ Aside0 (kq ≤ k) ∧ Aside0 (Kd.R (Kd.int .i64) 3 w' w.heap.size (fun k_ => (w.heap.size ≤ k_)) v6 x6_1) ∧ Aside0 (Kd.V (Kd.int .i64) 3 w' w.heap.size (fun k_ => ((P0_2_ k_ ∨ P1_2_ k_) ∨ w.heap.size ≤ k_) ∧ some k_ ≠ (v6 : Value).ownBlock ∧ k_ ≠ gb1080 ∧ k_ ≠ gb1081) (.slice A0_2 l0_2.length c0_2) l0_2) ∧ Aside0 (Kd.V (Kd.int .i64) 3 w' w.heap.size (fun k_ => ((P0_2_ k_ ∨ P1_2_ k_) ∨ w.heap.size ≤ k_) ∧ some k_ ≠ (v6 : Value).ownBlock ∧ k_ ≠ gb1080 ∧ k_ ≠ gb1081) (.slice A0_2 l0_2.length c0_2) l0_2) ∧ Aside0 (Kd.V (Kd.int .i64) 3 w' w.heap.size (fun k_ => ((P0_2_ k_ ∨ P1_2_ k_) ∨ w.heap.size ≤ k_) ∧ some k_ ≠ (v6 : Value).ownBlock ∧ k_ ≠ gb1080 ∧ k_ ≠ gb1081) (.slice A1_2 l1_2.length c1_2) l1_2) ∧ Aside0 (w'.heap[gb1080]? = some (.cells #[.int .i64 a0_0, .int .i64 a0_1, (.slice A0_2 l0_2.length c0_2)] 26 (0, 0))) ∧ Aside0 (w'.heap[gb1081]? = some (.cells #[.int .i64 a1_0, .int .i64 a1_1, (.slice A1_2 l1_2.length c1_2)] 26 (0, 0))) ∧ Aside0 (Below w.heap.size w w'))
 case atStart => exact ⟨(([] : List Int)), (0), mc352, H', ⟨Nat.le_refl _⟩, ⟨mc246⟩, ⟨mc194⟩, ⟨mc194⟩, ⟨by (with_reducible repeat (first | apply Kd.V_alloc | apply Kd.V_drewN | apply Kd.V_drew)); exact Kd.V_mono HO1_2.out (fun _ hk => ⟨hk.1.1.1, ⟨(by simp [Value.ownBlock]), ⟨hk.1.1.2, hk.1.2⟩⟩⟩)⟩, ⟨mc254⟩, ⟨mc255⟩, ⟨mc157⟩⟩
 case round =>
  clear H'
  try clear p2
  obtain ⟨x6_1, x17_1, rfl, HA, HK1, HO_6, HO_15, HO_1081002, HO_1082002, BK1080, BK1081, HB⟩ := hrel
  cases gk with
  | zero => exact absurd HA.out (by simp [impl_EditedRegion.l0])
  | succ k1 =>
   have H := HA.out
   clear HA
   simp only [impl_EditedRegion.l0] at H
   by_cases c15 : x17_1 < (l0_2.length : Int)
   rotate_left
   ·
    rw [if_neg c15] at H
    have c15b0 : decide (x17_1 < (l0_2.length : Int)) = false := decide_eq_false c15
    clear c15
    simp only [Option.some.injEq, Prod.mk.injEq] at H
    obtain ⟨rfl, rfl⟩ := H
    go_wp2
    go_ret2
    exact ⟨_, mc332, by (with_reducible repeat (first | apply Kd.R_alloc | apply Kd.R_drewN | apply Kd.R_drew)); exact HO_6.out, mc157⟩
   rw [if_pos c15] at H
   have c15b0 : decide (x17_1 < (l0_2.length : Int)) = true := decide_eq_true c15
   clear c15
   by_cases c16 : 0 ≤ x17_1
   rotate_left
   ·
    rw [if_neg c16] at H
    exact absurd H (by simp)
   rw [if_pos c16] at H
   have c16b0 : decide (0 ≤ x17_1) = true := decide_eq_true c16
   clear c16
   by_cases c17 : x17_1 < (l0_2.length : Int)
   rotate_left
   ·
    rw [if_neg c17] at H
    exact absurd H (by simp)
   rw [if_pos c17] at H
   have c17b0 : decide (x17_1 < (l0_2.length : Int)) = true := decide_eq_true c17
   clear c17
   by_cases c18 : x17_1 < (l1_2.length : Int)
   rotate_left
   ·
    rw [if_neg c18] at H
    exact absurd H (by simp)
   rw [if_pos c18] at H
   have c18b0 : decide (x17_1 < (l1_2.length : Int)) = true := decide_eq_true c18
   clear c18
   by_cases c19 : (rd l0_2 x17_1) = (rd l1_2 x17_1)
   ·
    rw [if_pos c19] at H
    have c19b0 : ((rd l0_2 x17_1) == (rd l1_2 x17_1)) = true := beq_iff_eq.mpr c19
    have c19b1 : ((rd l0_2 x17_1) != (rd l1_2 x17_1)) = false := bne_eq_false_iff_eq.mpr c19
    clear c19
    have H' := A_ H
    clear H
    have p1086 : 0 ≤ (x17_1 : Int) := of_decide_eq_true mc341
    have q1086 : x17_1 < (l0_2.length : Int) := of_decide_eq_true mc341
    obtain ⟨ad1086, e1086, hx1086_0⟩ := Kd.at_int (Kd.V_reads' HO_15.out).2.2 x17_1 p1086 q1086
    cases e1086
    replace p1086 := eq_true p1086
    replace q1086 := eq_true q1086
    have hnb20 := NB1081_1080.out
    have hnc20 := NB1080_1081.out
    have hcz21_0 : wr.cell? ⟨gb1081, 0, none⟩ = some (.int .i64 a1_0) := bc_ BK1081 0 rfl
    have hcz21_1 : wr.cell? ⟨gb1081, 1, none⟩ = some (.int .i64 a1_1) := bc_ BK1081 1 rfl
    have hcz21_2 : wr.cell? ⟨gb1081, 2, none⟩ = some (.slice A1_2 l1_2.length c1_2) := bc_ BK1081 2 rfl
    have hfz21_0 := blk_frozen BK1081.out 0
    have hfz21_1 := blk_frozen BK1081.out 1
    have hfz21_2 := blk_frozen BK1081.out 2
    have p1087 : 0 ≤ (x17_1 : Int) := of_decide_eq_true mc341
    have q1087 : x17_1 < (l1_2.length : Int) := of_decide_eq_true mc341
    obtain ⟨ad1087, e1087, hx1087_0⟩ := Kd.at_int (Kd.V_reads' HO_1082002.out).2.2 x17_1 p1087 q1087
    cases e1087
    replace p1087 := eq_true p1087
    replace q1087 := eq_true q1087
    go_wp2
    go_roundg k1
    case measure => have := HK1.out; omega
    case rel => exact ⟨(x6_1), (wrap64 (x17_1 + 1)), mc352, H', ⟨mc356⟩, ⟨by (with_reducible repeat (first | apply Kd.R_alloc | apply Kd.R_drewN | apply Kd.R_drew)); exact HO_6.out⟩, ⟨by (with_reducible repeat (first | apply Kd.V_alloc | apply Kd.V_drewN | apply Kd.V_drew)); exact HO_15.out⟩, ⟨by (with_reducible repeat (first | apply Kd.V_alloc | apply Kd.V_drewN | apply Kd.V_drew)); exact HO_1081002.out⟩, ⟨by (with_reducible repeat (first | apply Kd.V_alloc | apply Kd.V_drewN | apply Kd.V_drew)); exact HO_1082002.out⟩, ⟨mc254⟩, ⟨mc255⟩, ⟨mc157⟩⟩
   rw [if_neg c19] at H
   have c19b0 : ((rd l0_2 x17_1) == (rd l1_2 x17_1)) = false := beq_eq_false_iff_ne.mpr c19
   have c19b1 : ((rd l0_2 x17_1) != (rd l1_2 x17_1)) = true := bne_iff_ne.mpr c19
   by_cases c22 : x6_1.length < 17592186044416
   rotate_left
   ·
    rw [if_neg c22] at H
    exact absurd H (by simp)
   rw [if_pos c22] at H
   have LMc22 := A_ c22
   clear c22
   obtain ⟨y1088, hy1088⟩ : ∃ y_ : List Int, y_ = (x6_1 ++ [x17_1]) := ⟨_, rfl⟩
   replace H : (impl_EditedRegion.l0 k1 y1088 l0_2 (l0_2.length : Int) (wrap64 (x17_1 + 1)) a1_0 a1_1 l1_2) = some (r1, r2) := by first | (rw [hy1088]; with_reducible exact H) | (have H2_ := (Option.bind_some _ _).symm.trans H; rw [hy1088]; with_reducible exact H2_) | (have H2_ := (Option.bind_some _ _).symm.trans H; with_reducible exact H2_) | with_reducible exact H | (rw [hy1088]; exact H) | exact H
   have Ny1088 := A_ hy1088
   clear hy1088
   have H' := A_ H
   clear H
   have p1086 : 0 ≤ (x17_1 : Int) := of_decide_eq_true mc341
   have q1086 : x17_1 < (l0_2.length : Int) := of_decide_eq_true mc341
   obtain ⟨ad1086, e1086, hx1086_0⟩ := Kd.at_int (Kd.V_reads' HO_15.out).2.2 x17_1 p1086 q1086
   cases e1086
   replace p1086 := eq_true p1086
   replace q1086 := eq_true q1086
   have hnb23 := NB1081_1080.out
   have hnc23 := NB1080_1081.out
   have hcz24_0 : wr.cell? ⟨gb1081, 0, none⟩ = some (.int .i64 a1_0) := bc_ BK1081 0 rfl
   have hcz24_1 : wr.cell? ⟨gb1081, 1, none⟩ = some (.int .i64 a1_1) := bc_ BK1081 1 rfl
   have hcz24_2 : wr.cell? ⟨gb1081, 2, none⟩ = some (.slice A1_2 l1_2.length c1_2) := bc_ BK1081 2 rfl
   have hfz24_0 := blk_frozen BK1081.out 0
   have hfz24_1 := blk_frozen BK1081.out 1
   have hfz24_2 := blk_frozen BK1081.out 2
   have p1087 : 0 ≤ (x17_1 : Int) := of_decide_eq_true mc341
   have q1087 : x17_1 < (l1_2.length : Int) := of_decide_eq_true mc341
   obtain ⟨ad1087, e1087, hx1087_0⟩ := Kd.at_int (Kd.V_reads' HO_1082002.out).2.2 x17_1 p1087 q1087
   cases e1087
   replace p1087 := eq_true p1087
   replace q1087 := eq_true q1087
   go_wp2_with (first | ((with_reducible refine gate_builtin (b := .append) (xs := #[.tmp 29, .tmp 31]) rfl ?_); at_builtin; refine Kd.R_append (Kd.int .i64) (w0 := w) w.heap.size rfl (.tmp 29) (.tmp 31) 24 3 (.int .i64 0) 8 rfl Try.underlying24 info3 rfl (by decide) (by omega) u6 x6_1 x17_1 [.int .i64 x17_1] (fun k_ => (w.heap.size ≤ k_)) (fun _ => False) rfl rfl ?aP (fun _ hk => hk.elim) ?aF ?aO ?aB ?aS ?aL ?_; (case aP => exact rfl); (case aB => exact mc157); (case aF => exact (fun k_ hk => (Nat.le_trans (below_size mc157) hk))); (case aO => exact (by (with_reducible repeat (first | apply Kd.R_alloc | apply Kd.R_drewN | apply Kd.R_drew)); exact HO_6.out)); (case aS => exact (below_size mc157)); (case aL => have := LMc22.out; omega); intro v1089 w25 ho hb hg hat; rw [← Ny1088.out] at ho; replace HO_15 := A_ (Kd.V_afterv (ok := (fun k_ => ((P0_2_ k_ ∨ P1_2_ k_) ∨ w.heap.size ≤ k_) ∧ k_ ≠ gb1080 ∧ k_ ≠ gb1081)) (by (with_reducible repeat (first | apply Kd.V_alloc | apply Kd.V_drewN | apply Kd.V_drew)); exact Kd.V_mono HO_15.out (fun _ hk => ⟨⟨hk.1, ⟨hk.2.2.1, hk.2.2.2⟩⟩, hk.2.1⟩)) hg hat); replace HO_1081002 := A_ (Kd.V_afterv (ok := (fun k_ => ((P0_2_ k_ ∨ P1_2_ k_) ∨ w.heap.size ≤ k_) ∧ k_ ≠ gb1080 ∧ k_ ≠ gb1081)) (by (with_reducible repeat (first | apply Kd.V_alloc | apply Kd.V_drewN | apply Kd.V_drew)); exact Kd.V_mono HO_1081002.out (fun _ hk => ⟨⟨hk.1, ⟨hk.2.2.1, hk.2.2.2⟩⟩, hk.2.1⟩)) hg hat); replace HO_1082002 := A_ (Kd.V_afterv (ok := (fun k_ => ((P0_2_ k_ ∨ P1_2_ k_) ∨ w.heap.size ≤ k_) ∧ k_ ≠ gb1080 ∧ k_ ≠ gb1081)) (by (with_reducible repeat (first | apply Kd.V_alloc | apply Kd.V_drewN | apply Kd.V_drew)); exact Kd.V_mono HO_1082002.out (fun _ hk => ⟨⟨hk.1, ⟨hk.2.2.1, hk.2.2.2⟩⟩, hk.2.1⟩)) hg hat); replace BK1080 := A_ (blk_grown (g := gb1080) (o := .cells #[.int .i64 a0_0, .int .i64 a0_1, .slice (some ad1086) l0_2.length c0_2] 26 (0, 0)) mc254 hg (Kd.R_ne HO_6.out BK1080.out (by decide))); replace BK1081 := A_ (blk_grown (g := gb1081) (o := .cells #[.int .i64 a1_0, .int .i64 a1_1, .slice (some ad1087) l1_2.length c1_2] 26 (0, 0)) mc255 hg (Kd.R_ne HO_6.out BK1081.out (by decide))); replace HB := A_ (hb); have HO1090 := A_ (ho); clear HO_6; clear ho hb hg hat))
   go_roundg k1
   case measure => have := HK1.out; omega
   case rel => exact ⟨(y1088), (wrap64 (x17_1 + 1)), mc352, H', ⟨mc356⟩, ⟨by (with_reducible repeat (first | apply Kd.R_alloc | apply Kd.R_drewN | apply Kd.R_drew)); exact HO1090.out⟩, ⟨by (with_reducible repeat (first | apply Kd.V_alloc | apply Kd.V_drewN | apply Kd.V_drew)); exact Kd.V_mono HO_15.out (fun _ hk => ⟨hk.1.1, ⟨hk.2, ⟨hk.1.2.1, hk.1.2.2⟩⟩⟩)⟩, ⟨by (with_reducible repeat (first | apply Kd.V_alloc | apply Kd.V_drewN | apply Kd.V_drew)); exact Kd.V_mono HO_1081002.out (fun _ hk => ⟨hk.1.1, ⟨hk.2, ⟨hk.1.2.1, hk.1.2.2⟩⟩⟩)⟩, ⟨by (with_reducible repeat (first | apply Kd.V_alloc | apply Kd.V_drewN | apply Kd.V_drew)); exact Kd.V_mono HO_1082002.out (fun _ hk => ⟨hk.1.1, ⟨hk.2, ⟨hk.1.2.1, hk.1.2.2⟩⟩⟩)⟩, ⟨mc254⟩, ⟨mc255⟩, ⟨mc157⟩⟩

/-! ### laws_vHas: function 38 -/
def laws_vHas.l0 : Nat → List Int → Int → Int → Option (Bool)
 | 0, _, _, _ => none
 | k + 1, x0, x1, x5 => if x5 < (x0.length : Int) then (if 0 ≤ x5 then (if (rd x0 x5) = x1 then (some true) else (laws_vHas.l0 k x0 x1 (wrap64 (x5 + 1)))) else (none)) else (some false)
def laws_vHas.f (k : Nat) (l0 : List Int) (a1 : Int) : Option (Bool) := laws_vHas.l0 k l0 a1 0
set_option maxHeartbeats 8000000 in
set_option maxRecDepth 100000 in
theorem laws_vHas.calls (k : Nat) (A0 : Option Addr) (c0 : Nat) (l0 : List Int) (a1 : Int) (r : Bool) (w : World) (hr0 : Kd.C (Kd.int .i64) w A0 l0.length l0) (hc0 : l0.length ≤ c0) (h : laws_vHas.f k l0 a1 = some r) :
  Calls Try.prog 38 #[.slice A0 l0.length c0, .int .i64 a1] w fun e w' => e = .returned (.bool r) ∧ Drawn0 w w' := by
 have HR0 := A_ hr0
 have HC0 := A_ hc0
 clear hr0 hc0
 have H : (laws_vHas.l0 k l0 a1 0) = some r := h
 clear h
 have H' := A_ H
 clear H
 go_enter Try.func38, Try.ntmps38
 go_wp2
 go_loopg [5] k (fun kq v5 w' => ∃ (x5_1 : Int), v5 = .int .i64 x5_1 ∧ Aside0 (laws_vHas.l0 kq l0 a1 x5_1 = some r) ∧ Aside0 (kq ≤ k) ∧ Drawn0 w w')
 case atStart => exact ⟨(0), mc352, H', ⟨Nat.le_refl _⟩, mc338⟩
 case round =>
  clear H'
  try clear p2
  obtain ⟨x5_1, rfl, HA, HK1, ⟨m1, rfl⟩⟩ := hrel
  cases gk with
  | zero => exact absurd HA.out (by simp [laws_vHas.l0])
  | succ k1 =>
   have H := HA.out
   clear HA
   simp only [laws_vHas.l0] at H
   by_cases c3 : x5_1 < (l0.length : Int)
   rotate_left
   ·
    rw [if_neg c3] at H
    have c3b0 : decide (x5_1 < (l0.length : Int)) = false := decide_eq_false c3
    clear c3
    obtain rfl := Option.some.inj H
    go_wp2
    go_ret
    exact ⟨mc352, mc338⟩
   rw [if_pos c3] at H
   have c3b0 : decide (x5_1 < (l0.length : Int)) = true := decide_eq_true c3
   clear c3
   by_cases c4 : 0 ≤ x5_1
   rotate_left
   ·
    rw [if_neg c4] at H
    exact absurd H (by simp)
   rw [if_pos c4] at H
   have c4b0 : decide (0 ≤ x5_1) = true := decide_eq_true c4
   clear c4
   by_cases c5 : (rd l0 x5_1) = a1
   ·
    rw [if_pos c5] at H
    have c5b0 : ((rd l0 x5_1) == a1) = true := beq_iff_eq.mpr c5
    have c5b1 : ((rd l0 x5_1) != a1) = false := bne_eq_false_iff_eq.mpr c5
    clear c5
    obtain rfl := Option.some.inj H
    have p1091 : 0 ≤ (x5_1 : Int) := of_decide_eq_true mc341
    have q1091 : x5_1 < (l0.length : Int) := of_decide_eq_true mc341
    obtain ⟨ad1091, e1091, hx1091_0⟩ := Kd.at_int HR0.out x5_1 p1091 q1091
    cases e1091
    replace p1091 := eq_true p1091
    replace q1091 := eq_true q1091
    go_wp2
    go_ret
    exact ⟨mc352, mc338⟩
   rw [if_neg c5] at H
   have c5b0 : ((rd l0 x5_1) == a1) = false := beq_eq_false_iff_ne.mpr c5
   have c5b1 : ((rd l0 x5_1) != a1) = true := bne_iff_ne.mpr c5
   have H' := A_ H
   clear H
   have p1091 : 0 ≤ (x5_1 : Int) := of_decide_eq_true mc341
   have q1091 : x5_1 < (l0.length : Int) := of_decide_eq_true mc341
   obtain ⟨ad1091, e1091, hx1091_0⟩ := Kd.at_int HR0.out x5_1 p1091 q1091
   cases e1091
   replace p1091 := eq_true p1091
   replace q1091 := eq_true q1091
   go_wp2
   go_roundg k1
   case measure => have := HK1.out; omega
   case rel => exact ⟨(wrap64 (x5_1 + 1)), mc352, H', ⟨mc356⟩, mc338⟩

end Go.Proofs.Ytdmkbfjipgaloaa.P
