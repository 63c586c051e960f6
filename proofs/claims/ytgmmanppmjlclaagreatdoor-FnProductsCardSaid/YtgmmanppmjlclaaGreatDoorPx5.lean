-- Made by pp.py of this session out of the kit's print and of contracts proved by hand; Lean checks it.
import Derived.Test.YtgmmanppmjlclaaGreatDoorMc
import Derived.Test.YtgmmanppmjlclaaGreatDoorPx0
import Derived.Test.YtgmmanppmjlclaaGreatDoorPx3
import Derived.Test.YtgmmanppmjlclaaGreatDoorPx4
namespace Go.Proofs.YtgmmanppmjlclaaGreatDoor.P
open Go.RowKit Go.Proofs.YtgmmanppmjlclaaGreatDoorW.PrintWords Go.Proofs.YtgmmanppmjlclaaGreatDoorW.PrintLast Go.Proofs.YtgmmanppmjlclaaGreatDoorW.PrintMore
attribute [local go_sem] max2_int min2_int max_two min_two max_three min_three max_four min_four   -- for this text's walks alone
set_option linter.unusedVariables false
set_option linter.unusedSimpArgs false

/-! ### spec_StoreProduct: function 7 -/
mutual
def spec_StoreProduct.j1 : Nat → List (S26) → Int → ByteArray → Int → ByteArray → Option ((List (S26)) × Bool)
 | 0, _, _, _, _, _ => none
 | k + 1, x0, x6, x115000, x115001, x115002 => (some (([] : List (S26)) : List (S26))).bind fun y121 => (if 0 ≤ x6 then (if x6 ≤ (x0.length : Int) then ((some (x0.take (x6 : Int).toNat : List (S26))).bind fun y124 => (if y121.length + y124.length < 3518437208883 then ((some (y121 ++ y124 : List (S26))).bind fun y128 => ((some (([(⟨x115000, x115001, x115002⟩ : S26)] : List (S26)) : List (S26))).bind fun y131 => (if y128.length + y131.length < 3518437208883 then ((some (y128 ++ y131 : List (S26))).bind fun y134 => (if x6 < (x0.length : Int) then ((spec_l26Before.f x115000 x115001 x115002 ((rd_T26 x0 x6).f0) ((rd_T26 x0 x6).f1) ((rd_T26 x0 x6).f2)).bind fun t138 => (spec_StoreProduct.j2 k x0 x6 y134 (!t138))) else (spec_StoreProduct.j2 k x0 x6 y134 false))) else (none)))) else (none))) else (none)) else (none))
def spec_StoreProduct.j2 : Nat → List (S26) → Int → List (S26) → Bool → Option ((List (S26)) × Bool)
 | 0, _, _, _, _ => none
 | k + 1, x0, x6, x7, x46 => if x46 = true then (if 0 ≤ (wrap64 (x6 + 1)) then (if (wrap64 (x6 + 1)) ≤ (x0.length : Int) then ((some (x0.drop ((wrap64 (x6 + 1)) : Int).toNat : List (S26))).bind fun y139 => (if x7.length + y139.length < 3518437208883 then ((some (x7 ++ y139 : List (S26))).bind fun y143 => ((spec_l26Good.f k y143).bind fun t146 => (if t146 = true then (some (y143, true)) else (some ((([] : List (S26))), false))))) else (none))) else (none)) else (none)) else (if 0 ≤ x6 then (if x6 ≤ (x0.length : Int) then ((some (x0.drop (x6 : Int).toNat : List (S26))).bind fun y150 => (if x7.length + y150.length < 3518437208883 then ((some (x7 ++ y150 : List (S26))).bind fun y154 => ((spec_l26Good.f k y154).bind fun t157 => (if t157 = true then (some (y154, true)) else (some ((([] : List (S26))), false))))) else (none))) else (none)) else (none))
def spec_StoreProduct.l0 : Nat → List (S26) → Int → ByteArray → Int → ByteArray → Option ((List (S26)) × Bool)
 | 0, _, _, _, _, _ => none
 | k + 1, x0, x6, x115000, x115001, x115002 => if x6 < (x0.length : Int) then (if 0 ≤ x6 then ((spec_l26Before.f ((rd_T26 x0 x6).f0) ((rd_T26 x0 x6).f1) ((rd_T26 x0 x6).f2) x115000 x115001 x115002).bind fun t120 => (if t120 = true then (spec_StoreProduct.l0 k x0 (wrap64 (x6 + 1)) x115000 x115001 x115002) else (spec_StoreProduct.j1 k x0 x6 x115000 x115001 x115002))) else (none)) else (spec_StoreProduct.j1 k x0 x6 x115000 x115001 x115002)
end
def spec_StoreProduct.f (k : Nat) (l0 : List (S26)) (a1_0 : ByteArray) (a1_1 : Int) (a1_2 : ByteArray) : Option ((List (S26)) × Bool) := (spec_l26Good.f k l0).bind fun t115 => (if t115 = true then (spec_StoreProduct.l0 k l0 0 a1_0 a1_1 a1_2) else (some ((([] : List (S26))), false)))
def spec_StoreProduct.T4 : Bool × List (List Nat × List Nat) := (true, [([], []), ([], []), ([1], [1]), ([0, 2], [0, 2]), ([3], [3]), ([4], [4]), ([4], [4]), ([5, 6, 4], [4, 5, 6]), ([7, 4], [4, 7]), ([4], [4]), ([8, 9, 4, 4], [4, 8, 9]), ([4, 10], [4, 10])])
def spec_StoreProduct.B4 : List Nat := [0, 0, 2, 7, 15, 31, 31, 127, 255, 31, 1023, 2047]
theorem spec_StoreProduct.tab4 : rtab .any (opsOf Tryz.f7 4) = spec_StoreProduct.T4 := by kernel_rfl
theorem spec_StoreProduct.bits4 : waitsOk spec_StoreProduct.T4.2 spec_StoreProduct.B4 = true := by kernel_rfl
def spec_StoreProduct.T6 : Bool × List (List Nat × List Nat) := (true, [([], []), ([], []), ([], []), ([1, 2], [1, 2]), ([0, 3], [0, 3]), ([], []), ([5], [5]), ([4, 6, 4], [4, 6]), ([7, 7, 0, 1, 2, 3, 4, 5, 6, 7], [7])])
def spec_StoreProduct.B6 : List Nat := [0, 0, 0, 6, 15, 0, 32, 127, 255]
theorem spec_StoreProduct.tab6 : rtab .any (opsOf Tryz.f7 6) = spec_StoreProduct.T6 := by kernel_rfl
theorem spec_StoreProduct.bits6 : waitsOk spec_StoreProduct.T6.2 spec_StoreProduct.B6 = true := by kernel_rfl
def spec_StoreProduct.T7 : Bool × List (List Nat × List Nat) := (true, [([], []), ([], []), ([1], [1]), ([0, 2], [0, 2]), ([3], [3]), ([4], [4]), ([4], [4]), ([4], [4]), ([6, 7, 4], [4, 6, 7]), ([8, 4], [4, 8]), ([5, 9, 4, 4], [4, 5, 9]), ([10, 4], [4, 10]), ([4, 11], [4, 11])])
def spec_StoreProduct.B7 : List Nat := [0, 0, 2, 7, 15, 31, 31, 31, 223, 479, 1023, 2047, 4095]
theorem spec_StoreProduct.tab7 : rtab .any (opsOf Tryz.f7 7) = spec_StoreProduct.T7 := by kernel_rfl
theorem spec_StoreProduct.bits7 : waitsOk spec_StoreProduct.T7.2 spec_StoreProduct.B7 = true := by kernel_rfl
set_option maxRecDepth 100000 in
theorem spec_StoreProduct.calls.L1 {P : Prop} (h : P := by
 have H' := A_ H
 clear H
 try go_wp2
 replace BK114 := A_ (blk_drew BK114.out)
 replace HB := A_ (below_drew1 HB.out)
 have p119 : 0 ≤ (x6_1 : Int) := of_decide_eq_true mc81
 have q119 : x6_1 < (l0.length : Int) := of_decide_eq_true mc81
 obtain ⟨ad119, e119, hx119_0, hx119_1, hx119_2⟩ := at_T26 HR0.out x6_1 p119 q119
 have hw119_2 := hx119_2
 have hw119_1 := hx119_1
 have hw119_0 := hx119_0
 cases e119
 replace hx119_0 := (HB.out.cell (World.block_lt_of_cell? w _ hx119_0)).trans hx119_0
 replace hx119_1 := (HB.out.cell (World.block_lt_of_cell? w _ hx119_1)).trans hx119_1
 replace hx119_2 := (HB.out.cell (World.block_lt_of_cell? w _ hx119_2)).trans hx119_2
 replace p119 := eq_true p119
 replace q119 := eq_true q119
 refine start_ (n := 12) (S := fun w' => w'.cell? ⟨gb114, 0, none⟩ = some (.string a1_0) ∧ w'.cell? ⟨gb114, 1, none⟩ = some (.int .i64 a1_1) ∧ w'.cell? ⟨gb114, 2, none⟩ = some (.string a1_2) ∧ w'.cell? (ad119.add ((x6_1).toNat * 3)) = some (.string ((rd_T26 l0 x6_1).f0)) ∧ w'.cell? ⟨(ad119.add ((x6_1).toNat * 3)).block, (ad119.add ((x6_1).toNat * 3)).off + 1, none⟩ = some (.int .i64 ((rd_T26 l0 x6_1).f1)) ∧ w'.cell? ⟨(ad119.add ((x6_1).toNat * 3)).block, (ad119.add ((x6_1).toNat * 3)).off + 2, none⟩ = some (.string ((rd_T26 l0 x6_1).f2))) (ds := []) #[false, false, false, false, false, false, false, false, false, false, false, false] kr_ rfl rfl ⟨bc_ BK114 0 rfl, bc_ BK114 1 rfl, bc_ BK114 2 rfl, ((HB.out.cell (World.block_lt_of_cell? w _ hw119_0)).trans hw119_0), ((HB.out.cell (World.block_lt_of_cell? w _ hw119_1)).trans hw119_1), ((HB.out.cell (World.block_lt_of_cell? w _ hw119_2)).trans hw119_2)⟩ (fun hHeld => ?_); refine with_tabW spec_StoreProduct.tab4 spec_StoreProduct.bits4 (fun HT_ HW_ => ?_)
 generalize wr.drew = w12 at BK114 HB hx119_0 hx119_1 hx119_2 hHeld ⊢
 refine pure_ (i := 0) (N := some 12) #[true, false, false, false, false, false, false, false, false, false, false, false] rfl rfl (any_of HT_.out kr_) (fun _ _ _ h => h) (Or.inl ⟨by rfl, mc84⟩) mc64 ?_
 refine pure_ (i := 1) (N := some 13) #[true, true, false, false, false, false, false, false, false, false, false, false] rfl rfl (any_of HT_.out kr_) (fun _ _ _ h => h) (Or.inl ⟨by rfl, mc84⟩) mc64 ?_
 refine pure_ (i := 2) (N := some 14) #[true, true, true, false, false, false, false, false, false, false, false, false] rfl rfl (any_of HT_.out kr_) (fun _ _ _ h => h) (Or.inl ⟨by rfl, mc84⟩) mc64 ?_
 refine pure_ (i := 3) (N := some 15) #[true, true, true, true, false, false, false, false, false, false, false, false] rfl rfl (any_of HT_.out kr_) (fun _ _ _ h => h) (Or.inl ⟨by rfl, mc84⟩) mc64 ?_
 refine pure_ (i := 4) (N := some 16) #[true, true, true, true, true, false, false, false, false, false, false, false] rfl rfl (any_of HT_.out kr_) (fun _ _ _ h => h) (Or.inl ⟨by rfl, mc84⟩) mc64 ?_
 refine pure_ (i := 5) (N := some 17) #[true, true, true, true, true, true, false, false, false, false, false, false] rfl rfl (any_of HT_.out kr_) (fun _ _ _ h => h) (Or.inl ⟨by rfl, mc84⟩) mc64 ?_
 refine pure_ (i := 6) (N := some 18) #[true, true, true, true, true, true, true, false, false, false, false, false] rfl rfl (any_of HT_.out kr_) (fun _ _ _ h => h) (Or.inl ⟨by rfl, mc84⟩) mc64 ?_
 refine pure_ (i := 7) (N := some 19) #[true, true, true, true, true, true, true, true, false, false, false, false] rfl rfl (any_of HT_.out kr_) (fun _ _ _ h => h) (Or.inl ⟨by rfl, mc84⟩) mc64 ?_
 refine take_ (i := 8) (N := some 20) #[true, true, true, true, true, true, true, true, true, false, false, false] rfl rfl (take_ofW HT_.out HW_.out kr_) (fun _ _ _ h => h) (Or.inl ⟨by rfl, mc79⟩) hHeld mc64 ?_
 refine take_ (i := 9) (N := some 21) #[true, true, true, true, true, true, true, true, true, true, false, false] rfl rfl (take_ofW HT_.out HW_.out kr_) (fun _ _ _ h => h) (Or.inl ⟨by rfl, mc79⟩) hHeld mc64 ?_
 refine one_ (i := 10) (N := some 22) #[true, true, true, true, true, true, true, true, true, true, true, false] rfl rfl (one_of HT_.out kr_) (by decide) (fun K hK => ?_)
 refine goes_ Tryz.func30 kr_ rfl #[.agg #[.string ((rd_T26 l0 x6_1).f0), .int .i64 ((rd_T26 l0 x6_1).f1), .string ((rd_T26 l0 x6_1).f2)], .agg #[.string a1_0, .int .i64 a1_1, .string a1_2]] (by rfl) rfl rfl mc47 ?_
 with_reducible refine (spec_l26Before.calls ((rd_T26 l0 x6_1).f0) ((rd_T26 l0 x6_1).f1) ((rd_T26 l0 x6_1).f2) a1_0 a1_1 a1_2 _ _ A10.out).mono ?_
 rintro e w13 ⟨rfl, hb⟩
 refine ⟨_, rfl, ?_⟩
 replace BK114 := A_ (blk_below mc55 hb)
 replace HB := A_ (below_step mc36 hb)
 (try clear hb)
 refine hK.out _ _ ⟨bc_ BK114 0 rfl, bc_ BK114 1 rfl, bc_ BK114 2 rfl, ((HB.out.cell (World.block_lt_of_cell? w _ hw119_0)).trans hw119_0), ((HB.out.cell (World.block_lt_of_cell? w _ hw119_1)).trans hw119_1), ((HB.out.cell (World.block_lt_of_cell? w _ hw119_2)).trans hw119_2)⟩ (fun hHeld => ?_)
 clear hK K
 refine norm_ (by show Act.put _ (some 22) _ = _; simp only [Act.put, List.setIfInBounds_toArray, List.set_cons_zero, List.set_cons_succ, i64_w, i32_w]; rfl) ?_
 refine pure_ (i := 11) (N := some 23) #[true, true, true, true, true, true, true, true, true, true, true, true] rfl rfl (any_of HT_.out kr_) (fun _ _ _ h => h) (Or.inl ⟨by rfl, mc84⟩) mc64 ?_
 refine done_ (done_of HT_.out kr_) ?_
 try go_wp2
 first
 | go_roundg k1
   case measure => have := HK1.out; omega
   case rel => exact ⟨(wrap64 (x6_1 + 1)), mc82, H', ⟨mc86⟩, ⟨mc55⟩, ⟨mc36⟩⟩
 | go_meet
   case rel => exact ⟨_, (x6_1), mc82, H', ⟨by have := HK1.out; first | omega | exact Nat.le_refl _⟩, ⟨mc55⟩, ⟨mc36⟩⟩) : P := h
set_option maxRecDepth 100000 in
theorem spec_StoreProduct.calls.L2 {P : Prop} (h : P := by
 simp only [Option.some.injEq, Prod.mk.injEq] at H
 obtain ⟨rfl, rfl⟩ := H
 first
 | have q44 : ((ji38) : Int) ≤ ((l0.length : Int) : Int) := of_decide_eq_true mc81
   obtain ⟨i044, hi044, _, hsz44, _⟩ := info_parts info26
   have hroom44 : l0.length ≤ c0 := HC0.out
   have hC44 : Kd.C k26 _ A0 l0.length l0 := HR0.out
   have q044 : (0 : Int) ≤ ((ji38) : Int) := of_decide_eq_true mc81
   have hcut44 := cut_from (P := Tryz.prog) 24 26 .i64 Tryz.underlying24 hi044 3 hsz44 A0 l0.length c0 (ji38) q044 q44
   have hr44 := Kd.C_drop (m := ((ji38) : Int).toNat) (c := c0) hC44 (by omega) hroom44
   obtain ⟨A44, hA44⟩ : ∃ A1, A1 = (if c0 = ((ji38) : Int).toNat then A0 else (A0 : Option Addr).map (·.add (((ji38) : Int).toNat * 3))) := ⟨_, rfl⟩
   obtain ⟨c44, hc44⟩ : ∃ c1, c1 = c0 - ((ji38) : Int).toNat := ⟨_, rfl⟩
   have hy44 : y139.length = l0.length - ((ji38) : Int).toNat := (by rw [Ny139.out, List.length_drop] <;> omega)
   rw [show (l0).drop ((ji38) : Int).toNat = y139 from Ny139.out.symm] at hr44
   replace hr44 : Kd.C k26 _ A44 y139.length y139 := (by rw [hA44]; exact hr44)
   rw [← hy44, ← hA44, ← hc44] at hcut44
   have HR142 := A_ hr44
   have HC142 := A_ (show y139.length ≤ c44 from by rw [hy44, hc44]; exact Nat.sub_le_sub_right hroom44 _)
   clear hr44 hC44 hroom44 hi044 hsz44 hc44
   have KY44 := A_ hy44
   have KA44 := A_ hA44
   clear hy44 hA44
   replace q44 := eq_true q44
   go_wp2_with (first | ((with_reducible refine gate_builtin (b := .append) (xs := #[.tmp 49, .tmp 52]) rfl ?_); at_builtin; refine Kd.R_append_rows k26 (w0 := w) w.heap.size rfl (.tmp 49) (.tmp 52) 24 26 (.agg #[(.string ⟨#[]⟩), (.int .i64 0), (.string ⟨#[]⟩)]) 40 rfl Tryz.underlying24 info26 rfl (by decide) (by omega) v135 y134 y139 _ _ _ (fun k_ => k_ ≠ gb114) (fun _ => False) rfl rfl ?aO ?aR (fun _ _ h => h) (fun _ h => h.elim) ?aF ?aB ?aS ?aL ?_; (case aR => repeat (first | exact (Kd.C_below HR142.out HB.out) | (with_reducible refine Kd.C_alloc ?_ _) | (with_reducible refine Kd.C_drewN ?_ _) | (with_reducible refine Kd.C_drew ?_))); (case aB => exact mc36); (case aF => exact (fun k_ hk => Kd.freshB (g := gb114) (o := .cells #[.string a1_0, .int .i64 a1_1, .string a1_2] 26 (0, 0)) mc55 k_ hk)); (case aO => exact mc70); (case aS => exact (below_size mc36)); (case aL => have := LMc41.out; omega); intro v144 w45 ho hb hg hat; rw [← Ny143.out] at ho; replace BK114 := A_ (blk_grown (g := gb114) (o := .cells #[.string a1_0, .int .i64 a1_1, .string a1_2] 26 (0, 0)) mc55 hg (Kd.R_away HO_7.out (fun _ hk => hk))); replace HB := A_ (hb); have HO145 := A_ (ho); clear HO_7; clear ho hb hg hat; obtain ⟨Ao46, co46, eo46⟩ := Kd.R_slice HO145.out; subst eo46) | ((with_reducible refine gc_ 29 rfl ?_); refine goesL_ (some 55) rfl rfl Tryz.func29 kr_ rfl #[.slice Ao46 y143.length co46] rfl mc47 ?_; (with_reducible refine (spec_l26Good.calls kj20 _ _ y143 _ _ ?side1 ?side2 A42.out).mono ?_); (case side1 => repeat (first | exact (Kd.R_reads' HO145.out).2.2 | (with_reducible refine Kd.C_alloc ?_ _) | (with_reducible refine Kd.C_drewN ?_ _) | (with_reducible refine Kd.C_drew ?_))); (case side2 => exact (Kd.R_reads' HO145.out).2.1); rintro e w47 ⟨rfl, hb⟩; refine ⟨_, rfl, ?_⟩; replace HO145 := A_ (Kd.R_below mc65 hb); replace BK114 := A_ (blk_below mc55 hb); replace HB := A_ (below_step mc36 hb); (try clear hb)) | ((with_reducible refine gd_ 57 rfl ?_); refine Kd.R_lit k26 _ 26 ?hg (N := 57) ?hd (xs := ([] : List (S26))) (inner := []) (ok := fun _ => True) (okp := fun _ => True) ?hr ?hp (fun _ hk => hk) trivial (Below.refl _ _) (Nat.le_refl _) (by simp) ?_; (case hd => rfl); (case hg => rfl); (case hr => exact mc83); (case hp => exact (Reps.none _ _)); intro v148 w52 ho53 hb hg_ hnew_; clear hg_ hnew_; (first | rw [← Ny147.out] at ho53 | (simp only [Int.reduceToNat] at ho53; rw [← Ny147.out] at ho53)); have HO149 := A_ (Kd.R_lower (Kd.R_newB (Kd.R_new' ho53 (Kd.R_lt mc65)) (g := gb114) (o := .cells #[.string a1_0, .int .i64 a1_1, .string a1_2] 26 (0, 0)) mc55) (below_size mc36)); replace HO145 := A_ (Kd.R_elder' mc65 (Kd.R_base ho53) hb); replace BK114 := A_ (blk_below mc55 hb); replace HB := A_ (below_step mc36 hb); clear hb ho53))
   go_ret2
   first
   | exact ⟨_, by first | rfl | (simp [errW_none, errW_some] <;> rfl) | (simp only [← hji38]; first | rfl | (simp [errW_none, errW_some] <;> rfl)) | (simp [*, errW_none, errW_some] <;> rfl), by (with_reducible repeat (first | apply Kd.R_alloc | apply Kd.R_drewN | apply Kd.R_drew)); exact Kd.R_mono HO145.out (fun _ hk => trivial), mc36⟩
   | exact ⟨_, by first | rfl | (simp [errW_none, errW_some] <;> rfl) | (simp only [← hji38]; first | rfl | (simp [errW_none, errW_some] <;> rfl)) | (simp [*, errW_none, errW_some] <;> rfl), by (with_reducible repeat (first | apply Kd.R_alloc | apply Kd.R_drewN | apply Kd.R_drew)); exact Kd.R_mono HO149.out (fun _ hk => trivial), mc36⟩
 | have q59 : (x6_4 : Int) ≤ ((l0.length : Int) : Int) := of_decide_eq_true mc81
   obtain ⟨i059, hi059, _, hsz59, _⟩ := info_parts info26
   have hroom59 : l0.length ≤ c0 := HC0.out
   have hC59 : Kd.C k26 _ A0 l0.length l0 := HR0.out
   have q059 : (0 : Int) ≤ (x6_4 : Int) := of_decide_eq_true mc81
   have hcut59 := cut_from (P := Tryz.prog) 24 26 .i64 Tryz.underlying24 hi059 3 hsz59 A0 l0.length c0 x6_4 q059 q59
   have hr59 := Kd.C_drop (m := (x6_4 : Int).toNat) (c := c0) hC59 (by omega) hroom59
   first
   | obtain ⟨A59, hA59⟩ : ∃ A1b18, A1b18 = (if c0 = (x6_4 : Int).toNat then A0 else (A0 : Option Addr).map (·.add ((x6_4 : Int).toNat * 3))) := ⟨_, rfl⟩
     obtain ⟨c59, hc59⟩ : ∃ c1, c1 = c0 - (x6_4 : Int).toNat := ⟨_, rfl⟩
     have hy59 : y150.length = l0.length - (x6_4 : Int).toNat := (by rw [Ny150.out, List.length_drop] <;> omega)
     rw [show (l0).drop (x6_4 : Int).toNat = y150 from Ny150.out.symm] at hr59
     replace hr59 : Kd.C k26 _ A59 y150.length y150 := (by rw [hA59]; exact hr59)
     rw [← hy59, ← hA59, ← hc59] at hcut59
     have HR153 := A_ hr59
     have HC153 := A_ (show y150.length ≤ c59 from by rw [hy59, hc59]; exact Nat.sub_le_sub_right hroom59 _)
     clear hr59 hC59 hroom59 hi059 hsz59 hc59
     have KY59 := A_ hy59
     have KA59 := A_ hA59
     clear hy59 hA59
     replace q59 := eq_true q59
     go_wp2_with (first | ((with_reducible refine gate_builtin (b := .append) (xs := #[.tmp 49, .tmp 52]) rfl ?_); at_builtin; refine Kd.R_append_rows k26 (w0 := w) w.heap.size rfl (.tmp 49) (.tmp 52) 24 26 (.agg #[(.string ⟨#[]⟩), (.int .i64 0), (.string ⟨#[]⟩)]) 40 rfl Tryz.underlying24 info26 rfl (by decide) (by omega) v135 y134 y150 _ _ _ (fun k_ => k_ ≠ gb114) (fun _ => False) rfl rfl ?aO ?aR (fun _ _ h => h) (fun _ h => h.elim) ?aF ?aB ?aS ?aL ?_; (case aR => repeat (first | exact (Kd.C_below HR153.out HB.out) | (with_reducible refine Kd.C_alloc ?_ _) | (with_reducible refine Kd.C_drewN ?_ _) | (with_reducible refine Kd.C_drew ?_))); (case aB => exact mc36); (case aF => exact (fun k_ hk => Kd.freshB (g := gb114) (o := .cells #[.string a1_0, .int .i64 a1_1, .string a1_2] 26 (0, 0)) mc55 k_ hk)); (case aO => exact mc70); (case aS => exact (below_size mc36)); (case aL => have := LMc56.out; omega); intro v155 w60 ho hb hg hat; rw [← Ny154.out] at ho; replace BK114 := A_ (blk_grown (g := gb114) (o := .cells #[.string a1_0, .int .i64 a1_1, .string a1_2] 26 (0, 0)) mc55 hg (Kd.R_away HO_7.out (fun _ hk => hk))); replace HB := A_ (hb); have HO156 := A_ (ho); clear HO_7; clear ho hb hg hat; obtain ⟨Ao61, co61, eo61⟩ := Kd.R_slice HO156.out; subst eo61) | ((with_reducible refine gc_ 29 rfl ?_); refine goesL_ (some 55) rfl rfl Tryz.func29 kr_ rfl #[.slice Ao61 y154.length co61] rfl mc47 ?_; (with_reducible refine (spec_l26Good.calls kj20 _ _ y154 _ _ ?side1 ?side2 A57.out).mono ?_); (case side1 => repeat (first | exact (Kd.R_reads' HO156.out).2.2 | (with_reducible refine Kd.C_alloc ?_ _) | (with_reducible refine Kd.C_drewN ?_ _) | (with_reducible refine Kd.C_drew ?_))); (case side2 => exact (Kd.R_reads' HO156.out).2.1); rintro e w62 ⟨rfl, hb⟩; refine ⟨_, rfl, ?_⟩; replace HO156 := A_ (Kd.R_below (by (with_reducible repeat (first | apply Kd.R_alloc | apply Kd.R_drewN | apply Kd.R_drew)); exact HO156.out) hb); replace BK114 := A_ (blk_below mc55 hb); replace HB := A_ (below_step mc36 hb); (try clear hb)))
     go_ret2
     exact ⟨_, mc76, by (with_reducible repeat (first | apply Kd.R_alloc | apply Kd.R_drewN | apply Kd.R_drew)); exact Kd.R_mono HO156.out (fun _ hk => trivial), mc36⟩
   | obtain ⟨A63, hA63⟩ : ∃ A1b19, A1b19 = (if c0 = (x6_4 : Int).toNat then A0 else (A0 : Option Addr).map (·.add ((x6_4 : Int).toNat * 3))) := ⟨_, rfl⟩
     obtain ⟨c63, hc63⟩ : ∃ c1, c1 = c0 - (x6_4 : Int).toNat := ⟨_, rfl⟩
     have hy63 : y150.length = l0.length - (x6_4 : Int).toNat := (by rw [Ny150.out, List.length_drop] <;> omega)
     rw [show (l0).drop (x6_4 : Int).toNat = y150 from Ny150.out.symm] at hr59
     replace hr59 : Kd.C k26 _ A63 y150.length y150 := (by rw [hA63]; exact hr59)
     rw [← hy63, ← hA63, ← hc63] at hcut59
     have HR153b22 := A_ hr59
     have HC153b20 := A_ (show y150.length ≤ c63 from by rw [hy63, hc63]; exact Nat.sub_le_sub_right hroom59 _)
     clear hr59 hC59 hroom59 hi059 hsz59 hc63
     have KY63 := A_ hy63
     have KA63 := A_ hA63
     clear hy63 hA63
     replace q59 := eq_true q59
     go_wp2_with (first | ((with_reducible refine gate_builtin (b := .append) (xs := #[.tmp 49, .tmp 52]) rfl ?_); at_builtin; refine Kd.R_append_rows k26 (w0 := w) w.heap.size rfl (.tmp 49) (.tmp 52) 24 26 (.agg #[(.string ⟨#[]⟩), (.int .i64 0), (.string ⟨#[]⟩)]) 40 rfl Tryz.underlying24 info26 rfl (by decide) (by omega) v135 y134 y150 _ _ _ (fun k_ => k_ ≠ gb114) (fun _ => False) rfl rfl ?aO ?aR (fun _ _ h => h) (fun _ h => h.elim) ?aF ?aB ?aS ?aL ?_; (case aR => repeat (first | exact (Kd.C_below HR153b22.out HB.out) | (with_reducible refine Kd.C_alloc ?_ _) | (with_reducible refine Kd.C_drewN ?_ _) | (with_reducible refine Kd.C_drew ?_))); (case aB => exact mc36); (case aF => exact (fun k_ hk => Kd.freshB (g := gb114) (o := .cells #[.string a1_0, .int .i64 a1_1, .string a1_2] 26 (0, 0)) mc55 k_ hk)); (case aO => exact mc70); (case aS => exact (below_size mc36)); (case aL => have := LMc56.out; omega); intro v155b23 w64 ho hb hg hat; rw [← Ny154.out] at ho; replace BK114 := A_ (blk_grown (g := gb114) (o := .cells #[.string a1_0, .int .i64 a1_1, .string a1_2] 26 (0, 0)) mc55 hg (Kd.R_away HO_7.out (fun _ hk => hk))); replace HB := A_ (hb); have HO156b21 := A_ (ho); clear HO_7; clear ho hb hg hat; obtain ⟨Ao65, co65, eo65⟩ := Kd.R_slice HO156b21.out; subst eo65) | ((with_reducible refine gc_ 29 rfl ?_); refine goesL_ (some 55) rfl rfl Tryz.func29 kr_ rfl #[.slice Ao65 y154.length co65] rfl mc47 ?_; (with_reducible refine (spec_l26Good.calls kj20 _ _ y154 _ _ ?side1 ?side2 A57.out).mono ?_); (case side1 => repeat (first | exact (Kd.R_reads' HO156b21.out).2.2 | (with_reducible refine Kd.C_alloc ?_ _) | (with_reducible refine Kd.C_drewN ?_ _) | (with_reducible refine Kd.C_drew ?_))); (case side2 => exact (Kd.R_reads' HO156b21.out).2.1); rintro e w66 ⟨rfl, hb⟩; refine ⟨_, rfl, ?_⟩; replace HO156b21 := A_ (Kd.R_below mc63 hb); replace BK114 := A_ (blk_below mc55 hb); replace HB := A_ (below_step mc36 hb); (try clear hb)) | ((with_reducible refine gd_ 57 rfl ?_); refine Kd.R_lit k26 _ 26 ?hg (N := 57) ?hd (xs := ([] : List (S26))) (inner := []) (ok := fun _ => True) (okp := fun _ => True) ?hr ?hp (fun _ hk => hk) trivial (Below.refl _ _) (Nat.le_refl _) (by simp) ?_; (case hd => rfl); (case hg => rfl); (case hr => exact mc83); (case hp => exact (Reps.none _ _)); intro v159 w67 ho68 hb hg_ hnew_; clear hg_ hnew_; (first | rw [← Ny158.out] at ho68 | (simp only [Int.reduceToNat] at ho68; rw [← Ny158.out] at ho68)); have HO160 := A_ (Kd.R_lower (Kd.R_newB (Kd.R_new' ho68 (Kd.R_lt mc63)) (g := gb114) (o := .cells #[.string a1_0, .int .i64 a1_1, .string a1_2] 26 (0, 0)) mc55) (below_size mc36)); replace HO156b21 := A_ (Kd.R_elder' mc63 (Kd.R_base ho68) hb); replace BK114 := A_ (blk_below mc55 hb); replace HB := A_ (below_step mc36 hb); clear hb ho68))
     go_ret2
     exact ⟨_, mc76, by (with_reducible repeat (first | apply Kd.R_alloc | apply Kd.R_drewN | apply Kd.R_drew)); exact Kd.R_mono HO160.out (fun _ hk => trivial), mc36⟩
 | go_enter Tryz.func7, Tryz.ntmps7
   go_wp2_with (first | ((with_reducible refine gd_ 3 rfl ?_); refine box_event rfl (N := 3) rfl (cs := #[.string a1_0, .int .i64 a1_1, .string a1_2]) (t := 26) mc83 ?_; intro gb114 hg w69 hbox hb; have BK114 := A_ (hbox); have GW114 := A_ ((mc34 : w.heap.size ≤ gb114)); have GE114 := A_ ((mc34 : w.heap.size ≤ gb114)); replace HB := A_ (below_step mc53 hb); clear hb hbox hg) | ((with_reducible refine gc_ 29 rfl ?_); refine goesL_ (some 9) rfl rfl Tryz.func29 kr_ rfl #[.slice A0 l0.length c0] rfl mc47 ?_; (with_reducible refine (spec_l26Good.calls k _ _ l0 _ _ ?side1 ?side2 A3.out).mono ?_); (case side1 => exact mc31); (case side2 => exact HC0.out); rintro e w70 ⟨rfl, hb⟩; refine ⟨_, rfl, ?_⟩; replace BK114 := A_ (blk_below mc55 hb); replace HB := A_ (below_step mc36 hb); (try clear hb)) | ((with_reducible refine gd_ 11 rfl ?_); refine Kd.R_lit k26 _ 26 ?hg (N := 11) ?hd (xs := ([] : List (S26))) (inner := []) (ok := fun _ => True) (okp := fun _ => True) ?hr ?hp (fun _ hk => hk) trivial (Below.refl _ _) (Nat.le_refl _) (by simp) ?_; (case hd => rfl); (case hg => rfl); (case hr => exact mc83); (case hp => exact (Reps.none _ _)); intro v117 w71 ho72 hb hg_ hnew_; clear hg_ hnew_; (first | rw [← Ny116.out] at ho72 | (simp only [Int.reduceToNat] at ho72; rw [← Ny116.out] at ho72)); have HO118 := A_ (Kd.R_lower (Kd.R_newB ho72 (g := gb114) (o := .cells #[.string a1_0, .int .i64 a1_1, .string a1_2] 26 (0, 0)) mc55) (below_size mc36)); replace BK114 := A_ (blk_below mc55 hb); replace HB := A_ (below_step mc36 hb); clear hb ho72))
   go_ret2
   exact ⟨_, mc76, by (with_reducible repeat (first | apply Kd.R_alloc | apply Kd.R_drewN | apply Kd.R_drew)); exact Kd.R_mono HO118.out (fun _ hk => trivial), mc36⟩) : P := h
set_option maxHeartbeats 8000000 in
set_option maxRecDepth 100000 in
theorem spec_StoreProduct.calls (k : Nat) (A0 : Option Addr) (c0 : Nat) (l0 : List (S26)) (a1_0 : ByteArray) (a1_1 : Int) (a1_2 : ByteArray) (r1 : List (S26)) (r2 : Bool) (w : World) (hr0 : Kd.C k26 w A0 l0.length l0) (hc0 : l0.length ≤ c0) (h : spec_StoreProduct.f k l0 a1_0 a1_1 a1_2 = some (r1, r2)) :
  Calls Tryz.prog 7 #[.slice A0 l0.length c0, .agg #[.string a1_0, .int .i64 a1_1, .string a1_2]] w fun e w' => ∃ v0_ : Value, e = .returned (.tuple #[v0_, .bool r2]) ∧ Kd.R k26 26 w' w.heap.size (fun _ => True) v0_ r1 ∧ Below w.heap.size w w' := by
 have hu26 := Tryz.underlying26
 have HR0 := A_ hr0
 have HC0 := A_ hc0
 clear hr0 hc0
 have HB := A_ (Below.refl w.heap.size w)
 have H : ((spec_l26Good.f k l0).bind fun t115 => (if t115 = true then (spec_StoreProduct.l0 k l0 0 a1_0 a1_1 a1_2) else (some ((([] : List (S26))), false)))) = some (r1, r2) := h
 clear h
 obtain ⟨t115, A30, H⟩ := oB_ H
 have A3 := A_ A30
 clear A30
 by_cases c4 : t115 = true
 ·
  subst c4
  rw [if_pos rfl] at H
  have HC5 := A_ H
  clear H
  go_enter Tryz.func7, Tryz.ntmps7
  go_upto_block 0 with (first | ((with_reducible refine gd_ 3 rfl ?_); refine box_event rfl (N := 3) rfl (cs := #[.string a1_0, .int .i64 a1_1, .string a1_2]) (t := 26) mc83 ?_; intro gb114 hg w6 hbox hb; have BK114 := A_ (hbox); have GW114 := A_ ((mc34 : w.heap.size ≤ gb114)); have GE114 := A_ ((mc34 : w.heap.size ≤ gb114)); replace HB := A_ (below_step mc53 hb); clear hb hbox hg) | ((with_reducible refine gc_ 29 rfl ?_); refine goesL_ (some 9) rfl rfl Tryz.func29 kr_ rfl #[.slice A0 l0.length c0] rfl mc47 ?_; (with_reducible refine (spec_l26Good.calls k _ _ l0 true _ ?side1 ?side2 A3.out).mono ?_); (case side1 => exact mc31); (case side2 => exact HC0.out); rintro e w7 ⟨rfl, hb⟩; refine ⟨_, rfl, ?_⟩; replace BK114 := A_ (blk_below mc55 hb); replace HB := A_ (below_step mc36 hb); (try clear hb)))
  (try simp only [Act.put, List.setIfInBounds_toArray, List.set_cons_zero, List.set_cons_succ])
  go_cut [6] (fun v6 wc => ∃ (kq : Nat) (x6_4 : Int), v6 = .int .i64 x6_4 ∧ Aside0 (spec_StoreProduct.j1 kq l0 x6_4 a1_0 a1_1 a1_2 = some (r1, r2)) ∧ Aside0 (kq ≤ k) ∧ Aside0 (wc.heap[gb114]? = some (.cells #[.string a1_0, .int .i64 a1_1, .string a1_2] 26 (0, 0))) ∧ Aside0 (Below w.heap.size w wc))
  case first =>
   have H := HC5.out
   clear HC5
   have H' := A_ H
   clear H
   go_wp2
   go_loopg [6] k (fun kq v6 w' => ∃ (x6_1 : Int), v6 = .int .i64 x6_1 ∧ Aside0 (spec_StoreProduct.l0 kq l0 x6_1 a1_0 a1_1 a1_2 = some (r1, r2)) ∧ Aside0 (kq ≤ k) ∧ Aside0 (w'.heap[gb114]? = some (.cells #[.string a1_0, .int .i64 a1_1, .string a1_2] 26 (0, 0))) ∧ Aside0 (Below w.heap.size w w'))
   case atStart => exact ⟨(0), mc82, H', ⟨Nat.le_refl _⟩, ⟨mc55⟩, ⟨mc36⟩⟩
   case round =>
    clear H'
    try clear p2
    obtain ⟨x6_1, rfl, HA, HK1, BK114, HB⟩ := hrel
    cases gk with
    | zero => exact absurd HA.out (by simp [spec_StoreProduct.l0])
    | succ k1 =>
     have H := HA.out
     clear HA
     simp only [spec_StoreProduct.l0] at H
     by_cases c8 : x6_1 < (l0.length : Int)
     ·
      rw [if_pos c8] at H
      have c8b0 : decide (x6_1 < (l0.length : Int)) = true := decide_eq_true c8
      clear c8
      (first | rw [c8b0] | (simp only [i64_w, i32_w]; rw [c8b0]) | skip)
      by_cases c9 : 0 ≤ x6_1
      ·
       rw [if_pos c9] at H
       have c9b0 : decide (0 ≤ x6_1) = true := decide_eq_true c9
       clear c9
       obtain ⟨t120, A100, H⟩ := oB_ H
       have A10 := A_ A100
       clear A100
       by_cases c11 : t120 = true
       ·
        subst c11
        rw [if_pos rfl] at H
        exact spec_StoreProduct.calls.L1
       ·
        replace c11 := Bool.eq_false_iff.mpr c11
        subst c11
        rw [if_neg (show ¬ (false = true) by decide)] at H
        exact spec_StoreProduct.calls.L1
      ·
       rw [if_neg c9] at H
       exact absurd H (by simp)
     ·
      rw [if_neg c8] at H
      have c8b0 : decide (x6_1 < (l0.length : Int)) = false := decide_eq_false c8
      clear c8
      (first | rw [c8b0] | (simp only [i64_w, i32_w]; rw [c8b0]) | skip)
      have H' := A_ H
      clear H
      try go_wp2
      replace BK114 := A_ (blk_drew BK114.out)
      replace HB := A_ (below_drew1 HB.out)
      refine start_ (n := 12) (S := fun w' => True) (ds := []) #[false, false, false, false, false, false, false, false, false, false, false, false] kr_ rfl rfl trivial (fun hHeld => ?_); refine with_tabW spec_StoreProduct.tab4 spec_StoreProduct.bits4 (fun HT_ HW_ => ?_)
      generalize wr.drew = w16 at BK114 HB hHeld ⊢
      refine pure_ (i := 0) (N := some 12) #[true, false, false, false, false, false, false, false, false, false, false, false] rfl rfl (any_of HT_.out kr_) (fun _ _ _ h => h) (Or.inl ⟨by rfl, mc84⟩) mc64 ?_
      refine pure_ (i := 1) (N := some 13) #[true, true, false, false, false, false, false, false, false, false, false, false] rfl rfl (any_of HT_.out kr_) (fun _ _ _ h => h) (Or.inl ⟨by rfl, mc84⟩) mc64 ?_
      refine pure_ (i := 2) (N := some 14) #[true, true, true, false, false, false, false, false, false, false, false, false] rfl rfl (any_of HT_.out kr_) (fun _ _ _ h => h) (Or.inl ⟨by rfl, mc84⟩) mc64 ?_
      refine pure_ (i := 3) (N := some 15) #[true, true, true, true, false, false, false, false, false, false, false, false] rfl rfl (any_of HT_.out kr_) (fun _ _ _ h => h) (Or.inl ⟨by rfl, mc84⟩) mc64 ?_
      refine pure_ (i := 4) (N := some 16) #[true, true, true, true, true, false, false, false, false, false, false, false] rfl rfl (any_of HT_.out kr_) (fun _ _ _ h => h) (Or.inl ⟨by rfl, mc84⟩) mc64 ?_
      refine pure_ (i := 5) (N := some 17) (v := undef) (a' := ?_) #[true, true, true, true, true, true, false, false, false, false, false, false] rfl rfl (any_of HT_.out kr_) (fun _ _ _ h => h) (Or.inr ⟨by rfl, rfl⟩) ?_ ?_
      rotate_left
      ·
       simp only [Act.put, List.setIfInBounds_toArray, List.set_cons_zero, List.set_cons_succ, i64_w, i32_w]
       rfl
      refine pure_ (i := 6) (N := some 18) (v := undef) (a' := ?_) #[true, true, true, true, true, true, true, false, false, false, false, false] rfl rfl (any_of HT_.out kr_) (fun _ _ _ h => h) (Or.inr ⟨by rfl, rfl⟩) ?_ ?_
      rotate_left
      ·
       simp only [Act.put, List.setIfInBounds_toArray, List.set_cons_zero, List.set_cons_succ, i64_w, i32_w]
       rfl
      refine pure_ (i := 7) (N := some 19) (v := undef) (a' := ?_) #[true, true, true, true, true, true, true, true, false, false, false, false] rfl rfl (any_of HT_.out kr_) (fun _ _ _ h => h) (Or.inr ⟨by rfl, rfl⟩) ?_ ?_
      rotate_left
      ·
       simp only [Act.put, List.setIfInBounds_toArray, List.set_cons_zero, List.set_cons_succ, i64_w, i32_w]
       rfl
      refine pure_ (i := 8) (N := some 20) (v := undef) (a' := ?_) #[true, true, true, true, true, true, true, true, true, false, false, false] rfl rfl (any_of HT_.out kr_) (fun _ _ _ h => h) (Or.inr ⟨by rfl, rfl⟩) ?_ ?_
      rotate_left
      ·
       simp only [Act.put, List.setIfInBounds_toArray, List.set_cons_zero, List.set_cons_succ, i64_w, i32_w]
       rfl
      refine pure_ (i := 9) (N := some 21) (v := undef) (a' := ?_) #[true, true, true, true, true, true, true, true, true, true, false, false] rfl rfl (any_of HT_.out kr_) (fun _ _ _ h => h) (Or.inr ⟨by rfl, rfl⟩) ?_ ?_
      rotate_left
      ·
       simp only [Act.put, List.setIfInBounds_toArray, List.set_cons_zero, List.set_cons_succ, i64_w, i32_w]
       rfl
      refine pure_ (i := 10) (N := some 22) (v := undef) (a' := ?_) #[true, true, true, true, true, true, true, true, true, true, true, false] rfl rfl (any_of HT_.out kr_) (fun _ _ _ h => h) (Or.inr ⟨by rfl, rfl⟩) ?_ ?_
      rotate_left
      ·
       simp only [Act.put, List.setIfInBounds_toArray, List.set_cons_zero, List.set_cons_succ, i64_w, i32_w]
       rfl
      refine pure_ (i := 11) (N := some 23) #[true, true, true, true, true, true, true, true, true, true, true, true] rfl rfl (any_of HT_.out kr_) (fun _ _ _ h => h) (Or.inl ⟨by rfl, mc84⟩) mc64 ?_
      refine done_ (done_of HT_.out kr_) ?_
      try go_wp2
      go_meet
      case rel => exact ⟨_, (x6_1), mc82, H', ⟨by have := HK1.out; first | omega | exact Nat.le_refl _⟩, ⟨mc55⟩, ⟨mc36⟩⟩
  case rest =>
   clear HC5
   try clear p1
   try clear q1
   try clear hx1
   try clear p2
   try clear p6
   try clear c8b0
   try clear c9b0
   try clear p11
   try clear q11
   try clear hx11
   try clear hx119_0
   try clear hx119_1
   try clear hx119_2
   try clear p119
   try clear p2
   try clear q119
   obtain ⟨kq, x6_4, rfl, HA, HJ4, BK114, HB⟩ := hcut
   cases kq with
   | zero => exact absurd HA.out (by simp [spec_StoreProduct.j1])
   | succ kj4 =>
    have H := HA.out
    clear HA
    simp only [spec_StoreProduct.j1] at H
    obtain ⟨y121, hy121⟩ : ∃ y_ : List (S26), y_ = (([] : List (S26))) := ⟨_, rfl⟩
    replace H : (if 0 ≤ x6_4 then (if x6_4 ≤ (l0.length : Int) then ((some (l0.take (x6_4 : Int).toNat : List (S26))).bind fun y124 => (if y121.length + y124.length < 3518437208883 then ((some (y121 ++ y124 : List (S26))).bind fun y128 => ((some (([(⟨a1_0, a1_1, a1_2⟩ : S26)] : List (S26)) : List (S26))).bind fun y131 => (if y128.length + y131.length < 3518437208883 then ((some (y128 ++ y131 : List (S26))).bind fun y134 => (if x6_4 < (l0.length : Int) then ((spec_l26Before.f a1_0 a1_1 a1_2 ((rd_T26 l0 x6_4).f0) ((rd_T26 l0 x6_4).f1) ((rd_T26 l0 x6_4).f2)).bind fun t138 => (spec_StoreProduct.j2 kj4 l0 x6_4 y134 (!t138))) else (spec_StoreProduct.j2 kj4 l0 x6_4 y134 false))) else (none)))) else (none))) else (none)) else (none)) = some (r1, r2) := by first | (rw [hy121]; with_reducible exact H) | (have H2_ := (Option.bind_some _ _).symm.trans H; rw [hy121]; with_reducible exact H2_) | (have H2_ := (Option.bind_some _ _).symm.trans H; with_reducible exact H2_) | with_reducible exact H | (rw [hy121]; exact H) | exact H
    have Ny121 := A_ hy121
    clear hy121
    by_cases c17 : 0 ≤ x6_4
    ·
     rw [if_pos c17] at H
     have c17b0 := eq_true c17
     have c17b1 : decide (0 ≤ x6_4) = true := decide_eq_true c17
     clear c17
     by_cases c18 : x6_4 ≤ (l0.length : Int)
     ·
      rw [if_pos c18] at H
      have c18b0 := eq_true c18
      have c18b1 : decide (x6_4 ≤ (l0.length : Int)) = true := decide_eq_true c18
      clear c18
      obtain ⟨y124, hy124⟩ : ∃ y_ : List (S26), y_ = (l0.take (x6_4 : Int).toNat) := ⟨_, rfl⟩
      replace H : (if y121.length + y124.length < 3518437208883 then ((some (y121 ++ y124 : List (S26))).bind fun y128 => ((some (([(⟨a1_0, a1_1, a1_2⟩ : S26)] : List (S26)) : List (S26))).bind fun y131 => (if y128.length + y131.length < 3518437208883 then ((some (y128 ++ y131 : List (S26))).bind fun y134 => (if x6_4 < (l0.length : Int) then ((spec_l26Before.f a1_0 a1_1 a1_2 ((rd_T26 l0 x6_4).f0) ((rd_T26 l0 x6_4).f1) ((rd_T26 l0 x6_4).f2)).bind fun t138 => (spec_StoreProduct.j2 kj4 l0 x6_4 y134 (!t138))) else (spec_StoreProduct.j2 kj4 l0 x6_4 y134 false))) else (none)))) else (none)) = some (r1, r2) := by first | (rw [hy124]; with_reducible exact H) | (have H2_ := (Option.bind_some _ _).symm.trans H; rw [hy124]; with_reducible exact H2_) | (have H2_ := (Option.bind_some _ _).symm.trans H; with_reducible exact H2_) | with_reducible exact H | (rw [hy124]; exact H) | exact H
      have Ny124 := A_ hy124
      clear hy124
      by_cases c19 : y121.length + y124.length < 3518437208883
      ·
       rw [if_pos c19] at H
       have LMc19 := A_ c19
       clear c19
       obtain ⟨y128, hy128⟩ : ∃ y_ : List (S26), y_ = (y121 ++ y124) := ⟨_, rfl⟩
       replace H : ((some (([(⟨a1_0, a1_1, a1_2⟩ : S26)] : List (S26)) : List (S26))).bind fun y131 => (if y128.length + y131.length < 3518437208883 then ((some (y128 ++ y131 : List (S26))).bind fun y134 => (if x6_4 < (l0.length : Int) then ((spec_l26Before.f a1_0 a1_1 a1_2 ((rd_T26 l0 x6_4).f0) ((rd_T26 l0 x6_4).f1) ((rd_T26 l0 x6_4).f2)).bind fun t138 => (spec_StoreProduct.j2 kj4 l0 x6_4 y134 (!t138))) else (spec_StoreProduct.j2 kj4 l0 x6_4 y134 false))) else (none))) = some (r1, r2) := by first | (rw [hy128]; with_reducible exact H) | (have H2_ := (Option.bind_some _ _).symm.trans H; rw [hy128]; with_reducible exact H2_) | (have H2_ := (Option.bind_some _ _).symm.trans H; with_reducible exact H2_) | with_reducible exact H | (rw [hy128]; exact H) | exact H
       have Ny128 := A_ hy128
       clear hy128
       obtain ⟨y131, hy131⟩ : ∃ y_ : List (S26), y_ = (([(⟨a1_0, a1_1, a1_2⟩ : S26)] : List (S26))) := ⟨_, rfl⟩
       replace H : (if y128.length + y131.length < 3518437208883 then ((some (y128 ++ y131 : List (S26))).bind fun y134 => (if x6_4 < (l0.length : Int) then ((spec_l26Before.f a1_0 a1_1 a1_2 ((rd_T26 l0 x6_4).f0) ((rd_T26 l0 x6_4).f1) ((rd_T26 l0 x6_4).f2)).bind fun t138 => (spec_StoreProduct.j2 kj4 l0 x6_4 y134 (!t138))) else (spec_StoreProduct.j2 kj4 l0 x6_4 y134 false))) else (none)) = some (r1, r2) := by first | (rw [hy131]; with_reducible exact H) | (have H2_ := (Option.bind_some _ _).symm.trans H; rw [hy131]; with_reducible exact H2_) | (have H2_ := (Option.bind_some _ _).symm.trans H; with_reducible exact H2_) | with_reducible exact H | (rw [hy131]; exact H) | exact H
       have Ny131 := A_ hy131
       clear hy131
       by_cases c20 : y128.length + y131.length < 3518437208883
       ·
        rw [if_pos c20] at H
        have LMc20 := A_ c20
        clear c20
        obtain ⟨y134, hy134⟩ : ∃ y_ : List (S26), y_ = (y128 ++ y131) := ⟨_, rfl⟩
        replace H : (if x6_4 < (l0.length : Int) then ((spec_l26Before.f a1_0 a1_1 a1_2 ((rd_T26 l0 x6_4).f0) ((rd_T26 l0 x6_4).f1) ((rd_T26 l0 x6_4).f2)).bind fun t138 => (spec_StoreProduct.j2 kj4 l0 x6_4 y134 (!t138))) else (spec_StoreProduct.j2 kj4 l0 x6_4 y134 false)) = some (r1, r2) := by first | (rw [hy134]; with_reducible exact H) | (have H2_ := (Option.bind_some _ _).symm.trans H; rw [hy134]; with_reducible exact H2_) | (have H2_ := (Option.bind_some _ _).symm.trans H; with_reducible exact H2_) | with_reducible exact H | (rw [hy134]; exact H) | exact H
        have Ny134 := A_ hy134
        clear hy134
        have HC21 := A_ H
        clear H
        try go_wp2
        replace BK114 := A_ (blk_drew BK114.out)
        replace HB := A_ (below_drew1 HB.out)
        have q23 : (x6_4 : Int) ≤ ((l0.length : Int) : Int) := of_decide_eq_true mc81
        obtain ⟨i023, hi023, _, hsz23, _⟩ := info_parts info26
        have hroom23 : l0.length ≤ c0 := HC0.out
        have hC23 : Kd.C k26 _ A0 l0.length l0 := HR0.out
        have hcut23 := cut_to (P := Tryz.prog) 24 26 .i64 Tryz.underlying24 hi023 A0 l0.length c0 x6_4 (of_decide_eq_true mc81) q23 hroom23
        have hr23 := Kd.C_take (m := (x6_4 : Int).toNat) hC23 (by omega)
        have hy23 : y124.length = (x6_4 : Int).toNat := (by rw [Ny124.out, List.length_take]; omega)
        rw [← Ny124.out] at hr23
        rw [← hy23] at hcut23
        have HR127 := A_ hr23
        have HC127 := A_ (show y124.length ≤ c0 from by omega)
        clear hr23 hC23 hroom23 hi023 hsz23
        have KY23 := A_ hy23
        clear hy23
        replace q23 := eq_true q23
        refine start_ (n := 9) (S := fun w' => w'.cell? ⟨gb114, 0, none⟩ = some (.string a1_0) ∧ w'.cell? ⟨gb114, 1, none⟩ = some (.int .i64 a1_1) ∧ w'.cell? ⟨gb114, 2, none⟩ = some (.string a1_2)) (ds := []) #[false, false, false, false, false, false, false, false, false] kr_ rfl rfl ⟨bc_ BK114 0 rfl, bc_ BK114 1 rfl, bc_ BK114 2 rfl⟩ (fun hHeld => ?_); refine with_tabW spec_StoreProduct.tab6 spec_StoreProduct.bits6 (fun HT_ HW_ => ?_)
        generalize wc.drew = w22 at BK114 HB HR127 hHeld ⊢
        refine pure_ (i := 1) (N := some 27) #[false, true, false, false, false, false, false, false, false] rfl rfl (any_of HT_.out kr_) (fun _ _ _ h => h) (Or.inl ⟨by rfl, mc84⟩) mc64 ?_
        refine pure_ (i := 2) (N := some 28) #[false, true, true, false, false, false, false, false, false] rfl rfl (any_of HT_.out kr_) (fun _ _ _ h => h) (Or.inl ⟨by rfl, mc84⟩) mc64 ?_
        refine pure_ (i := 3) (N := some 29) #[false, true, true, true, false, false, false, false, false] rfl rfl (any_of HT_.out kr_) (fun _ _ _ h => h) (Or.inl ⟨by rfl, mc84⟩) mc64 ?_
        refine take_ (i := 5) (N := some 31) #[false, true, true, true, false, true, false, false, false] rfl rfl (take_ofW HT_.out HW_.out kr_) (fun _ _ _ h => h) (Or.inl ⟨by rfl, (by rintro w' ⟨s0, s1, s2⟩; go_simp; with_reducible rfl)⟩) hHeld mc64 ?_
        refine join_ (σ := Value × Value × Value) 2 #[true, true, true, true, true, true, true, false, false] (fun s_ => [(26, s_.1), (30, s_.2.1), (32, s_.2.2)]) (fun s_ w' => (w'.cell? ⟨gb114, 0, none⟩ = some (.string a1_0) ∧ w'.cell? ⟨gb114, 1, none⟩ = some (.int .i64 a1_1) ∧ w'.cell? ⟨gb114, 2, none⟩ = some (.string a1_2)) ∧ (Kd.R k26 26 w' w.heap.size (fun k_ => some k_ ≠ (s_.2.2 : Value).ownBlock ∧ k_ ≠ gb114) s_.2.1 y128) ∧ (Kd.R k26 26 w' w.heap.size (fun k_ => some k_ ≠ (s_.2.1 : Value).ownBlock ∧ k_ ≠ gb114) s_.2.2 y131) ∧ (w'.heap[gb114]? = some (.cells #[.string a1_0, .int .i64 a1_1, .string a1_2] 26 (0, 0))) ∧ (Below w.heap.size w w')) ?_ ?_
        rotate_left
        ·
         intro hCont
         refine two_ (i := 0) (j := 6) (Ni := some 26) (Nj := some 32) #[true, true, true, true, false, true, false, false, false] #[false, true, true, true, false, true, true, false, false] rfl rfl rfl rfl (two_of HT_.out kr_) (by decide) (by decide) (fun K hK => ?_) (fun K hK => ?_)
         ·
          skip
          refine Kd.R_lit_step k26 _ 26 ?hg (N := 26) ?hd (xs := ([] : List (S26))) (inner := []) (ok := fun _ => True) (okp := fun _ => True) ?hr ?hp (fun _ hk => hk) trivial (Below.refl _ _) (Nat.le_refl _) (by simp) ?_; (case hd => rfl); (case hg => rfl); (case hr => exact mc83); (case hp => exact (Reps.none _ _))
          intro v122 w24 ho25 hb hg_ hnew_
          clear hg_ hnew_
          (first | rw [← Ny121.out] at ho25 | (simp only [Int.reduceToNat] at ho25; rw [← Ny121.out] at ho25))
          have HO123 := A_ (Kd.R_lower (Kd.R_newB ho25 (g := gb114) (o := .cells #[.string a1_0, .int .i64 a1_1, .string a1_2] 26 (0, 0)) mc55) (below_size mc36))
          replace BK114 := A_ (blk_below mc55 hb)
          replace HB := A_ (below_step mc36 hb)
          clear hb ho25
          refine hK.out _ _ ⟨bc_ BK114 0 rfl, bc_ BK114 1 rfl, bc_ BK114 2 rfl⟩ (fun hHeld => ?_)
          clear hK K
          refine norm_ (by show Act.put _ (some 26) _ = _; simp only [Act.put, List.setIfInBounds_toArray, List.set_cons_zero, List.set_cons_succ, i64_w, i32_w]; rfl) ?_
          refine two_ (i := 4) (j := 6) (Ni := some 30) (Nj := some 32) #[true, true, true, true, true, true, false, false, false] #[true, true, true, true, false, true, true, false, false] rfl rfl rfl rfl (two_of HT_.out kr_) (by decide) (by decide) (fun K hK => ?_) (fun K hK => ?_)
          ·
           skip
           refine Kd.R_append_rows_step k26 (w0 := w) w.heap.size (by rfl) (.tmp 26) (.tmp 29) 24 26 (.agg #[(.string ⟨#[]⟩), (.int .i64 0), (.string ⟨#[]⟩)]) 40 rfl Tryz.underlying24 info26 rfl (by decide) (by omega) v122 y121 y124 _ _ _ (fun k_ => k_ ≠ gb114) (fun _ => False) rfl rfl ?aO ?aR (fun _ _ h => h) (fun _ h => h.elim) ?aF ?aB ?aS ?aL ?_
           (case aR => exact mc28)
           (case aB => exact mc36)
           (case aF => exact (fun k_ hk => Kd.freshB (g := gb114) (o := .cells #[.string a1_0, .int .i64 a1_1, .string a1_2] 26 (0, 0)) mc55 k_ hk))
           (case aO => exact (by (with_reducible repeat (first | apply Kd.R_alloc | apply Kd.R_drewN | apply Kd.R_drew)); exact Kd.R_mono HO123.out (fun _ hk => hk.2)))
           (case aS => exact (below_size mc36))
           (case aL => have := LMc19.out; omega)
           intro v129 w26 ho hb hg hat
           rw [← Ny128.out] at ho
           replace BK114 := A_ (blk_grown (g := gb114) (o := .cells #[.string a1_0, .int .i64 a1_1, .string a1_2] 26 (0, 0)) mc55 hg (Kd.R_away HO123.out (fun _ hk => hk.2)))
           replace HB := A_ (hb)
           have HO130 := A_ (ho)
           clear HO123
           clear ho hb hg hat
           refine hK.out _ _ ⟨bc_ BK114 0 rfl, bc_ BK114 1 rfl, bc_ BK114 2 rfl⟩ (fun hHeld => ?_)
           clear hK K
           refine norm_ mc49 ?_
           refine one_ (i := 6) (N := some 32) #[true, true, true, true, true, true, true, false, false] rfl rfl (one_of HT_.out kr_) (by decide) (fun K hK => ?_)
           refine Kd.R_lit_step k26 _ 26 ?hg (N := 32) ?hd (xs := ([(⟨a1_0, a1_1, a1_2⟩ : S26)] : List (S26))) (inner := [.string a1_0, .int .i64 a1_1, .string a1_2]) (ok := fun _ => True) (okp := fun _ => True) ?hr ?hp (fun _ hk => hk) trivial (Below.refl _ _) (Nat.le_refl _) (by simp) ?_; (case hd => rfl); (case hg => rfl); (case hr => exact mc83); (case hp => exact (Reps.c3 (show Kd.M k26 _ _ _ (⟨a1_0, a1_1, a1_2⟩ : S26) [.string a1_0, .int .i64 a1_1, .string a1_2] from (k26_mkM _ _ _ (⟨a1_0, a1_1, a1_2⟩ : S26) )) (Reps.none _ _)))
           intro v132 w27 ho28 hb hg_ hnew_
           clear hg_ hnew_
           (first | rw [← Ny131.out] at ho28 | (simp only [Int.reduceToNat] at ho28; rw [← Ny131.out] at ho28))
           have HO133 := A_ (Kd.R_lower (Kd.R_newB (Kd.R_new' ho28 (Kd.R_lt mc66)) (g := gb114) (o := .cells #[.string a1_0, .int .i64 a1_1, .string a1_2] 26 (0, 0)) mc55) (below_size mc36))
           replace HO130 := A_ (Kd.R_elder' mc66 (Kd.R_base ho28) hb)
           replace BK114 := A_ (blk_below mc55 hb)
           replace HB := A_ (below_step mc36 hb)
           clear hb ho28
           refine hK.out _ _ ⟨bc_ BK114 0 rfl, bc_ BK114 1 rfl, bc_ BK114 2 rfl⟩ (fun hHeld => ?_)
           clear hK K
           refine norm_ mc50 ?_
           exact norm_ mc75 (hCont (v122, v129, v132) _ ⟨hHeld, (by (with_reducible repeat (first | apply Kd.R_alloc | apply Kd.R_drewN | apply Kd.R_drew)); exact Kd.R_mono HO130.out (fun _ hk => ⟨hk.2, hk.1⟩)), (by (with_reducible repeat (first | apply Kd.R_alloc | apply Kd.R_drewN | apply Kd.R_drew)); exact Kd.R_mono HO133.out (fun _ hk => ⟨hk.1.2, hk.2⟩)), mc55, mc36⟩)
          ·
           skip
           refine Kd.R_lit_step k26 _ 26 ?hg (N := 32) ?hd (xs := ([(⟨a1_0, a1_1, a1_2⟩ : S26)] : List (S26))) (inner := [.string a1_0, .int .i64 a1_1, .string a1_2]) (ok := fun _ => True) (okp := fun _ => True) ?hr ?hp (fun _ hk => hk) trivial (Below.refl _ _) (Nat.le_refl _) (by simp) ?_; (case hd => rfl); (case hg => rfl); (case hr => exact mc83); (case hp => exact (Reps.c3 (show Kd.M k26 _ _ _ (⟨a1_0, a1_1, a1_2⟩ : S26) [.string a1_0, .int .i64 a1_1, .string a1_2] from (k26_mkM _ _ _ (⟨a1_0, a1_1, a1_2⟩ : S26) )) (Reps.none _ _)))
           intro v132 w26 ho27 hb hg_ hnew_
           clear hg_ hnew_
           (first | rw [← Ny131.out] at ho27 | (simp only [Int.reduceToNat] at ho27; rw [← Ny131.out] at ho27))
           have HO133 := A_ (Kd.R_lower (Kd.R_newB (Kd.R_new' ho27 (Kd.R_lt (by (with_reducible repeat (first | apply Kd.R_alloc | apply Kd.R_drewN | apply Kd.R_drew)); exact HO123.out))) (g := gb114) (o := .cells #[.string a1_0, .int .i64 a1_1, .string a1_2] 26 (0, 0)) mc55) (below_size mc36))
           replace HO123 := A_ (Kd.R_elder' (by (with_reducible repeat (first | apply Kd.R_alloc | apply Kd.R_drewN | apply Kd.R_drew)); exact HO123.out) (Kd.R_base ho27) hb)
           replace BK114 := A_ (blk_below mc55 hb)
           replace HB := A_ (below_step mc36 hb)
           clear hb ho27
           refine hK.out _ _ ⟨bc_ BK114 0 rfl, bc_ BK114 1 rfl, bc_ BK114 2 rfl⟩ (fun hHeld => ?_)
           clear hK K
           refine norm_ mc50 ?_
           refine one_ (i := 4) (N := some 30) #[true, true, true, true, true, true, true, false, false] rfl rfl (one_of HT_.out kr_) (by decide) (fun K hK => ?_)
           refine Kd.R_append_rows_step k26 (w0 := w) w.heap.size (by rfl) (.tmp 26) (.tmp 29) 24 26 (.agg #[(.string ⟨#[]⟩), (.int .i64 0), (.string ⟨#[]⟩)]) 40 rfl Tryz.underlying24 info26 rfl (by decide) (by omega) v122 y121 y124 _ _ _ (fun k_ => some k_ ≠ (v132 : Value).ownBlock ∧ k_ ≠ gb114) (fun _ => False) rfl rfl ?aO ?aR (fun _ _ h => h) (fun _ h => h.elim) ?aF ?aB ?aS ?aL ?_
           (case aR => exact mc28)
           (case aB => exact mc36)
           (case aF => exact (fun k_ hk => ⟨Kd.fresh' (Kd.R_lt mc67) k_ hk, Kd.freshB (g := gb114) (o := .cells #[.string a1_0, .int .i64 a1_1, .string a1_2] 26 (0, 0)) mc55 k_ hk⟩))
           (case aO => exact (by (with_reducible repeat (first | apply Kd.R_alloc | apply Kd.R_drewN | apply Kd.R_drew)); exact Kd.R_mono HO123.out (fun _ hk => ⟨hk.2, hk.1.2⟩)))
           (case aS => exact (below_size mc36))
           (case aL => have := LMc19.out; omega)
           intro v129 w28 ho hb hg hat
           rw [← Ny128.out] at ho
           replace BK114 := A_ (blk_grown (g := gb114) (o := .cells #[.string a1_0, .int .i64 a1_1, .string a1_2] 26 (0, 0)) mc55 hg (Kd.R_away HO123.out (fun _ hk => hk.1.2)))
           replace HO133 := A_ (Kd.R_after (ok := (fun k_ => k_ ≠ gb114)) (by (with_reducible repeat (first | apply Kd.R_alloc | apply Kd.R_drewN | apply Kd.R_drew)); exact Kd.R_mono HO133.out (fun _ hk => ⟨hk.2, hk.1.2⟩)) hg hat)
           replace HB := A_ (hb)
           have HO130 := A_ (ho)
           clear HO123
           clear ho hb hg hat
           refine hK.out _ _ ⟨bc_ BK114 0 rfl, bc_ BK114 1 rfl, bc_ BK114 2 rfl⟩ (fun hHeld => ?_)
           clear hK K
           refine norm_ mc49 ?_
           exact norm_ mc75 (hCont (v122, v129, v132) _ ⟨hHeld, mc66, mc45, mc55, mc36⟩)
         ·
          skip
          refine Kd.R_lit_step k26 _ 26 ?hg (N := 32) ?hd (xs := ([(⟨a1_0, a1_1, a1_2⟩ : S26)] : List (S26))) (inner := [.string a1_0, .int .i64 a1_1, .string a1_2]) (ok := fun _ => True) (okp := fun _ => True) ?hr ?hp (fun _ hk => hk) trivial (Below.refl _ _) (Nat.le_refl _) (by simp) ?_; (case hd => rfl); (case hg => rfl); (case hr => exact mc83); (case hp => exact (Reps.c3 (show Kd.M k26 _ _ _ (⟨a1_0, a1_1, a1_2⟩ : S26) [.string a1_0, .int .i64 a1_1, .string a1_2] from (k26_mkM _ _ _ (⟨a1_0, a1_1, a1_2⟩ : S26) )) (Reps.none _ _)))
          intro v132 w24 ho25 hb hg_ hnew_
          clear hg_ hnew_
          (first | rw [← Ny131.out] at ho25 | (simp only [Int.reduceToNat] at ho25; rw [← Ny131.out] at ho25))
          have HO133 := A_ (Kd.R_lower (Kd.R_newB ho25 (g := gb114) (o := .cells #[.string a1_0, .int .i64 a1_1, .string a1_2] 26 (0, 0)) mc55) (below_size mc36))
          replace BK114 := A_ (blk_below mc55 hb)
          replace HB := A_ (below_step mc36 hb)
          clear hb ho25
          refine hK.out _ _ ⟨bc_ BK114 0 rfl, bc_ BK114 1 rfl, bc_ BK114 2 rfl⟩ (fun hHeld => ?_)
          clear hK K
          refine norm_ mc50 ?_
          refine one_ (i := 0) (N := some 26) #[true, true, true, true, false, true, true, false, false] rfl rfl (one_of HT_.out kr_) (by decide) (fun K hK => ?_)
          refine Kd.R_lit_step k26 _ 26 ?hg (N := 26) ?hd (xs := ([] : List (S26))) (inner := []) (ok := fun _ => True) (okp := fun _ => True) ?hr ?hp (fun _ hk => hk) trivial (Below.refl _ _) (Nat.le_refl _) (by simp) ?_; (case hd => rfl); (case hg => rfl); (case hr => exact mc83); (case hp => exact (Reps.none _ _))
          intro v122 w26 ho27 hb hg_ hnew_
          clear hg_ hnew_
          (first | rw [← Ny121.out] at ho27 | (simp only [Int.reduceToNat] at ho27; rw [← Ny121.out] at ho27))
          have HO123 := A_ (Kd.R_lower (Kd.R_newB (Kd.R_new' ho27 (Kd.R_lt mc67)) (g := gb114) (o := .cells #[.string a1_0, .int .i64 a1_1, .string a1_2] 26 (0, 0)) mc55) (below_size mc36))
          replace HO133 := A_ (Kd.R_elder' mc67 (Kd.R_base ho27) hb)
          replace BK114 := A_ (blk_below mc55 hb)
          replace HB := A_ (below_step mc36 hb)
          clear hb ho27
          refine hK.out _ _ ⟨bc_ BK114 0 rfl, bc_ BK114 1 rfl, bc_ BK114 2 rfl⟩ (fun hHeld => ?_)
          clear hK K
          refine norm_ (by show Act.put _ (some 26) _ = _; simp only [Act.put, List.setIfInBounds_toArray, List.set_cons_zero, List.set_cons_succ, i64_w, i32_w]; rfl) ?_
          refine one_ (i := 4) (N := some 30) #[true, true, true, true, true, true, true, false, false] rfl rfl (one_of HT_.out kr_) (by decide) (fun K hK => ?_)
          refine Kd.R_append_rows_step k26 (w0 := w) w.heap.size (by rfl) (.tmp 26) (.tmp 29) 24 26 (.agg #[(.string ⟨#[]⟩), (.int .i64 0), (.string ⟨#[]⟩)]) 40 rfl Tryz.underlying24 info26 rfl (by decide) (by omega) v122 y121 y124 _ _ _ (fun k_ => some k_ ≠ (v132 : Value).ownBlock ∧ k_ ≠ gb114) (fun _ => False) rfl rfl ?aO ?aR (fun _ _ h => h) (fun _ h => h.elim) ?aF ?aB ?aS ?aL ?_
          (case aR => exact mc28)
          (case aB => exact mc36)
          (case aF => exact (fun k_ hk => ⟨Kd.fresh' (Kd.R_lt mc67) k_ hk, Kd.freshB (g := gb114) (o := .cells #[.string a1_0, .int .i64 a1_1, .string a1_2] 26 (0, 0)) mc55 k_ hk⟩))
          (case aO => exact (by (with_reducible repeat (first | apply Kd.R_alloc | apply Kd.R_drewN | apply Kd.R_drew)); exact Kd.R_mono HO123.out (fun _ hk => ⟨hk.1.2, hk.2⟩)))
          (case aS => exact (below_size mc36))
          (case aL => have := LMc19.out; omega)
          intro v129 w28 ho hb hg hat
          rw [← Ny128.out] at ho
          replace BK114 := A_ (blk_grown (g := gb114) (o := .cells #[.string a1_0, .int .i64 a1_1, .string a1_2] 26 (0, 0)) mc55 hg (Kd.R_away HO123.out (fun _ hk => hk.2)))
          replace HO133 := A_ (Kd.R_after (ok := (fun k_ => k_ ≠ gb114)) (by (with_reducible repeat (first | apply Kd.R_alloc | apply Kd.R_drewN | apply Kd.R_drew)); exact Kd.R_mono HO133.out (fun _ hk => ⟨hk.1.2, hk.2⟩)) hg hat)
          replace HB := A_ (hb)
          have HO130 := A_ (ho)
          clear HO123
          clear ho hb hg hat
          refine hK.out _ _ ⟨bc_ BK114 0 rfl, bc_ BK114 1 rfl, bc_ BK114 2 rfl⟩ (fun hHeld => ?_)
          clear hK K
          refine norm_ mc49 ?_
          exact norm_ mc75 (hCont (v122, v129, v132) _ ⟨hHeld, mc66, mc45, mc55, mc36⟩)
        rintro ⟨v122, v129, v132⟩ w29 ⟨hS_, h0_, h1_, h2_, h3_⟩
        try dsimp only at h0_ h1_ h2_ h3_
        have HO130 := A_ h0_
        have HO133 := A_ h1_
        replace BK114 := A_ h2_
        replace HB := A_ h3_
        clear h0_ h1_ h2_ h3_
        have hHeld : w29.cell? ⟨gb114, 0, none⟩ = some (.string a1_0) ∧ w29.cell? ⟨gb114, 1, none⟩ = some (.int .i64 a1_1) ∧ w29.cell? ⟨gb114, 2, none⟩ = some (.string a1_2) := hS_
        obtain ⟨Ao31, co31, eo31⟩ := Kd.R_slice HO133.out
        (first | subst eo31 | (injection eo31 with f1_ f2_ f3_; have f4_ := f1_.symm; have f5_ := f3_.symm; clear f1_ f2_ f3_; subst f4_; subst f5_))
        refine norm_ (a' := ?_) ?_ ?_
        rotate_left
        ·
         simp only [putAll, Act.put, List.setIfInBounds_toArray, List.set_cons_zero, List.set_cons_succ]
         rfl
        refine one_ (i := 7) (N := some 33) #[true, true, true, true, true, true, true, true, false] rfl rfl (one_of HT_.out kr_) (by decide) (fun K hK => ?_)
        refine Kd.R_append_rows_step k26 (w0 := w) w.heap.size (by rfl) (.tmp 30) (.tmp 32) 24 26 (.agg #[(.string ⟨#[]⟩), (.int .i64 0), (.string ⟨#[]⟩)]) 40 rfl Tryz.underlying24 info26 rfl (by decide) (by omega) v129 y128 y131 _ _ _ (fun k_ => some k_ ≠ (.slice Ao31 y131.length co31 : Value).ownBlock ∧ k_ ≠ gb114) (fun _ => False) rfl rfl ?aO ?aR (fun _ _ h => h) (fun _ h => h.elim) ?aF ?aB ?aS ?aL ?_
        (case aR => repeat (first | exact (Kd.R_reads' HO133.out).2.2 | (with_reducible refine Kd.C_alloc ?_ _) | (with_reducible refine Kd.C_drewN ?_ _) | (with_reducible refine Kd.C_drew ?_)))
        (case aB => exact mc36)
        (case aF => exact (fun k_ hk => ⟨Kd.fresh' (Kd.R_lt mc67) k_ hk, Kd.freshB (g := gb114) (o := .cells #[.string a1_0, .int .i64 a1_1, .string a1_2] 26 (0, 0)) mc55 k_ hk⟩))
        (case aO => exact mc66)
        (case aS => exact (below_size mc36))
        (case aL => have := LMc20.out; omega)
        intro v135 w30 ho hb hg hat
        rw [← Ny134.out] at ho
        replace BK114 := A_ (blk_grown (g := gb114) (o := .cells #[.string a1_0, .int .i64 a1_1, .string a1_2] 26 (0, 0)) mc55 hg (Kd.R_away HO130.out (fun _ hk => hk.2)))
        replace HO133 := A_ (Kd.R_after (ok := (fun k_ => k_ ≠ gb114)) mc45 hg hat)
        replace HB := A_ (hb)
        have HO136 := A_ (ho)
        clear HO130
        clear ho hb hg hat
        refine hK.out _ _ ⟨bc_ BK114 0 rfl, bc_ BK114 1 rfl, bc_ BK114 2 rfl⟩ (fun hHeld => ?_)
        clear hK K
        refine norm_ (by show Act.put _ (some 33) _ = _; simp only [Act.put, List.setIfInBounds_toArray, List.set_cons_zero, List.set_cons_succ, i64_w, i32_w]; rfl) ?_
        refine pure_ (i := 8) (N := some 7) #[true, true, true, true, true, true, true, true, true] rfl rfl (any_of HT_.out kr_) (fun _ _ _ h => h) (Or.inl ⟨by rfl, mc84⟩) mc64 ?_
        refine done_ (done_of HT_.out kr_) ?_
        go_upto_region 7 with (fail)
        go_cut [46] (fun v46 wc => ∃ (kq : Nat) (x46_20 : Bool), v46 = .bool x46_20 ∧ Aside0 (spec_StoreProduct.j2 kq l0 x6_4 y134 x46_20 = some (r1, r2)) ∧ Aside0 (kq ≤ kj4) ∧ Aside0 (Kd.R k26 26 wc w.heap.size (fun k_ => k_ ≠ gb114) v135 y134) ∧ Aside0 (wc.heap[gb114]? = some (.cells #[.string a1_0, .int .i64 a1_1, .string a1_2] 26 (0, 0))) ∧ Aside0 (Below w.heap.size w wc))
        case first =>
         have H := HC21.out
         clear HC21
         by_cases c32 : x6_4 < (l0.length : Int)
         ·
          rw [if_pos c32] at H
          have c32b0 : decide (x6_4 < (l0.length : Int)) = true := decide_eq_true c32
          clear c32
          (first | rw [c32b0] | (simp only [i64_w, i32_w]; rw [c32b0]) | skip)
          obtain ⟨t138, A330, H⟩ := oB_ H
          have A33 := A_ A330
          clear A330
          have H' := A_ H
          clear H
          try go_wp2
          replace HO133 := A_ (Kd.R_drew HO133.out)
          replace HO136 := A_ (Kd.R_drew HO136.out)
          replace BK114 := A_ (blk_drew BK114.out)
          replace HB := A_ (below_drew1 HB.out)
          have p137 : 0 ≤ (x6_4 : Int) := of_decide_eq_true mc81
          have q137 : x6_4 < (l0.length : Int) := of_decide_eq_true mc81
          obtain ⟨ad137, e137, hx137_0, hx137_1, hx137_2⟩ := at_T26 HR0.out x6_4 p137 q137
          have hw137_2 := hx137_2
          have hw137_1 := hx137_1
          have hw137_0 := hx137_0
          cases e137
          replace hx137_0 := (HB.out.cell (World.block_lt_of_cell? w _ hx137_0)).trans hx137_0
          replace hx137_1 := (HB.out.cell (World.block_lt_of_cell? w _ hx137_1)).trans hx137_1
          replace hx137_2 := (HB.out.cell (World.block_lt_of_cell? w _ hx137_2)).trans hx137_2
          replace p137 := eq_true p137
          replace q137 := eq_true q137
          refine start_ (n := 13) (S := fun w' => w'.cell? ⟨gb114, 0, none⟩ = some (.string a1_0) ∧ w'.cell? ⟨gb114, 1, none⟩ = some (.int .i64 a1_1) ∧ w'.cell? ⟨gb114, 2, none⟩ = some (.string a1_2) ∧ w'.cell? (ad137.add ((x6_4).toNat * 3)) = some (.string ((rd_T26 l0 x6_4).f0)) ∧ w'.cell? ⟨(ad137.add ((x6_4).toNat * 3)).block, (ad137.add ((x6_4).toNat * 3)).off + 1, none⟩ = some (.int .i64 ((rd_T26 l0 x6_4).f1)) ∧ w'.cell? ⟨(ad137.add ((x6_4).toNat * 3)).block, (ad137.add ((x6_4).toNat * 3)).off + 2, none⟩ = some (.string ((rd_T26 l0 x6_4).f2))) (ds := []) #[false, false, false, false, false, false, false, false, false, false, false, false, false] kr_ rfl rfl ⟨bc_ BK114 0 rfl, bc_ BK114 1 rfl, bc_ BK114 2 rfl, ((HB.out.cell (World.block_lt_of_cell? w _ hw137_0)).trans hw137_0), ((HB.out.cell (World.block_lt_of_cell? w _ hw137_1)).trans hw137_1), ((HB.out.cell (World.block_lt_of_cell? w _ hw137_2)).trans hw137_2)⟩ (fun hHeld => ?_); refine with_tabW spec_StoreProduct.tab7 spec_StoreProduct.bits7 (fun HT_ HW_ => ?_)
          generalize w30.drew = w34 at HO133 HO136 BK114 HB hx137_0 hx137_1 hx137_2 hHeld ⊢
          refine pure_ (i := 0) (N := some 34) #[true, false, false, false, false, false, false, false, false, false, false, false, false] rfl rfl (any_of HT_.out kr_) (fun _ _ _ h => h) (Or.inl ⟨by rfl, mc84⟩) mc64 ?_
          refine pure_ (i := 1) (N := some 35) #[true, true, false, false, false, false, false, false, false, false, false, false, false] rfl rfl (any_of HT_.out kr_) (fun _ _ _ h => h) (Or.inl ⟨by rfl, mc84⟩) mc64 ?_
          refine pure_ (i := 2) (N := some 36) #[true, true, true, false, false, false, false, false, false, false, false, false, false] rfl rfl (any_of HT_.out kr_) (fun _ _ _ h => h) (Or.inl ⟨by rfl, mc84⟩) mc64 ?_
          refine pure_ (i := 3) (N := some 37) #[true, true, true, true, false, false, false, false, false, false, false, false, false] rfl rfl (any_of HT_.out kr_) (fun _ _ _ h => h) (Or.inl ⟨by rfl, mc84⟩) mc64 ?_
          refine pure_ (i := 4) (N := some 38) #[true, true, true, true, true, false, false, false, false, false, false, false, false] rfl rfl (any_of HT_.out kr_) (fun _ _ _ h => h) (Or.inl ⟨by rfl, mc84⟩) mc64 ?_
          refine pure_ (i := 6) (N := some 40) #[true, true, true, true, true, false, true, false, false, false, false, false, false] rfl rfl (any_of HT_.out kr_) (fun _ _ _ h => h) (Or.inl ⟨by rfl, mc84⟩) mc64 ?_
          refine pure_ (i := 7) (N := some 41) #[true, true, true, true, true, false, true, true, false, false, false, false, false] rfl rfl (any_of HT_.out kr_) (fun _ _ _ h => h) (Or.inl ⟨by rfl, mc84⟩) mc64 ?_
          refine pure_ (i := 8) (N := some 42) #[true, true, true, true, true, false, true, true, true, false, false, false, false] rfl rfl (any_of HT_.out kr_) (fun _ _ _ h => h) (Or.inl ⟨by rfl, mc84⟩) mc64 ?_
          refine take_ (i := 5) (N := some 39) #[true, true, true, true, true, true, true, true, true, false, false, false, false] rfl rfl (take_ofW HT_.out HW_.out kr_) (fun _ _ _ h => h) (Or.inl ⟨by rfl, mc79⟩) hHeld mc64 ?_
          refine take_ (i := 9) (N := some 43) #[true, true, true, true, true, true, true, true, true, true, false, false, false] rfl rfl (take_ofW HT_.out HW_.out kr_) (fun _ _ _ h => h) (Or.inl ⟨by rfl, mc79⟩) hHeld mc64 ?_
          refine one_ (i := 10) (N := some 44) #[true, true, true, true, true, true, true, true, true, true, true, false, false] rfl rfl (one_of HT_.out kr_) (by decide) (fun K hK => ?_)
          refine goes_ Tryz.func30 kr_ rfl #[.agg #[.string a1_0, .int .i64 a1_1, .string a1_2], .agg #[.string ((rd_T26 l0 x6_4).f0), .int .i64 ((rd_T26 l0 x6_4).f1), .string ((rd_T26 l0 x6_4).f2)]] (by rfl) rfl rfl mc47 ?_
          with_reducible refine (spec_l26Before.calls a1_0 a1_1 a1_2 ((rd_T26 l0 x6_4).f0) ((rd_T26 l0 x6_4).f1) ((rd_T26 l0 x6_4).f2) t138 _ A33.out).mono ?_
          rintro e w35 ⟨rfl, hb⟩
          refine ⟨_, rfl, ?_⟩
          replace HO133 := A_ (Kd.R_below mc67 hb)
          replace HO136 := A_ (Kd.R_below (by (with_reducible repeat (first | apply Kd.R_alloc | apply Kd.R_drewN | apply Kd.R_drew)); exact HO136.out) hb)
          replace BK114 := A_ (blk_below mc55 hb)
          replace HB := A_ (below_step mc36 hb)
          (try clear hb)
          refine hK.out _ _ ⟨bc_ BK114 0 rfl, bc_ BK114 1 rfl, bc_ BK114 2 rfl, ((HB.out.cell (World.block_lt_of_cell? w _ hw137_0)).trans hw137_0), ((HB.out.cell (World.block_lt_of_cell? w _ hw137_1)).trans hw137_1), ((HB.out.cell (World.block_lt_of_cell? w _ hw137_2)).trans hw137_2)⟩ (fun hHeld => ?_)
          clear hK K
          refine norm_ (by show Act.put _ (some 44) _ = _; simp only [Act.put, List.setIfInBounds_toArray, List.set_cons_zero, List.set_cons_succ, i64_w, i32_w]; rfl) ?_
          refine pure_ (i := 11) (N := some 45) #[true, true, true, true, true, true, true, true, true, true, true, true, false] rfl rfl (any_of HT_.out kr_) (fun _ _ _ h => h) (Or.inl ⟨by rfl, mc84⟩) mc64 ?_
          refine pure_ (i := 12) (N := some 46) #[true, true, true, true, true, true, true, true, true, true, true, true, true] rfl rfl (any_of HT_.out kr_) (fun _ _ _ h => h) (Or.inl ⟨by rfl, mc84⟩) mc64 ?_
          refine done_ (done_of HT_.out kr_) ?_
          try go_wp2
          go_meet
          case rel => exact ⟨_, (!t138), mc82, H', ⟨by have := HJ4.out; first | omega | exact Nat.le_refl _⟩, ⟨by (with_reducible repeat (first | apply Kd.R_alloc | apply Kd.R_drewN | apply Kd.R_drew)); exact Kd.R_mono HO136.out (fun _ hk => hk.2)⟩, ⟨mc55⟩, ⟨mc36⟩⟩
         ·
          rw [if_neg c32] at H
          have c32b0 : decide (x6_4 < (l0.length : Int)) = false := decide_eq_false c32
          clear c32
          (first | rw [c32b0] | (simp only [i64_w, i32_w]; rw [c32b0]) | skip)
          have H' := A_ H
          clear H
          try go_wp2
          replace HO133 := A_ (Kd.R_drew HO133.out)
          replace HO136 := A_ (Kd.R_drew HO136.out)
          replace BK114 := A_ (blk_drew BK114.out)
          replace HB := A_ (below_drew1 HB.out)
          refine start_ (n := 13) (S := fun w' => True) (ds := []) #[false, false, false, false, false, false, false, false, false, false, false, false, false] kr_ rfl rfl trivial (fun hHeld => ?_); refine with_tabW spec_StoreProduct.tab7 spec_StoreProduct.bits7 (fun HT_ HW_ => ?_)
          generalize w30.drew = w36 at HO133 HO136 BK114 HB hHeld ⊢
          refine pure_ (i := 0) (N := some 34) #[true, false, false, false, false, false, false, false, false, false, false, false, false] rfl rfl (any_of HT_.out kr_) (fun _ _ _ h => h) (Or.inl ⟨by rfl, mc84⟩) mc64 ?_
          refine pure_ (i := 1) (N := some 35) #[true, true, false, false, false, false, false, false, false, false, false, false, false] rfl rfl (any_of HT_.out kr_) (fun _ _ _ h => h) (Or.inl ⟨by rfl, mc84⟩) mc64 ?_
          refine pure_ (i := 2) (N := some 36) #[true, true, true, false, false, false, false, false, false, false, false, false, false] rfl rfl (any_of HT_.out kr_) (fun _ _ _ h => h) (Or.inl ⟨by rfl, mc84⟩) mc64 ?_
          refine pure_ (i := 3) (N := some 37) #[true, true, true, true, false, false, false, false, false, false, false, false, false] rfl rfl (any_of HT_.out kr_) (fun _ _ _ h => h) (Or.inl ⟨by rfl, mc84⟩) mc64 ?_
          refine pure_ (i := 4) (N := some 38) #[true, true, true, true, true, false, false, false, false, false, false, false, false] rfl rfl (any_of HT_.out kr_) (fun _ _ _ h => h) (Or.inl ⟨by rfl, mc84⟩) mc64 ?_
          refine pure_ (i := 5) (N := some 39) (v := undef) (a' := ?_) #[true, true, true, true, true, true, false, false, false, false, false, false, false] rfl rfl (any_of HT_.out kr_) (fun _ _ _ h => h) (Or.inr ⟨by rfl, rfl⟩) ?_ ?_
          rotate_left
          ·
           simp only [Act.put, List.setIfInBounds_toArray, List.set_cons_zero, List.set_cons_succ, i64_w, i32_w]
           rfl
          refine pure_ (i := 6) (N := some 40) (v := undef) (a' := ?_) #[true, true, true, true, true, true, true, false, false, false, false, false, false] rfl rfl (any_of HT_.out kr_) (fun _ _ _ h => h) (Or.inr ⟨by rfl, rfl⟩) ?_ ?_
          rotate_left
          ·
           simp only [Act.put, List.setIfInBounds_toArray, List.set_cons_zero, List.set_cons_succ, i64_w, i32_w]
           rfl
          refine pure_ (i := 7) (N := some 41) (v := undef) (a' := ?_) #[true, true, true, true, true, true, true, true, false, false, false, false, false] rfl rfl (any_of HT_.out kr_) (fun _ _ _ h => h) (Or.inr ⟨by rfl, rfl⟩) ?_ ?_
          rotate_left
          ·
           simp only [Act.put, List.setIfInBounds_toArray, List.set_cons_zero, List.set_cons_succ, i64_w, i32_w]
           rfl
          refine pure_ (i := 8) (N := some 42) (v := undef) (a' := ?_) #[true, true, true, true, true, true, true, true, true, false, false, false, false] rfl rfl (any_of HT_.out kr_) (fun _ _ _ h => h) (Or.inr ⟨by rfl, rfl⟩) ?_ ?_
          rotate_left
          ·
           simp only [Act.put, List.setIfInBounds_toArray, List.set_cons_zero, List.set_cons_succ, i64_w, i32_w]
           rfl
          refine pure_ (i := 9) (N := some 43) (v := undef) (a' := ?_) #[true, true, true, true, true, true, true, true, true, true, false, false, false] rfl rfl (any_of HT_.out kr_) (fun _ _ _ h => h) (Or.inr ⟨by rfl, rfl⟩) ?_ ?_
          rotate_left
          ·
           simp only [Act.put, List.setIfInBounds_toArray, List.set_cons_zero, List.set_cons_succ, i64_w, i32_w]
           rfl
          refine pure_ (i := 10) (N := some 44) (v := undef) (a' := ?_) #[true, true, true, true, true, true, true, true, true, true, true, false, false] rfl rfl (any_of HT_.out kr_) (fun _ _ _ h => h) (Or.inr ⟨by rfl, rfl⟩) ?_ ?_
          rotate_left
          ·
           simp only [Act.put, List.setIfInBounds_toArray, List.set_cons_zero, List.set_cons_succ, i64_w, i32_w]
           rfl
          refine pure_ (i := 11) (N := some 45) (v := undef) (a' := ?_) #[true, true, true, true, true, true, true, true, true, true, true, true, false] rfl rfl (any_of HT_.out kr_) (fun _ _ _ h => h) (Or.inr ⟨by rfl, rfl⟩) ?_ ?_
          rotate_left
          ·
           simp only [Act.put, List.setIfInBounds_toArray, List.set_cons_zero, List.set_cons_succ, i64_w, i32_w]
           rfl
          refine pure_ (i := 12) (N := some 46) #[true, true, true, true, true, true, true, true, true, true, true, true, true] rfl rfl (any_of HT_.out kr_) (fun _ _ _ h => h) (Or.inl ⟨by rfl, mc84⟩) mc64 ?_
          refine done_ (done_of HT_.out kr_) ?_
          try go_wp2
          go_meet
          case rel => exact ⟨_, (false), mc82, H', ⟨by have := HJ4.out; first | omega | exact Nat.le_refl _⟩, ⟨by (with_reducible repeat (first | apply Kd.R_alloc | apply Kd.R_drewN | apply Kd.R_drew)); exact Kd.R_mono HO136.out (fun _ hk => hk.2)⟩, ⟨mc55⟩, ⟨mc36⟩⟩
        case rest =>
         clear HC21
         try clear p1
         try clear q1
         try clear hx1
         try clear p2
         try clear q2
         try clear p13
         try clear q13
         try clear hx13
         try clear q23
         try clear c32b0
         try clear hx137_0
         try clear hx137_1
         try clear hx137_2
         try clear p137
         try clear q137
         try clear q23
         obtain ⟨kq, x46_20, rfl, HA, HJ20, HO_7, BK114, HB⟩ := hcut
         cases kq with
         | zero => exact absurd HA.out (by simp [spec_StoreProduct.j2])
         | succ kj20 =>
          have H := HA.out
          clear HA
          simp only [spec_StoreProduct.j2] at H
          by_cases c37 : x46_20 = true
          ·
           subst c37
           rw [if_pos rfl] at H
           obtain ⟨ji38, hji38⟩ : ∃ j_ : Int, (wrap64 (x6_4 + 1)) = j_ := ⟨_, rfl⟩
           replace H : (if 0 ≤ (ji38) then (if (ji38) ≤ (l0.length : Int) then ((some (l0.drop ((ji38) : Int).toNat : List (S26))).bind fun y139 => (if y134.length + y139.length < 3518437208883 then ((some (y134 ++ y139 : List (S26))).bind fun y143 => ((spec_l26Good.f kj20 y143).bind fun t146 => (if t146 = true then (some (y143, true)) else (some ((([] : List (S26))), false))))) else (none))) else (none)) else (none)) = some (r1, r2) := by first | (rw [hji38] at H; exact H) | (simp only [hji38] at H ⊢; exact H)
           have hji38w : (IntKind.i64.wrap (x6_4 + 1)) = ji38 := (i64_w _).trans hji38
           by_cases c39 : 0 ≤ (ji38)
           ·
            rw [if_pos c39] at H
            have c39b0 := eq_true c39
            have c39b1 : decide (0 ≤ (ji38)) = true := decide_eq_true c39
            clear c39
            by_cases c40 : (ji38) ≤ (l0.length : Int)
            ·
             rw [if_pos c40] at H
             have c40b0 := eq_true c40
             have c40b1 : decide ((ji38) ≤ (l0.length : Int)) = true := decide_eq_true c40
             clear c40
             obtain ⟨y139, hy139⟩ : ∃ y_ : List (S26), y_ = (l0.drop ((ji38) : Int).toNat) := ⟨_, rfl⟩
             replace H : (if y134.length + y139.length < 3518437208883 then ((some (y134 ++ y139 : List (S26))).bind fun y143 => ((spec_l26Good.f kj20 y143).bind fun t146 => (if t146 = true then (some (y143, true)) else (some ((([] : List (S26))), false))))) else (none)) = some (r1, r2) := by first | (rw [hy139]; with_reducible exact H) | (have H2_ := (Option.bind_some _ _).symm.trans H; rw [hy139]; with_reducible exact H2_) | (have H2_ := (Option.bind_some _ _).symm.trans H; with_reducible exact H2_) | with_reducible exact H | (rw [hy139]; exact H) | exact H
             have Ny139 := A_ hy139
             clear hy139
             by_cases c41 : y134.length + y139.length < 3518437208883
             ·
              rw [if_pos c41] at H
              have LMc41 := A_ c41
              clear c41
              obtain ⟨y143, hy143⟩ : ∃ y_ : List (S26), y_ = (y134 ++ y139) := ⟨_, rfl⟩
              replace H : ((spec_l26Good.f kj20 y143).bind fun t146 => (if t146 = true then (some (y143, true)) else (some ((([] : List (S26))), false)))) = some (r1, r2) := by first | (rw [hy143]; with_reducible exact H) | (have H2_ := (Option.bind_some _ _).symm.trans H; rw [hy143]; with_reducible exact H2_) | (have H2_ := (Option.bind_some _ _).symm.trans H; with_reducible exact H2_) | with_reducible exact H | (rw [hy143]; exact H) | exact H
              have Ny143 := A_ hy143
              clear hy143
              obtain ⟨t146, A420, H⟩ := oB_ H
              have A42 := A_ A420
              clear A420
              by_cases c43 : t146 = true
              ·
               subst c43
               rw [if_pos rfl] at H
               exact spec_StoreProduct.calls.L2
              ·
               replace c43 := Bool.eq_false_iff.mpr c43
               subst c43
               rw [if_neg (show ¬ (false = true) by decide)] at H
               obtain ⟨y147, hy147⟩ : ∃ y_ : List (S26), y_ = (([] : List (S26))) := ⟨_, rfl⟩
               replace H : (some (y147, false)) = some (r1, r2) := by first | (rw [hy147]; with_reducible exact H) | (have H2_ := (Option.bind_some _ _).symm.trans H; rw [hy147]; with_reducible exact H2_) | (have H2_ := (Option.bind_some _ _).symm.trans H; with_reducible exact H2_) | with_reducible exact H | (rw [hy147]; exact H) | exact H
               have Ny147 := A_ hy147
               clear hy147
               exact spec_StoreProduct.calls.L2
             ·
              rw [if_neg c41] at H
              exact absurd H (by simp)
            ·
             rw [if_neg c40] at H
             exact absurd H (by simp)
           ·
            rw [if_neg c39] at H
            exact absurd H (by simp)
          ·
           replace c37 := Bool.eq_false_iff.mpr c37
           subst c37
           rw [if_neg (show ¬ (false = true) by decide)] at H
           by_cases c54 : 0 ≤ x6_4
           ·
            rw [if_pos c54] at H
            have c54b0 := eq_true c54
            have c54b1 : decide (0 ≤ x6_4) = true := decide_eq_true c54
            clear c54
            by_cases c55 : x6_4 ≤ (l0.length : Int)
            ·
             rw [if_pos c55] at H
             have c55b0 := eq_true c55
             have c55b1 : decide (x6_4 ≤ (l0.length : Int)) = true := decide_eq_true c55
             clear c55
             obtain ⟨y150, hy150⟩ : ∃ y_ : List (S26), y_ = (l0.drop (x6_4 : Int).toNat) := ⟨_, rfl⟩
             replace H : (if y134.length + y150.length < 3518437208883 then ((some (y134 ++ y150 : List (S26))).bind fun y154 => ((spec_l26Good.f kj20 y154).bind fun t157 => (if t157 = true then (some (y154, true)) else (some ((([] : List (S26))), false))))) else (none)) = some (r1, r2) := by first | (rw [hy150]; with_reducible exact H) | (have H2_ := (Option.bind_some _ _).symm.trans H; rw [hy150]; with_reducible exact H2_) | (have H2_ := (Option.bind_some _ _).symm.trans H; with_reducible exact H2_) | with_reducible exact H | (rw [hy150]; exact H) | exact H
             have Ny150 := A_ hy150
             clear hy150
             by_cases c56 : y134.length + y150.length < 3518437208883
             ·
              rw [if_pos c56] at H
              have LMc56 := A_ c56
              clear c56
              obtain ⟨y154, hy154⟩ : ∃ y_ : List (S26), y_ = (y134 ++ y150) := ⟨_, rfl⟩
              replace H : ((spec_l26Good.f kj20 y154).bind fun t157 => (if t157 = true then (some (y154, true)) else (some ((([] : List (S26))), false)))) = some (r1, r2) := by first | (rw [hy154]; with_reducible exact H) | (have H2_ := (Option.bind_some _ _).symm.trans H; rw [hy154]; with_reducible exact H2_) | (have H2_ := (Option.bind_some _ _).symm.trans H; with_reducible exact H2_) | with_reducible exact H | (rw [hy154]; exact H) | exact H
              have Ny154 := A_ hy154
              clear hy154
              obtain ⟨t157, A570, H⟩ := oB_ H
              have A57 := A_ A570
              clear A570
              by_cases c58 : t157 = true
              ·
               subst c58
               rw [if_pos rfl] at H
               exact spec_StoreProduct.calls.L2
              ·
               replace c58 := Bool.eq_false_iff.mpr c58
               subst c58
               rw [if_neg (show ¬ (false = true) by decide)] at H
               obtain ⟨y158, hy158⟩ : ∃ y_ : List (S26), y_ = (([] : List (S26))) := ⟨_, rfl⟩
               replace H : (some (y158, false)) = some (r1, r2) := by first | (rw [hy158]; with_reducible exact H) | (have H2_ := (Option.bind_some _ _).symm.trans H; rw [hy158]; with_reducible exact H2_) | (have H2_ := (Option.bind_some _ _).symm.trans H; with_reducible exact H2_) | with_reducible exact H | (rw [hy158]; exact H) | exact H
               have Ny158 := A_ hy158
               clear hy158
               exact spec_StoreProduct.calls.L2
             ·
              rw [if_neg c56] at H
              exact absurd H (by simp)
            ·
             rw [if_neg c55] at H
             exact absurd H (by simp)
           ·
            rw [if_neg c54] at H
            exact absurd H (by simp)
       ·
        rw [if_neg c20] at H
        exact absurd H (by simp)
      ·
       rw [if_neg c19] at H
       exact absurd H (by simp)
     ·
      rw [if_neg c18] at H
      exact absurd H (by simp)
    ·
     rw [if_neg c17] at H
     exact absurd H (by simp)
 ·
  replace c4 := Bool.eq_false_iff.mpr c4
  subst c4
  rw [if_neg (show ¬ (false = true) by decide)] at H
  obtain ⟨y116, hy116⟩ : ∃ y_ : List (S26), y_ = (([] : List (S26))) := ⟨_, rfl⟩
  replace H : (some (y116, false)) = some (r1, r2) := by first | (rw [hy116]; with_reducible exact H) | (have H2_ := (Option.bind_some _ _).symm.trans H; rw [hy116]; with_reducible exact H2_) | (have H2_ := (Option.bind_some _ _).symm.trans H; with_reducible exact H2_) | with_reducible exact H | (rw [hy116]; exact H) | exact H
  have Ny116 := A_ hy116
  clear hy116
  exact spec_StoreProduct.calls.L2
end Go.Proofs.YtgmmanppmjlclaaGreatDoor.P
