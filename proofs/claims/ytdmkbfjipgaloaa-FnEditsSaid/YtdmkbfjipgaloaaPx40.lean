-- Made by pp.py of this session out of the kit's print and of contracts proved by hand; Lean checks it.
import Derived.Test.YtdmkbfjipgaloaaMc
import Derived.Test.YtdmkbfjipgaloaaPx0
import Derived.Test.YtdmkbfjipgaloaaPx16
import Derived.Test.YtdmkbfjipgaloaaPx18
import Derived.Test.YtdmkbfjipgaloaaPx29
import Derived.Test.YtdmkbfjipgaloaaPx39
namespace Go.Proofs.Ytdmkbfjipgaloaa.P
open Go.RowKit Go.Proofs.YtdmkbfjipgaloaaW.PrintWords Go.Proofs.YtdmkbfjipgaloaaW.PrintLast Go.Proofs.YtdmkbfjipgaloaaW.PrintMore
attribute [local go_sem] max2_int min2_int max_two min_two max_three min_three max_four min_four   -- for this text's walks alone
set_option linter.unusedVariables false
set_option linter.unusedSimpArgs false

/-! ### spec_DrawAddToRegion: function 39 -/
def spec_DrawAddToRegion.f (k : Nat) (l0 : List Int) : Option (Int × Int × List Int × List Int × Int) := (mk_l1Cur.f l0).bind fun bt1093 => ((spec_l1Cur_anyField.f k bt1093.1 bt1093.2.1 bt1093.2.2).bind fun bt1097 => ((spec_l1Cur_regionOf.f k bt1093.1 bt1097.2.2.2.1 bt1097.2.2.2.2 bt1097.1 bt1097.2.1 bt1097.2.2.1).bind fun bt1105 => ((spec_l1Cur_among.f bt1093.1 bt1105.2.1 bt1105.2.2 (([1, (-5), 100, 9000, (-9000), 0, 18001] : List Int))).bind fun bt1113 => (some (bt1097.1, bt1097.2.1, bt1097.2.2.1, bt1105.1, bt1113.1)))))
def spec_DrawAddToRegion.T3 : Bool × List (List Nat × List Nat) := (true, [([], []), ([], []), ([], []), ([1, 2], [1, 2]), ([], []), ([], []), ([4, 5, 3], [4, 5]), ([0, 6, 0], [0]), ([3, 7, 0, 1, 2, 3, 7], [3]), ([6, 8, 0, 1, 2, 3, 4, 5, 6, 7, 8], [6])])
def spec_DrawAddToRegion.B3 : List Nat := [0, 0, 0, 6, 0, 0, 62, 127, 255, 511]
theorem spec_DrawAddToRegion.tab3 : rtab .any (opsOf Try.f39 3) = spec_DrawAddToRegion.T3 := by kernel_rfl
theorem spec_DrawAddToRegion.bits3 : waitsOk spec_DrawAddToRegion.T3.2 spec_DrawAddToRegion.B3 = true := by kernel_rfl
set_option maxHeartbeats 8000000 in
set_option maxRecDepth 100000 in
theorem spec_DrawAddToRegion.calls (k : Nat) (A0 : Option Addr) (c0 : Nat) (l0 : List Int) (r1 : Int) (r2 : Int) (r3 : List Int) (r4 : List Int) (r5 : Int) (w : World) (hr0 : Kd.C (Kd.int .u8) w A0 l0.length l0) (hc0 : l0.length ≤ c0) (h : spec_DrawAddToRegion.f k l0 = some (r1, r2, r3, r4, r5)) :
  Calls Try.prog 39 #[.slice A0 l0.length c0] w fun e w' => ∃ v2_ v3_ : Value, e = .returned (.tuple #[.agg #[.int .i64 r1, .int .i64 r2, v2_], v3_, .int .i64 r5]) ∧ Kd.Q (Kd.int .i64) 3 w' w.heap.size (fun k_ => some k_ ≠ (v3_ : Value).ownBlock) v2_ r3 ∧ Kd.R (Kd.int .i64) 3 w' w.heap.size (fun k_ => some k_ ≠ (v2_ : Value).ownBlock) v3_ r4 ∧ Below w.heap.size w w' := by
 have hu26 := Try.underlying26
 have HR0 := A_ hr0
 have HC0 := A_ hc0
 clear hr0 hc0
 have HB := A_ (Below.refl w.heap.size w)
 have H : ((mk_l1Cur.f l0).bind fun bt1093 => ((spec_l1Cur_anyField.f k bt1093.1 bt1093.2.1 bt1093.2.2).bind fun bt1097 => ((spec_l1Cur_regionOf.f k bt1093.1 bt1097.2.2.2.1 bt1097.2.2.2.2 bt1097.1 bt1097.2.1 bt1097.2.2.1).bind fun bt1105 => ((spec_l1Cur_among.f bt1093.1 bt1105.2.1 bt1105.2.2 (([1, (-5), 100, 9000, (-9000), 0, 18001] : List Int))).bind fun bt1113 => (some (bt1097.1, bt1097.2.1, bt1097.2.2.1, bt1105.1, bt1113.1)))))) = some (r1, r2, r3, r4, r5) := h
 clear h
 obtain ⟨⟨t1093, t1094, t1095⟩, A20, H⟩ := oB_ H
 have A2 := A_ A20
 clear A20
 obtain ⟨⟨t1097, t1098, t1099, t1102, t1103⟩, A30, H⟩ := oB_ H
 have A3 := A_ A30
 clear A30
 obtain ⟨⟨t1105, t1108, t1109⟩, A40, H⟩ := oB_ H
 have A4 := A_ A40
 clear A40
 obtain ⟨y1110, hy1110⟩ : ∃ y_ : List Int, y_ = (([1, (-5), 100, 9000, (-9000), 0, 18001] : List Int)) := ⟨_, rfl⟩
 replace H : ((spec_l1Cur_among.f t1093 t1108 t1109 y1110).bind fun bt1113 => (some (t1097, t1098, t1099, t1105, bt1113.1))) = some (r1, r2, r3, r4, r5) := by first | (rw [hy1110]; with_reducible exact H) | (have H2_ := (Option.bind_some _ _).symm.trans H; rw [hy1110]; with_reducible exact H2_) | (have H2_ := (Option.bind_some _ _).symm.trans H; with_reducible exact H2_) | with_reducible exact H | (rw [hy1110]; exact H) | exact H
 have Ny1110 := A_ hy1110
 clear hy1110
 obtain ⟨⟨t1113, t1114, t1115⟩, A50, H⟩ := oB_ H
 have A5 := A_ A50
 clear A50
 simp only [Option.some.injEq, Prod.mk.injEq] at H
 obtain ⟨rfl, rfl, rfl, rfl, rfl⟩ := H
 go_enter Try.func39, Try.ntmps39
 try go_wp2_with (first | ((with_reducible refine gd_ 2 rfl ?_); refine box_event rfl (N := 2) rfl (cs := #[.int .i64 0, .int .i64 0, .slice none 0 0]) (t := 26) mc353 ?_; intro gb1092 hg w6 hbox hb; have BK1092 := A_ (hbox); have GW1092 := A_ ((mc213 : w.heap.size ≤ gb1092)); have GE1092 := A_ ((mc213 : w.heap.size ≤ gb1092)); replace HB := A_ (below_step mc249 hb); clear hb hbox hg) | ((with_reducible refine gd_ 9 rfl ?_); refine mk_l1Cur.box A0 c0 l0 t1093 t1094 t1095 w A2.out ?side8 ?side9 ?side1 ?side2 ?side3 ?_; (case side8 => rfl); (case side1 => repeat (first | (with_reducible first | exact HB.out | apply below_alloc | apply pw_below_drewN | apply below_drew1 | refine below_set ?_ GE1092.out) | exact HB.out)); (case side2 => exact HR0.out); (case side3 => exact HC0.out); (case side9 => exact mc353); intro g1096 w7 hi hb hb2; replace HB := A_ (hb); have HI1096 := A_ (hi); have NB1096_1092 := A_ (IsS61.ne_blk hi (blk_below mc256 hb2) (by decide)); have NB1092_1096 := A_ (Ne.symm (IsS61.ne_blk hi (blk_below mc256 hb2) (by decide))); replace BK1092 := A_ (blk_below mc256 hb2); (try clear hb)) | ((with_reducible refine gc_ 75 rfl ?_); refine goesL_ (some 11) rfl rfl Try.func75 kr_ rfl #[.pointer (some ⟨g1096, 0, none⟩)] rfl mc247 ?_; (with_reducible refine (spec_l1Cur_anyField.calls k g1096 t1093 t1094 t1095 t1097 t1098 t1099 t1102 t1103 w _ ?side1 ?side2 A3.out).mono ?_); (case side1 => repeat (first | (with_reducible first | exact HI1096.out | apply IsS61.alloc | apply IsS61.drewN | apply IsS61.drew | apply IsS61.set_1 | apply IsS61.set_2 | refine IsS61.far ?_ NB1096_1092.out _) | exact HI1096.out)); (case side2 => repeat (first | (with_reducible first | exact HB.out | apply below_alloc | apply pw_below_drewN | apply below_drew1 | refine below_set ?_ (IsS61.ge HI1096.out) | refine below_set ?_ GE1092.out) | exact HB.out)); rintro e w8 ⟨v1100, rfl, ho0, hi, hb, hk⟩; refine ⟨_, rfl, ?_⟩; replace BK1092 := A_ (KeepBut.blk hk (g' := gb1092) (o := .cells #[.int .i64 0, .int .i64 0, .slice none 0 0] 26 (0, 0)) mc256 NB1092_1096.out (by simp)); have HO1101 := A_ (Kd.Q_lower ho0 (below_size mc147)); replace HB := A_ (hb); replace HI1096 := A_ (hi); (try clear hb); (try clear ho0)) | ((with_reducible refine gd_ 6 rfl ?_); refine box_event rfl (N := 6) rfl (cs := #[.int .i64 0, .int .i64 0, .slice none 0 0]) (t := 26) mc353 ?_; intro gb1104 hg w9 hbox hb; replace HO1101 := A_ (Kd.Q_below mc315 hb); have BK1104 := A_ (hbox); have GW1104 := A_ ((mc115 : w.heap.size ≤ gb1104)); have GE1104 := A_ ((mc115 : w.heap.size ≤ gb1104)); replace HB := A_ (below_step mc147 hb); have NB1092_1104 := A_ ((by rw [hg]; exact Nat.ne_of_lt (blk_lt mc256) : gb1092 ≠ gb1104)); have NB1104_1092 := A_ ((by rw [hg]; exact Nat.ne_of_gt (blk_lt mc256) : gb1104 ≠ gb1092)); replace BK1092 := A_ (blk_below mc256 hb); have NB1096_1104 := A_ ((by rw [hg]; exact Nat.ne_of_lt (IsS61.lt (show IsS61 w _ g1096 t1093 t1102 t1103 from by repeat (first | (with_reducible first | exact HI1096.out | apply IsS61.alloc | apply IsS61.drewN | apply IsS61.drew | apply IsS61.set_1 | apply IsS61.set_2 | refine IsS61.far ?_ NB1096_1092.out _) | exact HI1096.out))) : g1096 ≠ gb1104)); have NB1104_1096 := A_ ((by rw [hg]; exact Nat.ne_of_gt (IsS61.lt (show IsS61 w _ g1096 t1093 t1102 t1103 from by repeat (first | (with_reducible first | exact HI1096.out | apply IsS61.alloc | apply IsS61.drewN | apply IsS61.drew | apply IsS61.set_1 | apply IsS61.set_2 | refine IsS61.far ?_ NB1096_1092.out _) | exact HI1096.out))) : gb1104 ≠ g1096)); replace HI1096 := A_ (IsS61.below (by repeat (first | (with_reducible first | exact HI1096.out | apply IsS61.alloc | apply IsS61.drewN | apply IsS61.drew | apply IsS61.set_1 | apply IsS61.set_2 | refine IsS61.far ?_ NB1096_1092.out _) | exact HI1096.out)) hb); clear hb hbox hg; have hnb10 := NB1104_1092.out; have hnc10 := NB1092_1104.out; have hnb11 := NB1104_1096.out; have hnc11 := NB1096_1104.out; have hcz12_0 : w9.cell? ⟨gb1104, 0, none⟩ = some (.int .i64 0) := bc_ BK1104 0 rfl; have hcz12_1 : w9.cell? ⟨gb1104, 1, none⟩ = some (.int .i64 0) := bc_ BK1104 1 rfl; have hcz12_2 : w9.cell? ⟨gb1104, 2, none⟩ = some (.slice none 0 0) := bc_ BK1104 2 rfl; have hfz12_0 := blk_frozen BK1104.out 0; have hfz12_1 := blk_frozen BK1104.out 1; have hfz12_2 := blk_frozen BK1104.out 2; obtain ⟨Ao13, co13, eo13, _⟩ := Kd.Q_slice HO1101.out; subst eo13))
 have n0_ : Aside0 (Kd.Q (Kd.int .i64) 3 (((w9.setCell ⟨gb1104, 0, none⟩ (.int .i64 t1097)).setCell ⟨gb1104, 1, none⟩ (.int .i64 t1098)).setCell ⟨gb1104, 2, none⟩ (.slice Ao13 t1099.length co13)) w.heap.size (fun _ => True) (.slice Ao13 t1099.length co13) t1099) := ⟨by (with_reducible repeat (first | apply Kd.Q_alloc | apply Kd.Q_drewN | apply Kd.Q_drew)); exact Kd.Q_mono (Kd.Q_far (p := ⟨gb1104, 2, none⟩) (Kd.Q_far (p := ⟨gb1104, 1, none⟩) (Kd.Q_far (p := ⟨gb1104, 0, none⟩) (Kd.Q_types HO1101.out BK1104.out (by decide)) (fun _ hk => by first | exact hk.2 | exact hk.1 | exact hk | exact trivial | exact ⟨hk.1.1, hk.1.2⟩ | exact hk.1.1 | exact hk.1.2) (.int .i64 t1097)) (fun _ hk => by first | exact hk.2 | exact hk.1 | exact hk | exact trivial | exact ⟨hk.1.1, hk.1.2⟩ | exact hk.1.1 | exact hk.1.2) (.int .i64 t1098)) (fun _ hk => by first | exact hk.2 | exact hk.1 | exact hk | exact trivial | exact ⟨hk.1.1, hk.1.2⟩ | exact hk.1.1 | exact hk.1.2) (.slice Ao13 t1099.length co13)) (fun _ hk => trivial)⟩
 have n1_ : Aside0 ((((w9.setCell ⟨gb1104, 0, none⟩ (.int .i64 t1097)).setCell ⟨gb1104, 1, none⟩ (.int .i64 t1098)).setCell ⟨gb1104, 2, none⟩ (.slice Ao13 t1099.length co13)).heap[gb1092]? = some (.cells #[.int .i64 0, .int .i64 0, .slice none 0 0] 26 (0, 0))) := ⟨by (with_reducible repeat (first | refine blk_drewN ?_ _ | refine blk_drew ?_ | refine blk_alloc ?_ _)); refine blk_far ?_ NB1092_1104.out _; (with_reducible repeat (first | refine blk_drewN ?_ _ | refine blk_drew ?_ | refine blk_alloc ?_ _)); refine blk_far ?_ NB1092_1104.out _; (with_reducible repeat (first | refine blk_drewN ?_ _ | refine blk_drew ?_ | refine blk_alloc ?_ _)); refine blk_far ?_ NB1092_1104.out _; (with_reducible repeat (first | refine blk_drewN ?_ _ | refine blk_drew ?_ | refine blk_alloc ?_ _)); exact BK1092.out⟩
 have n2_ : Aside0 ((((w9.setCell ⟨gb1104, 0, none⟩ (.int .i64 t1097)).setCell ⟨gb1104, 1, none⟩ (.int .i64 t1098)).setCell ⟨gb1104, 2, none⟩ (.slice Ao13 t1099.length co13)).heap[gb1104]? = some (.cells #[.int .i64 t1097, .int .i64 t1098, .slice Ao13 t1099.length co13] 26 (0, 0))) := ⟨by (with_reducible repeat (first | refine blk_drewN ?_ _ | refine blk_drew ?_ | refine blk_alloc ?_ _)); refine blk_put (cs := #[.int .i64 t1097, .int .i64 t1098, .slice none 0 0]) ?_ 2 _ rfl; (with_reducible repeat (first | refine blk_drewN ?_ _ | refine blk_drew ?_ | refine blk_alloc ?_ _)); refine blk_put (cs := #[.int .i64 t1097, .int .i64 0, .slice none 0 0]) ?_ 1 _ rfl; (with_reducible repeat (first | refine blk_drewN ?_ _ | refine blk_drew ?_ | refine blk_alloc ?_ _)); refine blk_put (cs := #[.int .i64 0, .int .i64 0, .slice none 0 0]) ?_ 0 _ rfl; (with_reducible repeat (first | refine blk_drewN ?_ _ | refine blk_drew ?_ | refine blk_alloc ?_ _)); exact BK1104.out⟩
 have n3_ : Aside0 (IsS61 w (((w9.setCell ⟨gb1104, 0, none⟩ (.int .i64 t1097)).setCell ⟨gb1104, 1, none⟩ (.int .i64 t1098)).setCell ⟨gb1104, 2, none⟩ (.slice Ao13 t1099.length co13)) g1096 t1093 t1102 t1103) := ⟨by repeat (first | (with_reducible first | exact HI1096.out | apply IsS61.alloc | apply IsS61.drewN | apply IsS61.drew | apply IsS61.set_1 | apply IsS61.set_2 | refine IsS61.far ?_ NB1096_1092.out _ | refine IsS61.far ?_ NB1096_1104.out _) | exact HI1096.out)⟩
 have n4_ : Aside0 (Below w.heap.size w (((w9.setCell ⟨gb1104, 0, none⟩ (.int .i64 t1097)).setCell ⟨gb1104, 1, none⟩ (.int .i64 t1098)).setCell ⟨gb1104, 2, none⟩ (.slice Ao13 t1099.length co13))) := ⟨mc112⟩
 (try clear HO1101)
 (try clear BK1092)
 (try clear BK1104)
 (try clear HI1096)
 (try clear HB)
 generalize (((w9.setCell ⟨gb1104, 0, none⟩ (.int .i64 t1097)).setCell ⟨gb1104, 1, none⟩ (.int .i64 t1098)).setCell ⟨gb1104, 2, none⟩ (.slice Ao13 t1099.length co13)) = w14 at n0_ n1_ n2_ n3_ n4_ ⊢
 have HO1101 := n0_
 have BK1092 := n1_
 have BK1104 := n2_
 have HI1096 := n3_
 have HB := n4_
 clear n0_ n1_ n2_ n3_ n4_
 replace HO1101 := A_ (Kd.Q_drew HO1101.out)
 replace BK1092 := A_ (blk_drew BK1092.out)
 replace BK1104 := A_ (blk_drew BK1104.out)
 replace HI1096 := A_ (IsS61.drew HI1096.out)
 replace HB := A_ (below_drew1 HB.out)
 refine start_ (n := 10) (S := fun w' => True) (ds := []) #[false, false, false, false, false, false, false, false, false, false] kr_ rfl rfl trivial (fun hHeld => ?_); refine with_tabW spec_DrawAddToRegion.tab3 spec_DrawAddToRegion.bits3 (fun HT_ HW_ => ?_)
 generalize w14.drew = w15 at HO1101 BK1092 BK1104 HI1096 HB hHeld ⊢
 refine pure_ (i := 1) (N := some 13) #[false, true, false, false, false, false, false, false, false, false] rfl rfl (any_of HT_.out kr_) (fun _ _ _ h => h) (Or.inl ⟨by rfl, mc354⟩) mc312 ?_
 refine pure_ (i := 4) (N := some 16) #[false, true, false, false, true, false, false, false, false, false] rfl rfl (any_of HT_.out kr_) (fun _ _ _ h => h) (Or.inl ⟨by rfl, mc354⟩) mc312 ?_
 refine inv_at [0, 2, 3, 5, 6, 7, 8, 9] (fun a0_ b a w' => ∃ (v1106 : Value) (v1111 : Value) (m8_ : Value), a = putSel a0_ b [(0, 12, .agg #[.int .i64 t1097, .int .i64 t1098, .slice Ao13 t1099.length co13]), (2, 14, .agg #[.int .i64 t1097, .int .i64 t1098, .slice Ao13 t1099.length co13]), (3, 15, v1106), (5, 17, v1111), (6, 18, .int .i64 t1113), (8, 3, m8_), (9, 4, .int .i64 t1113)] ∧ (Kd.Q (Kd.int .i64) 3 w' w.heap.size (fun _ => True) (.slice Ao13 t1099.length co13) t1099) ∧ (b 7 = false → w'.heap[gb1092]? = some (.cells #[.int .i64 0, .int .i64 0, .slice none 0 0] 26 (0, 0))) ∧ (w'.heap[gb1104]? = some (.cells #[.int .i64 t1097, .int .i64 t1098, .slice Ao13 t1099.length co13] 26 (0, 0))) ∧ (b 3 = false → IsS61 w w' g1096 t1093 t1102 t1103) ∧ (Below w.heap.size w w') ∧ (b 3 = true → Kd.R (Kd.int .i64) 3 w' w.heap.size (fun k_ => some k_ ≠ (.slice Ao13 t1099.length co13 : Value).ownBlock) v1106 t1105) ∧ (b 3 = true → b 6 = false → IsS61 w w' g1096 t1093 t1108 t1109) ∧ (b 5 = true → Kd.R (Kd.int .i64) 3 w' w.heap.size (fun k_ => some k_ ≠ (.slice Ao13 t1099.length co13 : Value).ownBlock) v1111 y1110) ∧ (b 6 = true → IsS61 w w' g1096 t1093 t1114 t1115) ∧ (b 7 = true → w'.heap[gb1092]? = some (.cells #[.int .i64 t1097, .int .i64 t1098, .slice Ao13 t1099.length co13] 26 (0, 0))) ∧ (b 8 = true → (m8_ : Value) = v1106)) HT_.out HW_.out kr_ kr_ ?_ ?_ ?_
 ·
  exact ⟨.bool false, .bool false, .bool false, by simp only [putSel, Bool.false_eq_true, if_false], HO1101.out, fun _ => BK1092.out, BK1104.out, fun _ => HI1096.out, HB.out, fun h_ => absurd h_ (by decide), fun h_ => absurd h_ (by decide), fun h_ => absurd h_ (by decide), fun h_ => absurd h_ (by decide), fun h_ => absurd h_ (by decide), fun h_ => absurd h_ (by decide)⟩
 ·
  skip
  clear BK1092 BK1104 HB HI1096 HO1101
  refine steps_cons ?_ ?_
  ·
   rintro b a w' ⟨v1106, v1111, m8_, ha, Q_HO1101, Q_BK1092, Q_BK1104, Q_HI1096, Q_HB, Q_HO1107, Q_HI1096_e3, Q_HO1112, Q_HI1096_e6, Q_BK1092_e7, Q_X8_⟩ hb_ hon hoff
   refine ⟨_, rfl, fun K hK => ?_⟩
   have e6 : a.tmps[6]? = some (.pointer (some ⟨gb1104, 0, none⟩)) := by rw [ha]; exact (putSel_off rfl).trans rfl
   replace ha := A_ ha
   have HO1101 := A_ Q_HO1101
   have BK1092 := A_ (Q_BK1092 (hoff 7 kr_))
   have BK1104 := A_ Q_BK1104
   have HB := A_ Q_HB
   have hc0_ : w'.cell? ⟨gb1104, 0, none⟩ = some (.int .i64 t1097) := bc_ BK1104 0 rfl
   have hc1_ : w'.cell? ⟨gb1104, 1, none⟩ = some (.int .i64 t1098) := bc_ BK1104 1 rfl
   have hc2_ : w'.cell? ⟨gb1104, 2, none⟩ = some (.slice Ao13 t1099.length co13) := bc_ BK1104 2 rfl
   refine value_ (w1 := w') (v := .agg #[.int .i64 t1097, .int .i64 t1098, .slice Ao13 t1099.length co13]) (by rfl) rfl ?_ ?_
   ·
    go_simp
    (try simp only [i64_w])
    try rfl
   refine hK.out _ _ ⟨v1106, v1111, m8_, (by rw [ha.out]; exact putSel_upk 0 hb_ rfl rfl rfl), Q_HO1101, Q_BK1092, Q_BK1104, Q_HI1096, Q_HB, Q_HO1107, Q_HI1096_e3, Q_HO1112, Q_HI1096_e6, fun h0_ => absurd ((hoff 7 kr_).symm.trans h0_) (by decide), fun h0_ => absurd ((hoff 8 kr_).symm.trans h0_) (by decide)⟩
  refine steps_cons ?_ ?_
  ·
   rintro b a w' ⟨v1106, v1111, m8_, ha, Q_HO1101, Q_BK1092, Q_BK1104, Q_HI1096, Q_HB, Q_HO1107, Q_HI1096_e3, Q_HO1112, Q_HI1096_e6, Q_BK1092_e7, Q_X8_⟩ hb_ hon hoff
   refine ⟨_, rfl, fun K hK => ?_⟩
   have e6 : a.tmps[6]? = some (.pointer (some ⟨gb1104, 0, none⟩)) := by rw [ha]; exact (putSel_off rfl).trans rfl
   replace ha := A_ ha
   have HO1101 := A_ Q_HO1101
   have BK1092 := A_ (Q_BK1092 (hoff 7 kr_))
   have BK1104 := A_ Q_BK1104
   have HI1096 := A_ (Q_HI1096 (hoff 3 kr_))
   have HB := A_ Q_HB
   have hc0_ : w'.cell? ⟨gb1104, 0, none⟩ = some (.int .i64 t1097) := bc_ BK1104 0 rfl
   have hc1_ : w'.cell? ⟨gb1104, 1, none⟩ = some (.int .i64 t1098) := bc_ BK1104 1 rfl
   have hc2_ : w'.cell? ⟨gb1104, 2, none⟩ = some (.slice Ao13 t1099.length co13) := bc_ BK1104 2 rfl
   refine value_ (w1 := w') (v := .agg #[.int .i64 t1097, .int .i64 t1098, .slice Ao13 t1099.length co13]) (by rfl) rfl ?_ ?_
   ·
    go_simp
    (try simp only [i64_w])
    try rfl
   refine hK.out _ _ ⟨v1106, v1111, m8_, (by rw [ha.out]; exact putSel_upk 1 hb_ rfl rfl rfl), Q_HO1101, Q_BK1092, Q_BK1104, Q_HI1096, Q_HB, fun h0_ => absurd ((hoff 3 kr_).symm.trans h0_) (by decide), fun h0_ _ => absurd ((hoff 3 kr_).symm.trans h0_) (by decide), Q_HO1112, fun h0_ => absurd ((hoff 6 kr_).symm.trans h0_) (by decide), fun h0_ => absurd ((hoff 7 kr_).symm.trans h0_) (by decide), fun h0_ => absurd ((hoff 8 kr_).symm.trans h0_) (by decide)⟩
  refine steps_cons ?_ ?_
  ·
   rintro b a w' ⟨v1106, v1111, m8_, ha, Q_HO1101, Q_BK1092, Q_BK1104, Q_HI1096, Q_HB, Q_HO1107, Q_HI1096_e3, Q_HO1112, Q_HI1096_e6, Q_BK1092_e7, Q_X8_⟩ hb_ hon hoff
   refine ⟨_, rfl, fun K hK => ?_⟩
   have e13 : a.tmps[13]? = some (.pointer (some ⟨g1096, 0, none⟩)) := by rw [ha]; exact (putSel_off rfl).trans rfl
   have e14 : a.tmps[14]? = some (.agg #[.int .i64 t1097, .int .i64 t1098, .slice Ao13 t1099.length co13]) := by rw [ha]; exact putSel_on (e := (2, 14, .agg #[.int .i64 t1097, .int .i64 t1098, .slice Ao13 t1099.length co13])) 1 rfl rfl (hon 2 kr_) rfl
   replace ha := A_ ha
   have HO1101 := A_ Q_HO1101
   have BK1092 := A_ (Q_BK1092 (hoff 7 kr_))
   have BK1104 := A_ Q_BK1104
   have HI1096 := A_ (Q_HI1096 hb_)
   have HB := A_ Q_HB
   refine goes_ Try.func76 kr_ rfl #[.pointer (some ⟨g1096, 0, none⟩), .agg #[.int .i64 t1097, .int .i64 t1098, .slice Ao13 t1099.length co13]] (by rfl) rfl rfl mc79 ?_
   with_reducible refine (spec_l1Cur_regionOf.calls k g1096 t1093 t1102 t1103 t1097 t1098 _ _ t1099 t1105 t1108 t1109 w _ ?side1 ?side2 ?side3 ?side4 ?side5 A4.out).mono ?_
   (case side1 => exact mc93)
   (case side2 => exact mc112)
   (case side3 => repeat (first | exact (Kd.Q_reads' HO1101.out).2.2 | (with_reducible refine Kd.C_alloc ?_ _) | (with_reducible refine Kd.C_drewN ?_ _) | (with_reducible refine Kd.C_drew ?_)))
   (case side4 => exact (Kd.Q_reads' HO1101.out).2.1)
   (case side5 => exact far_slice (IsS61.own_neQ HI1096.out HO1101.out (by decide)))
   rintro e w16 ⟨v1106, rfl, ho0, hi, hb, hk⟩
   refine ⟨_, rfl, ?_⟩
   have n0_ := A_ (KeepBut.blk hk (g' := gb1092) (o := .cells #[.int .i64 0, .int .i64 0, .slice none 0 0] 26 (0, 0)) mc256 NB1092_1096.out (by simp))
   have n1_ := A_ (Kd.Q_mono (Kd.Q_told (Kd.Q_oldK (IsS61.apartQ (show IsS61 w _ g1096 t1093 t1102 t1103 from by repeat (first | (with_reducible first | exact HI1096.out | apply IsS61.alloc | apply IsS61.drewN | apply IsS61.drew | apply IsS61.set_1 | apply IsS61.set_2 | refine IsS61.far ?_ NB1096_1092.out _ | refine IsS61.far ?_ NB1096_1104.out _) | exact HI1096.out)) mc315 (by decide)) hk) (Kd.R_base ho0)) (fun _ h_ => h_.1))
   have n2_ := A_ (KeepBut.blk hk (g' := gb1104) (o := .cells #[.int .i64 t1097, .int .i64 t1098, .slice Ao13 t1099.length co13] 26 (0, 0)) mc257 NB1104_1096.out (by simp))
   have n3_ := A_ (Kd.R_lower (Kd.R_new' ho0 (Kd.Q_lt mc315)) (below_size mc112))
   have n4_ := A_ (hb)
   have n5_ := A_ (hi)
   have z_HO1112 := fun (h0_ : b 5 = true) => (show Kd.R (Kd.int .i64) 3 w16 w.heap.size (fun k_ => some k_ ≠ (.slice Ao13 t1099.length co13 : Value).ownBlock) v1111 y1110 from by first | exact (Kd.R_mono (Kd.R_told (Kd.R_oldK (IsS61.apart (show IsS61 w _ g1096 t1093 t1102 t1103 from by repeat (first | (with_reducible first | exact HI1096.out | apply IsS61.alloc | apply IsS61.drewN | apply IsS61.drew | apply IsS61.set_1 | apply IsS61.set_2 | refine IsS61.far ?_ NB1096_1092.out _ | refine IsS61.far ?_ NB1096_1104.out _) | exact HI1096.out)) (by (with_reducible repeat (first | apply Kd.R_alloc | apply Kd.R_drewN | apply Kd.R_drew)); exact (Q_HO1112 h0_)) (by decide)) hk) (Kd.R_base ho0)) (fun _ h_ => h_.1)) | exact Kd.R_mono (Kd.R_mono (Kd.R_told (Kd.R_oldK (IsS61.apart (show IsS61 w _ g1096 t1093 t1102 t1103 from by repeat (first | (with_reducible first | exact HI1096.out | apply IsS61.alloc | apply IsS61.drewN | apply IsS61.drew | apply IsS61.set_1 | apply IsS61.set_2 | refine IsS61.far ?_ NB1096_1092.out _ | refine IsS61.far ?_ NB1096_1104.out _) | exact HI1096.out)) (by (with_reducible repeat (first | apply Kd.R_alloc | apply Kd.R_drewN | apply Kd.R_drew)); exact (Q_HO1112 h0_)) (by decide)) hk) (Kd.R_base ho0)) (fun _ h_ => h_.1)) (fun _ h_ => by first | trivial | exact h_ | exact h_.1))
   clear BK1092
   clear HO1101
   clear BK1104
   clear HB
   clear HI1096
   have BK1092 := n0_
   have HO1101 := n1_
   have BK1104 := n2_
   have HO1107 := n3_
   have HB := n4_
   have HI1096 := n5_
   clear n0_ n1_ n2_ n3_ n4_ n5_
   (try clear hb)
   (try clear ho0)
   refine hK.out _ _ ⟨v1106, v1111, m8_, (by rw [ha.out]; exact putSel_upk 2 hb_ rfl rfl rfl), mc105, fun _ => mc256, mc257, fun h0_ => absurd ((up_self b 3).symm.trans h0_) (by decide), mc112, fun _ => (by (with_reducible repeat (first | apply Kd.R_alloc | apply Kd.R_drewN | apply Kd.R_drew)); exact Kd.R_mono HO1107.out (fun _ hk => by first | exact hk.2 | exact hk.1 | exact hk | exact trivial | exact ⟨hk.1.1, hk.1.2⟩ | exact hk.1.1 | exact hk.1.2)), fun _ _ => mc93, z_HO1112, fun h0_ => absurd ((hoff 6 kr_).symm.trans h0_) (by decide), fun h0_ => absurd ((hoff 7 kr_).symm.trans h0_) (by decide), fun h0_ => absurd ((hoff 8 kr_).symm.trans h0_) (by decide)⟩
  refine steps_cons ?_ ?_
  ·
   rintro b a w' ⟨v1106, v1111, m8_, ha, Q_HO1101, Q_BK1092, Q_BK1104, Q_HI1096, Q_HB, Q_HO1107, Q_HI1096_e3, Q_HO1112, Q_HI1096_e6, Q_BK1092_e7, Q_X8_⟩ hb_ hon hoff
   refine ⟨_, rfl, fun K hK => ?_⟩
   replace ha := A_ ha
   have HO1101 := A_ Q_HO1101
   have BK1092 := A_ (Q_BK1092 (hoff 7 kr_))
   have BK1104 := A_ Q_BK1104
   have HB := A_ Q_HB
   refine Kd.R_lit_step (Kd.int .i64) _ 3 ?hg (N := 17) ?hd (xs := ([1, (-5), 100, 9000, (-9000), 0, 18001] : List Int)) (inner := [.int .i64 1, .int .i64 (-5), .int .i64 100, .int .i64 9000, .int .i64 (-9000), .int .i64 0, .int .i64 18001]) (ok := fun _ => True) (okp := fun _ => True) ?hr ?hp (fun _ hk => hk) trivial (Below.refl _ _) (Nat.le_refl _) (by simp) ?_; (case hd => rfl); (case hg => rfl); (case hr => exact mc353); (case hp => exact (Reps.one (show Kd.M (Kd.int .i64) _ _ _ 1 [.int .i64 1] from rfl) (Reps.one (show Kd.M (Kd.int .i64) _ _ _ (-5) [.int .i64 (-5)] from rfl) (Reps.one (show Kd.M (Kd.int .i64) _ _ _ 100 [.int .i64 100] from rfl) (Reps.one (show Kd.M (Kd.int .i64) _ _ _ 9000 [.int .i64 9000] from rfl) (Reps.one (show Kd.M (Kd.int .i64) _ _ _ (-9000) [.int .i64 (-9000)] from rfl) (Reps.one (show Kd.M (Kd.int .i64) _ _ _ 0 [.int .i64 0] from rfl) (Reps.one (show Kd.M (Kd.int .i64) _ _ _ 18001 [.int .i64 18001] from rfl) (Reps.none _ _)))))))))
   intro v1111 w16 ho17 hb hg_ hnew_
   clear hg_ hnew_
   (first | rw [← Ny1110.out] at ho17 | (simp only [Int.reduceToNat] at ho17; rw [← Ny1110.out] at ho17))
   have n0_ := A_ (Kd.Q_elder' mc315 (Kd.R_base ho17) hb)
   have n1_ := A_ (Kd.R_lower (Kd.R_new' ho17 (Kd.Q_lt mc315)) (below_size mc158))
   have n2_ := A_ (blk_below mc256 hb)
   have n4_ := A_ (blk_below mc257 hb)
   have n5_ := A_ (below_step mc158 hb)
   have z_HI1096 := fun (h0_ : b 3 = false) => (show IsS61 w w16 g1096 t1093 t1102 t1103 from by first | exact (IsS61.below (by repeat (first | (with_reducible first | exact (Q_HI1096 h0_) | apply IsS61.alloc | apply IsS61.drewN | apply IsS61.drew | apply IsS61.set_1 | apply IsS61.set_2 | refine IsS61.far ?_ NB1096_1092.out _ | refine IsS61.far ?_ NB1096_1104.out _) | exact (Q_HI1096 h0_))) hb))
   have z_HO1107 := fun (h0_ : b 3 = true) => (show Kd.R (Kd.int .i64) 3 w16 w.heap.size (fun k_ => some k_ ≠ (.slice Ao13 t1099.length co13 : Value).ownBlock) v1106 t1105 from by first | exact (Kd.R_elder' (by (with_reducible repeat (first | apply Kd.R_alloc | apply Kd.R_drewN | apply Kd.R_drew)); exact (Q_HO1107 h0_)) (Kd.R_base ho17) hb) | exact Kd.R_mono (Kd.R_elder' (by (with_reducible repeat (first | apply Kd.R_alloc | apply Kd.R_drewN | apply Kd.R_drew)); exact (Q_HO1107 h0_)) (Kd.R_base ho17) hb) (fun _ h_ => by first | trivial | exact h_ | exact h_.1))
   have z_HI1096_e3 := fun (h0_ : b 3 = true) (h1_ : b 6 = false) => (show IsS61 w w16 g1096 t1093 t1108 t1109 from by first | exact (IsS61.below (by repeat (first | (with_reducible first | exact (Q_HI1096_e3 h0_ h1_) | apply IsS61.alloc | apply IsS61.drewN | apply IsS61.drew | apply IsS61.set_1 | apply IsS61.set_2 | refine IsS61.far ?_ NB1096_1092.out _ | refine IsS61.far ?_ NB1096_1104.out _) | exact (Q_HI1096_e3 h0_ h1_))) hb))
   clear HO1101
   clear BK1092
   clear BK1104
   clear HB
   have HO1101 := n0_
   have HO1112 := n1_
   have BK1092 := n2_
   have BK1104 := n4_
   have HB := n5_
   clear n0_ n1_ n2_ n4_ n5_
   clear hb ho17
   refine hK.out _ _ ⟨v1106, v1111, m8_, (by rw [ha.out]; exact putSel_upk 3 hb_ rfl rfl rfl), mc105, fun _ => mc256, mc257, z_HI1096, mc158, z_HO1107, z_HI1096_e3, fun _ => (by (with_reducible repeat (first | apply Kd.R_alloc | apply Kd.R_drewN | apply Kd.R_drew)); exact Kd.R_mono HO1112.out (fun _ hk => by first | exact hk.2 | exact hk.1 | exact hk | exact trivial | exact ⟨hk.1.1, hk.1.2⟩ | exact hk.1.1 | exact hk.1.2)), fun h0_ => absurd ((hoff 6 kr_).symm.trans h0_) (by decide), fun h0_ => absurd ((hoff 7 kr_).symm.trans h0_) (by decide), fun h0_ => absurd ((hoff 8 kr_).symm.trans h0_) (by decide)⟩
  refine steps_cons ?_ ?_
  ·
   rintro b a w' ⟨v1106, v1111, m8_, ha, Q_HO1101, Q_BK1092, Q_BK1104, Q_HI1096, Q_HB, Q_HO1107, Q_HI1096_e3, Q_HO1112, Q_HI1096_e6, Q_BK1092_e7, Q_X8_⟩ hb_ hon hoff
   refine ⟨_, rfl, fun K hK => ?_⟩
   have e16 : a.tmps[16]? = some (.pointer (some ⟨g1096, 0, none⟩)) := by rw [ha]; exact (putSel_off rfl).trans rfl
   have e17 : a.tmps[17]? = some (v1111) := by rw [ha]; exact putSel_on (e := (5, 17, v1111)) 3 rfl rfl (hon 5 kr_) rfl
   replace ha := A_ ha
   have HO1101 := A_ Q_HO1101
   have BK1092 := A_ (Q_BK1092 (hoff 7 kr_))
   have BK1104 := A_ Q_BK1104
   have HB := A_ Q_HB
   have HO1107 := A_ (Q_HO1107 (hon 3 kr_))
   have HI1096 := A_ (Q_HI1096_e3 (hon 3 kr_) hb_)
   have HO1112 := A_ (Q_HO1112 (hon 5 kr_))
   obtain ⟨Ao20, co20, eo20⟩ := Kd.R_slice HO1112.out
   (first | subst eo20 | (injection eo20 with f1_ f2_ f3_; have f4_ := f1_.symm; have f5_ := f3_.symm; clear f1_ f2_ f3_; subst f4_; subst f5_))
   refine goes_ Try.func43 kr_ rfl #[.pointer (some ⟨g1096, 0, none⟩), .slice Ao20 y1110.length co20] (by rfl) rfl rfl mc80 ?_
   with_reducible refine (spec_l1Cur_among.calls g1096 t1093 t1108 t1109 _ _ y1110 t1113 t1114 t1115 w _ ?side1 ?side2 ?side3 ?side4 ?side5 A5.out).mono ?_
   (case side1 => exact mc93)
   (case side2 => exact mc112)
   (case side3 => repeat (first | exact (Kd.R_reads' HO1112.out).2.2 | (with_reducible refine Kd.C_alloc ?_ _) | (with_reducible refine Kd.C_drewN ?_ _) | (with_reducible refine Kd.C_drew ?_)))
   (case side4 => exact (Kd.R_reads' HO1112.out).2.1)
   (case side5 => exact far_slice (IsS61.own_ne HI1096.out HO1112.out (by decide)))
   rintro e w21 ⟨rfl, hi, hb, hk⟩
   refine ⟨_, rfl, ?_⟩
   replace BK1092 := A_ (KeepBut.blk hk (g' := gb1092) (o := .cells #[.int .i64 0, .int .i64 0, .slice none 0 0] 26 (0, 0)) mc256 NB1092_1096.out (by simp))
   replace HO1101 := A_ (Kd.Q_mono (Kd.Q_keep (IsS61.apartQ (show IsS61 w _ g1096 t1093 t1108 t1109 from by repeat (first | (with_reducible first | exact HI1096.out | apply IsS61.alloc | apply IsS61.drewN | apply IsS61.drew | apply IsS61.set_1 | apply IsS61.set_2 | refine IsS61.far ?_ NB1096_1092.out _ | refine IsS61.far ?_ NB1096_1104.out _) | exact HI1096.out)) mc315 (by decide)) hk (fun _ h => h.2)) (fun _ h => h.1))
   replace BK1104 := A_ (KeepBut.blk hk (g' := gb1104) (o := .cells #[.int .i64 t1097, .int .i64 t1098, .slice Ao13 t1099.length co13] 26 (0, 0)) mc257 NB1104_1096.out (by simp))
   replace HO1107 := A_ (Kd.R_mono (Kd.R_keep (IsS61.apart (show IsS61 w _ g1096 t1093 t1108 t1109 from by repeat (first | (with_reducible first | exact HI1096.out | apply IsS61.alloc | apply IsS61.drewN | apply IsS61.drew | apply IsS61.set_1 | apply IsS61.set_2 | refine IsS61.far ?_ NB1096_1092.out _ | refine IsS61.far ?_ NB1096_1104.out _) | exact HI1096.out)) (by (with_reducible repeat (first | apply Kd.R_alloc | apply Kd.R_drewN | apply Kd.R_drew)); exact HO1107.out) (by decide)) hk (fun _ h => h.2)) (fun _ h => h.1))
   replace HO1112 := A_ (Kd.R_mono (Kd.R_keep (IsS61.apart (show IsS61 w _ g1096 t1093 t1108 t1109 from by repeat (first | (with_reducible first | exact HI1096.out | apply IsS61.alloc | apply IsS61.drewN | apply IsS61.drew | apply IsS61.set_1 | apply IsS61.set_2 | refine IsS61.far ?_ NB1096_1092.out _ | refine IsS61.far ?_ NB1096_1104.out _) | exact HI1096.out)) (by (with_reducible repeat (first | apply Kd.R_alloc | apply Kd.R_drewN | apply Kd.R_drew)); exact HO1112.out) (by decide)) hk (fun _ h => h.2)) (fun _ h => h.1))
   replace HB := A_ (hb)
   replace HI1096 := A_ (hi)
   (try clear hb)
   refine hK.out _ _ ⟨v1106, .slice Ao20 y1110.length co20, m8_, (by rw [ha.out]; exact putSel_upk 4 hb_ rfl rfl rfl), mc315, fun _ => mc256, mc257, fun h0_ => absurd ((hon 3 kr_).symm.trans h0_) (by decide), mc112, fun _ => (by (with_reducible repeat (first | apply Kd.R_alloc | apply Kd.R_drewN | apply Kd.R_drew)); exact HO1107.out), fun _ h1_ => absurd ((up_self b 6).symm.trans h1_) (by decide), fun _ => (by (with_reducible repeat (first | apply Kd.R_alloc | apply Kd.R_drewN | apply Kd.R_drew)); exact HO1112.out), fun _ => mc93, fun h0_ => absurd ((hoff 7 kr_).symm.trans h0_) (by decide), fun h0_ => absurd ((hoff 8 kr_).symm.trans h0_) (by decide)⟩
  refine steps_cons ?_ ?_
  ·
   rintro b a w' ⟨v1106, v1111, m8_, ha, Q_HO1101, Q_BK1092, Q_BK1104, Q_HI1096, Q_HB, Q_HO1107, Q_HI1096_e3, Q_HO1112, Q_HI1096_e6, Q_BK1092_e7, Q_X8_⟩ hb_ hon hoff
   refine ⟨_, rfl, fun K hK => ?_⟩
   have e2 : a.tmps[2]? = some (.pointer (some ⟨gb1092, 0, none⟩)) := by rw [ha]; exact (putSel_off rfl).trans rfl
   have e12 : a.tmps[12]? = some (.agg #[.int .i64 t1097, .int .i64 t1098, .slice Ao13 t1099.length co13]) := by rw [ha]; exact putSel_on (e := (0, 12, .agg #[.int .i64 t1097, .int .i64 t1098, .slice Ao13 t1099.length co13])) 0 rfl rfl (hon 0 kr_) rfl
   replace ha := A_ ha
   have HO1101 := A_ Q_HO1101
   have BK1092 := A_ (Q_BK1092 hb_)
   have BK1104 := A_ Q_BK1104
   have HB := A_ Q_HB
   have HO1107 := A_ (Q_HO1107 (hon 3 kr_))
   have HO1112 := A_ (Q_HO1112 (hon 5 kr_))
   have HI1096 := A_ (Q_HI1096_e6 (hon 6 kr_))
   have hs22 : w'.cell? ⟨gb1092, 0, none⟩ = some (.int .i64 0) := bc_ BK1092 0 rfl
   have hfs22 := blk_frozen BK1092.out 0
   have hns22_1 := NB1104_1092.out
   have hms22_1 := NB1092_1104.out
   have hs23 : w'.cell? ⟨gb1092, 1, none⟩ = some (.int .i64 0) := bc_ BK1092 1 rfl
   have hfs23 := blk_frozen BK1092.out 1
   have hns23_1 := NB1104_1092.out
   have hms23_1 := NB1092_1104.out
   have hs24 : w'.cell? ⟨gb1092, 2, none⟩ = some (.slice none 0 0) := bc_ BK1092 2 rfl
   have hfs24 := blk_frozen BK1092.out 2
   have hns24_1 := NB1104_1092.out
   have hms24_1 := NB1092_1104.out
   refine skip_ (w1 := ?_) (by rfl) rfl ?_ ?_
   rotate_left
   ·
    go_simp
    rfl
   refine hK.out _ _ ⟨v1106, v1111, m8_, (by rw [ha.out]; exact putSel_none (v := undef) rfl), (by (with_reducible repeat (first | apply Kd.Q_alloc | apply Kd.Q_drewN | apply Kd.Q_drew)); exact Kd.Q_mono (Kd.Q_far (p := ⟨gb1092, 2, none⟩) (Kd.Q_far (p := ⟨gb1092, 1, none⟩) (Kd.Q_far (p := ⟨gb1092, 0, none⟩) (Kd.Q_types HO1101.out BK1092.out (by decide)) (fun _ hk => by first | exact hk.2 | exact hk.1 | exact hk | exact trivial | exact ⟨hk.1.1, hk.1.2⟩ | exact hk.1.1 | exact hk.1.2) (.int .i64 t1097)) (fun _ hk => by first | exact hk.2 | exact hk.1 | exact hk | exact trivial | exact ⟨hk.1.1, hk.1.2⟩ | exact hk.1.1 | exact hk.1.2) (.int .i64 t1098)) (fun _ hk => by first | exact hk.2 | exact hk.1 | exact hk | exact trivial | exact ⟨hk.1.1, hk.1.2⟩ | exact hk.1.1 | exact hk.1.2) (.slice Ao13 t1099.length co13)) (fun _ hk => by first | exact hk.2 | exact hk.1 | exact hk | exact trivial | exact ⟨hk.1.1, hk.1.2⟩ | exact hk.1.1 | exact hk.1.2)), fun h0_ => absurd ((up_self b 7).symm.trans h0_) (by decide), (by (with_reducible repeat (first | refine blk_drewN ?_ _ | refine blk_drew ?_ | refine blk_alloc ?_ _)); refine blk_far ?_ NB1104_1092.out _; (with_reducible repeat (first | refine blk_drewN ?_ _ | refine blk_drew ?_ | refine blk_alloc ?_ _)); refine blk_far ?_ NB1104_1092.out _; (with_reducible repeat (first | refine blk_drewN ?_ _ | refine blk_drew ?_ | refine blk_alloc ?_ _)); refine blk_far ?_ NB1104_1092.out _; (with_reducible repeat (first | refine blk_drewN ?_ _ | refine blk_drew ?_ | refine blk_alloc ?_ _)); exact BK1104.out), fun h0_ => absurd ((hon 3 kr_).symm.trans h0_) (by decide), mc112, fun _ => (by (with_reducible repeat (first | apply Kd.R_alloc | apply Kd.R_drewN | apply Kd.R_drew)); exact Kd.R_mono (Kd.R_far (p := ⟨gb1092, 2, none⟩) (Kd.R_far (p := ⟨gb1092, 1, none⟩) (Kd.R_far (p := ⟨gb1092, 0, none⟩) (Kd.R_types HO1107.out BK1092.out (by decide)) (fun _ hk => by first | exact hk.2 | exact hk.1 | exact hk | exact trivial | exact ⟨hk.1.1, hk.1.2⟩ | exact hk.1.1 | exact hk.1.2) (.int .i64 t1097)) (fun _ hk => by first | exact hk.2 | exact hk.1 | exact hk | exact trivial | exact ⟨hk.1.1, hk.1.2⟩ | exact hk.1.1 | exact hk.1.2) (.int .i64 t1098)) (fun _ hk => by first | exact hk.2 | exact hk.1 | exact hk | exact trivial | exact ⟨hk.1.1, hk.1.2⟩ | exact hk.1.1 | exact hk.1.2) (.slice Ao13 t1099.length co13)) (fun _ hk => by first | exact hk.2 | exact hk.1 | exact hk | exact trivial | exact ⟨hk.1.1, hk.1.2⟩ | exact hk.1.1 | exact hk.1.2)), fun _ h1_ => absurd ((hon 6 kr_).symm.trans h1_) (by decide), fun _ => (by (with_reducible repeat (first | apply Kd.R_alloc | apply Kd.R_drewN | apply Kd.R_drew)); exact Kd.R_mono (Kd.R_far (p := ⟨gb1092, 2, none⟩) (Kd.R_far (p := ⟨gb1092, 1, none⟩) (Kd.R_far (p := ⟨gb1092, 0, none⟩) (Kd.R_types HO1112.out BK1092.out (by decide)) (fun _ hk => by first | exact hk.2 | exact hk.1 | exact hk | exact trivial | exact ⟨hk.1.1, hk.1.2⟩ | exact hk.1.1 | exact hk.1.2) (.int .i64 t1097)) (fun _ hk => by first | exact hk.2 | exact hk.1 | exact hk | exact trivial | exact ⟨hk.1.1, hk.1.2⟩ | exact hk.1.1 | exact hk.1.2) (.int .i64 t1098)) (fun _ hk => by first | exact hk.2 | exact hk.1 | exact hk | exact trivial | exact ⟨hk.1.1, hk.1.2⟩ | exact hk.1.1 | exact hk.1.2) (.slice Ao13 t1099.length co13)) (fun _ hk => by first | exact hk.2 | exact hk.1 | exact hk | exact trivial | exact ⟨hk.1.1, hk.1.2⟩ | exact hk.1.1 | exact hk.1.2)), fun _ => mc93, fun _ => (by (with_reducible repeat (first | refine blk_drewN ?_ _ | refine blk_drew ?_ | refine blk_alloc ?_ _)); refine blk_put (cs := #[.int .i64 t1097, .int .i64 t1098, .slice none 0 0]) ?_ 2 _ rfl; (with_reducible repeat (first | refine blk_drewN ?_ _ | refine blk_drew ?_ | refine blk_alloc ?_ _)); refine blk_put (cs := #[.int .i64 t1097, .int .i64 0, .slice none 0 0]) ?_ 1 _ rfl; (with_reducible repeat (first | refine blk_drewN ?_ _ | refine blk_drew ?_ | refine blk_alloc ?_ _)); refine blk_put (cs := #[.int .i64 0, .int .i64 0, .slice none 0 0]) ?_ 0 _ rfl; (with_reducible repeat (first | refine blk_drewN ?_ _ | refine blk_drew ?_ | refine blk_alloc ?_ _)); exact BK1092.out), fun h0_ => absurd ((hoff 8 kr_).symm.trans h0_) (by decide)⟩
  refine steps_cons ?_ ?_
  ·
   rintro b a w' ⟨v1106, v1111, m8_, ha, Q_HO1101, Q_BK1092, Q_BK1104, Q_HI1096, Q_HB, Q_HO1107, Q_HI1096_e3, Q_HO1112, Q_HI1096_e6, Q_BK1092_e7, Q_X8_⟩ hb_ hon hoff
   refine ⟨_, rfl, fun K hK => ?_⟩
   have e15 : a.tmps[15]? = some (v1106) := by rw [ha]; exact putSel_on (e := (3, 15, v1106)) 2 rfl rfl (hon 3 kr_) rfl
   replace ha := A_ ha
   have HO1101 := A_ Q_HO1101
   have BK1104 := A_ Q_BK1104
   have HB := A_ Q_HB
   have HO1107 := A_ (Q_HO1107 (hon 3 kr_))
   have HO1112 := A_ (Q_HO1112 (hon 5 kr_))
   have HI1096 := A_ (Q_HI1096_e6 (hon 6 kr_))
   have BK1092 := A_ (Q_BK1092_e7 (hon 7 kr_))
   refine value_ (w1 := w') (v := v1106) (by rfl) rfl ?_ ?_
   ·
    go_simp
    (try simp only [i64_w])
    try rfl
   refine hK.out _ _ ⟨v1106, v1111, (v1106), (by rw [ha.out]; exact putSel_upk 5 hb_ rfl rfl rfl), Q_HO1101, fun h0_ => absurd ((hon 7 kr_).symm.trans h0_) (by decide), Q_BK1104, fun h0_ => absurd ((hon 3 kr_).symm.trans h0_) (by decide), Q_HB, Q_HO1107, fun _ h1_ => absurd ((hon 6 kr_).symm.trans h1_) (by decide), Q_HO1112, Q_HI1096_e6, Q_BK1092_e7, fun _ => rfl⟩
  refine steps_cons ?_ ?_
  ·
   rintro b a w' ⟨v1106, v1111, m8_, ha, Q_HO1101, Q_BK1092, Q_BK1104, Q_HI1096, Q_HB, Q_HO1107, Q_HI1096_e3, Q_HO1112, Q_HI1096_e6, Q_BK1092_e7, Q_X8_⟩ hb_ hon hoff
   refine ⟨_, rfl, fun K hK => ?_⟩
   have e18 : a.tmps[18]? = some (.int .i64 t1113) := by rw [ha]; exact putSel_on (e := (6, 18, .int .i64 t1113)) 4 rfl rfl (hon 6 kr_) rfl
   replace ha := A_ ha
   have HO1101 := A_ Q_HO1101
   have BK1104 := A_ Q_BK1104
   have HB := A_ Q_HB
   have HO1107 := A_ (Q_HO1107 (hon 3 kr_))
   have HO1112 := A_ (Q_HO1112 (hon 5 kr_))
   have HI1096 := A_ (Q_HI1096_e6 (hon 6 kr_))
   have BK1092 := A_ (Q_BK1092_e7 (hon 7 kr_))
   refine value_ (w1 := w') (v := .int .i64 t1113) (by rfl) rfl ?_ ?_
   ·
    go_simp
    (try simp only [i64_w])
    try rfl
   refine hK.out _ _ ⟨v1106, v1111, m8_, (by rw [ha.out]; exact putSel_upk 6 hb_ rfl rfl rfl), Q_HO1101, fun h0_ => absurd ((hon 7 kr_).symm.trans h0_) (by decide), Q_BK1104, fun h0_ => absurd ((hon 3 kr_).symm.trans h0_) (by decide), Q_HB, Q_HO1107, fun _ h1_ => absurd ((hon 6 kr_).symm.trans h1_) (by decide), Q_HO1112, Q_HI1096_e6, Q_BK1092_e7, Q_X8_⟩
  exact steps_nil
 rintro b a w24 hall ⟨v1106, v1111, m8_, ha, Q_HO1101, Q_BK1092, Q_BK1104, Q_HI1096, Q_HB, Q_HO1107, Q_HI1096_e3, Q_HO1112, Q_HI1096_e6, Q_BK1092_e7, Q_X8_⟩
 clear BK1092 BK1104 HB HI1096 HO1101
 have hb0_ := hall 0 kr_
 have hb2_ := hall 2 kr_
 have hb3_ := hall 3 kr_
 have hb5_ := hall 5 kr_
 have hb6_ := hall 6 kr_
 have hb7_ := hall 7 kr_
 have hb8_ := hall 8 kr_
 have hb9_ := hall 9 kr_
 subst ha
 obtain rfl := Q_X8_ hb8_
 simp only [putSel, hb0_, hb2_, hb3_, hb5_, hb6_, hb7_, hb8_, hb9_, if_true, Act.put, List.setIfInBounds_toArray, List.set_cons_zero, List.set_cons_succ]
 have HO1101 := A_ Q_HO1101
 clear Q_HO1101
 clear Q_BK1092
 have BK1104 := A_ Q_BK1104
 clear Q_BK1104
 clear Q_HI1096
 have HB := A_ Q_HB
 clear Q_HB
 have HO1107 := A_ (Q_HO1107 hb3_)
 clear Q_HO1107
 clear Q_HI1096_e3
 have HO1112 := A_ (Q_HO1112 hb5_)
 clear Q_HO1112
 have HI1096 := A_ (Q_HI1096_e6 hb6_)
 clear Q_HI1096_e6
 have BK1092 := A_ (Q_BK1092_e7 hb7_)
 clear Q_BK1092_e7
 clear hall hb0_ hb2_ hb3_ hb5_ hb6_ hb7_ hb8_ hb9_
 try go_wp2
 refine bodyPost_ret (results_ctt rfl _ _ gb1092 26 #[.int .i64 t1097, .int .i64 t1098, .slice Ao13 t1099.length co13] (0, 0) _ rfl mc256 Try.underlying26 rfl kr_) rfl ?_
 exact ⟨_, _, mc332, by (with_reducible repeat (first | apply Kd.Q_alloc | apply Kd.Q_drewN | apply Kd.Q_drew)); exact Kd.Q_mono (Kd.Q_tight rfl HO1101.out) (fun k_ hk hx_ => HO1107.out.1 k_ hx_.symm hk), by (with_reducible repeat (first | apply Kd.R_alloc | apply Kd.R_drewN | apply Kd.R_drew)); exact Kd.R_mono HO1107.out (fun _ hk => by first | exact hk.2 | exact hk.1 | exact hk | exact trivial | exact ⟨hk.1.1, hk.1.2⟩ | exact hk.1.1 | exact hk.1.2), mc112⟩

/-! ### spec_DrawSpreadMean: function 40 -/
def spec_DrawSpreadMean.f (k : Nat) (l0 : List Int) : Option (Int × Int × List Int × List Int) := (mk_l1Cur.f l0).bind fun bt1117 => ((spec_l1Cur_full.f k bt1117.1 bt1117.2.1 bt1117.2.2).bind fun bt1121 => ((spec_l1Cur_regionOf.f k bt1117.1 bt1121.2.2.2.1 bt1121.2.2.2.2 bt1121.1 bt1121.2.1 bt1121.2.2.1).bind fun bt1129 => (some (bt1121.1, bt1121.2.1, bt1121.2.2.1, bt1129.1))))
set_option maxHeartbeats 8000000 in
set_option maxRecDepth 100000 in
theorem spec_DrawSpreadMean.calls (k : Nat) (A0 : Option Addr) (c0 : Nat) (l0 : List Int) (r1 : Int) (r2 : Int) (r3 : List Int) (r4 : List Int) (w : World) (hr0 : Kd.C (Kd.int .u8) w A0 l0.length l0) (hc0 : l0.length ≤ c0) (h : spec_DrawSpreadMean.f k l0 = some (r1, r2, r3, r4)) :
  Calls Try.prog 40 #[.slice A0 l0.length c0] w fun e w' => ∃ v2_ v3_ : Value, e = .returned (.tuple #[.agg #[.int .i64 r1, .int .i64 r2, v2_], v3_]) ∧ Kd.Q (Kd.int .i64) 3 w' w.heap.size (fun k_ => some k_ ≠ (v3_ : Value).ownBlock) v2_ r3 ∧ Kd.R (Kd.int .i64) 3 w' w.heap.size (fun k_ => some k_ ≠ (v2_ : Value).ownBlock) v3_ r4 ∧ Below w.heap.size w w' := by
 have hu26 := Try.underlying26
 have HR0 := A_ hr0
 have HC0 := A_ hc0
 clear hr0 hc0
 have HB := A_ (Below.refl w.heap.size w)
 have H : ((mk_l1Cur.f l0).bind fun bt1117 => ((spec_l1Cur_full.f k bt1117.1 bt1117.2.1 bt1117.2.2).bind fun bt1121 => ((spec_l1Cur_regionOf.f k bt1117.1 bt1121.2.2.2.1 bt1121.2.2.2.2 bt1121.1 bt1121.2.1 bt1121.2.2.1).bind fun bt1129 => (some (bt1121.1, bt1121.2.1, bt1121.2.2.1, bt1129.1))))) = some (r1, r2, r3, r4) := h
 clear h
 obtain ⟨⟨t1117, t1118, t1119⟩, A20, H⟩ := oB_ H
 have A2 := A_ A20
 clear A20
 obtain ⟨⟨t1121, t1122, t1123, t1126, t1127⟩, A30, H⟩ := oB_ H
 have A3 := A_ A30
 clear A30
 obtain ⟨⟨t1129, t1132, t1133⟩, A40, H⟩ := oB_ H
 have A4 := A_ A40
 clear A40
 simp only [Option.some.injEq, Prod.mk.injEq] at H
 obtain ⟨rfl, rfl, rfl, rfl⟩ := H
 go_enter Try.func40, Try.ntmps40
 try go_wp2_with (first | ((with_reducible refine gd_ 2 rfl ?_); refine box_event rfl (N := 2) rfl (cs := #[.int .i64 0, .int .i64 0, .slice none 0 0]) (t := 26) mc353 ?_; intro gb1116 hg w5 hbox hb; have BK1116 := A_ (hbox); have GW1116 := A_ ((mc213 : w.heap.size ≤ gb1116)); have GE1116 := A_ ((mc213 : w.heap.size ≤ gb1116)); replace HB := A_ (below_step mc249 hb); clear hb hbox hg) | ((with_reducible refine gd_ 8 rfl ?_); refine mk_l1Cur.box A0 c0 l0 t1117 t1118 t1119 w A2.out ?side8 ?side9 ?side1 ?side2 ?side3 ?_; (case side8 => rfl); (case side1 => repeat (first | (with_reducible first | exact HB.out | apply below_alloc | apply pw_below_drewN | apply below_drew1 | refine below_set ?_ GE1116.out) | exact HB.out)); (case side2 => exact HR0.out); (case side3 => exact HC0.out); (case side9 => exact mc353); intro g1120 w6 hi hb hb2; replace HB := A_ (hb); have HI1120 := A_ (hi); have NB1120_1116 := A_ (IsS61.ne_blk hi (blk_below mc258 hb2) (by decide)); have NB1116_1120 := A_ (Ne.symm (IsS61.ne_blk hi (blk_below mc258 hb2) (by decide))); replace BK1116 := A_ (blk_below mc258 hb2); (try clear hb)) | ((with_reducible refine gc_ 42 rfl ?_); refine goesL_ (some 10) rfl rfl Try.func42 kr_ rfl #[.pointer (some ⟨g1120, 0, none⟩)] rfl mc247 ?_; (with_reducible refine (spec_l1Cur_full.calls k g1120 t1117 t1118 t1119 t1121 t1122 t1123 t1126 t1127 w _ ?side1 ?side2 A3.out).mono ?_); (case side1 => repeat (first | (with_reducible first | exact HI1120.out | apply IsS61.alloc | apply IsS61.drewN | apply IsS61.drew | apply IsS61.set_1 | apply IsS61.set_2 | refine IsS61.far ?_ NB1120_1116.out _) | exact HI1120.out)); (case side2 => repeat (first | (with_reducible first | exact HB.out | apply below_alloc | apply pw_below_drewN | apply below_drew1 | refine below_set ?_ (IsS61.ge HI1120.out) | refine below_set ?_ GE1116.out) | exact HB.out)); rintro e w7 ⟨v1124, rfl, ho0, hi, hb, hk⟩; refine ⟨_, rfl, ?_⟩; replace BK1116 := A_ (KeepBut.blk hk (g' := gb1116) (o := .cells #[.int .i64 0, .int .i64 0, .slice none 0 0] 26 (0, 0)) mc258 NB1116_1120.out (by simp)); have HO1125 := A_ (Kd.Q_lower ho0 (below_size mc148)); replace HB := A_ (hb); replace HI1120 := A_ (hi); (try clear hb); (try clear ho0)) | ((with_reducible refine gd_ 5 rfl ?_); refine box_event rfl (N := 5) rfl (cs := #[.int .i64 0, .int .i64 0, .slice none 0 0]) (t := 26) mc353 ?_; intro gb1128 hg w8 hbox hb; replace HO1125 := A_ (Kd.Q_below mc316 hb); have BK1128 := A_ (hbox); have GW1128 := A_ ((mc116 : w.heap.size ≤ gb1128)); have GE1128 := A_ ((mc116 : w.heap.size ≤ gb1128)); replace HB := A_ (below_step mc148 hb); have NB1116_1128 := A_ ((by rw [hg]; exact Nat.ne_of_lt (blk_lt mc258) : gb1116 ≠ gb1128)); have NB1128_1116 := A_ ((by rw [hg]; exact Nat.ne_of_gt (blk_lt mc258) : gb1128 ≠ gb1116)); replace BK1116 := A_ (blk_below mc258 hb); have NB1120_1128 := A_ ((by rw [hg]; exact Nat.ne_of_lt (IsS61.lt (show IsS61 w _ g1120 t1117 t1126 t1127 from by repeat (first | (with_reducible first | exact HI1120.out | apply IsS61.alloc | apply IsS61.drewN | apply IsS61.drew | apply IsS61.set_1 | apply IsS61.set_2 | refine IsS61.far ?_ NB1120_1116.out _) | exact HI1120.out))) : g1120 ≠ gb1128)); have NB1128_1120 := A_ ((by rw [hg]; exact Nat.ne_of_gt (IsS61.lt (show IsS61 w _ g1120 t1117 t1126 t1127 from by repeat (first | (with_reducible first | exact HI1120.out | apply IsS61.alloc | apply IsS61.drewN | apply IsS61.drew | apply IsS61.set_1 | apply IsS61.set_2 | refine IsS61.far ?_ NB1120_1116.out _) | exact HI1120.out))) : gb1128 ≠ g1120)); replace HI1120 := A_ (IsS61.below (by repeat (first | (with_reducible first | exact HI1120.out | apply IsS61.alloc | apply IsS61.drewN | apply IsS61.drew | apply IsS61.set_1 | apply IsS61.set_2 | refine IsS61.far ?_ NB1120_1116.out _) | exact HI1120.out)) hb); clear hb hbox hg; have hnb9 := NB1128_1116.out; have hnc9 := NB1116_1128.out; have hnb10 := NB1128_1120.out; have hnc10 := NB1120_1128.out; have hcz11_0 : w8.cell? ⟨gb1128, 0, none⟩ = some (.int .i64 0) := bc_ BK1128 0 rfl; have hcz11_1 : w8.cell? ⟨gb1128, 1, none⟩ = some (.int .i64 0) := bc_ BK1128 1 rfl; have hcz11_2 : w8.cell? ⟨gb1128, 2, none⟩ = some (.slice none 0 0) := bc_ BK1128 2 rfl; have hfz11_0 := blk_frozen BK1128.out 0; have hfz11_1 := blk_frozen BK1128.out 1; have hfz11_2 := blk_frozen BK1128.out 2; obtain ⟨Ao12, co12, eo12, _⟩ := Kd.Q_slice HO1125.out; subst eo12))
 have n0_ : Aside0 (Kd.Q (Kd.int .i64) 3 (((w8.setCell ⟨gb1128, 0, none⟩ (.int .i64 t1121)).setCell ⟨gb1128, 1, none⟩ (.int .i64 t1122)).setCell ⟨gb1128, 2, none⟩ (.slice Ao12 t1123.length co12)) w.heap.size (fun _ => True) (.slice Ao12 t1123.length co12) t1123) := ⟨by (with_reducible repeat (first | apply Kd.Q_alloc | apply Kd.Q_drewN | apply Kd.Q_drew)); exact Kd.Q_mono (Kd.Q_far (p := ⟨gb1128, 2, none⟩) (Kd.Q_far (p := ⟨gb1128, 1, none⟩) (Kd.Q_far (p := ⟨gb1128, 0, none⟩) (Kd.Q_types HO1125.out BK1128.out (by decide)) (fun _ hk => by first | exact hk.2 | exact hk.1 | exact hk | exact trivial | exact ⟨hk.1.1, hk.1.2⟩ | exact hk.1.1 | exact hk.1.2) (.int .i64 t1121)) (fun _ hk => by first | exact hk.2 | exact hk.1 | exact hk | exact trivial | exact ⟨hk.1.1, hk.1.2⟩ | exact hk.1.1 | exact hk.1.2) (.int .i64 t1122)) (fun _ hk => by first | exact hk.2 | exact hk.1 | exact hk | exact trivial | exact ⟨hk.1.1, hk.1.2⟩ | exact hk.1.1 | exact hk.1.2) (.slice Ao12 t1123.length co12)) (fun _ hk => trivial)⟩
 have n1_ : Aside0 ((((w8.setCell ⟨gb1128, 0, none⟩ (.int .i64 t1121)).setCell ⟨gb1128, 1, none⟩ (.int .i64 t1122)).setCell ⟨gb1128, 2, none⟩ (.slice Ao12 t1123.length co12)).heap[gb1116]? = some (.cells #[.int .i64 0, .int .i64 0, .slice none 0 0] 26 (0, 0))) := ⟨by (with_reducible repeat (first | refine blk_drewN ?_ _ | refine blk_drew ?_ | refine blk_alloc ?_ _)); refine blk_far ?_ NB1116_1128.out _; (with_reducible repeat (first | refine blk_drewN ?_ _ | refine blk_drew ?_ | refine blk_alloc ?_ _)); refine blk_far ?_ NB1116_1128.out _; (with_reducible repeat (first | refine blk_drewN ?_ _ | refine blk_drew ?_ | refine blk_alloc ?_ _)); refine blk_far ?_ NB1116_1128.out _; (with_reducible repeat (first | refine blk_drewN ?_ _ | refine blk_drew ?_ | refine blk_alloc ?_ _)); exact BK1116.out⟩
 have n2_ : Aside0 ((((w8.setCell ⟨gb1128, 0, none⟩ (.int .i64 t1121)).setCell ⟨gb1128, 1, none⟩ (.int .i64 t1122)).setCell ⟨gb1128, 2, none⟩ (.slice Ao12 t1123.length co12)).heap[gb1128]? = some (.cells #[.int .i64 t1121, .int .i64 t1122, .slice Ao12 t1123.length co12] 26 (0, 0))) := ⟨by (with_reducible repeat (first | refine blk_drewN ?_ _ | refine blk_drew ?_ | refine blk_alloc ?_ _)); refine blk_put (cs := #[.int .i64 t1121, .int .i64 t1122, .slice none 0 0]) ?_ 2 _ rfl; (with_reducible repeat (first | refine blk_drewN ?_ _ | refine blk_drew ?_ | refine blk_alloc ?_ _)); refine blk_put (cs := #[.int .i64 t1121, .int .i64 0, .slice none 0 0]) ?_ 1 _ rfl; (with_reducible repeat (first | refine blk_drewN ?_ _ | refine blk_drew ?_ | refine blk_alloc ?_ _)); refine blk_put (cs := #[.int .i64 0, .int .i64 0, .slice none 0 0]) ?_ 0 _ rfl; (with_reducible repeat (first | refine blk_drewN ?_ _ | refine blk_drew ?_ | refine blk_alloc ?_ _)); exact BK1128.out⟩
 have n3_ : Aside0 (IsS61 w (((w8.setCell ⟨gb1128, 0, none⟩ (.int .i64 t1121)).setCell ⟨gb1128, 1, none⟩ (.int .i64 t1122)).setCell ⟨gb1128, 2, none⟩ (.slice Ao12 t1123.length co12)) g1120 t1117 t1126 t1127) := ⟨by repeat (first | (with_reducible first | exact HI1120.out | apply IsS61.alloc | apply IsS61.drewN | apply IsS61.drew | apply IsS61.set_1 | apply IsS61.set_2 | refine IsS61.far ?_ NB1120_1116.out _ | refine IsS61.far ?_ NB1120_1128.out _) | exact HI1120.out)⟩
 have n4_ : Aside0 (Below w.heap.size w (((w8.setCell ⟨gb1128, 0, none⟩ (.int .i64 t1121)).setCell ⟨gb1128, 1, none⟩ (.int .i64 t1122)).setCell ⟨gb1128, 2, none⟩ (.slice Ao12 t1123.length co12))) := ⟨mc117⟩
 (try clear HO1125)
 (try clear BK1116)
 (try clear BK1128)
 (try clear HI1120)
 (try clear HB)
 generalize (((w8.setCell ⟨gb1128, 0, none⟩ (.int .i64 t1121)).setCell ⟨gb1128, 1, none⟩ (.int .i64 t1122)).setCell ⟨gb1128, 2, none⟩ (.slice Ao12 t1123.length co12)) = w13 at n0_ n1_ n2_ n3_ n4_ ⊢
 have HO1125 := n0_
 have BK1116 := n1_
 have BK1128 := n2_
 have HI1120 := n3_
 have HB := n4_
 clear n0_ n1_ n2_ n3_ n4_
 replace HO1125 := A_ (Kd.Q_drew HO1125.out)
 replace BK1116 := A_ (blk_drew BK1116.out)
 replace BK1128 := A_ (blk_drew BK1128.out)
 replace HI1120 := A_ (IsS61.drew HI1120.out)
 replace HB := A_ (below_drew1 HB.out)
 refine start_ (n := 6) (S := fun w' => w'.cell? ⟨gb1128, 0, none⟩ = some (.int .i64 t1121) ∧ w'.cell? ⟨gb1128, 1, none⟩ = some (.int .i64 t1122) ∧ w'.cell? ⟨gb1128, 2, none⟩ = some (.slice Ao12 t1123.length co12)) (ds := []) #[false, false, false, false, false, false] kr_ rfl rfl ⟨bc_ BK1128 0 rfl, bc_ BK1128 1 rfl, bc_ BK1128 2 rfl⟩ (fun hHeld => ?_)
 generalize w13.drew = w14 at HO1125 BK1116 BK1128 HI1120 HB hHeld ⊢
 refine pure_ (i := 1) (N := some 12) #[false, true, false, false, false, false] rfl rfl kr_ (fun _ _ _ h => h) (Or.inl ⟨by rfl, mc354⟩) mc312 ?_
 refine take_ (i := 0) (N := some 11) #[true, true, false, false, false, false] rfl rfl kr_ (fun _ _ _ h => h) (Or.inl ⟨by rfl, mc340⟩) hHeld mc312 ?_
 refine take_ (i := 2) (N := some 13) #[true, true, true, false, false, false] rfl rfl kr_ (fun _ _ _ h => h) (Or.inl ⟨by rfl, mc340⟩) hHeld mc312 ?_
 refine one_ (i := 3) (N := some 14) #[true, true, true, true, false, false] rfl rfl kr_ (by decide) (fun K hK => ?_)
 refine goes_ Try.func76 kr_ rfl #[.pointer (some ⟨g1120, 0, none⟩), .agg #[.int .i64 t1121, .int .i64 t1122, .slice Ao12 t1123.length co12]] (by rfl) rfl rfl mc247 ?_
 with_reducible refine (spec_l1Cur_regionOf.calls k g1120 t1117 t1126 t1127 t1121 t1122 _ _ t1123 t1129 t1132 t1133 w _ ?side1 ?side2 ?side3 ?side4 ?side5 A4.out).mono ?_
 (case side1 => repeat (first | (with_reducible first | exact HI1120.out | apply IsS61.alloc | apply IsS61.drewN | apply IsS61.drew | apply IsS61.set_1 | apply IsS61.set_2 | refine IsS61.far ?_ NB1120_1116.out _ | refine IsS61.far ?_ NB1120_1128.out _) | exact HI1120.out))
 (case side2 => repeat (first | (with_reducible first | exact HB.out | apply below_alloc | apply pw_below_drewN | apply below_drew1 | refine below_set ?_ (IsS61.ge HI1120.out) | refine below_set ?_ GE1116.out | refine below_set ?_ GE1128.out) | exact HB.out))
 (case side3 => repeat (first | exact (Kd.Q_reads' HO1125.out).2.2 | (with_reducible refine Kd.C_alloc ?_ _) | (with_reducible refine Kd.C_drewN ?_ _) | (with_reducible refine Kd.C_drew ?_)))
 (case side4 => exact (Kd.Q_reads' HO1125.out).2.1)
 (case side5 => exact far_slice (IsS61.own_neQ HI1120.out HO1125.out (by decide)))
 rintro e w15 ⟨v1130, rfl, ho0, hi, hb, hk⟩
 refine ⟨_, rfl, ?_⟩
 replace BK1116 := A_ (KeepBut.blk hk (g' := gb1116) (o := .cells #[.int .i64 0, .int .i64 0, .slice none 0 0] 26 (0, 0)) mc258 NB1116_1120.out (by simp))
 replace BK1128 := A_ (KeepBut.blk hk (g' := gb1128) (o := .cells #[.int .i64 t1121, .int .i64 t1122, .slice Ao12 t1123.length co12] 26 (0, 0)) (by (with_reducible repeat (first | refine blk_drewN ?_ _ | refine blk_drew ?_ | refine blk_alloc ?_ _)); exact BK1128.out) NB1128_1120.out (by simp))
 have HO1131 := A_ (Kd.R_lower (Kd.R_new' ho0 (Kd.Q_lt mc316)) (below_size (by repeat (first | (with_reducible first | exact HB.out | apply below_alloc | apply pw_below_drewN | apply below_drew1 | refine below_set ?_ (IsS61.ge HI1120.out) | refine below_set ?_ GE1116.out | refine below_set ?_ GE1128.out) | exact HB.out))))
 replace HO1125 := A_ (Kd.Q_mono (Kd.Q_told (Kd.Q_oldK (IsS61.apartQ (show IsS61 w _ g1120 t1117 t1126 t1127 from by repeat (first | (with_reducible first | exact HI1120.out | apply IsS61.alloc | apply IsS61.drewN | apply IsS61.drew | apply IsS61.set_1 | apply IsS61.set_2 | refine IsS61.far ?_ NB1120_1116.out _ | refine IsS61.far ?_ NB1120_1128.out _) | exact HI1120.out)) mc316 (by decide)) hk) (Kd.R_base ho0)) (fun _ h_ => h_.1))
 replace HB := A_ (hb)
 replace HI1120 := A_ (hi)
 (try clear hb)
 (try clear ho0)
 refine hK.out _ _ ⟨bc_ BK1128 0 rfl, bc_ BK1128 1 rfl, bc_ BK1128 2 rfl⟩ (fun hHeld => ?_)
 clear hK K
 refine norm_ (by show Act.put _ (some 14) _ = _; simp only [Act.put, List.setIfInBounds_toArray, List.set_cons_zero, List.set_cons_succ, i64_w, i32_w]; rfl) ?_
 refine one_ (i := 4) (N := none) #[true, true, true, true, true, false] rfl rfl kr_ (by decide) (fun K hK => ?_)
 have hs16 : w15.cell? ⟨gb1116, 0, none⟩ = some (.int .i64 0) := bc_ BK1116 0 rfl
 have hfs16 := blk_frozen BK1116.out 0
 have hns16_1 := NB1128_1116.out
 have hms16_1 := NB1116_1128.out
 have hs17 : w15.cell? ⟨gb1116, 1, none⟩ = some (.int .i64 0) := bc_ BK1116 1 rfl
 have hfs17 := blk_frozen BK1116.out 1
 have hns17_1 := NB1128_1116.out
 have hms17_1 := NB1116_1128.out
 have hs18 : w15.cell? ⟨gb1116, 2, none⟩ = some (.slice none 0 0) := bc_ BK1116 2 rfl
 have hfs18 := blk_frozen BK1116.out 2
 have hns18_1 := NB1128_1116.out
 have hms18_1 := NB1116_1128.out
 refine skip_ (w1 := ?_) (by rfl) rfl ?_ ?_
 rotate_left
 ·
  go_simp
  rfl
 refine hK.out _ _ ⟨((cell_far (p := ⟨gb1116, _, none⟩) NB1128_1116.out _).trans (((cell_far (p := ⟨gb1116, _, none⟩) NB1128_1116.out _).trans (((cell_far (p := ⟨gb1116, _, none⟩) NB1128_1116.out _).trans (hHeld.1)))))), ((cell_far (p := ⟨gb1116, _, none⟩) NB1128_1116.out _).trans (((cell_far (p := ⟨gb1116, _, none⟩) NB1128_1116.out _).trans (((cell_far (p := ⟨gb1116, _, none⟩) NB1128_1116.out _).trans (hHeld.2.1)))))), ((cell_far (p := ⟨gb1116, _, none⟩) NB1128_1116.out _).trans (((cell_far (p := ⟨gb1116, _, none⟩) NB1128_1116.out _).trans (((cell_far (p := ⟨gb1116, _, none⟩) NB1128_1116.out _).trans (hHeld.2.2))))))⟩ (fun hHeld => ?_)
 clear hK K
 refine pure_ (i := 5) (N := some 3) #[true, true, true, true, true, true] rfl rfl kr_ (fun _ _ _ h => h) (Or.inl ⟨by rfl, mc354⟩) mc312 ?_
 refine done_ kr_ ?_
 try go_wp2
 refine bodyPost_ret (results_ct rfl _ _ gb1116 26 #[.int .i64 t1121, .int .i64 t1122, .slice Ao12 t1123.length co12] (0, 0) _ rfl (by (with_reducible repeat (first | refine blk_drewN ?_ _ | refine blk_drew ?_ | refine blk_alloc ?_ _)); refine blk_put (cs := #[.int .i64 t1121, .int .i64 t1122, .slice none 0 0]) ?_ 2 _ rfl; (with_reducible repeat (first | refine blk_drewN ?_ _ | refine blk_drew ?_ | refine blk_alloc ?_ _)); refine blk_put (cs := #[.int .i64 t1121, .int .i64 0, .slice none 0 0]) ?_ 1 _ rfl; (with_reducible repeat (first | refine blk_drewN ?_ _ | refine blk_drew ?_ | refine blk_alloc ?_ _)); refine blk_put (cs := #[.int .i64 0, .int .i64 0, .slice none 0 0]) ?_ 0 _ rfl; (with_reducible repeat (first | refine blk_drewN ?_ _ | refine blk_drew ?_ | refine blk_alloc ?_ _)); exact BK1116.out) Try.underlying26 rfl kr_) rfl ?_
 exact ⟨_, _, mc332, by (with_reducible repeat (first | apply Kd.Q_alloc | apply Kd.Q_drewN | apply Kd.Q_drew)); exact Kd.Q_mono (Kd.Q_far (p := ⟨gb1116, 2, none⟩) (Kd.Q_far (p := ⟨gb1116, 1, none⟩) (Kd.Q_far (p := ⟨gb1116, 0, none⟩) (Kd.Q_types HO1125.out BK1116.out (by decide)) (fun _ hk => by first | exact hk.2 | exact hk.1 | exact hk | exact trivial | exact ⟨hk.1.1, hk.1.2⟩ | exact hk.1.1 | exact hk.1.2) (.int .i64 t1121)) (fun _ hk => by first | exact hk.2 | exact hk.1 | exact hk | exact trivial | exact ⟨hk.1.1, hk.1.2⟩ | exact hk.1.1 | exact hk.1.2) (.int .i64 t1122)) (fun _ hk => by first | exact hk.2 | exact hk.1 | exact hk | exact trivial | exact ⟨hk.1.1, hk.1.2⟩ | exact hk.1.1 | exact hk.1.2) (.slice Ao12 t1123.length co12)) (fun _ hk => hk.1.2), by (with_reducible repeat (first | apply Kd.R_alloc | apply Kd.R_drewN | apply Kd.R_drew)); exact Kd.R_mono (Kd.R_far (p := ⟨gb1116, 2, none⟩) (Kd.R_far (p := ⟨gb1116, 1, none⟩) (Kd.R_far (p := ⟨gb1116, 0, none⟩) (Kd.R_types HO1131.out BK1116.out (by decide)) (fun _ hk => by first | exact hk.2 | exact hk.1 | exact hk | exact trivial | exact ⟨hk.1.1, hk.1.2⟩ | exact hk.1.1 | exact hk.1.2) (.int .i64 t1121)) (fun _ hk => by first | exact hk.2 | exact hk.1 | exact hk | exact trivial | exact ⟨hk.1.1, hk.1.2⟩ | exact hk.1.1 | exact hk.1.2) (.int .i64 t1122)) (fun _ hk => by first | exact hk.2 | exact hk.1 | exact hk | exact trivial | exact ⟨hk.1.1, hk.1.2⟩ | exact hk.1.1 | exact hk.1.2) (.slice Ao12 t1123.length co12)) (fun _ hk => hk.1.2), mc117⟩

/-! ### impl_sumOf: function 95 -/
def impl_sumOf.l0 : Nat → Int → List Int → Int → Int → Option (Int)
 | 0, _, _, _, _ => none
 | k + 1, x3, x6, x7, x8 => if x8 < x7 then (if 0 ≤ x8 then (if x8 < (x6.length : Int) then (impl_sumOf.l0 k (wrap64 (x3 + (rd x6 x8))) x6 x7 (wrap64 (x8 + 1))) else (none)) else (none)) else (some x3)
def impl_sumOf.f (k : Nat) (l0 : List Int) : Option (Int) := impl_sumOf.l0 k 0 l0 (l0.length : Int) 0
set_option maxHeartbeats 8000000 in
set_option maxRecDepth 100000 in
theorem impl_sumOf.calls (k : Nat) (A0 : Option Addr) (c0 : Nat) (l0 : List Int) (r : Int) (w : World) (hr0 : Kd.C (Kd.int .i64) w A0 l0.length l0) (hc0 : l0.length ≤ c0) (h : impl_sumOf.f k l0 = some r) :
  Calls Try.prog 95 #[.slice A0 l0.length c0] w fun e w' => e = .returned (.int .i64 r) ∧ Drawn0 w w' := by
 have HR0 := A_ hr0
 have HC0 := A_ hc0
 clear hr0 hc0
 have H : (impl_sumOf.l0 k 0 l0 (l0.length : Int) 0) = some r := h
 clear h
 have H' := A_ H
 clear H
 go_enter Try.func95, Try.ntmps95
 go_wp2
 go_loopg [3, 8] k (fun kq v3 v8 w' => ∃ (x3_1 : Int) (x8_1 : Int), v3 = .int .i64 x3_1 ∧ v8 = .int .i64 x8_1 ∧ Aside0 (impl_sumOf.l0 kq x3_1 l0 (l0.length : Int) x8_1 = some r) ∧ Aside0 (kq ≤ k) ∧ Drawn0 w w')
 case atStart => exact ⟨(0), (0), mc352, mc352, H', ⟨Nat.le_refl _⟩, mc338⟩
 case round =>
  clear H'
  obtain ⟨x3_1, x8_1, rfl, rfl, HA, HK1, ⟨m1, rfl⟩⟩ := hrel
  cases gk with
  | zero => exact absurd HA.out (by simp [impl_sumOf.l0])
  | succ k1 =>
   have H := HA.out
   clear HA
   simp only [impl_sumOf.l0] at H
   by_cases c2 : x8_1 < (l0.length : Int)
   rotate_left
   ·
    rw [if_neg c2] at H
    have c2b0 : decide (x8_1 < (l0.length : Int)) = false := decide_eq_false c2
    clear c2
    obtain rfl := Option.some.inj H
    go_wp2
    go_ret
    exact ⟨mc352, mc338⟩
   rw [if_pos c2] at H
   have c2b0 : decide (x8_1 < (l0.length : Int)) = true := decide_eq_true c2
   clear c2
   by_cases c3 : 0 ≤ x8_1
   rotate_left
   ·
    rw [if_neg c3] at H
    exact absurd H (by simp)
   rw [if_pos c3] at H
   have c3b0 : decide (0 ≤ x8_1) = true := decide_eq_true c3
   clear c3
   by_cases c4 : x8_1 < (l0.length : Int)
   rotate_left
   ·
    rw [if_neg c4] at H
    exact absurd H (by simp)
   rw [if_pos c4] at H
   have c4b0 : decide (x8_1 < (l0.length : Int)) = true := decide_eq_true c4
   clear c4
   have H' := A_ H
   clear H
   have p1134 : 0 ≤ (x8_1 : Int) := of_decide_eq_true mc341
   have q1134 : x8_1 < (l0.length : Int) := of_decide_eq_true mc341
   obtain ⟨ad1134, e1134, hx1134_0⟩ := Kd.at_int HR0.out x8_1 p1134 q1134
   cases e1134
   replace p1134 := eq_true p1134
   replace q1134 := eq_true q1134
   go_wp2
   go_roundg k1
   case measure => have := HK1.out; omega
   case rel => exact ⟨(wrap64 (x3_1 + (rd l0 x8_1))), (wrap64 (x8_1 + 1)), mc352, mc352, H', ⟨mc356⟩, mc338⟩

end Go.Proofs.Ytdmkbfjipgaloaa.P
