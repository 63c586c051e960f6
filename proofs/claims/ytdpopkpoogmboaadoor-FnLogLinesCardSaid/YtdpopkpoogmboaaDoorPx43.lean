-- Made by pp.py of this session out of the kit's print and of contracts proved by hand; Lean checks it.
import Derived.Test.YtdpopkpoogmboaaDoorPx0
import Derived.Test.YtdpopkpoogmboaaDoorPx5
import Derived.Test.YtdpopkpoogmboaaDoorPx21
import Derived.Test.YtdpopkpoogmboaaDoorPx22
import Derived.Test.YtdpopkpoogmboaaDoorPx40
namespace Go.Proofs.YtdpopkpoogmboaaDoor.P
open Go.RowKit Go.Proofs.YtdpopkpoogmboaaDoorW.PrintWords Go.Proofs.YtdpopkpoogmboaaDoorW.PrintLast Go.Proofs.YtdpopkpoogmboaaDoorW.PrintMore
attribute [local go_sem] max2_int min2_int max_two min_two max_three min_three max_four min_four   -- for this text's walks alone
set_option linter.unusedVariables false
set_option linter.unusedSimpArgs false

/-! ### spec_l1Cur_among: function 58 -/
def spec_l1Cur_among.f (s0_0 : List Int) (s0_1 : Int) (s0_2 : Int) (l1 : List Int) : Option (Int × Int × Int) := (spec_l1Cur_pick.f s0_0 s0_1 s0_2 (l1.length : Int)).bind fun bt568 => (if 0 ≤ bt568.1 then (if bt568.1 < (l1.length : Int) then (some (rd l1 bt568.1, bt568.2.1, bt568.2.2)) else (none)) else (none))
set_option maxHeartbeats 8000000 in
set_option maxRecDepth 100000 in
theorem spec_l1Cur_among.calls (g : Nat) (s0_0 : List Int) (s0_1 : Int) (s0_2 : Int) (A1 : Option Addr) (c1 : Nat) (l1 : List Int) (r1 : Int) (r2 : Int) (r3 : Int) (w0 w : World) (hI : IsS71 w0 w g s0_0 s0_1 s0_2) (hB : Below w0.heap.size w0 w) (hr1 : Kd.C (Kd.int .i64) w A1 l1.length l1) (hc1 : l1.length ≤ c1) (hf1 : ∀ ad, A1 = some ad → 0 < l1.length → ad.block ≠ g) (h : spec_l1Cur_among.f s0_0 s0_1 s0_2 l1 = some (r1, r2, r3)) :
    Calls Tryd.prog 58 #[.pointer (some ⟨g, 0, none⟩), .slice A1 l1.length c1] w fun e w' => e = .returned (.int .i64 r1) ∧ IsS71 w0 w' g s0_0 r2 r3 ∧ Below w0.heap.size w0 w' ∧ KeepBut w w' g none := by
  have HR1 := Aside0.mk hr1
  have HC1 := Aside0.mk hc1
  clear hr1 hc1
  have HI0 := Aside0.mk hI
  have HK := Aside0.mk (KeepBut.refl w g none)
  have HL := Aside0.mk hB.size
  clear hI
  have HW0 := Aside0.mk hB.size
  have HB := Aside0.mk hB
  clear hB
  have H : ((spec_l1Cur_pick.f s0_0 s0_1 s0_2 (l1.length : Int)).bind fun bt568 => (if 0 ≤ bt568.1 then (if bt568.1 < (l1.length : Int) then (some (rd l1 bt568.1, bt568.2.1, bt568.2.2)) else (none)) else (none))) = some (r1, r2, r3) := h
  clear h
  replace H := Option.bind_eq_some_iff.mp H
  obtain ⟨⟨t568, t569, t570⟩, A30, H⟩ := H
  replace H : (if 0 ≤ t568 then (if t568 < (l1.length : Int) then (some (rd l1 t568, t569, t570)) else (none)) else (none)) = some (r1, r2, r3) := H
  have A3 := Aside0.mk A30
  clear A30
  by_cases c4 : 0 ≤ t568
  · rw [if_pos c4] at H
    have c4b0 : decide (0 ≤ t568) = true := decide_eq_true c4
    clear c4
    by_cases c5 : t568 < (l1.length : Int)
    · rw [if_pos c5] at H
      have c5b0 : decide (t568 < (l1.length : Int)) = true := decide_eq_true c5
      clear c5
      simp only [Option.some.injEq, Prod.mk.injEq] at H
      obtain ⟨rfl, rfl, rfl⟩ := H
      go_enter Tryd.func58, Tryd.ntmps58
      go_wp2_with (first | ((with_reducible refine gate_callee (f := 54) rfl ?_); refine goesL_ (some 9) rfl rfl Tryd.func54 (by kernel_rfl) rfl #[.pointer (some ⟨g, 0, none⟩), .int .i64 (l1.length : Int)] rfl (by (try simp only [List.map_toArray, List.map_cons, List.map_nil]); first | done | rfl | (simp only [List.length_drop, List.length_take]; rfl)) ?_; (with_reducible refine (spec_l1Cur_pick.calls g s0_0 s0_1 s0_2 (l1.length : Int) t568 t569 t570 w0 _ ?side1 ?side2 A3.out).mono ?_); (case side1 => repeat (first | (with_reducible first | exact HI0.out | apply IsS71.alloc | apply IsS71.drewN | apply IsS71.drew | apply IsS71.set_1 | apply IsS71.set_2) | exact HI0.out)); (case side2 => repeat (first | (with_reducible first | exact HB.out | apply below_alloc | apply pw_below_drewN | apply below_drew1 | refine below_set ?_ (IsS71.ge HI0.out)) | exact HB.out)); rintro e w6 ⟨rfl, hi, hb, hk⟩; refine ⟨_, rfl, ?_⟩; have n0_ := Aside0.mk (KeepBut.trans (by repeat (first | (with_reducible first | exact HK.out | apply KeepBut.set_ | apply keep_drewN | apply keep_drew | apply keep_alloc) | exact HK.out)) hk (.inl rfl)); have n1_ := Aside0.mk (hb); have n2_ := Aside0.mk (hi); clear HK; clear HB; clear HI0; have HK := n0_; have HB := n1_; have HI0 := n2_; clear n0_ n1_ n2_; (try clear hb); (try clear hb2); (try clear hk); (try clear hi); have p571 : 0 ≤ (t568 : Int) := of_decide_eq_true (by first | (with_reducible assumption) | assumption); have q571 : t568 < (l1.length : Int) := of_decide_eq_true (by first | (with_reducible assumption) | assumption); obtain ⟨ad571, e571, hx571_0⟩ := Kd.at_int HR1.out t568 p571 q571; cases e571; replace hx571_0 := keep_cell HK.out hx571_0 (by first | (rw [add_block]; exact hf1 _ rfl (by omega)) | exact hf1 _ rfl (by omega) | exact hf1 ad571 rfl (by omega)); replace p571 := eq_true p571; replace q571 := eq_true q571))
      go_ret
      exact ⟨by first | rfl | (simp [errW_none, errW_some] <;> rfl) | (simp [*, errW_none, errW_some] <;> rfl), by repeat (first | (with_reducible first | exact HI0.out | apply IsS71.alloc | apply IsS71.drewN | apply IsS71.drew | apply IsS71.set_1 | apply IsS71.set_2) | exact HI0.out), by repeat (first | (with_reducible first | exact HB.out | apply below_alloc | apply pw_below_drewN | apply below_drew1 | refine below_set ?_ (IsS71.ge HI0.out)) | exact HB.out), by repeat (first | (with_reducible first | exact HK.out | apply KeepBut.set_ | apply keep_drewN | apply keep_drew | apply keep_alloc) | exact HK.out)⟩
    · rw [if_neg c5] at H
      exact absurd H (by simp)
  · rw [if_neg c4] at H
    exact absurd H (by simp)

/-! ### spec_DrawEncodeRecord: function 39 -/
def spec_DrawEncodeRecord.f (l0 : List Int) : Option (Int × ByteArray × ByteArray) := (mk_l1Cur.f l0).bind fun bt573 => ((spec_l1Cur_among.f bt573.1 bt573.2.1 bt573.2.2 (([0, 1, 12, 59, 60, (-1)] : List Int))).bind fun bt580 => ((spec_l1Cur_logRecord.f bt573.1 bt580.2.1 bt580.2.2).bind fun bt583 => (some (bt580.1, bt583.1, bt583.2.1))))
set_option maxHeartbeats 8000000 in
set_option maxRecDepth 100000 in
theorem spec_DrawEncodeRecord.calls (A0 : Option Addr) (c0 : Nat) (l0 : List Int) (r1 : Int) (r2 : ByteArray) (r3 : ByteArray) (w : World) (hr0 : Kd.C (Kd.int .u8) w A0 l0.length l0) (hc0 : l0.length ≤ c0) (h : spec_DrawEncodeRecord.f l0 = some (r1, r2, r3)) :
    Calls Tryd.prog 39 #[.slice A0 l0.length c0] w fun e w' => e = .returned (.tuple #[.int .i64 r1, .agg #[.string r2, .string r3]]) ∧ Below w.heap.size w w' := by
  have hu27 := Tryd.underlying27
  have HR0 := Aside0.mk hr0
  have HC0 := Aside0.mk hc0
  clear hr0 hc0
  have HB := Aside0.mk (Below.refl w.heap.size w)
  have H : ((mk_l1Cur.f l0).bind fun bt573 => ((spec_l1Cur_among.f bt573.1 bt573.2.1 bt573.2.2 (([0, 1, 12, 59, 60, (-1)] : List Int))).bind fun bt580 => ((spec_l1Cur_logRecord.f bt573.1 bt580.2.1 bt580.2.2).bind fun bt583 => (some (bt580.1, bt583.1, bt583.2.1))))) = some (r1, r2, r3) := h
  clear h
  replace H := Option.bind_eq_some_iff.mp H
  obtain ⟨⟨t573, t574, t575⟩, A20, H⟩ := H
  replace H : ((spec_l1Cur_among.f t573 t574 t575 (([0, 1, 12, 59, 60, (-1)] : List Int))).bind fun bt580 => ((spec_l1Cur_logRecord.f t573 bt580.2.1 bt580.2.2).bind fun bt583 => (some (bt580.1, bt583.1, bt583.2.1)))) = some (r1, r2, r3) := H
  have A2 := Aside0.mk A20
  clear A20
  obtain ⟨y577, hy577⟩ : ∃ y_ : List Int, y_ = (([0, 1, 12, 59, 60, (-1)] : List Int)) := ⟨_, rfl⟩
  replace H : ((spec_l1Cur_among.f t573 t574 t575 y577).bind fun bt580 => ((spec_l1Cur_logRecord.f t573 bt580.2.1 bt580.2.2).bind fun bt583 => (some (bt580.1, bt583.1, bt583.2.1)))) = some (r1, r2, r3) := by first | (rw [hy577]; with_reducible exact H) | (have H2_ := (Option.bind_some _ _).symm.trans H; rw [hy577]; with_reducible exact H2_) | (have H2_ := (Option.bind_some _ _).symm.trans H; with_reducible exact H2_) | with_reducible exact H | (rw [hy577]; exact H) | exact H
  have Ny577 := Aside0.mk hy577
  clear hy577
  replace H := Option.bind_eq_some_iff.mp H
  obtain ⟨⟨t580, t581, t582⟩, A30, H⟩ := H
  replace H : ((spec_l1Cur_logRecord.f t573 t581 t582).bind fun bt583 => (some (t580, bt583.1, bt583.2.1))) = some (r1, r2, r3) := H
  have A3 := Aside0.mk A30
  clear A30
  replace H := Option.bind_eq_some_iff.mp H
  obtain ⟨⟨t583, t584, t585, t586⟩, A40, H⟩ := H
  replace H : (some (t580, t583, t584)) = some (r1, r2, r3) := H
  have A4 := Aside0.mk A40
  clear A40
  simp only [Option.some.injEq, Prod.mk.injEq] at H
  obtain ⟨rfl, rfl, rfl⟩ := H
  go_enter Tryd.func39, Tryd.ntmps39
  go_wp2_with (first | ((with_reducible refine gate_dst (N := 3) rfl ?_); refine box_event ?hg (N := 3) ?hd (cs := #[.string (⟨#[]⟩ : ByteArray), .string (⟨#[]⟩ : ByteArray)]) (t := 27) ?hr ?_; (case hd => rfl); (case hg => rfl); (case hr => first | (go_simp; done) | (go_simp; rfl)); intro gb572 hg w5 hbox hb; have n0_ := Aside0.mk (below_step (by repeat (first | (with_reducible first | exact HB.out | apply below_alloc | apply pw_below_drewN | apply below_drew1) | exact HB.out)) hb); have n1_ := Aside0.mk (hbox); have n2_ := Aside0.mk ((by rw [hg]; exact (below_size (by repeat (first | (with_reducible first | exact HB.out | apply below_alloc | apply pw_below_drewN | apply below_drew1) | exact HB.out))) : w.heap.size ≤ gb572)); have n3_ := Aside0.mk ((by rw [hg]; exact (below_size (by repeat (first | (with_reducible first | exact HB.out | apply below_alloc | apply pw_below_drewN | apply below_drew1) | exact HB.out))) : w.heap.size ≤ gb572)); clear HB; have HB := n0_; have BK572 := n1_; have GW572 := n2_; have GE572 := n3_; clear n0_ n1_ n2_ n3_; clear hb hbox hg) | ((with_reducible refine gate_dst (N := 8) rfl ?_); refine mk_l1Cur.box A0 c0 l0 t573 t574 t575 w A2.out ?side8 ?side9 ?side1 ?side2 ?side3 ?_; (case side8 => rfl); (case side1 => repeat (first | (with_reducible first | exact HB.out | apply below_alloc | apply pw_below_drewN | apply below_drew1 | refine below_set ?_ GE572.out) | exact HB.out)); (case side2 => exact HR0.out); (case side3 => exact HC0.out); (case side9 => first | (go_simp; done) | (go_simp; rfl)); intro g576 w6 hi hb hb2; have n0_ := Aside0.mk (blk_below (g := gb572) (o := .cells #[.string (⟨#[]⟩ : ByteArray), .string (⟨#[]⟩ : ByteArray)] 27 (0, 0)) (by (with_reducible repeat (first | refine blk_drewN ?_ _ | refine blk_drew ?_ | refine blk_alloc ?_ _)); exact BK572.out) hb2); have n1_ := Aside0.mk (hb); have n2_ := Aside0.mk (hi); have n3_ := Aside0.mk (IsS71.ne_blk hi (blk_below (g := gb572) (o := .cells #[.string (⟨#[]⟩ : ByteArray), .string (⟨#[]⟩ : ByteArray)] 27 (0, 0)) (by (with_reducible repeat (first | refine blk_drewN ?_ _ | refine blk_drew ?_ | refine blk_alloc ?_ _)); exact BK572.out) hb2) (by decide)); have n4_ := Aside0.mk (Ne.symm (IsS71.ne_blk hi (blk_below (g := gb572) (o := .cells #[.string (⟨#[]⟩ : ByteArray), .string (⟨#[]⟩ : ByteArray)] 27 (0, 0)) (by (with_reducible repeat (first | refine blk_drewN ?_ _ | refine blk_drew ?_ | refine blk_alloc ?_ _)); exact BK572.out) hb2) (by decide))); clear BK572; clear HB; have BK572 := n0_; have HB := n1_; have HI576 := n2_; have NB576_572 := n3_; have NB572_576 := n4_; clear n0_ n1_ n2_ n3_ n4_; (try clear hb); (try clear hb2); (try clear hk); (try clear hi)) | ((with_reducible refine gate_dst (N := 10) rfl ?_); refine Kd.R_lit (Kd.int .i64) _ 3 ?hg (N := 10) ?hd (xs := ([0, 1, 12, 59, 60, (-1)] : List Int)) (inner := [.int .i64 0, .int .i64 1, .int .i64 12, .int .i64 59, .int .i64 60, .int .i64 (-1)]) (ok := fun _ => True) (okp := fun _ => True) ?hr ?hp (fun _ hk => hk) trivial (Below.refl _ _) (Nat.le_refl _) (by simp) ?_; (case hd => rfl); (case hg => rfl); (case hr => first | (go_simp; done) | (go_simp; rfl)); (case hp => exact (Reps.one (show Kd.M (Kd.int .i64) _ _ _ 0 [.int .i64 0] from rfl) (Reps.one (show Kd.M (Kd.int .i64) _ _ _ 1 [.int .i64 1] from rfl) (Reps.one (show Kd.M (Kd.int .i64) _ _ _ 12 [.int .i64 12] from rfl) (Reps.one (show Kd.M (Kd.int .i64) _ _ _ 59 [.int .i64 59] from rfl) (Reps.one (show Kd.M (Kd.int .i64) _ _ _ 60 [.int .i64 60] from rfl) (Reps.one (show Kd.M (Kd.int .i64) _ _ _ (-1) [.int .i64 (-1)] from rfl) (Reps.none _ _)))))))); intro v578 w7 ho8 hb hg_ hnew_; clear hg_ hnew_; (first | rw [← Ny577.out] at ho8 | (simp only [Int.reduceToNat] at ho8; rw [← Ny577.out] at ho8)); have n0_ := Aside0.mk (Kd.R_lower ho8 (below_size (by repeat (first | (with_reducible first | exact HB.out | apply below_alloc | apply pw_below_drewN | apply below_drew1 | refine below_set ?_ (IsS71.ge HI576.out) | refine below_set ?_ GE572.out) | exact HB.out)))); have n1_ := Aside0.mk (blk_below (g := gb572) (o := .cells #[.string (⟨#[]⟩ : ByteArray), .string (⟨#[]⟩ : ByteArray)] 27 (0, 0)) (by (with_reducible repeat (first | refine blk_drewN ?_ _ | refine blk_drew ?_ | refine blk_alloc ?_ _)); exact BK572.out) hb); have n2_ := Aside0.mk (IsS71.below (by repeat (first | (with_reducible first | exact HI576.out | apply IsS71.alloc | apply IsS71.drewN | apply IsS71.drew | apply IsS71.set_1 | apply IsS71.set_2 | refine IsS71.far ?_ NB576_572.out _) | exact HI576.out)) hb); have n3_ := Aside0.mk (below_step (by repeat (first | (with_reducible first | exact HB.out | apply below_alloc | apply pw_below_drewN | apply below_drew1 | refine below_set ?_ (IsS71.ge HI576.out) | refine below_set ?_ GE572.out) | exact HB.out)) hb); clear BK572; clear HI576; clear HB; have HO579 := n0_; have BK572 := n1_; have HI576 := n2_; have HB := n3_; clear n0_ n1_ n2_ n3_; clear hb ho8; obtain ⟨Ao9, co9, eo9⟩ := Kd.R_slice HO579.out; subst eo9) | ((with_reducible refine gate_callee (f := 58) rfl ?_); refine goesL_ (some 11) rfl rfl Tryd.func58 (by kernel_rfl) rfl #[.pointer (some ⟨g576, 0, none⟩), .slice Ao9 y577.length co9] rfl (by (try simp only [List.map_toArray, List.map_cons, List.map_nil]); first | done | rfl | (simp only [List.length_drop, List.length_take]; rfl)) ?_; (with_reducible refine (spec_l1Cur_among.calls g576 t573 t574 t575 _ _ y577 t580 t581 t582 w _ ?side1 ?side2 ?side3 ?side4 ?side5 A3.out).mono ?_); (case side1 => repeat (first | (with_reducible first | exact HI576.out | apply IsS71.alloc | apply IsS71.drewN | apply IsS71.drew | apply IsS71.set_1 | apply IsS71.set_2 | refine IsS71.far ?_ NB576_572.out _) | exact HI576.out)); (case side2 => repeat (first | (with_reducible first | exact HB.out | apply below_alloc | apply pw_below_drewN | apply below_drew1 | refine below_set ?_ (IsS71.ge HI576.out) | refine below_set ?_ GE572.out) | exact HB.out)); (case side3 => repeat (first | exact (Kd.R_reads' HO579.out).2.2 | (with_reducible refine Kd.C_alloc ?_ _) | (with_reducible refine Kd.C_drewN ?_ _) | (with_reducible refine Kd.C_drew ?_))); (case side4 => exact (Kd.R_reads' HO579.out).2.1); (case side5 => exact far_slice (IsS71.own_ne HI576.out HO579.out (by decide))); rintro e w10 ⟨rfl, hi, hb, hk⟩; refine ⟨_, rfl, ?_⟩; have n0_ := Aside0.mk (KeepBut.blk hk (g' := gb572) (o := .cells #[.string (⟨#[]⟩ : ByteArray), .string (⟨#[]⟩ : ByteArray)] 27 (0, 0)) (by (with_reducible repeat (first | refine blk_drewN ?_ _ | refine blk_drew ?_ | refine blk_alloc ?_ _)); exact BK572.out) NB572_576.out (by simp)); have n1_ := Aside0.mk (Kd.R_mono (Kd.R_keep (IsS71.apart (show IsS71 w _ g576 t573 t574 t575 from by repeat (first | (with_reducible first | exact HI576.out | apply IsS71.alloc | apply IsS71.drewN | apply IsS71.drew | apply IsS71.set_1 | apply IsS71.set_2 | refine IsS71.far ?_ NB576_572.out _) | exact HI576.out)) (by (with_reducible repeat (first | apply Kd.R_alloc | apply Kd.R_drewN | apply Kd.R_drew)); exact HO579.out) (by decide)) hk (fun _ h => h.2)) (fun _ h => h.1)); have n2_ := Aside0.mk (hb); have n3_ := Aside0.mk (hi); clear BK572; clear HO579; clear HB; clear HI576; have BK572 := n0_; have HO579 := n1_; have HB := n2_; have HI576 := n3_; clear n0_ n1_ n2_ n3_; (try clear hb); (try clear hb2); (try clear hk); (try clear hi)) | ((with_reducible refine gate_callee (f := 55) rfl ?_); refine goesL_ (some 14) rfl rfl Tryd.func55 (by kernel_rfl) rfl #[.pointer (some ⟨g576, 0, none⟩)] rfl (by (try simp only [List.map_toArray, List.map_cons, List.map_nil]); first | done | rfl | (simp only [List.length_drop, List.length_take]; rfl)) ?_; (with_reducible refine (spec_l1Cur_logRecord.calls g576 t573 t581 t582 t583 t584 t585 t586 w _ ?side1 ?side2 A4.out).mono ?_); (case side1 => repeat (first | (with_reducible first | exact HI576.out | apply IsS71.alloc | apply IsS71.drewN | apply IsS71.drew | apply IsS71.set_1 | apply IsS71.set_2 | refine IsS71.far ?_ NB576_572.out _) | exact HI576.out)); (case side2 => repeat (first | (with_reducible first | exact HB.out | apply below_alloc | apply pw_below_drewN | apply below_drew1 | refine below_set ?_ (IsS71.ge HI576.out) | refine below_set ?_ GE572.out) | exact HB.out)); rintro e w11 ⟨rfl, hi, hb, hk⟩; refine ⟨_, rfl, ?_⟩; have n0_ := Aside0.mk (KeepBut.blk hk (g' := gb572) (o := .cells #[.string (⟨#[]⟩ : ByteArray), .string (⟨#[]⟩ : ByteArray)] 27 (0, 0)) (by (with_reducible repeat (first | refine blk_drewN ?_ _ | refine blk_drew ?_ | refine blk_alloc ?_ _)); exact BK572.out) NB572_576.out (by simp)); have n1_ := Aside0.mk (Kd.R_mono (Kd.R_keep (IsS71.apart (show IsS71 w _ g576 t573 t581 t582 from by repeat (first | (with_reducible first | exact HI576.out | apply IsS71.alloc | apply IsS71.drewN | apply IsS71.drew | apply IsS71.set_1 | apply IsS71.set_2 | refine IsS71.far ?_ NB576_572.out _) | exact HI576.out)) (by (with_reducible repeat (first | apply Kd.R_alloc | apply Kd.R_drewN | apply Kd.R_drew)); exact HO579.out) (by decide)) hk (fun _ h => h.2)) (fun _ h => h.1)); have n2_ := Aside0.mk (hb); have n3_ := Aside0.mk (hi); clear BK572; clear HO579; clear HB; clear HI576; have BK572 := n0_; have HO579 := n1_; have HB := n2_; have HI576 := n3_; clear n0_ n1_ n2_ n3_; (try clear hb); (try clear hb2); (try clear hk); (try clear hi); have hnb12 := NB572_576.out; have hnc12 := NB576_572.out; have hcz13_0 : w11.cell? ⟨gb572, 0, none⟩ = some (.string (⟨#[]⟩ : ByteArray)) := (blk_cell BK572.out 0).trans rfl; have hcz13_1 : w11.cell? ⟨gb572, 1, none⟩ = some (.string (⟨#[]⟩ : ByteArray)) := (blk_cell BK572.out 1).trans rfl; have hfz13_0 := blk_frozen BK572.out 0; have hfz13_1 := blk_frozen BK572.out 1))
  refine bodyPost_ret (results_tc rfl _ _ gb572 27 #[.string t583, .string t584] (0, 0) _ rfl (by (with_reducible repeat (first | refine blk_drewN ?_ _ | refine blk_drew ?_ | refine blk_alloc ?_ _)); refine blk_put (cs := #[.string t583, .string (⟨#[]⟩ : ByteArray)]) ?_ 1 _ rfl; (with_reducible repeat (first | refine blk_drewN ?_ _ | refine blk_drew ?_ | refine blk_alloc ?_ _)); refine blk_put (cs := #[.string (⟨#[]⟩ : ByteArray), .string (⟨#[]⟩ : ByteArray)]) ?_ 0 _ rfl; (with_reducible repeat (first | refine blk_drewN ?_ _ | refine blk_drew ?_ | refine blk_alloc ?_ _)); exact BK572.out) Tryd.underlying27 rfl (by kernel_rfl)) rfl ?_
  exact ⟨by first | rfl | (simp [errW_none, errW_some] <;> rfl) | (simp [*, errW_none, errW_some] <;> rfl), by repeat (first | (with_reducible first | exact HB.out | apply below_alloc | apply pw_below_drewN | apply below_drew1 | refine below_set ?_ (IsS71.ge HI576.out) | refine below_set ?_ GE572.out) | exact HB.out)⟩

/-! ### spec_DrawRecoverLog: function 40 -/
def spec_DrawRecoverLog.j0 : Nat → ByteArray → List Int → Int → Int → Option (ByteArray)
  | 0, _, _, _, _ => none
  | k + 1, x5, x591000, x591001, x591002 => (spec_l1Cur_one.f x591000 x591001 x591002 40).bind fun bt614 => (if bt614.1 = true then ((spec_l1Cur_pick.f x591000 bt614.2.1 bt614.2.2 2).bind fun bt617 => (if 0 ≤ (wrap64 (30000 + bt617.1)) then (if (wrap64 (30000 + bt617.1) : Int).toNat ≤ 281474976710656 then (some (strOfNums (List.replicate (wrap64 (30000 + bt617.1) : Int).toNat 0))) else (none)) else (none))) else (some x5))
def spec_DrawRecoverLog.f (k : Nat) (l0 : List Int) : Option (ByteArray) := (mk_l1Cur.f l0).bind fun bt587 => ((spec_l1Cur_log.f k bt587.1 bt587.2.1 bt587.2.2).bind fun bt591 => (if bt591.1.size + bt591.2.1.size ≤ 9223372036854775807 then ((spec_l1Cur_pick.f bt587.1 bt591.2.2.2.1 bt591.2.2.2.2 4).bind fun bt597 => (if bt597.1 = 0 then ((spec_l1Cur_spoilt.f bt587.1 bt597.2.1 bt597.2.2 (bt591.1 ++ bt591.2.1) (⟨#[35, 64, 10, 48, 49]⟩ : ByteArray)).bind fun bt600 => (spec_DrawRecoverLog.j0 k bt600.1 bt587.1 bt600.2.1 bt600.2.2)) else (if bt597.1 = 1 then ((spec_l1Cur_pick.f bt587.1 bt597.2.1 bt597.2.2 (wrap64 (((bt591.1 ++ bt591.2.1).size : Int) + 1))).bind fun bt603 => (if 0 ≤ bt603.1 then (if bt603.1 ≤ ((bt591.1 ++ bt591.2.1).size : Int) then (spec_DrawRecoverLog.j0 k ((bt591.1 ++ bt591.2.1).extract 0 (bt603.1 : Int).toNat) bt587.1 bt603.2.1 bt603.2.2) else (none)) else (none))) else (if bt597.1 = 2 then ((spec_l1Cur_pick.f bt587.1 bt597.2.1 bt597.2.2 4).bind fun bt606 => ((spec_l1Cur_logRecord.f bt587.1 bt606.2.1 bt606.2.2).bind fun bt609 => ((spec_l27Line.f k bt606.1 bt609.1 bt609.2.1).bind fun t613 => (if (bt591.1 ++ bt591.2.1).size + t613.size ≤ 9223372036854775807 then (spec_DrawRecoverLog.j0 k ((bt591.1 ++ bt591.2.1) ++ t613) bt587.1 bt609.2.2.1 bt609.2.2.2) else (none))))) else (spec_DrawRecoverLog.j0 k (bt591.1 ++ bt591.2.1) bt587.1 bt597.2.1 bt597.2.2))))) else (none)))
set_option maxHeartbeats 8000000 in
set_option maxRecDepth 100000 in
theorem spec_DrawRecoverLog.calls (k : Nat) (A0 : Option Addr) (c0 : Nat) (l0 : List Int) (r : ByteArray) (w : World) (hr0 : Kd.C (Kd.int .u8) w A0 l0.length l0) (hc0 : l0.length ≤ c0) (h : spec_DrawRecoverLog.f k l0 = some r) :
    Calls Tryd.prog 40 #[.slice A0 l0.length c0] w fun e w' => e = .returned (.string r) ∧ Below w.heap.size w w' := by
  have hu31 := Tryd.underlying31
  have HR0 := Aside0.mk hr0
  have HC0 := Aside0.mk hc0
  clear hr0 hc0
  have HB := Aside0.mk (Below.refl w.heap.size w)
  have H : ((mk_l1Cur.f l0).bind fun bt587 => ((spec_l1Cur_log.f k bt587.1 bt587.2.1 bt587.2.2).bind fun bt591 => (if bt591.1.size + bt591.2.1.size ≤ 9223372036854775807 then ((spec_l1Cur_pick.f bt587.1 bt591.2.2.2.1 bt591.2.2.2.2 4).bind fun bt597 => (if bt597.1 = 0 then ((spec_l1Cur_spoilt.f bt587.1 bt597.2.1 bt597.2.2 (bt591.1 ++ bt591.2.1) (⟨#[35, 64, 10, 48, 49]⟩ : ByteArray)).bind fun bt600 => (spec_DrawRecoverLog.j0 k bt600.1 bt587.1 bt600.2.1 bt600.2.2)) else (if bt597.1 = 1 then ((spec_l1Cur_pick.f bt587.1 bt597.2.1 bt597.2.2 (wrap64 (((bt591.1 ++ bt591.2.1).size : Int) + 1))).bind fun bt603 => (if 0 ≤ bt603.1 then (if bt603.1 ≤ ((bt591.1 ++ bt591.2.1).size : Int) then (spec_DrawRecoverLog.j0 k ((bt591.1 ++ bt591.2.1).extract 0 (bt603.1 : Int).toNat) bt587.1 bt603.2.1 bt603.2.2) else (none)) else (none))) else (if bt597.1 = 2 then ((spec_l1Cur_pick.f bt587.1 bt597.2.1 bt597.2.2 4).bind fun bt606 => ((spec_l1Cur_logRecord.f bt587.1 bt606.2.1 bt606.2.2).bind fun bt609 => ((spec_l27Line.f k bt606.1 bt609.1 bt609.2.1).bind fun t613 => (if (bt591.1 ++ bt591.2.1).size + t613.size ≤ 9223372036854775807 then (spec_DrawRecoverLog.j0 k ((bt591.1 ++ bt591.2.1) ++ t613) bt587.1 bt609.2.2.1 bt609.2.2.2) else (none))))) else (spec_DrawRecoverLog.j0 k (bt591.1 ++ bt591.2.1) bt587.1 bt597.2.1 bt597.2.2))))) else (none)))) = some r := h
  clear h
  replace H := Option.bind_eq_some_iff.mp H
  obtain ⟨⟨t587, t588, t589⟩, A20, H⟩ := H
  replace H : ((spec_l1Cur_log.f k t587 t588 t589).bind fun bt591 => (if bt591.1.size + bt591.2.1.size ≤ 9223372036854775807 then ((spec_l1Cur_pick.f t587 bt591.2.2.2.1 bt591.2.2.2.2 4).bind fun bt597 => (if bt597.1 = 0 then ((spec_l1Cur_spoilt.f t587 bt597.2.1 bt597.2.2 (bt591.1 ++ bt591.2.1) (⟨#[35, 64, 10, 48, 49]⟩ : ByteArray)).bind fun bt600 => (spec_DrawRecoverLog.j0 k bt600.1 t587 bt600.2.1 bt600.2.2)) else (if bt597.1 = 1 then ((spec_l1Cur_pick.f t587 bt597.2.1 bt597.2.2 (wrap64 (((bt591.1 ++ bt591.2.1).size : Int) + 1))).bind fun bt603 => (if 0 ≤ bt603.1 then (if bt603.1 ≤ ((bt591.1 ++ bt591.2.1).size : Int) then (spec_DrawRecoverLog.j0 k ((bt591.1 ++ bt591.2.1).extract 0 (bt603.1 : Int).toNat) t587 bt603.2.1 bt603.2.2) else (none)) else (none))) else (if bt597.1 = 2 then ((spec_l1Cur_pick.f t587 bt597.2.1 bt597.2.2 4).bind fun bt606 => ((spec_l1Cur_logRecord.f t587 bt606.2.1 bt606.2.2).bind fun bt609 => ((spec_l27Line.f k bt606.1 bt609.1 bt609.2.1).bind fun t613 => (if (bt591.1 ++ bt591.2.1).size + t613.size ≤ 9223372036854775807 then (spec_DrawRecoverLog.j0 k ((bt591.1 ++ bt591.2.1) ++ t613) t587 bt609.2.2.1 bt609.2.2.2) else (none))))) else (spec_DrawRecoverLog.j0 k (bt591.1 ++ bt591.2.1) t587 bt597.2.1 bt597.2.2))))) else (none))) = some r := H
  have A2 := Aside0.mk A20
  clear A20
  replace H := Option.bind_eq_some_iff.mp H
  obtain ⟨⟨t591, t592, t593, t594, t595⟩, A30, H⟩ := H
  replace H : (if t591.size + t592.size ≤ 9223372036854775807 then ((spec_l1Cur_pick.f t587 t594 t595 4).bind fun bt597 => (if bt597.1 = 0 then ((spec_l1Cur_spoilt.f t587 bt597.2.1 bt597.2.2 (t591 ++ t592) (⟨#[35, 64, 10, 48, 49]⟩ : ByteArray)).bind fun bt600 => (spec_DrawRecoverLog.j0 k bt600.1 t587 bt600.2.1 bt600.2.2)) else (if bt597.1 = 1 then ((spec_l1Cur_pick.f t587 bt597.2.1 bt597.2.2 (wrap64 (((t591 ++ t592).size : Int) + 1))).bind fun bt603 => (if 0 ≤ bt603.1 then (if bt603.1 ≤ ((t591 ++ t592).size : Int) then (spec_DrawRecoverLog.j0 k ((t591 ++ t592).extract 0 (bt603.1 : Int).toNat) t587 bt603.2.1 bt603.2.2) else (none)) else (none))) else (if bt597.1 = 2 then ((spec_l1Cur_pick.f t587 bt597.2.1 bt597.2.2 4).bind fun bt606 => ((spec_l1Cur_logRecord.f t587 bt606.2.1 bt606.2.2).bind fun bt609 => ((spec_l27Line.f k bt606.1 bt609.1 bt609.2.1).bind fun t613 => (if (t591 ++ t592).size + t613.size ≤ 9223372036854775807 then (spec_DrawRecoverLog.j0 k ((t591 ++ t592) ++ t613) t587 bt609.2.2.1 bt609.2.2.2) else (none))))) else (spec_DrawRecoverLog.j0 k (t591 ++ t592) t587 bt597.2.1 bt597.2.2))))) else (none)) = some r := H
  have A3 := Aside0.mk A30
  clear A30
  by_cases c4 : t591.size + t592.size ≤ 9223372036854775807
  · rw [if_pos c4] at H
    have c4b0 := eq_true c4
    have c4b1 : decide (t591.size + t592.size ≤ 9223372036854775807) = true := decide_eq_true c4
    try have c4b2 : (9223372036854775807 < t591.size + t592.size) = False := eq_false (Nat.not_lt.2 c4)
    obtain ⟨L_, hL_⟩ : ∃ x_ : ByteArray, (t591 ++ t592) = x_ := ⟨_, rfl⟩
    simp only [hL_] at H
    replace H := Option.bind_eq_some_iff.mp H
    obtain ⟨⟨t597, t598, t599⟩, A50, H⟩ := H
    replace H : (if t597 = 0 then ((spec_l1Cur_spoilt.f t587 t598 t599 L_ (⟨#[35, 64, 10, 48, 49]⟩ : ByteArray)).bind fun bt600 => (spec_DrawRecoverLog.j0 k bt600.1 t587 bt600.2.1 bt600.2.2)) else (if t597 = 1 then ((spec_l1Cur_pick.f t587 t598 t599 (wrap64 ((L_.size : Int) + 1))).bind fun bt603 => (if 0 ≤ bt603.1 then (if bt603.1 ≤ (L_.size : Int) then (spec_DrawRecoverLog.j0 k (L_.extract 0 (bt603.1 : Int).toNat) t587 bt603.2.1 bt603.2.2) else (none)) else (none))) else (if t597 = 2 then ((spec_l1Cur_pick.f t587 t598 t599 4).bind fun bt606 => ((spec_l1Cur_logRecord.f t587 bt606.2.1 bt606.2.2).bind fun bt609 => ((spec_l27Line.f k bt606.1 bt609.1 bt609.2.1).bind fun t613 => (if L_.size + t613.size ≤ 9223372036854775807 then (spec_DrawRecoverLog.j0 k (L_ ++ t613) t587 bt609.2.2.1 bt609.2.2.2) else (none))))) else (spec_DrawRecoverLog.j0 k L_ t587 t598 t599)))) = some r := H
    have A5 := Aside0.mk A50
    clear A50
    have HC6 := Aside0.mk H
    clear H
    go_enter Tryd.func40, Tryd.ntmps40
    go_upto_block 0 with (first | ((with_reducible refine gate_dst (N := 8) rfl ?_); refine mk_l1Cur.box A0 c0 l0 t587 t588 t589 w A2.out ?side8 ?side9 ?side1 ?side2 ?side3 ?_; (case side8 => rfl); (case side1 => repeat (first | (with_reducible first | exact HB.out | apply below_alloc | apply pw_below_drewN | apply below_drew1) | exact HB.out)); (case side2 => exact HR0.out); (case side3 => exact HC0.out); (case side9 => first | (go_simp; done) | (go_simp; rfl)); intro g590 w7 hi hb hb2; have n0_ := Aside0.mk (hb); have n1_ := Aside0.mk (hi); clear HB; have HB := n0_; have HI590 := n1_; clear n0_ n1_; (try clear hb); (try clear hb2); (try clear hk); (try clear hi)) | ((with_reducible refine gate_callee (f := 59) rfl ?_); refine goesL_ (some 10) rfl rfl Tryd.func59 (by kernel_rfl) rfl #[.pointer (some ⟨g590, 0, none⟩)] rfl (by (try simp only [List.map_toArray, List.map_cons, List.map_nil]); first | done | rfl | (simp only [List.length_drop, List.length_take]; rfl)) ?_; (with_reducible refine (spec_l1Cur_log.calls k g590 t587 t588 t589 t591 t592 t593 t594 t595 w _ ?side1 ?side2 A3.out).mono ?_); (case side1 => repeat (first | (with_reducible first | exact HI590.out | apply IsS71.alloc | apply IsS71.drewN | apply IsS71.drew | apply IsS71.set_1 | apply IsS71.set_2) | exact HI590.out)); (case side2 => repeat (first | (with_reducible first | exact HB.out | apply below_alloc | apply pw_below_drewN | apply below_drew1 | refine below_set ?_ (IsS71.ge HI590.out)) | exact HB.out)); rintro e w8 ⟨rfl, hi, hb, hk⟩; refine ⟨_, rfl, ?_⟩; have n0_ := Aside0.mk (hb); have n1_ := Aside0.mk (hi); clear HB; clear HI590; have HB := n0_; have HI590 := n1_; clear n0_ n1_; (try clear hb); (try clear hb2); (try clear hk); (try clear hi)) | ((with_reducible refine gate_dst (N := 4) rfl ?_); refine box_event ?hg (N := 4) ?hd (cs := #[.string (⟨#[]⟩ : ByteArray), .string (⟨#[]⟩ : ByteArray), .int .i64 0]) (t := 31) ?hr ?_; (case hd => rfl); (case hg => rfl); (case hr => first | (go_simp; done) | (go_simp; rfl)); intro gb596 hg w9 hbox hb; have n0_ := Aside0.mk (IsS71.below (by repeat (first | (with_reducible first | exact HI590.out | apply IsS71.alloc | apply IsS71.drewN | apply IsS71.drew | apply IsS71.set_1 | apply IsS71.set_2) | exact HI590.out)) hb); have n1_ := Aside0.mk (below_step (by repeat (first | (with_reducible first | exact HB.out | apply below_alloc | apply pw_below_drewN | apply below_drew1 | refine below_set ?_ (IsS71.ge HI590.out)) | exact HB.out)) hb); have n2_ := Aside0.mk (hbox); have n3_ := Aside0.mk ((by rw [hg]; exact (below_size (by repeat (first | (with_reducible first | exact HB.out | apply below_alloc | apply pw_below_drewN | apply below_drew1 | refine below_set ?_ (IsS71.ge HI590.out)) | exact HB.out))) : w.heap.size ≤ gb596)); have n4_ := Aside0.mk ((by rw [hg]; exact (below_size (by repeat (first | (with_reducible first | exact HB.out | apply below_alloc | apply pw_below_drewN | apply below_drew1 | refine below_set ?_ (IsS71.ge HI590.out)) | exact HB.out))) : w.heap.size ≤ gb596)); have n5_ := Aside0.mk ((by rw [hg]; exact Nat.ne_of_lt (IsS71.lt (show IsS71 w _ g590 t587 t594 t595 from by repeat (first | (with_reducible first | exact HI590.out | apply IsS71.alloc | apply IsS71.drewN | apply IsS71.drew | apply IsS71.set_1 | apply IsS71.set_2) | exact HI590.out))) : g590 ≠ gb596)); have n6_ := Aside0.mk ((by rw [hg]; exact Nat.ne_of_gt (IsS71.lt (show IsS71 w _ g590 t587 t594 t595 from by repeat (first | (with_reducible first | exact HI590.out | apply IsS71.alloc | apply IsS71.drewN | apply IsS71.drew | apply IsS71.set_1 | apply IsS71.set_2) | exact HI590.out))) : gb596 ≠ g590)); clear HI590; clear HB; have HI590 := n0_; have HB := n1_; have BK596 := n2_; have GW596 := n3_; have GE596 := n4_; have NB590_596 := n5_; have NB596_590 := n6_; clear n0_ n1_ n2_ n3_ n4_ n5_ n6_; clear hb hbox hg; have hnb10 := NB596_590.out; have hnc10 := NB590_596.out; have hcz11_0 : w9.cell? ⟨gb596, 0, none⟩ = some (.string (⟨#[]⟩ : ByteArray)) := (blk_cell BK596.out 0).trans rfl; have hcz11_1 : w9.cell? ⟨gb596, 1, none⟩ = some (.string (⟨#[]⟩ : ByteArray)) := (blk_cell BK596.out 1).trans rfl; have hcz11_2 : w9.cell? ⟨gb596, 2, none⟩ = some (.int .i64 0) := (blk_cell BK596.out 2).trans rfl; have hfz11_0 := blk_frozen BK596.out 0; have hfz11_1 := blk_frozen BK596.out 1; have hfz11_2 := blk_frozen BK596.out 2) | ((with_reducible refine gate_callee (f := 54) rfl ?_); refine goesL_ (some 17) rfl rfl Tryd.func54 (by kernel_rfl) rfl #[.pointer (some ⟨g590, 0, none⟩), .int .i64 4] rfl (by (try simp only [List.map_toArray, List.map_cons, List.map_nil]); first | done | rfl | (simp only [List.length_drop, List.length_take]; rfl)) ?_; (with_reducible refine (spec_l1Cur_pick.calls g590 t587 t594 t595 4 t597 t598 t599 w _ ?side1 ?side2 A5.out).mono ?_); (case side1 => repeat (first | (with_reducible first | exact HI590.out | apply IsS71.alloc | apply IsS71.drewN | apply IsS71.drew | apply IsS71.set_1 | apply IsS71.set_2 | refine IsS71.far ?_ NB590_596.out _) | exact HI590.out)); (case side2 => repeat (first | (with_reducible first | exact HB.out | apply below_alloc | apply pw_below_drewN | apply below_drew1 | refine below_set ?_ (IsS71.ge HI590.out) | refine below_set ?_ GE596.out) | exact HB.out)); rintro e w12 ⟨rfl, hi, hb, hk⟩; refine ⟨_, rfl, ?_⟩; have n0_ := Aside0.mk (KeepBut.blk hk (g' := gb596) (o := .cells #[.string t591, .string t592, .int .i64 t593] 31 (0, 0)) (by (with_reducible repeat (first | refine blk_drewN ?_ _ | refine blk_drew ?_ | refine blk_alloc ?_ _)); refine blk_put (cs := #[.string t591, .string t592, .int .i64 0]) ?_ 2 _ rfl; (with_reducible repeat (first | refine blk_drewN ?_ _ | refine blk_drew ?_ | refine blk_alloc ?_ _)); refine blk_put (cs := #[.string t591, .string (⟨#[]⟩ : ByteArray), .int .i64 0]) ?_ 1 _ rfl; (with_reducible repeat (first | refine blk_drewN ?_ _ | refine blk_drew ?_ | refine blk_alloc ?_ _)); refine blk_put (cs := #[.string (⟨#[]⟩ : ByteArray), .string (⟨#[]⟩ : ByteArray), .int .i64 0]) ?_ 0 _ rfl; (with_reducible repeat (first | refine blk_drewN ?_ _ | refine blk_drew ?_ | refine blk_alloc ?_ _)); exact BK596.out) NB596_590.out (by simp)); have n1_ := Aside0.mk (hb); have n2_ := Aside0.mk (hi); clear BK596; clear HB; clear HI590; have BK596 := n0_; have HB := n1_; have HI590 := n2_; clear n0_ n1_ n2_; (try clear hb); (try clear hb2); (try clear hk); (try clear hi)))
    (try simp only [Act.put, List.setIfInBounds_toArray, List.set_cons_zero, List.set_cons_succ])
    go_cut [5] (fun v5 wc => ∃ (kq : Nat) (x5_5 : ByteArray) (x591001_5 : Int) (x591002_5 : Int), v5 = .string x5_5 ∧ Aside0 (spec_DrawRecoverLog.j0 kq x5_5 t587 x591001_5 x591002_5 = some r) ∧ Aside0 (kq ≤ k) ∧ Aside0 (wc.heap[gb596]? = some (.cells #[.string t591, .string t592, .int .i64 t593] 31 (0, 0))) ∧ Aside0 (IsS71 w wc g590 t587 x591001_5 x591002_5) ∧ Aside0 (Below w.heap.size w wc))
    case first =>
      have H := HC6.out
      clear HC6
      by_cases c13 : t597 = 0
      · rw [if_pos c13] at H
        have c13b0 : (t597 == 0) = true := beq_iff_eq.mpr c13
        have c13b1 : (t597 != 0) = false := bne_eq_false_iff_eq.mpr c13
        clear c13
        (first | rw [c13b0] | (simp only [i64_w, i32_w]; rw [c13b0]) | skip)
        replace H := Option.bind_eq_some_iff.mp H
        obtain ⟨⟨t600, t601, t602⟩, A140, H⟩ := H
        replace H : (spec_DrawRecoverLog.j0 k t600 t587 t601 t602) = some r := H
        have A14 := Aside0.mk A140
        clear A140
        have H' := Aside0.mk H
        clear H
        go_wp2_with (first | ((with_reducible refine gate_callee (f := 60) rfl ?_); refine goesL_ (some 22) rfl rfl Tryd.func60 (by kernel_rfl) rfl #[.pointer (some ⟨g590, 0, none⟩), .string L_, .string (⟨#[35, 64, 10, 48, 49]⟩ : ByteArray)] rfl (by (try simp only [List.map_toArray, List.map_cons, List.map_nil]); first | done | rfl | (simp only [List.length_drop, List.length_take]; rfl)) ?_; (with_reducible refine (spec_l1Cur_spoilt.calls g590 t587 t598 t599 L_ (⟨#[35, 64, 10, 48, 49]⟩ : ByteArray) t600 t601 t602 w _ ?side1 ?side2 A14.out).mono ?_); (case side1 => repeat (first | (with_reducible first | exact HI590.out | apply IsS71.alloc | apply IsS71.drewN | apply IsS71.drew | apply IsS71.set_1 | apply IsS71.set_2 | refine IsS71.far ?_ NB590_596.out _) | exact HI590.out)); (case side2 => repeat (first | (with_reducible first | exact HB.out | apply below_alloc | apply pw_below_drewN | apply below_drew1 | refine below_set ?_ (IsS71.ge HI590.out) | refine below_set ?_ GE596.out) | exact HB.out)); rintro e w15 ⟨rfl, hi, hb, hk⟩; refine ⟨_, rfl, ?_⟩; have n0_ := Aside0.mk (KeepBut.blk hk (g' := gb596) (o := .cells #[.string t591, .string t592, .int .i64 t593] 31 (0, 0)) (by (with_reducible repeat (first | refine blk_drewN ?_ _ | refine blk_drew ?_ | refine blk_alloc ?_ _)); exact BK596.out) NB596_590.out (by simp)); have n1_ := Aside0.mk (hb); have n2_ := Aside0.mk (hi); clear BK596; clear HB; clear HI590; have BK596 := n0_; have HB := n1_; have HI590 := n2_; clear n0_ n1_ n2_; (try clear hb); (try clear hb2); (try clear hk); (try clear hi)))
        go_meet
        case rel => exact ⟨_, (t600), (t601), (t602), (by first | rfl | (simp; done) | (simp [*]; done)), H', ⟨by first | omega | exact Nat.le_refl _⟩, ⟨by (with_reducible repeat (first | refine blk_drewN ?_ _ | refine blk_drew ?_ | refine blk_alloc ?_ _)); exact BK596.out⟩, ⟨by repeat (first | (with_reducible first | exact HI590.out | apply IsS71.alloc | apply IsS71.drewN | apply IsS71.drew | apply IsS71.set_1 | apply IsS71.set_2 | refine IsS71.far ?_ NB590_596.out _) | exact HI590.out)⟩, ⟨by repeat (first | (with_reducible first | exact HB.out | apply below_alloc | apply pw_below_drewN | apply below_drew1 | refine below_set ?_ (IsS71.ge HI590.out) | refine below_set ?_ GE596.out) | exact HB.out)⟩⟩
      · rw [if_neg c13] at H
        have c13b0 : (t597 == 0) = false := beq_eq_false_iff_ne.mpr c13
        have c13b1 : (t597 != 0) = true := bne_iff_ne.mpr c13
        (first | rw [c13b0] | (simp only [i64_w, i32_w]; rw [c13b0]) | skip)
        by_cases c16 : t597 = 1
        · rw [if_pos c16] at H
          have c16b0 : (t597 == 1) = true := beq_iff_eq.mpr c16
          have c16b1 : (t597 != 1) = false := bne_eq_false_iff_eq.mpr c16
          clear c16
          replace H := Option.bind_eq_some_iff.mp H
          obtain ⟨⟨t603, t604, t605⟩, A170, H⟩ := H
          replace H : (if 0 ≤ t603 then (if t603 ≤ (L_.size : Int) then (spec_DrawRecoverLog.j0 k (L_.extract 0 (t603 : Int).toNat) t587 t604 t605) else (none)) else (none)) = some r := H
          have A17 := Aside0.mk A170
          clear A170
          by_cases c18 : 0 ≤ t603
          · rw [if_pos c18] at H
            have c18b0 := eq_true c18
            have c18b1 : decide (0 ≤ t603) = true := decide_eq_true c18
            clear c18
            by_cases c19 : t603 ≤ (L_.size : Int)
            · rw [if_pos c19] at H
              have c19b0 := eq_true c19
              have c19b1 : decide (t603 ≤ (L_.size : Int)) = true := decide_eq_true c19
              have H' := Aside0.mk H
              clear H
              go_wp2_with (first | ((with_reducible refine gate_callee (f := 54) rfl ?_); refine goesL_ (some 30) rfl rfl Tryd.func54 (by kernel_rfl) rfl #[.pointer (some ⟨g590, 0, none⟩), .int .i64 (wrap64 ((L_.size : Int) + 1))] rfl (by (try simp only [List.map_toArray, List.map_cons, List.map_nil]); first | done | rfl | (simp only [List.length_drop, List.length_take]; rfl)) ?_; (with_reducible refine (spec_l1Cur_pick.calls g590 t587 t598 t599 (wrap64 ((L_.size : Int) + 1)) t603 t604 t605 w _ ?side1 ?side2 A17.out).mono ?_); (case side1 => repeat (first | (with_reducible first | exact HI590.out | apply IsS71.alloc | apply IsS71.drewN | apply IsS71.drew | apply IsS71.set_1 | apply IsS71.set_2 | refine IsS71.far ?_ NB590_596.out _) | exact HI590.out)); (case side2 => repeat (first | (with_reducible first | exact HB.out | apply below_alloc | apply pw_below_drewN | apply below_drew1 | refine below_set ?_ (IsS71.ge HI590.out) | refine below_set ?_ GE596.out) | exact HB.out)); rintro e w20 ⟨rfl, hi, hb, hk⟩; refine ⟨_, rfl, ?_⟩; have n0_ := Aside0.mk (KeepBut.blk hk (g' := gb596) (o := .cells #[.string t591, .string t592, .int .i64 t593] 31 (0, 0)) (by (with_reducible repeat (first | refine blk_drewN ?_ _ | refine blk_drew ?_ | refine blk_alloc ?_ _)); exact BK596.out) NB596_590.out (by simp)); have n1_ := Aside0.mk (hb); have n2_ := Aside0.mk (hi); clear BK596; clear HB; clear HI590; have BK596 := n0_; have HB := n1_; have HI590 := n2_; clear n0_ n1_ n2_; (try clear hb); (try clear hb2); (try clear hk); (try clear hi)))
              go_meet
              case rel => exact ⟨_, (L_.extract 0 (t603 : Int).toNat), (t604), (t605), (by first | rfl | (simp; done) | (simp [*]; done)), H', ⟨by first | omega | exact Nat.le_refl _⟩, ⟨by (with_reducible repeat (first | refine blk_drewN ?_ _ | refine blk_drew ?_ | refine blk_alloc ?_ _)); exact BK596.out⟩, ⟨by repeat (first | (with_reducible first | exact HI590.out | apply IsS71.alloc | apply IsS71.drewN | apply IsS71.drew | apply IsS71.set_1 | apply IsS71.set_2 | refine IsS71.far ?_ NB590_596.out _) | exact HI590.out)⟩, ⟨by repeat (first | (with_reducible first | exact HB.out | apply below_alloc | apply pw_below_drewN | apply below_drew1 | refine below_set ?_ (IsS71.ge HI590.out) | refine below_set ?_ GE596.out) | exact HB.out)⟩⟩
            · rw [if_neg c19] at H
              exact absurd H (by simp)
          · rw [if_neg c18] at H
            exact absurd H (by simp)
        · rw [if_neg c16] at H
          have c16b0 : (t597 == 1) = false := beq_eq_false_iff_ne.mpr c16
          have c16b1 : (t597 != 1) = true := bne_iff_ne.mpr c16
          by_cases c21 : t597 = 2
          · rw [if_pos c21] at H
            have c21b0 : (t597 == 2) = true := beq_iff_eq.mpr c21
            have c21b1 : (t597 != 2) = false := bne_eq_false_iff_eq.mpr c21
            clear c21
            replace H := Option.bind_eq_some_iff.mp H
            obtain ⟨⟨t606, t607, t608⟩, A220, H⟩ := H
            replace H : ((spec_l1Cur_logRecord.f t587 t607 t608).bind fun bt609 => ((spec_l27Line.f k t606 bt609.1 bt609.2.1).bind fun t613 => (if L_.size + t613.size ≤ 9223372036854775807 then (spec_DrawRecoverLog.j0 k (L_ ++ t613) t587 bt609.2.2.1 bt609.2.2.2) else (none)))) = some r := H
            have A22 := Aside0.mk A220
            clear A220
            replace H := Option.bind_eq_some_iff.mp H
            obtain ⟨⟨t609, t610, t611, t612⟩, A230, H⟩ := H
            replace H : ((spec_l27Line.f k t606 t609 t610).bind fun t613 => (if L_.size + t613.size ≤ 9223372036854775807 then (spec_DrawRecoverLog.j0 k (L_ ++ t613) t587 t611 t612) else (none))) = some r := H
            have A23 := Aside0.mk A230
            clear A230
            replace H := Option.bind_eq_some_iff.mp H
            obtain ⟨t613, A240, H⟩ := H
            replace H : (if L_.size + t613.size ≤ 9223372036854775807 then (spec_DrawRecoverLog.j0 k (L_ ++ t613) t587 t611 t612) else (none)) = some r := H
            have A24 := Aside0.mk A240
            clear A240
            by_cases c25 : L_.size + t613.size ≤ 9223372036854775807
            · rw [if_pos c25] at H
              have c25b0 := eq_true c25
              have c25b1 : decide (L_.size + t613.size ≤ 9223372036854775807) = true := decide_eq_true c25
              try have c25b2 : (9223372036854775807 < L_.size + t613.size) = False := eq_false (Nat.not_lt.2 c25)
              have H' := Aside0.mk H
              clear H
              go_wp2_with (first | ((with_reducible refine gate_callee (f := 54) rfl ?_); refine goesL_ (some 36) rfl rfl Tryd.func54 (by kernel_rfl) rfl #[.pointer (some ⟨g590, 0, none⟩), .int .i64 4] rfl (by (try simp only [List.map_toArray, List.map_cons, List.map_nil]); first | done | rfl | (simp only [List.length_drop, List.length_take]; rfl)) ?_; (with_reducible refine (spec_l1Cur_pick.calls g590 t587 t598 t599 4 t606 t607 t608 w _ ?side1 ?side2 A22.out).mono ?_); (case side1 => repeat (first | (with_reducible first | exact HI590.out | apply IsS71.alloc | apply IsS71.drewN | apply IsS71.drew | apply IsS71.set_1 | apply IsS71.set_2 | refine IsS71.far ?_ NB590_596.out _) | exact HI590.out)); (case side2 => repeat (first | (with_reducible first | exact HB.out | apply below_alloc | apply pw_below_drewN | apply below_drew1 | refine below_set ?_ (IsS71.ge HI590.out) | refine below_set ?_ GE596.out) | exact HB.out)); rintro e w26 ⟨rfl, hi, hb, hk⟩; refine ⟨_, rfl, ?_⟩; have n0_ := Aside0.mk (KeepBut.blk hk (g' := gb596) (o := .cells #[.string t591, .string t592, .int .i64 t593] 31 (0, 0)) (by (with_reducible repeat (first | refine blk_drewN ?_ _ | refine blk_drew ?_ | refine blk_alloc ?_ _)); exact BK596.out) NB596_590.out (by simp)); have n1_ := Aside0.mk (hb); have n2_ := Aside0.mk (hi); clear BK596; clear HB; clear HI590; have BK596 := n0_; have HB := n1_; have HI590 := n2_; clear n0_ n1_ n2_; (try clear hb); (try clear hb2); (try clear hk); (try clear hi)) | ((with_reducible refine gate_callee (f := 55) rfl ?_); refine goesL_ (some 38) rfl rfl Tryd.func55 (by kernel_rfl) rfl #[.pointer (some ⟨g590, 0, none⟩)] rfl (by (try simp only [List.map_toArray, List.map_cons, List.map_nil]); first | done | rfl | (simp only [List.length_drop, List.length_take]; rfl)) ?_; (with_reducible refine (spec_l1Cur_logRecord.calls g590 t587 t607 t608 t609 t610 t611 t612 w _ ?side1 ?side2 A23.out).mono ?_); (case side1 => repeat (first | (with_reducible first | exact HI590.out | apply IsS71.alloc | apply IsS71.drewN | apply IsS71.drew | apply IsS71.set_1 | apply IsS71.set_2 | refine IsS71.far ?_ NB590_596.out _) | exact HI590.out)); (case side2 => repeat (first | (with_reducible first | exact HB.out | apply below_alloc | apply pw_below_drewN | apply below_drew1 | refine below_set ?_ (IsS71.ge HI590.out) | refine below_set ?_ GE596.out) | exact HB.out)); rintro e w27 ⟨rfl, hi, hb, hk⟩; refine ⟨_, rfl, ?_⟩; have n0_ := Aside0.mk (KeepBut.blk hk (g' := gb596) (o := .cells #[.string t591, .string t592, .int .i64 t593] 31 (0, 0)) (by (with_reducible repeat (first | refine blk_drewN ?_ _ | refine blk_drew ?_ | refine blk_alloc ?_ _)); exact BK596.out) NB596_590.out (by simp)); have n1_ := Aside0.mk (hb); have n2_ := Aside0.mk (hi); clear BK596; clear HB; clear HI590; have BK596 := n0_; have HB := n1_; have HI590 := n2_; clear n0_ n1_ n2_; (try clear hb); (try clear hb2); (try clear hk); (try clear hi)) | ((with_reducible refine gate_callee (f := 44) rfl ?_); refine goesL_ (some 39) rfl rfl Tryd.func44 (by kernel_rfl) rfl #[.int .i64 t606, .agg #[.string t609, .string t610]] rfl (by (try simp only [List.map_toArray, List.map_cons, List.map_nil]); first | done | rfl | (simp only [List.length_drop, List.length_take]; rfl)) ?_; (with_reducible refine (spec_l27Line.calls k t606 t609 t610 t613 _ A24.out).mono ?_); rintro e w28 ⟨rfl, hb⟩; refine ⟨_, rfl, ?_⟩; have n0_ := Aside0.mk (IsS71.below (by repeat (first | (with_reducible first | exact HI590.out | apply IsS71.alloc | apply IsS71.drewN | apply IsS71.drew | apply IsS71.set_1 | apply IsS71.set_2 | refine IsS71.far ?_ NB590_596.out _) | exact HI590.out)) hb); have n1_ := Aside0.mk (blk_below (g := gb596) (o := .cells #[.string t591, .string t592, .int .i64 t593] 31 (0, 0)) (by (with_reducible repeat (first | refine blk_drewN ?_ _ | refine blk_drew ?_ | refine blk_alloc ?_ _)); exact BK596.out) hb); have n2_ := Aside0.mk (below_step (by repeat (first | (with_reducible first | exact HB.out | apply below_alloc | apply pw_below_drewN | apply below_drew1 | refine below_set ?_ (IsS71.ge HI590.out) | refine below_set ?_ GE596.out) | exact HB.out)) hb); clear HI590; clear BK596; clear HB; have HI590 := n0_; have BK596 := n1_; have HB := n2_; clear n0_ n1_ n2_; (try clear hb); (try clear hb2); (try clear hk); (try clear hi)))
              go_meet
              case rel => exact ⟨_, (L_ ++ t613), (t611), (t612), (by first | rfl | (simp; done) | (simp [*]; done)), H', ⟨by first | omega | exact Nat.le_refl _⟩, ⟨by (with_reducible repeat (first | refine blk_drewN ?_ _ | refine blk_drew ?_ | refine blk_alloc ?_ _)); exact BK596.out⟩, ⟨by repeat (first | (with_reducible first | exact HI590.out | apply IsS71.alloc | apply IsS71.drewN | apply IsS71.drew | apply IsS71.set_1 | apply IsS71.set_2 | refine IsS71.far ?_ NB590_596.out _) | exact HI590.out)⟩, ⟨by repeat (first | (with_reducible first | exact HB.out | apply below_alloc | apply pw_below_drewN | apply below_drew1 | refine below_set ?_ (IsS71.ge HI590.out) | refine below_set ?_ GE596.out) | exact HB.out)⟩⟩
            · rw [if_neg c25] at H
              exact absurd H (by simp)
          · rw [if_neg c21] at H
            have c21b0 : (t597 == 2) = false := beq_eq_false_iff_ne.mpr c21
            have c21b1 : (t597 != 2) = true := bne_iff_ne.mpr c21
            have H' := Aside0.mk H
            clear H
            go_wp2
            go_meet
            case rel => exact ⟨_, L_, (t598), (t599), (by first | rfl | (simp; done) | (simp [*]; done)), H', ⟨by first | omega | exact Nat.le_refl _⟩, ⟨by (with_reducible repeat (first | refine blk_drewN ?_ _ | refine blk_drew ?_ | refine blk_alloc ?_ _)); exact BK596.out⟩, ⟨by repeat (first | (with_reducible first | exact HI590.out | apply IsS71.alloc | apply IsS71.drewN | apply IsS71.drew | apply IsS71.set_1 | apply IsS71.set_2 | refine IsS71.far ?_ NB590_596.out _) | exact HI590.out)⟩, ⟨by repeat (first | (with_reducible first | exact HB.out | apply below_alloc | apply pw_below_drewN | apply below_drew1 | refine below_set ?_ (IsS71.ge HI590.out) | refine below_set ?_ GE596.out) | exact HB.out)⟩⟩
    case rest =>
      clear HC6
      try clear c1
      try clear c2
      try clear p2
      try clear c4
      try clear c4b0
      try clear c4b1
      try clear c4b2
      try clear c5
      try clear c6
      try clear p6
      try clear c9
      try clear c10
      try clear c13
      try clear c13b0
      try clear c13b1
      try clear c16
      try clear c16b0
      try clear c16b1
      try clear c18
      try clear c18b0
      try clear c18b1
      try clear c19
      try clear c19b0
      try clear c19b1
      try clear c21
      try clear c21b0
      try clear c21b1
      try clear c25
      try clear c25b0
      try clear c25b1
      try clear c25b2
      try clear hcz11_0
      try clear hcz11_1
      try clear hcz11_2
      try clear hfz11_0
      try clear hfz11_1
      try clear hfz11_2
      obtain ⟨kq, x5_5, x591001_5, x591002_5, rfl, HA, HJ5, BK596, HI590, HB⟩ := hcut
      cases kq with
      | zero => exact absurd HA.out (by simp [spec_DrawRecoverLog.j0])
      | succ kj5 =>
        have H := HA.out
        clear HA
        simp only [spec_DrawRecoverLog.j0] at H
        replace H := Option.bind_eq_some_iff.mp H
        obtain ⟨⟨t614, t615, t616⟩, A290, H⟩ := H
        replace H : (if t614 = true then ((spec_l1Cur_pick.f t587 t615 t616 2).bind fun bt617 => (if 0 ≤ (wrap64 (30000 + bt617.1)) then (if (wrap64 (30000 + bt617.1) : Int).toNat ≤ 281474976710656 then (some (strOfNums (List.replicate (wrap64 (30000 + bt617.1) : Int).toNat 0))) else (none)) else (none))) else (some x5_5)) = some r := H
        have A29 := Aside0.mk A290
        clear A290
        by_cases c30 : t614 = true
        · subst c30
          have H1 : ((spec_l1Cur_pick.f t587 t615 t616 2).bind fun bt617 => (if 0 ≤ (wrap64 (30000 + bt617.1)) then (if (wrap64 (30000 + bt617.1) : Int).toNat ≤ 281474976710656 then (some (strOfNums (List.replicate (wrap64 (30000 + bt617.1) : Int).toNat 0))) else (none)) else (none))) = some r := by rw [if_pos rfl] at H; exact H
          clear H
          have H := H1
          clear H1
          replace H := Option.bind_eq_some_iff.mp H
          obtain ⟨⟨t617, t618, t619⟩, A310, H⟩ := H
          replace H : (if 0 ≤ (wrap64 (30000 + t617)) then (if (wrap64 (30000 + t617) : Int).toNat ≤ 281474976710656 then (some (strOfNums (List.replicate (wrap64 (30000 + t617) : Int).toNat 0))) else (none)) else (none)) = some r := H
          have A31 := Aside0.mk A310
          clear A310
          obtain ⟨ji32, hji32⟩ : ∃ j_ : Int, (wrap64 (30000 + t617)) = j_ := ⟨_, rfl⟩
          replace H : (if 0 ≤ (ji32) then (if (ji32 : Int).toNat ≤ 281474976710656 then (some (strOfNums (List.replicate (ji32 : Int).toNat 0))) else (none)) else (none)) = some r := by first | (rw [hji32] at H; exact H) | (simp only [hji32] at H ⊢; exact H)
          (try rw [hji32] at A29)
          (try rw [hji32] at A31)
          have hji32w : (IntKind.i64.wrap (30000 + t617)) = ji32 := (i64_w _).trans hji32
          by_cases c33 : 0 ≤ (ji32)
          · rw [if_pos c33] at H
            have c33b0 := eq_true c33
            have c33b1 : decide (0 ≤ (ji32)) = true := decide_eq_true c33
            clear c33
            by_cases c34 : (ji32 : Int).toNat ≤ 281474976710656
            · rw [if_pos c34] at H
              have c34b0 := eq_true c34
              have c34b1 : decide ((ji32 : Int).toNat ≤ 281474976710656) = true := decide_eq_true c34
              clear c34
              obtain ⟨y620, hy620⟩ : ∃ y_ : List Int, y_ = (List.replicate (ji32 : Int).toNat 0) := ⟨_, rfl⟩
              replace H : (some (strOfNums y620)) = some r := by first | (rw [hy620]; with_reducible exact H) | (have H2_ := (Option.bind_some _ _).symm.trans H; rw [hy620]; with_reducible exact H2_) | (have H2_ := (Option.bind_some _ _).symm.trans H; with_reducible exact H2_) | with_reducible exact H | (rw [hy620]; exact H) | exact H
              have Ny620 := Aside0.mk hy620
              clear hy620
              obtain rfl := Option.some.inj H
              go_wp2_with (first | ((with_reducible refine gate_callee (f := 53) rfl ?_); refine goesL_ (some 42) rfl rfl Tryd.func53 (by kernel_rfl) rfl #[.pointer (some ⟨g590, 0, none⟩), .int .i64 40] rfl (by (try simp only [List.map_toArray, List.map_cons, List.map_nil]); first | done | rfl | (simp only [List.length_drop, List.length_take]; rfl)) ?_; (with_reducible refine (spec_l1Cur_one.calls g590 t587 x591001_5 x591002_5 40 true t615 t616 w _ ?side1 ?side2 A29.out).mono ?_); (case side1 => repeat (first | (with_reducible first | exact HI590.out | apply IsS71.alloc | apply IsS71.drewN | apply IsS71.drew | apply IsS71.set_1 | apply IsS71.set_2 | refine IsS71.far ?_ NB590_596.out _) | exact HI590.out)); (case side2 => repeat (first | (with_reducible first | exact HB.out | apply below_alloc | apply pw_below_drewN | apply below_drew1 | refine below_set ?_ (IsS71.ge HI590.out) | refine below_set ?_ GE596.out) | exact HB.out)); rintro e w35 ⟨rfl, hi, hb, hk⟩; refine ⟨_, rfl, ?_⟩; have n0_ := Aside0.mk (KeepBut.blk hk (g' := gb596) (o := .cells #[.string t591, .string t592, .int .i64 t593] 31 (0, 0)) (by (with_reducible repeat (first | refine blk_drewN ?_ _ | refine blk_drew ?_ | refine blk_alloc ?_ _)); exact BK596.out) NB596_590.out (by simp)); have n1_ := Aside0.mk (hb); have n2_ := Aside0.mk (hi); clear BK596; clear HB; clear HI590; have BK596 := n0_; have HB := n1_; have HI590 := n2_; clear n0_ n1_ n2_; (try clear hb); (try clear hb2); (try clear hk); (try clear hi)) | ((with_reducible refine gate_callee (f := 54) rfl ?_); refine goesL_ (some 44) rfl rfl Tryd.func54 (by kernel_rfl) rfl #[.pointer (some ⟨g590, 0, none⟩), .int .i64 2] rfl (by (try simp only [List.map_toArray, List.map_cons, List.map_nil]); first | done | rfl | (simp only [List.length_drop, List.length_take]; rfl)) ?_; (with_reducible refine (spec_l1Cur_pick.calls g590 t587 t615 t616 2 t617 t618 t619 w _ ?side1 ?side2 A31.out).mono ?_); (case side1 => repeat (first | (with_reducible first | exact HI590.out | apply IsS71.alloc | apply IsS71.drewN | apply IsS71.drew | apply IsS71.set_1 | apply IsS71.set_2 | refine IsS71.far ?_ NB590_596.out _) | exact HI590.out)); (case side2 => repeat (first | (with_reducible first | exact HB.out | apply below_alloc | apply pw_below_drewN | apply below_drew1 | refine below_set ?_ (IsS71.ge HI590.out) | refine below_set ?_ GE596.out) | exact HB.out)); rintro e w36 ⟨rfl, hi, hb, hk⟩; refine ⟨_, rfl, ?_⟩; have n0_ := Aside0.mk (KeepBut.blk hk (g' := gb596) (o := .cells #[.string t591, .string t592, .int .i64 t593] 31 (0, 0)) (by (with_reducible repeat (first | refine blk_drewN ?_ _ | refine blk_drew ?_ | refine blk_alloc ?_ _)); exact BK596.out) NB596_590.out (by simp)); have n1_ := Aside0.mk (hb); have n2_ := Aside0.mk (hi); clear BK596; clear HB; clear HI590; have BK596 := n0_; have HB := n1_; have HI590 := n2_; clear n0_ n1_ n2_; (try clear hb); (try clear hb2); (try clear hk); (try clear hi)) | ((with_reducible refine gate_dst (N := 46) rfl ?_); refine Kd.R_make (Kd.int .u8) _ 5 rfl (N := 46) rfl 53 _ _ rfl ji32 rfl rfl Tryd.underlying53 (.int .u8 0) 1 info5 rfl (by decide) (by omega) 0 (ok := fun _ => True) (okp := fun _ => True) rfl (fun _ hk => hk) trivial (of_decide_eq_true (by first | (with_reducible assumption) | assumption)) (Nat.le_trans (Nat.mul_le_mul_right _ (of_decide_eq_true (by first | (with_reducible assumption) | assumption) : ji32.toNat ≤ 281474976710656)) (by omega)) (Below.refl _ _) (Nat.le_refl _) ?_; intro v621 w37 ho38 hb hg_ hnew_; clear hg_ hnew_; (first | rw [← Ny620.out] at ho38 | (simp only [Int.reduceToNat] at ho38; rw [← Ny620.out] at ho38)); have n0_ := Aside0.mk (Kd.R_lower ho38 (below_size (by repeat (first | (with_reducible first | exact HB.out | apply below_alloc | apply pw_below_drewN | apply below_drew1 | refine below_set ?_ (IsS71.ge HI590.out) | refine below_set ?_ GE596.out) | exact HB.out)))); have n1_ := Aside0.mk (blk_below (g := gb596) (o := .cells #[.string t591, .string t592, .int .i64 t593] 31 (0, 0)) (by (with_reducible repeat (first | refine blk_drewN ?_ _ | refine blk_drew ?_ | refine blk_alloc ?_ _)); exact BK596.out) hb); have n2_ := Aside0.mk (IsS71.below (by repeat (first | (with_reducible first | exact HI590.out | apply IsS71.alloc | apply IsS71.drewN | apply IsS71.drew | apply IsS71.set_1 | apply IsS71.set_2 | refine IsS71.far ?_ NB590_596.out _) | exact HI590.out)) hb); have n3_ := Aside0.mk (below_step (by repeat (first | (with_reducible first | exact HB.out | apply below_alloc | apply pw_below_drewN | apply below_drew1 | refine below_set ?_ (IsS71.ge HI590.out) | refine below_set ?_ GE596.out) | exact HB.out)) hb); clear BK596; clear HI590; clear HB; have HO622 := n0_; have BK596 := n1_; have HI590 := n2_; have HB := n3_; clear n0_ n1_ n2_ n3_; clear hb ho38; have hcv39 := own_string (P := Tryd.prog) Tryd.underlying53 Tryd.underlying5 Tryd.underlying9 (Kd.own_of_R HO622.out)))
              go_ret
              exact ⟨by first | rfl | (simp [errW_none, errW_some] <;> rfl) | (simp only [← hji32]; first | rfl | (simp [errW_none, errW_some] <;> rfl)) | (simp [*, errW_none, errW_some] <;> rfl), by repeat (first | (with_reducible first | exact HB.out | apply below_alloc | apply pw_below_drewN | apply below_drew1 | refine below_set ?_ (IsS71.ge HI590.out) | refine below_set ?_ GE596.out) | exact HB.out)⟩
            · rw [if_neg c34] at H
              exact absurd H (by simp)
          · rw [if_neg c33] at H
            exact absurd H (by simp)
        · replace c30 := Bool.eq_false_iff.mpr c30
          subst c30
          have H1 : (some x5_5) = some r := by rw [if_neg (show ¬ (false = true) by decide)] at H; exact H
          clear H
          have H := H1
          clear H1
          obtain rfl := Option.some.inj H
          go_wp2_with (first | ((with_reducible refine gate_callee (f := 53) rfl ?_); refine goesL_ (some 42) rfl rfl Tryd.func53 (by kernel_rfl) rfl #[.pointer (some ⟨g590, 0, none⟩), .int .i64 40] rfl (by (try simp only [List.map_toArray, List.map_cons, List.map_nil]); first | done | rfl | (simp only [List.length_drop, List.length_take]; rfl)) ?_; (with_reducible refine (spec_l1Cur_one.calls g590 t587 x591001_5 x591002_5 40 false t615 t616 w _ ?side1 ?side2 A29.out).mono ?_); (case side1 => repeat (first | (with_reducible first | exact HI590.out | apply IsS71.alloc | apply IsS71.drewN | apply IsS71.drew | apply IsS71.set_1 | apply IsS71.set_2 | refine IsS71.far ?_ NB590_596.out _) | exact HI590.out)); (case side2 => repeat (first | (with_reducible first | exact HB.out | apply below_alloc | apply pw_below_drewN | apply below_drew1 | refine below_set ?_ (IsS71.ge HI590.out) | refine below_set ?_ GE596.out) | exact HB.out)); rintro e w40 ⟨rfl, hi, hb, hk⟩; refine ⟨_, rfl, ?_⟩; have n0_ := Aside0.mk (KeepBut.blk hk (g' := gb596) (o := .cells #[.string t591, .string t592, .int .i64 t593] 31 (0, 0)) (by (with_reducible repeat (first | refine blk_drewN ?_ _ | refine blk_drew ?_ | refine blk_alloc ?_ _)); exact BK596.out) NB596_590.out (by simp)); have n1_ := Aside0.mk (hb); have n2_ := Aside0.mk (hi); clear BK596; clear HB; clear HI590; have BK596 := n0_; have HB := n1_; have HI590 := n2_; clear n0_ n1_ n2_; (try clear hb); (try clear hb2); (try clear hk); (try clear hi)))
          go_ret
          exact ⟨by first | rfl | (simp [errW_none, errW_some] <;> rfl) | (simp [*, errW_none, errW_some] <;> rfl), by repeat (first | (with_reducible first | exact HB.out | apply below_alloc | apply pw_below_drewN | apply below_drew1 | refine below_set ?_ (IsS71.ge HI590.out) | refine below_set ?_ GE596.out) | exact HB.out)⟩
  · rw [if_neg c4] at H
    exact absurd H (by simp)

end Go.Proofs.YtdpopkpoogmboaaDoor.P
