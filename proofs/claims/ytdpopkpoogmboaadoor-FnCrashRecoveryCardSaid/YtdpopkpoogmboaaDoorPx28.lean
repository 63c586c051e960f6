-- Made by pp.py of this session out of the kit's print and of contracts proved by hand; Lean checks it.
import Derived.Test.YtdpopkpoogmboaaDoorPx0
import Derived.Test.YtdpopkpoogmboaaDoorPx5
import Derived.Test.YtdpopkpoogmboaaDoorPx8
import Derived.Test.YtdpopkpoogmboaaDoorPx13
namespace Go.Proofs.YtdpopkpoogmboaaDoor.P
open Go.RowKit Go.Proofs.YtdpopkpoogmboaaDoorW.PrintWords Go.Proofs.YtdpopkpoogmboaaDoorW.PrintLast Go.Proofs.YtdpopkpoogmboaaDoorW.PrintMore
attribute [local go_sem] max2_int min2_int max_two min_two max_three min_three max_four min_four   -- for this text's walks alone
set_option linter.unusedVariables false
set_option linter.unusedSimpArgs false

-- ALONE
/-! ### impl_CrashLog: function 25 -/
/-- The bytes that survive. -/
def wholeN (a b : ByteArray) (i : Int) : List Int := bytesOf (a ++ b.extract 0 i.toNat)
def impl_CrashLog.f (k : Nat) (a0_0 : ByteArray) (a0_1 : ByteArray) (a0_2 : Int) (a1 : Int) (a2 : Bool) : Option (ByteArray × Bool) :=
  (impl_IsValidLog.f k a0_0 a0_1 a0_2).bind fun t1 => (if t1 = true then ((impl_within.f a1 0 (a0_1.size : Int)).bind fun t2 => (if t2 = true then (if 0 ≤ a1 then (if a1 ≤ (a0_1.size : Int) then (if a0_0.size + a0_1.size ≤ 4611686018427387904 then (if (a2 && decide (0 < a1)) = true then some (strOfNums ((wholeN a0_0 a0_1 a1).set ((wholeN a0_0 a0_1 a1).length - 1) (((255 - rd (wholeN a0_0 a0_1 a1) (((wholeN a0_0 a0_1 a1).length - 1 : Nat) : Int)) % 256))), true) else some (strOfNums (wholeN a0_0 a0_1 a1), true)) else none) else none) else none) else some ((⟨#[]⟩ : ByteArray), false))) else some ((⟨#[]⟩ : ByteArray), false))
theorem bw_frozen' (W : World) (e : TypeId) (s : ByteArray) (j : Nat) (hj : j < s.size) : (Lib.bytesWorld W e s).frozen? ⟨W.heap.size, j, none⟩ = false := by
  simp [World.frozen?, Lib.bytesWorld_at_new, Lib.bytesCells]
  omega
theorem bytesOf_at' (s : ByteArray) (j : Nat) (hj : j < s.size) : (s.data.toList.getD j 0).toNat = (bytesOf s).getD j 0 := by
  have h' : j < s.data.toList.length := by rw [data_length]; exact hj
  simp [bytesOf, List.getD_eq_getElem?_getD, List.getElem?_eq_getElem h']
set_option maxHeartbeats 8000000 in
set_option maxRecDepth 100000 in
theorem impl_CrashLog.calls (k : Nat) (a0_0 : ByteArray) (a0_1 : ByteArray) (a0_2 : Int) (a1 : Int) (a2 : Bool) (r1 : ByteArray) (r2 : Bool) (w : World) (h : impl_CrashLog.f k a0_0 a0_1 a0_2 a1 a2 = some (r1, r2)) (hG_ : GW w) :
    Calls Tryd.prog 25 #[.agg #[.string a0_0, .string a0_1, .int .i64 a0_2], .int .i64 a1, .bool a2] w fun e w' => e = .returned (.tuple #[.string r1, .bool r2]) ∧ Below w.heap.size w w' := by
  have HG := Aside0.mk hG_
  clear hG_
  have hu31 := Tryd.underlying31
  have HB := Aside0.mk (Below.refl w.heap.size w)
  unfold impl_CrashLog.f at h
  replace h := Option.bind_eq_some_iff.mp h
  obtain ⟨t1, A10, h⟩ := h
  have A1 := Aside0.mk A10
  clear A10
  cases t1 with
  | false =>
    replace h : some ((⟨#[]⟩ : ByteArray), false) = some (r1, r2) := h
    simp only [Option.some.injEq, Prod.mk.injEq] at h
    obtain ⟨rfl, rfl⟩ := h
    go_enter Tryd.func25, Tryd.ntmps25
    go_wp2_with (first | ((with_reducible refine gate_dst (N := 3) rfl ?_); refine box_event ?hg (N := 3) ?hd (cs := #[.string a0_0, .string a0_1, .int .i64 a0_2]) (t := 31) ?hr ?_; (case hd => rfl); (case hg => rfl); (case hr => first | (go_simp; done) | (go_simp; rfl)); intro gb1 hg w5 hbox hb; have n0_ := Aside0.mk (below_step (by repeat (first | (with_reducible first | exact HB.out | apply below_alloc | apply pw_below_drewN | apply below_drew1) | exact HB.out)) hb); have BK1 := Aside0.mk hbox; have GE1 := Aside0.mk ((by rw [hg]; exact (below_size (by repeat (first | (with_reducible first | exact HB.out | apply below_alloc | apply pw_below_drewN | apply below_drew1) | exact HB.out))) : w.heap.size ≤ gb1)); clear HB; have HB := n0_; clear n0_; clear hb hbox hg; have hcz5_0 : w5.cell? ⟨gb1, 0, none⟩ = some (.string a0_0) := (blk_cell BK1.out 0).trans rfl; have hcz5_1 : w5.cell? ⟨gb1, 1, none⟩ = some (.string a0_1) := (blk_cell BK1.out 1).trans rfl; have hcz5_2 : w5.cell? ⟨gb1, 2, none⟩ = some (.int .i64 a0_2) := (blk_cell BK1.out 2).trans rfl; have hfz5_0 := blk_frozen BK1.out 0; have hfz5_1 := blk_frozen BK1.out 1; have hfz5_2 := blk_frozen BK1.out 2) | ((with_reducible refine gate_callee (f := 23) rfl ?_); refine goesL_ (some 10) rfl rfl Tryd.func23 (by kernel_rfl) rfl #[.agg #[.string a0_0, .string a0_1, .int .i64 a0_2]] rfl (by (try simp only [List.map_toArray, List.map_cons, List.map_nil]); first | done | rfl | (simp only [List.length_drop, List.length_take]; rfl)) ?_; (with_reducible refine (impl_IsValidLog.calls k a0_0 a0_1 a0_2 false _ A1.out ?sideG).mono ?_); (case sideG => exact (gw_below HG.out (by repeat (first | (with_reducible first | exact HB.out | apply below_alloc | apply pw_below_drewN | apply below_drew1 | refine below_set ?_ GE1.out) | exact HB.out)))); rintro e w16 ⟨rfl, hb⟩; refine ⟨_, rfl, ?_⟩; have n0_ := Aside0.mk (blk_below (g := gb1) (o := .cells #[.string a0_0, .string a0_1, .int .i64 a0_2] 31 (0, 0)) (by (with_reducible repeat (first | refine blk_drewN ?_ _ | refine blk_drew ?_ | refine blk_alloc ?_ _)); exact BK1.out) hb); have n1_ := Aside0.mk (below_step (by repeat (first | (with_reducible first | exact HB.out | apply below_alloc | apply pw_below_drewN | apply below_drew1 | refine below_set ?_ GE1.out) | exact HB.out)) hb); clear BK1; clear HB; have BK1 := n0_; have HB := n1_; clear n0_ n1_ hb; have hcz16_0 : w16.cell? ⟨gb1, 0, none⟩ = some (.string a0_0) := (blk_cell BK1.out 0).trans rfl; have hcz16_1 : w16.cell? ⟨gb1, 1, none⟩ = some (.string a0_1) := (blk_cell BK1.out 1).trans rfl; have hcz16_2 : w16.cell? ⟨gb1, 2, none⟩ = some (.int .i64 a0_2) := (blk_cell BK1.out 2).trans rfl; have hfz16_0 := blk_frozen BK1.out 0; have hfz16_1 := blk_frozen BK1.out 1; have hfz16_2 := blk_frozen BK1.out 2))
    go_ret2
    exact ⟨by first | rfl | (simp [errW_none, errW_some] <;> rfl) | (simp [*, errW_none, errW_some] <;> rfl), by repeat (first | (with_reducible first | exact HB.out | apply below_alloc | apply pw_below_drewN | apply below_drew1 | refine below_set ?_ GE1.out) | exact HB.out)⟩
  | true =>
    replace h : ((impl_within.f a1 0 (a0_1.size : Int)).bind fun t2 => (if t2 = true then (if 0 ≤ a1 then (if a1 ≤ (a0_1.size : Int) then (if a0_0.size + a0_1.size ≤ 4611686018427387904 then (if (a2 && decide (0 < a1)) = true then some (strOfNums ((wholeN a0_0 a0_1 a1).set ((wholeN a0_0 a0_1 a1).length - 1) (((255 - rd (wholeN a0_0 a0_1 a1) (((wholeN a0_0 a0_1 a1).length - 1 : Nat) : Int)) % 256))), true) else some (strOfNums (wholeN a0_0 a0_1 a1), true)) else none) else none) else none) else some ((⟨#[]⟩ : ByteArray), false))) = some (r1, r2) := h
    replace h := Option.bind_eq_some_iff.mp h
    obtain ⟨t2, A20, h⟩ := h
    have A2 := Aside0.mk A20
    clear A20
    cases t2 with
    | false =>
      replace h : some ((⟨#[]⟩ : ByteArray), false) = some (r1, r2) := h
      simp only [Option.some.injEq, Prod.mk.injEq] at h
      obtain ⟨rfl, rfl⟩ := h
      go_enter Tryd.func25, Tryd.ntmps25
      go_wp2_with (first | ((with_reducible refine gate_dst (N := 3) rfl ?_); refine box_event ?hg (N := 3) ?hd (cs := #[.string a0_0, .string a0_1, .int .i64 a0_2]) (t := 31) ?hr ?_; (case hd => rfl); (case hg => rfl); (case hr => first | (go_simp; done) | (go_simp; rfl)); intro gb1 hg w5 hbox hb; have n0_ := Aside0.mk (below_step (by repeat (first | (with_reducible first | exact HB.out | apply below_alloc | apply pw_below_drewN | apply below_drew1) | exact HB.out)) hb); have BK1 := Aside0.mk hbox; have GE1 := Aside0.mk ((by rw [hg]; exact (below_size (by repeat (first | (with_reducible first | exact HB.out | apply below_alloc | apply pw_below_drewN | apply below_drew1) | exact HB.out))) : w.heap.size ≤ gb1)); clear HB; have HB := n0_; clear n0_; clear hb hbox hg; have hcz5_0 : w5.cell? ⟨gb1, 0, none⟩ = some (.string a0_0) := (blk_cell BK1.out 0).trans rfl; have hcz5_1 : w5.cell? ⟨gb1, 1, none⟩ = some (.string a0_1) := (blk_cell BK1.out 1).trans rfl; have hcz5_2 : w5.cell? ⟨gb1, 2, none⟩ = some (.int .i64 a0_2) := (blk_cell BK1.out 2).trans rfl; have hfz5_0 := blk_frozen BK1.out 0; have hfz5_1 := blk_frozen BK1.out 1; have hfz5_2 := blk_frozen BK1.out 2) | ((with_reducible refine gate_callee (f := 23) rfl ?_); refine goesL_ (some 10) rfl rfl Tryd.func23 (by kernel_rfl) rfl #[.agg #[.string a0_0, .string a0_1, .int .i64 a0_2]] rfl (by (try simp only [List.map_toArray, List.map_cons, List.map_nil]); first | done | rfl | (simp only [List.length_drop, List.length_take]; rfl)) ?_; (with_reducible refine (impl_IsValidLog.calls k a0_0 a0_1 a0_2 true _ A1.out ?sideG).mono ?_); (case sideG => exact (gw_below HG.out (by repeat (first | (with_reducible first | exact HB.out | apply below_alloc | apply pw_below_drewN | apply below_drew1 | refine below_set ?_ GE1.out) | exact HB.out)))); rintro e w16 ⟨rfl, hb⟩; refine ⟨_, rfl, ?_⟩; have n0_ := Aside0.mk (blk_below (g := gb1) (o := .cells #[.string a0_0, .string a0_1, .int .i64 a0_2] 31 (0, 0)) (by (with_reducible repeat (first | refine blk_drewN ?_ _ | refine blk_drew ?_ | refine blk_alloc ?_ _)); exact BK1.out) hb); have n1_ := Aside0.mk (below_step (by repeat (first | (with_reducible first | exact HB.out | apply below_alloc | apply pw_below_drewN | apply below_drew1 | refine below_set ?_ GE1.out) | exact HB.out)) hb); clear BK1; clear HB; have BK1 := n0_; have HB := n1_; clear n0_ n1_ hb; have hcz16_0 : w16.cell? ⟨gb1, 0, none⟩ = some (.string a0_0) := (blk_cell BK1.out 0).trans rfl; have hcz16_1 : w16.cell? ⟨gb1, 1, none⟩ = some (.string a0_1) := (blk_cell BK1.out 1).trans rfl; have hcz16_2 : w16.cell? ⟨gb1, 2, none⟩ = some (.int .i64 a0_2) := (blk_cell BK1.out 2).trans rfl; have hfz16_0 := blk_frozen BK1.out 0; have hfz16_1 := blk_frozen BK1.out 1; have hfz16_2 := blk_frozen BK1.out 2) | (go_at_call 45; (with_reducible refine (impl_within.calls a1 0 (a0_1.size : Int) false _ A2.out).mono ?_); rintro e w' ⟨rfl, ⟨nd, rfl⟩⟩))
      go_ret2
      exact ⟨by first | rfl | (simp [errW_none, errW_some] <;> rfl) | (simp [*, errW_none, errW_some] <;> rfl), by repeat (first | (with_reducible first | exact HB.out | apply below_alloc | apply pw_below_drewN | apply below_drew1 | refine below_set ?_ GE1.out) | exact HB.out)⟩
    | true =>
      replace h : (if 0 ≤ a1 then (if a1 ≤ (a0_1.size : Int) then (if a0_0.size + a0_1.size ≤ 4611686018427387904 then (if (a2 && decide (0 < a1)) = true then some (strOfNums ((wholeN a0_0 a0_1 a1).set ((wholeN a0_0 a0_1 a1).length - 1) (((255 - rd (wholeN a0_0 a0_1 a1) (((wholeN a0_0 a0_1 a1).length - 1 : Nat) : Int)) % 256))), true) else some (strOfNums (wholeN a0_0 a0_1 a1), true)) else none) else none) else none) = some (r1, r2) := h
      by_cases c1 : 0 ≤ a1
      · rw [if_pos c1] at h
        by_cases c2 : a1 ≤ (a0_1.size : Int)
        · rw [if_pos c2] at h
          by_cases c3 : a0_0.size + a0_1.size ≤ 4611686018427387904
          · rw [if_pos c3] at h
            have c1b := eq_true c1
            have c1d := decide_eq_true c1
            have c2d := decide_eq_true c2
            have H := Aside0.mk h
            clear h
            obtain ⟨x_, hx_⟩ : ∃ x_ : ByteArray, a0_1.extract 0 (a1 : Int).toNat = x_ := ⟨_, rfl⟩
            have hxs : x_.size ≤ a0_1.size := by rw [← hx_, ByteArray.size_extract]; omega
            have cy : a0_0.size + x_.size ≤ 9223372036854775807 := by omega
            have cy0 := eq_true cy
            have cy1 := decide_eq_true cy
            have cy2 : (9223372036854775807 < a0_0.size + x_.size) = False := eq_false (by omega)
            obtain ⟨s_, hs_⟩ : ∃ s_ : ByteArray, a0_0 ++ x_ = s_ := ⟨_, rfl⟩
            have kb := fun (W : World) => print_bytes (P := Tryd.prog) 9 53 5 Tryd.underlying9 Tryd.underlying53 Tryd.underlying5 s_ W
            go_enter Tryd.func25, Tryd.ntmps25
            go_upto_region 4 with (first | ((with_reducible refine gate_dst (N := 3) rfl ?_); refine box_event ?hg (N := 3) ?hd (cs := #[.string a0_0, .string a0_1, .int .i64 a0_2]) (t := 31) ?hr ?_; (case hd => rfl); (case hg => rfl); (case hr => first | (go_simp; done) | (go_simp; rfl)); intro gb1 hg w5 hbox hb; have n0_ := Aside0.mk (below_step (by repeat (first | (with_reducible first | exact HB.out | apply below_alloc | apply pw_below_drewN | apply below_drew1) | exact HB.out)) hb); have BK1 := Aside0.mk hbox; have GE1 := Aside0.mk ((by rw [hg]; exact (below_size (by repeat (first | (with_reducible first | exact HB.out | apply below_alloc | apply pw_below_drewN | apply below_drew1) | exact HB.out))) : w.heap.size ≤ gb1)); clear HB; have HB := n0_; clear n0_; clear hb hbox hg; have hcz5_0 : w5.cell? ⟨gb1, 0, none⟩ = some (.string a0_0) := (blk_cell BK1.out 0).trans rfl; have hcz5_1 : w5.cell? ⟨gb1, 1, none⟩ = some (.string a0_1) := (blk_cell BK1.out 1).trans rfl; have hcz5_2 : w5.cell? ⟨gb1, 2, none⟩ = some (.int .i64 a0_2) := (blk_cell BK1.out 2).trans rfl; have hfz5_0 := blk_frozen BK1.out 0; have hfz5_1 := blk_frozen BK1.out 1; have hfz5_2 := blk_frozen BK1.out 2) | ((with_reducible refine gate_callee (f := 23) rfl ?_); refine goesL_ (some 10) rfl rfl Tryd.func23 (by kernel_rfl) rfl #[.agg #[.string a0_0, .string a0_1, .int .i64 a0_2]] rfl (by (try simp only [List.map_toArray, List.map_cons, List.map_nil]); first | done | rfl | (simp only [List.length_drop, List.length_take]; rfl)) ?_; (with_reducible refine (impl_IsValidLog.calls k a0_0 a0_1 a0_2 true _ A1.out ?sideG).mono ?_); (case sideG => exact (gw_below HG.out (by repeat (first | (with_reducible first | exact HB.out | apply below_alloc | apply pw_below_drewN | apply below_drew1 | refine below_set ?_ GE1.out) | exact HB.out)))); rintro e w16 ⟨rfl, hb⟩; refine ⟨_, rfl, ?_⟩; have n0_ := Aside0.mk (blk_below (g := gb1) (o := .cells #[.string a0_0, .string a0_1, .int .i64 a0_2] 31 (0, 0)) (by (with_reducible repeat (first | refine blk_drewN ?_ _ | refine blk_drew ?_ | refine blk_alloc ?_ _)); exact BK1.out) hb); have n1_ := Aside0.mk (below_step (by repeat (first | (with_reducible first | exact HB.out | apply below_alloc | apply pw_below_drewN | apply below_drew1 | refine below_set ?_ GE1.out) | exact HB.out)) hb); clear BK1; clear HB; have BK1 := n0_; have HB := n1_; clear n0_ n1_ hb; have hcz16_0 : w16.cell? ⟨gb1, 0, none⟩ = some (.string a0_0) := (blk_cell BK1.out 0).trans rfl; have hcz16_1 : w16.cell? ⟨gb1, 1, none⟩ = some (.string a0_1) := (blk_cell BK1.out 1).trans rfl; have hcz16_2 : w16.cell? ⟨gb1, 2, none⟩ = some (.int .i64 a0_2) := (blk_cell BK1.out 2).trans rfl; have hfz16_0 := blk_frozen BK1.out 0; have hfz16_1 := blk_frozen BK1.out 1; have hfz16_2 := blk_frozen BK1.out 2) | (go_at_call 45; (with_reducible refine (impl_within.calls a1 0 (a0_1.size : Int) true _ A2.out).mono ?_); rintro e w' ⟨rfl, ⟨nd, rfl⟩⟩))
            go_region
            have hW : (w16.drewN (nd + 1)).heap.size = w16.heap.size := rfl
            have hcell : ∀ j, j < s_.size → (Lib.bytesWorld (w16.drewN (nd + 1)) 5 s_).cell? ⟨w16.heap.size, j, none⟩ = some (.int .u8 ((bytesOf s_).getD j 0)) := fun j hj => by rw [← bytesOf_at' s_ j hj]; exact Lib.bytesWorld_cell (w16.drewN (nd + 1)) 5 s_ j hj
            have hfroz : ∀ j, j < s_.size → (Lib.bytesWorld (w16.drewN (nd + 1)) 5 s_).frozen? ⟨w16.heap.size, j, none⟩ = false := fun j hj => bw_frozen' (w16.drewN (nd + 1)) 5 s_ j hj
            have hlt := blk_lt BK1.out
            have BK2 := Aside0.mk ((Lib.bytesWorld_at_old (w16.drewN (nd + 1)) 5 s_ gb1 hlt).trans BK1.out)
            have HB2 := Aside0.mk (bytes_below (pw_below_drewN HB.out (nd + 1)) (by exact (below_size HB.out : w.heap.size ≤ w16.heap.size)) 5 s_)
            have hne : w16.heap.size ≠ gb1 := by omega
            have hne' : gb1 ≠ w16.heap.size := by omega
            have GE2 := Aside0.mk (below_size HB.out)
            have hx2 : wholeN a0_0 a0_1 a1 = bytesOf s_ := by unfold wholeN; rw [hx_, hs_]
            rw [hx2] at H
            generalize Lib.bytesWorld (w16.drewN (nd + 1)) 5 s_ = w30 at *
            generalize grownCap (w16.drewN (nd + 1)) s_.size 0 5 = cp at *
            generalize w16.heap.size = B at *
            have hxl : (bytesOf s_).length = s_.size := bytesOf_length s_
            rw [hxl] at H
            have hcz30_0 : w30.cell? ⟨gb1, 0, none⟩ = some (.string a0_0) := (blk_cell BK2.out 0).trans rfl
            have hcz30_1 : w30.cell? ⟨gb1, 1, none⟩ = some (.string a0_1) := (blk_cell BK2.out 1).trans rfl
            have hcz30_2 : w30.cell? ⟨gb1, 2, none⟩ = some (.int .i64 a0_2) := (blk_cell BK2.out 2).trans rfl
            have plain : ∀ (W : World) (xs : List Int), xs.length = s_.size → (∀ i, i < s_.size → W.cell? ⟨B, 0 + i, none⟩ = some (.int .u8 (xs.getD i 0))) → (convert 53 9 (.slice (some ⟨B, 0, none⟩) s_.size cp)).run Tryd.prog W = .ok (.string (strOfNums xs)) W :=
              fun W xs h1 h2 => run_convert_bytes_arg W 53 5 Tryd.underlying53 Tryd.underlying5 B 0 s_.size cp xs h1 h2 9 Tryd.underlying9
            have endNo : (a2 && decide (0 < a1)) = false → r1 = strOfNums (bytesOf s_) ∧ r2 = true := fun h => by
              have h1 := H.out
              rw [if_neg (by rw [h]; simp)] at h1
              simp only [Option.some.injEq, Prod.mk.injEq] at h1
              exact ⟨h1.1.symm, h1.2.symm⟩
            have kc := plain w30 (bytesOf s_) hxl (fun i hi => by rw [Nat.zero_add]; exact hcell i hi)
            cases a2 with
            | false =>
              obtain ⟨rfl, rfl⟩ := endNo rfl
              obtain ⟨y_, hy_⟩ : ∃ y_, strOfNums (bytesOf s_) = y_ := ⟨_, rfl⟩
              rw [hy_] at kc
              clear hcell hfroz plain endNo H kb
              go_wp2
              go_ret2
              exact ⟨by first | rfl | (simp [*]; done), HB2.out⟩
            | true =>
              by_cases c5 : 0 < a1
              · obtain ⟨m, hs1⟩ : ∃ m : Nat, s_.size = m + 1 := by
                  refine ⟨s_.size - 1, ?_⟩
                  have h9 := congrArg ByteArray.size hs_
                  have h8 := congrArg ByteArray.size hx_
                  rw [ByteArray.size_append] at h9
                  rw [ByteArray.size_extract] at h8
                  omega
                have h1 := H.out
                rw [if_pos (by simpa using c5), hs1, Nat.add_sub_cancel] at h1
                simp only [Option.some.injEq, Prod.mk.injEq] at h1
                obtain ⟨rfl, rfl⟩ := h1
                have hrd : rd (bytesOf s_) (m : Int) = (bytesOf s_).getD m 0 := rfl
                obtain ⟨v_, hv_⟩ : ∃ v_, rd (bytesOf s_) (m : Int) = v_ := ⟨_, rfl⟩
                have hm0 := hcell m (by omega)
                rw [← hrd, hv_] at hm0
                have hmf := hfroz m (by omega)
                have hw64 : wrap64 ((s_.size : Int) - 1) = (m : Int) := by unfold wrap64; have := cy; have h9 := congrArg ByteArray.size hs_; rw [ByteArray.size_append] at h9; omega
                have hwi : IntKind.i64.wrap ((s_.size : Int) - 1) = (m : Int) := (i64_w _).trans hw64
                have hcb' : (m : Int) < (s_.size : Int) := by omega
                have hcb := decide_eq_true hcb'
                have hcq := eq_true hcb'
                have hcp : (0 ≤ (m : Int)) = True := eq_true (by omega)
                have hcn : m < s_.size := by omega
                have hcn' := decide_eq_true hcn
                have c5b0 := decide_eq_true c5
                have c5b1 : decide (a1 > 0) = true := decide_eq_true (show a1 > 0 from c5)
                have PL := Aside0.mk plain
                have HC := Aside0.mk hcell
                have HXL := Aside0.mk hxl
                have HS1 := Aside0.mk hs1
                have HV := Aside0.mk hv_
                clear hcell hfroz plain endNo H kb hrd kc hx2 hs_ hx_ hxl hv_ hs1 hcb' hcn cy cy0 cy1 cy2 hxs
                have hcz31_0 : (w30.setCell ⟨B, m, none⟩ (.int .u8 ((255 - v_) % 256))).cell? ⟨gb1, 0, none⟩ = some (.string a0_0) := by
                  rw [World.cell?_setCell_other (h := by intro e; injection e; omega)]; exact hcz30_0
                have kc' := PL.out (w30.setCell ⟨B, m, none⟩ (.int .u8 ((255 - v_) % 256))) ((bytesOf s_).set m ((255 - v_) % 256)) (by rw [List.length_set]; exact HXL.out) (fun i hi => by
                  rw [Nat.zero_add]
                  by_cases e : i = m
                  · subst e; rw [World.cell?_setCell_same (h := hm0)]; simp [HXL.out, hi]
                  · rw [World.cell?_setCell_other (h := by intro q; injection q; omega), HC.out i hi]; simp [Ne.symm e])
                obtain ⟨y_, hy_⟩ : ∃ y_, strOfNums ((bytesOf s_).set m ((255 - v_) % 256)) = y_ := ⟨_, rfl⟩
                rw [hy_] at kc'
                go_wp2
                go_ret2
                exact ⟨by first | rfl | (have := HV.out; simp [*]; done), below_set HB2.out GE2.out⟩
              · obtain ⟨rfl, rfl⟩ := endNo (by simpa using c5)
                obtain ⟨y_, hy_⟩ : ∃ y_, strOfNums (bytesOf s_) = y_ := ⟨_, rfl⟩
                rw [hy_] at kc
                have c5b0 := decide_eq_false c5
                have c5b1 : decide (a1 > 0) = false := decide_eq_false c5
                have c5b2 : decide (a1 ≤ 0) = true := decide_eq_true (by omega)
                clear hcell hfroz plain endNo H kb
                go_wp2
                go_ret2
                exact ⟨by first | rfl | (simp [*]; done), HB2.out⟩
          · rw [if_neg c3] at h; cases h
        · rw [if_neg c2] at h; cases h
      · rw [if_neg c1] at h; cases h

end Go.Proofs.YtdpopkpoogmboaaDoor.P
