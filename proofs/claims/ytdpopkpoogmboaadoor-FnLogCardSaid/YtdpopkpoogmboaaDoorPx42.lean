-- Made by pp.py of this session out of the kit's print and of contracts proved by hand; Lean checks it.
import Derived.Test.YtdpopkpoogmboaaDoorPx0
import Derived.Test.YtdpopkpoogmboaaDoorPx1
import Derived.Test.YtdpopkpoogmboaaDoorPx2
import Derived.Test.YtdpopkpoogmboaaDoorPx7
import Derived.Test.YtdpopkpoogmboaaDoorPx8
import Derived.Test.YtdpopkpoogmboaaDoorPx13
import Derived.Test.YtdpopkpoogmboaaDoorPx15
import Derived.Test.YtdpopkpoogmboaaDoorPx17
import Derived.Test.YtdpopkpoogmboaaDoorPx19
import Derived.Test.YtdpopkpoogmboaaDoorPx20
import Derived.Test.YtdpopkpoogmboaaDoorPx21
import Derived.Test.YtdpopkpoogmboaaDoorPx26
import Derived.Test.YtdpopkpoogmboaaDoorPx28
import Derived.Test.YtdpopkpoogmboaaDoorPx41
namespace Go.Proofs.YtdpopkpoogmboaaDoor.P
open Go.RowKit Go.Proofs.YtdpopkpoogmboaaDoorW.PrintWords Go.Proofs.YtdpopkpoogmboaaDoorW.PrintLast Go.Proofs.YtdpopkpoogmboaaDoorW.PrintMore
attribute [local go_sem] max2_int min2_int max_two min_two max_three min_three max_four min_four   -- for this text's walks alone
set_option linter.unusedVariables false
set_option linter.unusedSimpArgs false

attribute [local go_sem high] eqA27 eqA31
/-! ### laws_FnLog: function 10 -/
mutual
def laws_FnLog.j0 : Nat → Int → Bool → ByteArray → ByteArray → Int → ByteArray → ByteArray → ByteArray → ByteArray → Int → Option (Bool)
  | 0, _, _, _, _, _, _, _, _, _, _ => none
  | k + 1, x6, x59, x530000, x530001, x530002, x531000, x531001, x536000, x536001, x536002 => if x59 = true then (some false) else (if x6 = 0 then ((impl_LogRecords.f k x536000 x536001 x536002).bind fun bt545 => ((impl_LogRecords.f k x530000 x530001 x530002).bind fun bt549 => (if x536000.size + x536001.size ≤ 9223372036854775807 then ((impl_RecoverLog.f k (x536000 ++ x536001)).bind fun bt553 => ((impl_SyncLog.f k x536000 x536001 x536002).bind fun bt559 => (if bt545.2 = true then (if (bt545.1.length : Int) = (wrap64 ((bt549.1.length : Int) + 1)) then (laws_FnLog.j1 k bt545.1 bt549.1 bt553.2.2.2.1 bt553.2.2.2.2 bt559.2.2.2 (x536002 != (bt545.1.length : Int)) x531000 x531001 x536000 x536001 x536002 bt553.1 bt553.2.1 bt553.2.2.1 bt559.1 bt559.2.1 bt559.2.2.1) else (laws_FnLog.j1 k bt545.1 bt549.1 bt553.2.2.2.1 bt553.2.2.2.2 bt559.2.2.2 true x531000 x531001 x536000 x536001 x536002 bt553.1 bt553.2.1 bt553.2.2.1 bt559.1 bt559.2.1 bt559.2.2.1)) else (laws_FnLog.j1 k bt545.1 bt549.1 bt553.2.2.2.1 bt553.2.2.2.2 bt559.2.2.2 true x531000 x531001 x536000 x536001 x536002 bt553.1 bt553.2.1 bt553.2.2.1 bt559.1 bt559.2.1 bt559.2.2.1)))) else (none)))) else (some (x536000.toList == x530000.toList && (x536001.toList == x530001.toList && (x536002 == x530002)))))
def laws_FnLog.j1 : Nat → List (S27) → List (S27) → Int → Bool → Bool → Bool → ByteArray → ByteArray → ByteArray → ByteArray → Int → ByteArray → ByteArray → Int → ByteArray → ByteArray → Int → Option (Bool)
  | 0, _, _, _, _, _, _, _, _, _, _, _, _, _, _, _, _, _ => none
  | k + 1, x9, x11, x14, x15, x17, x106, x531000, x531001, x536000, x536001, x536002, x559000, x559001, x559002, x564000, x564001, x564002 => if x106 = true then (some false) else (laws_FnLog.l0 k x9 x11 x14 x15 x17 0 x531000 x531001 x536000 x536001 x536002 x559000 x559001 x559002 x564000 x564001 x564002)
def laws_FnLog.l0 : Nat → List (S27) → List (S27) → Int → Bool → Bool → Int → ByteArray → ByteArray → ByteArray → ByteArray → Int → ByteArray → ByteArray → Int → ByteArray → ByteArray → Int → Option (Bool)
  | 0, _, _, _, _, _, _, _, _, _, _, _, _, _, _, _, _, _ => none
  | k + 1, x9, x11, x14, x15, x17, x18, x531000, x531001, x536000, x536001, x536002, x559000, x559001, x559002, x564000, x564001, x564002 => if x18 < (x11.length : Int) then (if 0 ≤ x18 then (if x18 < (x9.length : Int) then (if (!((((rd_T27 x9 x18).f0).toList) == (((rd_T27 x11 x18).f0).toList)) || (!((((rd_T27 x9 x18).f1).toList) == (((rd_T27 x11 x18).f1).toList)))) = true then (some false) else (laws_FnLog.l0 k x9 x11 x14 x15 x17 (wrap64 (x18 + 1)) x531000 x531001 x536000 x536001 x536002 x559000 x559001 x559002 x564000 x564001 x564002)) else (none)) else (none)) else (if 0 ≤ (x11.length : Int) then (if (x11.length : Int) < (x9.length : Int) then (if ((((rd_T27 x9 (x11.length : Int)).f0).toList) == x531000.toList && ((((rd_T27 x9 (x11.length : Int)).f1).toList) == x531001.toList)) = true then (if x15 = true then (if x536000.size + x536001.size ≤ 9223372036854775807 then (if x14 = ((x536000 ++ x536001).size : Int) then (if x17 = true then (if (x564000.toList == x559000.toList && (x564001.toList == x559001.toList && (x564002 == x559002))) = true then ((impl_IsValidLog.f k x536000 x536001 x536002).bind fun t567 => (some t567)) else (some false)) else (some false)) else (some false)) else (none)) else (some false)) else (some false)) else (none)) else (none))
end
def laws_FnLog.f (k : Nat) (l0 : List Int) : Option (Bool) := (laws_vBig.f l0).bind fun t523 => (if t523 = true then (some true) else ((spec_DrawAppendRecord.f k l0).bind fun bt524 => ((impl_AppendRecord.f k bt524.1 bt524.2.1 bt524.2.2.1 bt524.2.2.2.1 bt524.2.2.2.2).bind fun bt531 => ((spec_AppendRecord.f k bt524.1 bt524.2.1 bt524.2.2.1 bt524.2.2.2.1 bt524.2.2.2.2).bind fun bt536 => (if (!(bt531.1.toList == bt536.1.toList) || (!(bt531.2.1.toList == bt536.2.1.toList) || (!(bt531.2.2.1 == bt536.2.2.1)))) = true then (laws_FnLog.j0 k bt531.2.2.2 true bt524.1 bt524.2.1 bt524.2.2.1 bt524.2.2.2.1 bt524.2.2.2.2 bt531.1 bt531.2.1 bt531.2.2.1) else (if bt531.2.2.2 = bt536.2.2.2 then ((impl_IsValidLog.f k bt524.1 bt524.2.1 bt524.2.2.1).bind fun t541 => ((spec_IsValidLog.f k bt524.1 bt524.2.1 bt524.2.2.1).bind fun t542 => (if (t541 != t542) = true then (laws_FnLog.j0 k bt531.2.2.2 true bt524.1 bt524.2.1 bt524.2.2.1 bt524.2.2.2.1 bt524.2.2.2.2 bt531.1 bt531.2.1 bt531.2.2.1) else ((impl_IsValidRecord.f k bt524.2.2.2.1 bt524.2.2.2.2).bind fun t543 => ((spec_IsValidRecord.f k bt524.2.2.2.1 bt524.2.2.2.2).bind fun t544 => (laws_FnLog.j0 k bt531.2.2.2 (t543 != t544) bt524.1 bt524.2.1 bt524.2.2.1 bt524.2.2.2.1 bt524.2.2.2.2 bt531.1 bt531.2.1 bt531.2.2.1)))))) else (laws_FnLog.j0 k bt531.2.2.2 true bt524.1 bt524.2.1 bt524.2.2.1 bt524.2.2.2.1 bt524.2.2.2.2 bt531.1 bt531.2.1 bt531.2.2.1)))))))
def laws_FnLog.T6 : Bool × List (List Nat × List Nat) := (true, [([], []), ([], []), ([0, 1], [0, 1]), ([2], [2]), ([3], [3]), ([3], [3]), ([4, 5, 3], [3, 4, 5]), ([3, 6], [3, 6]), ([7, 3], [7]), ([8], [8]), ([9, 8, 8], [8, 9]), ([8], [8]), ([11, 10, 8], [8, 11]), ([10, 12, 8], [8, 10, 12]), ([8, 13], [8, 13]), ([14, 12], [14]), ([15], [15]), ([16, 15, 15], [15, 16]), ([15], [15]), ([18, 17, 15], [15, 18]), ([17, 19, 15], [15, 17, 19]), ([15, 20], [15, 20])])
def laws_FnLog.B6 : List Nat := [0, 0, 3, 7, 15, 15, 63, 127, 255, 511, 1023, 511, 4095, 8191, 16383, 32767, 65535, 131071, 65535, 524287, 1048575, 2097151]
theorem laws_FnLog.tab6 : rtab .any (opsOf Tryd.f10 6) = laws_FnLog.T6 := by kernel_rfl
theorem laws_FnLog.bits6 : waitsOk laws_FnLog.T6.2 laws_FnLog.B6 = true := by kernel_rfl
def laws_FnLog.T19 : Bool × List (List Nat × List Nat) := (true, [([], []), ([], []), ([0, 1], [0, 1]), ([2], [2]), ([], []), ([], []), ([4, 5], [4, 5]), ([6], [6]), ([3, 7], [3, 7])])
def laws_FnLog.B19 : List Nat := [0, 0, 3, 7, 0, 0, 48, 112, 255]
theorem laws_FnLog.tab19 : rtab .any (opsOf Tryd.f10 19) = laws_FnLog.T19 := by kernel_rfl
theorem laws_FnLog.bits19 : waitsOk laws_FnLog.T19.2 laws_FnLog.B19 = true := by kernel_rfl
def laws_FnLog.T21 : Bool × List (List Nat × List Nat) := (true, [([], []), ([], []), ([1], [1]), ([0, 2], [0, 2]), ([3], [3]), ([], []), ([4, 5], [4, 5]), ([6], [6]), ([7], [7]), ([7, 8], [7, 8]), ([9, 7], [9]), ([10], [10]), ([10], [10]), ([12, 10], [10, 12]), ([10], [10]), ([14, 10], [10, 14]), ([13, 15, 10], [10, 13, 15]), ([16, 10], [10, 16]), ([11, 17, 10], [10, 11, 17]), ([10, 18], [10, 18]), ([19, 10], [19]), ([20], [20]), ([20, 21], [20, 21]), ([22, 20], [22]), ([23], [23]), ([23], [23]), ([24, 25, 23], [23, 24, 25]), ([23, 26], [23, 26]), ([27, 23], [27]), ([28], [28]), ([29, 28, 28], [28, 29]), ([28, 30], [28, 30]), ([31, 30, 0, 1, 2, 3, 4, 5, 6, 7, 8, 9, 10, 11, 12, 13, 14, 15, 16, 17, 18, 19, 20, 21, 22, 23, 24, 25, 26, 27, 28, 29, 30, 31], [31])])
def laws_FnLog.B21 : List Nat := [0, 0, 2, 7, 15, 0, 63, 127, 255, 511, 1023, 2047, 2047, 6143, 2047, 18431, 63487, 129023, 262143, 524287, 1048575, 2097151, 4194303, 8388607, 16777215, 16777215, 67108863, 134217727, 268435455, 536870911, 1073741823, 2147483647, 4294967295]
theorem laws_FnLog.tab21 : rtab .any (opsOf Tryd.f10 21) = laws_FnLog.T21 := by kernel_rfl
theorem laws_FnLog.bits21 : waitsOk laws_FnLog.T21.2 laws_FnLog.B21 = true := by kernel_rfl
set_option maxHeartbeats 8000000 in
set_option maxRecDepth 100000 in
theorem laws_FnLog.calls (k : Nat) (A0 : Option Addr) (c0 : Nat) (l0 : List Int) (r : Bool) (w : World) (hr0 : Kd.C (Kd.int .u8) w A0 l0.length l0) (hc0 : l0.length ≤ c0) (h : laws_FnLog.f k l0 = some r) (hrt_ : r = true) (hG_ : GW w) :
    Calls Tryd.prog 10 #[.slice A0 l0.length c0] w fun e w' => e = .returned (.bool r) ∧ Below w.heap.size w w' := by
  have HG := Aside0.mk hG_
  clear hG_
  have hu31 := Tryd.underlying31
  have hu27 := Tryd.underlying27
  have HR0 := Aside0.mk hr0
  have HC0 := Aside0.mk hc0
  clear hr0 hc0
  have HB := Aside0.mk (Below.refl w.heap.size w)
  have H : ((laws_vBig.f l0).bind fun t523 => (if t523 = true then (some true) else ((spec_DrawAppendRecord.f k l0).bind fun bt524 => ((impl_AppendRecord.f k bt524.1 bt524.2.1 bt524.2.2.1 bt524.2.2.2.1 bt524.2.2.2.2).bind fun bt531 => ((spec_AppendRecord.f k bt524.1 bt524.2.1 bt524.2.2.1 bt524.2.2.2.1 bt524.2.2.2.2).bind fun bt536 => (if (!(bt531.1.toList == bt536.1.toList) || (!(bt531.2.1.toList == bt536.2.1.toList) || (!(bt531.2.2.1 == bt536.2.2.1)))) = true then (laws_FnLog.j0 k bt531.2.2.2 true bt524.1 bt524.2.1 bt524.2.2.1 bt524.2.2.2.1 bt524.2.2.2.2 bt531.1 bt531.2.1 bt531.2.2.1) else (if bt531.2.2.2 = bt536.2.2.2 then ((impl_IsValidLog.f k bt524.1 bt524.2.1 bt524.2.2.1).bind fun t541 => ((spec_IsValidLog.f k bt524.1 bt524.2.1 bt524.2.2.1).bind fun t542 => (if (t541 != t542) = true then (laws_FnLog.j0 k bt531.2.2.2 true bt524.1 bt524.2.1 bt524.2.2.1 bt524.2.2.2.1 bt524.2.2.2.2 bt531.1 bt531.2.1 bt531.2.2.1) else ((impl_IsValidRecord.f k bt524.2.2.2.1 bt524.2.2.2.2).bind fun t543 => ((spec_IsValidRecord.f k bt524.2.2.2.1 bt524.2.2.2.2).bind fun t544 => (laws_FnLog.j0 k bt531.2.2.2 (t543 != t544) bt524.1 bt524.2.1 bt524.2.2.1 bt524.2.2.2.1 bt524.2.2.2.2 bt531.1 bt531.2.1 bt531.2.2.1)))))) else (laws_FnLog.j0 k bt531.2.2.2 true bt524.1 bt524.2.1 bt524.2.2.1 bt524.2.2.2.1 bt524.2.2.2.2 bt531.1 bt531.2.1 bt531.2.2.1)))))))) = some r := h
  clear h
  replace H := Option.bind_eq_some_iff.mp H
  obtain ⟨t523, A20, H⟩ := H
  replace H : (if t523 = true then (some true) else ((spec_DrawAppendRecord.f k l0).bind fun bt524 => ((impl_AppendRecord.f k bt524.1 bt524.2.1 bt524.2.2.1 bt524.2.2.2.1 bt524.2.2.2.2).bind fun bt531 => ((spec_AppendRecord.f k bt524.1 bt524.2.1 bt524.2.2.1 bt524.2.2.2.1 bt524.2.2.2.2).bind fun bt536 => (if (!(bt531.1.toList == bt536.1.toList) || (!(bt531.2.1.toList == bt536.2.1.toList) || (!(bt531.2.2.1 == bt536.2.2.1)))) = true then (laws_FnLog.j0 k bt531.2.2.2 true bt524.1 bt524.2.1 bt524.2.2.1 bt524.2.2.2.1 bt524.2.2.2.2 bt531.1 bt531.2.1 bt531.2.2.1) else (if bt531.2.2.2 = bt536.2.2.2 then ((impl_IsValidLog.f k bt524.1 bt524.2.1 bt524.2.2.1).bind fun t541 => ((spec_IsValidLog.f k bt524.1 bt524.2.1 bt524.2.2.1).bind fun t542 => (if (t541 != t542) = true then (laws_FnLog.j0 k bt531.2.2.2 true bt524.1 bt524.2.1 bt524.2.2.1 bt524.2.2.2.1 bt524.2.2.2.2 bt531.1 bt531.2.1 bt531.2.2.1) else ((impl_IsValidRecord.f k bt524.2.2.2.1 bt524.2.2.2.2).bind fun t543 => ((spec_IsValidRecord.f k bt524.2.2.2.1 bt524.2.2.2.2).bind fun t544 => (laws_FnLog.j0 k bt531.2.2.2 (t543 != t544) bt524.1 bt524.2.1 bt524.2.2.1 bt524.2.2.2.1 bt524.2.2.2.2 bt531.1 bt531.2.1 bt531.2.2.1)))))) else (laws_FnLog.j0 k bt531.2.2.2 true bt524.1 bt524.2.1 bt524.2.2.1 bt524.2.2.2.1 bt524.2.2.2.2 bt531.1 bt531.2.1 bt531.2.2.1))))))) = some r := H
  have A2 := Aside0.mk A20
  clear A20
  by_cases c3 : t523 = true
  · subst c3
    have H1 : (some true) = some r := by rw [if_pos rfl] at H; exact H
    clear H
    have H := H1
    clear H1
    obtain rfl := Option.some.inj H
    go_enter Tryd.func10, Tryd.ntmps10
    go_wp2_with (first | ((with_reducible refine gate_callee (f := 35) rfl ?_); refine goesL_ (some 20) rfl rfl Tryd.func35 (by kernel_rfl) rfl #[.slice A0 l0.length c0] rfl (by (try simp only [List.map_toArray, List.map_cons, List.map_nil]); first | done | rfl | (simp only [List.length_drop, List.length_take]; rfl)) ?_; (with_reducible refine (laws_vBig.calls _ _ l0 true _ ?side1 ?side2 A2.out).mono ?_); (case side1 => repeat (first | exact HR0.out | (with_reducible refine Kd.C_alloc ?_ _) | (with_reducible refine Kd.C_drewN ?_ _) | (with_reducible refine Kd.C_drew ?_))); (case side2 => exact HC0.out); rintro e w' ⟨rfl, ⟨nd, rfl⟩⟩; refine ⟨_, rfl, ?_⟩))
    go_ret
    exact ⟨by first | rfl | (simp [errW_none, errW_some] <;> rfl) | (simp [*, errW_none, errW_some] <;> rfl), by repeat (first | (with_reducible first | exact HB.out | apply below_alloc | apply pw_below_drewN | apply below_drew1) | exact HB.out)⟩
  · replace c3 := Bool.eq_false_iff.mpr c3
    subst c3
    have H1 : ((spec_DrawAppendRecord.f k l0).bind fun bt524 => ((impl_AppendRecord.f k bt524.1 bt524.2.1 bt524.2.2.1 bt524.2.2.2.1 bt524.2.2.2.2).bind fun bt531 => ((spec_AppendRecord.f k bt524.1 bt524.2.1 bt524.2.2.1 bt524.2.2.2.1 bt524.2.2.2.2).bind fun bt536 => (if (!(bt531.1.toList == bt536.1.toList) || (!(bt531.2.1.toList == bt536.2.1.toList) || (!(bt531.2.2.1 == bt536.2.2.1)))) = true then (laws_FnLog.j0 k bt531.2.2.2 true bt524.1 bt524.2.1 bt524.2.2.1 bt524.2.2.2.1 bt524.2.2.2.2 bt531.1 bt531.2.1 bt531.2.2.1) else (if bt531.2.2.2 = bt536.2.2.2 then ((impl_IsValidLog.f k bt524.1 bt524.2.1 bt524.2.2.1).bind fun t541 => ((spec_IsValidLog.f k bt524.1 bt524.2.1 bt524.2.2.1).bind fun t542 => (if (t541 != t542) = true then (laws_FnLog.j0 k bt531.2.2.2 true bt524.1 bt524.2.1 bt524.2.2.1 bt524.2.2.2.1 bt524.2.2.2.2 bt531.1 bt531.2.1 bt531.2.2.1) else ((impl_IsValidRecord.f k bt524.2.2.2.1 bt524.2.2.2.2).bind fun t543 => ((spec_IsValidRecord.f k bt524.2.2.2.1 bt524.2.2.2.2).bind fun t544 => (laws_FnLog.j0 k bt531.2.2.2 (t543 != t544) bt524.1 bt524.2.1 bt524.2.2.1 bt524.2.2.2.1 bt524.2.2.2.2 bt531.1 bt531.2.1 bt531.2.2.1)))))) else (laws_FnLog.j0 k bt531.2.2.2 true bt524.1 bt524.2.1 bt524.2.2.1 bt524.2.2.2.1 bt524.2.2.2.2 bt531.1 bt531.2.1 bt531.2.2.1)))))) = some r := by rw [if_neg (show ¬ (false = true) by decide)] at H; exact H
    clear H
    have H := H1
    clear H1
    replace H := Option.bind_eq_some_iff.mp H
    obtain ⟨⟨t524, t525, t526, t527, t528⟩, A40, H⟩ := H
    replace H : ((impl_AppendRecord.f k t524 t525 t526 t527 t528).bind fun bt531 => ((spec_AppendRecord.f k t524 t525 t526 t527 t528).bind fun bt536 => (if (!(bt531.1.toList == bt536.1.toList) || (!(bt531.2.1.toList == bt536.2.1.toList) || (!(bt531.2.2.1 == bt536.2.2.1)))) = true then (laws_FnLog.j0 k bt531.2.2.2 true t524 t525 t526 t527 t528 bt531.1 bt531.2.1 bt531.2.2.1) else (if bt531.2.2.2 = bt536.2.2.2 then ((impl_IsValidLog.f k t524 t525 t526).bind fun t541 => ((spec_IsValidLog.f k t524 t525 t526).bind fun t542 => (if (t541 != t542) = true then (laws_FnLog.j0 k bt531.2.2.2 true t524 t525 t526 t527 t528 bt531.1 bt531.2.1 bt531.2.2.1) else ((impl_IsValidRecord.f k t527 t528).bind fun t543 => ((spec_IsValidRecord.f k t527 t528).bind fun t544 => (laws_FnLog.j0 k bt531.2.2.2 (t543 != t544) t524 t525 t526 t527 t528 bt531.1 bt531.2.1 bt531.2.2.1)))))) else (laws_FnLog.j0 k bt531.2.2.2 true t524 t525 t526 t527 t528 bt531.1 bt531.2.1 bt531.2.2.1))))) = some r := H
    have A4 := Aside0.mk A40
    clear A40
    replace H := Option.bind_eq_some_iff.mp H
    obtain ⟨⟨t531, t532, t533, t534⟩, A50, H⟩ := H
    replace H : ((spec_AppendRecord.f k t524 t525 t526 t527 t528).bind fun bt536 => (if (!(t531.toList == bt536.1.toList) || (!(t532.toList == bt536.2.1.toList) || (!(t533 == bt536.2.2.1)))) = true then (laws_FnLog.j0 k t534 true t524 t525 t526 t527 t528 t531 t532 t533) else (if t534 = bt536.2.2.2 then ((impl_IsValidLog.f k t524 t525 t526).bind fun t541 => ((spec_IsValidLog.f k t524 t525 t526).bind fun t542 => (if (t541 != t542) = true then (laws_FnLog.j0 k t534 true t524 t525 t526 t527 t528 t531 t532 t533) else ((impl_IsValidRecord.f k t527 t528).bind fun t543 => ((spec_IsValidRecord.f k t527 t528).bind fun t544 => (laws_FnLog.j0 k t534 (t543 != t544) t524 t525 t526 t527 t528 t531 t532 t533)))))) else (laws_FnLog.j0 k t534 true t524 t525 t526 t527 t528 t531 t532 t533)))) = some r := H
    have A5 := Aside0.mk A50
    clear A50
    replace H := Option.bind_eq_some_iff.mp H
    obtain ⟨⟨t536, t537, t538, t539⟩, A60, H⟩ := H
    replace H : (if (!(t531.toList == t536.toList) || (!(t532.toList == t537.toList) || (!(t533 == t538)))) = true then (laws_FnLog.j0 k t534 true t524 t525 t526 t527 t528 t531 t532 t533) else (if t534 = t539 then ((impl_IsValidLog.f k t524 t525 t526).bind fun t541 => ((spec_IsValidLog.f k t524 t525 t526).bind fun t542 => (if (t541 != t542) = true then (laws_FnLog.j0 k t534 true t524 t525 t526 t527 t528 t531 t532 t533) else ((impl_IsValidRecord.f k t527 t528).bind fun t543 => ((spec_IsValidRecord.f k t527 t528).bind fun t544 => (laws_FnLog.j0 k t534 (t543 != t544) t524 t525 t526 t527 t528 t531 t532 t533)))))) else (laws_FnLog.j0 k t534 true t524 t525 t526 t527 t528 t531 t532 t533))) = some r := H
    have A6 := Aside0.mk A60
    clear A60
    have HC7 := Aside0.mk H
    clear H
    go_enter Tryd.func10, Tryd.ntmps10
    go_upto_region 6 with (first | ((with_reducible refine gate_callee (f := 35) rfl ?_); refine goesL_ (some 20) rfl rfl Tryd.func35 (by kernel_rfl) rfl #[.slice A0 l0.length c0] rfl (by (try simp only [List.map_toArray, List.map_cons, List.map_nil]); first | done | rfl | (simp only [List.length_drop, List.length_take]; rfl)) ?_; (with_reducible refine (laws_vBig.calls _ _ l0 false _ ?side1 ?side2 A2.out).mono ?_); (case side1 => repeat (first | exact HR0.out | (with_reducible refine Kd.C_alloc ?_ _) | (with_reducible refine Kd.C_drewN ?_ _) | (with_reducible refine Kd.C_drew ?_))); (case side2 => exact HC0.out); rintro e w' ⟨rfl, ⟨nd, rfl⟩⟩; refine ⟨_, rfl, ?_⟩) | ((with_reducible refine gate_callee (f := 36) rfl ?_); refine goesL_ (some 23) rfl rfl Tryd.func36 (by kernel_rfl) rfl #[.slice A0 l0.length c0] rfl (by (try simp only [List.map_toArray, List.map_cons, List.map_nil]); first | done | rfl | (simp only [List.length_drop, List.length_take]; rfl)) ?_; (with_reducible refine (spec_DrawAppendRecord.calls k _ _ l0 t524 t525 t526 t527 t528 _ ?side1 ?side2 A4.out).mono ?_); (case side1 => repeat (first | exact HR0.out | (with_reducible refine Kd.C_alloc ?_ _) | (with_reducible refine Kd.C_drewN ?_ _) | (with_reducible refine Kd.C_drew ?_))); (case side2 => exact HC0.out); rintro e w8 ⟨rfl, hb⟩; refine ⟨_, rfl, ?_⟩; have n0_ := Aside0.mk (below_step (by repeat (first | (with_reducible first | exact HB.out | apply below_alloc | apply pw_below_drewN | apply below_drew1) | exact HB.out)) hb); clear HB; have HB := n0_; clear n0_; (try clear hb); (try clear hb2); (try clear hk); (try clear hi)) | ((with_reducible refine gate_dst (N := 3) rfl ?_); (try (refine gate_guard (by rfl) ?_; dsimp only)); refine box_event ?hg (N := 3) ?hd (cs := #[.string (⟨#[]⟩ : ByteArray), .string (⟨#[]⟩ : ByteArray), .int .i64 0]) (t := 31) ?hr ?_; (case hd => rfl); (case hg => rfl); (case hr => first | (go_simp; done) | (go_simp; rfl)); intro gb529 hg w9 hbox hb; have n0_ := Aside0.mk (below_step (by repeat (first | (with_reducible first | exact HB.out | apply below_alloc | apply pw_below_drewN | apply below_drew1) | exact HB.out)) hb); have n1_ := Aside0.mk (hbox); have n2_ := Aside0.mk ((by rw [hg]; exact (below_size (by repeat (first | (with_reducible first | exact HB.out | apply below_alloc | apply pw_below_drewN | apply below_drew1) | exact HB.out))) : w.heap.size ≤ gb529)); have n3_ := Aside0.mk ((by rw [hg]; exact (below_size (by repeat (first | (with_reducible first | exact HB.out | apply below_alloc | apply pw_below_drewN | apply below_drew1) | exact HB.out))) : w.heap.size ≤ gb529)); clear HB; have HB := n0_; have BK529 := n1_; have GW529 := n2_; have GE529 := n3_; clear n0_ n1_ n2_ n3_; clear hb hbox hg) | ((with_reducible refine gate_dst (N := 4) rfl ?_); (try (refine gate_guard (by rfl) ?_; dsimp only)); refine box_event ?hg (N := 4) ?hd (cs := #[.string (⟨#[]⟩ : ByteArray), .string (⟨#[]⟩ : ByteArray)]) (t := 27) ?hr ?_; (case hd => rfl); (case hg => rfl); (case hr => first | (go_simp; done) | (go_simp; rfl)); intro gb530 hg w10 hbox hb; have n0_ := Aside0.mk (blk_below (g := gb529) (o := .cells #[.string (⟨#[]⟩ : ByteArray), .string (⟨#[]⟩ : ByteArray), .int .i64 0] 31 (0, 0)) BK529.out hb); have n1_ := Aside0.mk (below_step (by repeat (first | (with_reducible first | exact HB.out | apply below_alloc | apply pw_below_drewN | apply below_drew1 | refine below_set ?_ GE529.out) | exact HB.out)) hb); have n2_ := Aside0.mk (hbox); have n3_ := Aside0.mk ((by rw [hg]; exact (below_size (by repeat (first | (with_reducible first | exact HB.out | apply below_alloc | apply pw_below_drewN | apply below_drew1 | refine below_set ?_ GE529.out) | exact HB.out))) : w.heap.size ≤ gb530)); have n4_ := Aside0.mk ((by rw [hg]; exact (below_size (by repeat (first | (with_reducible first | exact HB.out | apply below_alloc | apply pw_below_drewN | apply below_drew1 | refine below_set ?_ GE529.out) | exact HB.out))) : w.heap.size ≤ gb530)); have n5_ := Aside0.mk ((by rw [hg]; exact Nat.ne_of_lt (blk_lt (g := gb529) (o := .cells #[.string (⟨#[]⟩ : ByteArray), .string (⟨#[]⟩ : ByteArray), .int .i64 0] 31 (0, 0)) BK529.out) : gb529 ≠ gb530)); have n6_ := Aside0.mk ((by rw [hg]; exact Nat.ne_of_gt (blk_lt (g := gb529) (o := .cells #[.string (⟨#[]⟩ : ByteArray), .string (⟨#[]⟩ : ByteArray), .int .i64 0] 31 (0, 0)) BK529.out) : gb530 ≠ gb529)); clear BK529; clear HB; have BK529 := n0_; have HB := n1_; have BK530 := n2_; have GW530 := n3_; have GE530 := n4_; have NB529_530 := n5_; have NB530_529 := n6_; clear n0_ n1_ n2_ n3_ n4_ n5_ n6_; clear hb hbox hg; have hnb11 := NB529_530.out; have hnc11 := NB530_529.out; have hcz12_0 : w10.cell? ⟨gb529, 0, none⟩ = some (.string (⟨#[]⟩ : ByteArray)) := (blk_cell BK529.out 0).trans rfl; have hcz12_1 : w10.cell? ⟨gb529, 1, none⟩ = some (.string (⟨#[]⟩ : ByteArray)) := (blk_cell BK529.out 1).trans rfl; have hcz12_2 : w10.cell? ⟨gb529, 2, none⟩ = some (.int .i64 0) := (blk_cell BK529.out 2).trans rfl; have hfz12_0 := blk_frozen BK529.out 0; have hfz12_1 := blk_frozen BK529.out 1; have hfz12_2 := blk_frozen BK529.out 2; have hcz13_0 : w10.cell? ⟨gb530, 0, none⟩ = some (.string (⟨#[]⟩ : ByteArray)) := (blk_cell BK530.out 0).trans rfl; have hcz13_1 : w10.cell? ⟨gb530, 1, none⟩ = some (.string (⟨#[]⟩ : ByteArray)) := (blk_cell BK530.out 1).trans rfl; have hfz13_0 := blk_frozen BK530.out 0; have hfz13_1 := blk_frozen BK530.out 1) | ((with_reducible refine gate_callee (f := 29) rfl ?_); refine goesL_ (some 29) rfl rfl Tryd.func29 (by kernel_rfl) rfl #[.agg #[.string t524, .string t525, .int .i64 t526], .agg #[.string t527, .string t528]] rfl (by (try simp only [List.map_toArray, List.map_cons, List.map_nil]); first | done | rfl | (simp only [List.length_drop, List.length_take]; rfl)) ?_; (with_reducible refine (impl_AppendRecord.calls k t524 t525 t526 t527 t528 t531 t532 t533 t534 _ A5.out ?sideG).mono ?_); (case sideG => exact (gw_below HG.out (by repeat (first | (with_reducible first | exact HB.out | apply below_alloc | apply pw_below_drewN | apply below_drew1 | refine below_set ?_ GE529.out | refine below_set ?_ GE530.out) | exact HB.out)))); rintro e w14 ⟨rfl, hb⟩; refine ⟨_, rfl, ?_⟩; have n0_ := Aside0.mk (blk_below (g := gb529) (o := .cells #[.string t524, .string t525, .int .i64 t526] 31 (0, 0)) (by (with_reducible repeat (first | refine blk_drewN ?_ _ | refine blk_drew ?_ | refine blk_alloc ?_ _)); refine blk_far ?_ NB529_530.out _; (with_reducible repeat (first | refine blk_drewN ?_ _ | refine blk_drew ?_ | refine blk_alloc ?_ _)); refine blk_far ?_ NB529_530.out _; (with_reducible repeat (first | refine blk_drewN ?_ _ | refine blk_drew ?_ | refine blk_alloc ?_ _)); refine blk_put (cs := #[.string t524, .string t525, .int .i64 0]) ?_ 2 _ rfl; (with_reducible repeat (first | refine blk_drewN ?_ _ | refine blk_drew ?_ | refine blk_alloc ?_ _)); refine blk_put (cs := #[.string t524, .string (⟨#[]⟩ : ByteArray), .int .i64 0]) ?_ 1 _ rfl; (with_reducible repeat (first | refine blk_drewN ?_ _ | refine blk_drew ?_ | refine blk_alloc ?_ _)); refine blk_put (cs := #[.string (⟨#[]⟩ : ByteArray), .string (⟨#[]⟩ : ByteArray), .int .i64 0]) ?_ 0 _ rfl; (with_reducible repeat (first | refine blk_drewN ?_ _ | refine blk_drew ?_ | refine blk_alloc ?_ _)); exact BK529.out) hb); have n1_ := Aside0.mk (blk_below (g := gb530) (o := .cells #[.string t527, .string t528] 27 (0, 0)) (by (with_reducible repeat (first | refine blk_drewN ?_ _ | refine blk_drew ?_ | refine blk_alloc ?_ _)); refine blk_put (cs := #[.string t527, .string (⟨#[]⟩ : ByteArray)]) ?_ 1 _ rfl; (with_reducible repeat (first | refine blk_drewN ?_ _ | refine blk_drew ?_ | refine blk_alloc ?_ _)); refine blk_put (cs := #[.string (⟨#[]⟩ : ByteArray), .string (⟨#[]⟩ : ByteArray)]) ?_ 0 _ rfl; (with_reducible repeat (first | refine blk_drewN ?_ _ | refine blk_drew ?_ | refine blk_alloc ?_ _)); refine blk_far ?_ NB530_529.out _; (with_reducible repeat (first | refine blk_drewN ?_ _ | refine blk_drew ?_ | refine blk_alloc ?_ _)); refine blk_far ?_ NB530_529.out _; (with_reducible repeat (first | refine blk_drewN ?_ _ | refine blk_drew ?_ | refine blk_alloc ?_ _)); refine blk_far ?_ NB530_529.out _; (with_reducible repeat (first | refine blk_drewN ?_ _ | refine blk_drew ?_ | refine blk_alloc ?_ _)); exact BK530.out) hb); have n2_ := Aside0.mk (below_step (by repeat (first | (with_reducible first | exact HB.out | apply below_alloc | apply pw_below_drewN | apply below_drew1 | refine below_set ?_ GE529.out | refine below_set ?_ GE530.out) | exact HB.out)) hb); clear BK529; clear BK530; clear HB; have BK529 := n0_; have BK530 := n1_; have HB := n2_; clear n0_ n1_ n2_; (try clear hb); (try clear hb2); (try clear hk); (try clear hi)) | ((with_reducible refine gate_dst (N := 5) rfl ?_); (try (refine gate_guard (by rfl) ?_; dsimp only)); refine box_event ?hg (N := 5) ?hd (cs := #[.string (⟨#[]⟩ : ByteArray), .string (⟨#[]⟩ : ByteArray), .int .i64 0]) (t := 31) ?hr ?_; (case hd => rfl); (case hg => rfl); (case hr => first | (go_simp; done) | (go_simp; rfl)); intro gb535 hg w15 hbox hb; have n0_ := Aside0.mk (blk_below (g := gb529) (o := .cells #[.string t524, .string t525, .int .i64 t526] 31 (0, 0)) BK529.out hb); have n1_ := Aside0.mk (blk_below (g := gb530) (o := .cells #[.string t527, .string t528] 27 (0, 0)) BK530.out hb); have n2_ := Aside0.mk (below_step (by repeat (first | (with_reducible first | exact HB.out | apply below_alloc | apply pw_below_drewN | apply below_drew1 | refine below_set ?_ GE529.out | refine below_set ?_ GE530.out) | exact HB.out)) hb); have n3_ := Aside0.mk (hbox); have n4_ := Aside0.mk ((by rw [hg]; exact (below_size (by repeat (first | (with_reducible first | exact HB.out | apply below_alloc | apply pw_below_drewN | apply below_drew1 | refine below_set ?_ GE529.out | refine below_set ?_ GE530.out) | exact HB.out))) : w.heap.size ≤ gb535)); have n5_ := Aside0.mk ((by rw [hg]; exact (below_size (by repeat (first | (with_reducible first | exact HB.out | apply below_alloc | apply pw_below_drewN | apply below_drew1 | refine below_set ?_ GE529.out | refine below_set ?_ GE530.out) | exact HB.out))) : w.heap.size ≤ gb535)); have n6_ := Aside0.mk ((by rw [hg]; exact Nat.ne_of_lt (blk_lt (g := gb529) (o := .cells #[.string t524, .string t525, .int .i64 t526] 31 (0, 0)) BK529.out) : gb529 ≠ gb535)); have n7_ := Aside0.mk ((by rw [hg]; exact Nat.ne_of_gt (blk_lt (g := gb529) (o := .cells #[.string t524, .string t525, .int .i64 t526] 31 (0, 0)) BK529.out) : gb535 ≠ gb529)); have n8_ := Aside0.mk ((by rw [hg]; exact Nat.ne_of_lt (blk_lt (g := gb530) (o := .cells #[.string t527, .string t528] 27 (0, 0)) BK530.out) : gb530 ≠ gb535)); have n9_ := Aside0.mk ((by rw [hg]; exact Nat.ne_of_gt (blk_lt (g := gb530) (o := .cells #[.string t527, .string t528] 27 (0, 0)) BK530.out) : gb535 ≠ gb530)); clear BK529; clear BK530; clear HB; have BK529 := n0_; have BK530 := n1_; have HB := n2_; have BK535 := n3_; have GW535 := n4_; have GE535 := n5_; have NB529_535 := n6_; have NB535_529 := n7_; have NB530_535 := n8_; have NB535_530 := n9_; clear n0_ n1_ n2_ n3_ n4_ n5_ n6_ n7_ n8_ n9_; clear hb hbox hg; have hnb16 := NB535_529.out; have hnc16 := NB529_535.out; have hnb17 := NB535_530.out; have hnc17 := NB530_535.out; have hcz18_0 : w15.cell? ⟨gb535, 0, none⟩ = some (.string (⟨#[]⟩ : ByteArray)) := (blk_cell BK535.out 0).trans rfl; have hcz18_1 : w15.cell? ⟨gb535, 1, none⟩ = some (.string (⟨#[]⟩ : ByteArray)) := (blk_cell BK535.out 1).trans rfl; have hcz18_2 : w15.cell? ⟨gb535, 2, none⟩ = some (.int .i64 0) := (blk_cell BK535.out 2).trans rfl; have hfz18_0 := blk_frozen BK535.out 0; have hfz18_1 := blk_frozen BK535.out 1; have hfz18_2 := blk_frozen BK535.out 2; have hcz19_0 : w15.cell? ⟨gb529, 0, none⟩ = some (.string t524) := (blk_cell BK529.out 0).trans rfl; have hcz19_1 : w15.cell? ⟨gb529, 1, none⟩ = some (.string t525) := (blk_cell BK529.out 1).trans rfl; have hcz19_2 : w15.cell? ⟨gb529, 2, none⟩ = some (.int .i64 t526) := (blk_cell BK529.out 2).trans rfl; have hfz19_0 := blk_frozen BK529.out 0; have hfz19_1 := blk_frozen BK529.out 1; have hfz19_2 := blk_frozen BK529.out 2; have hcz20_0 : w15.cell? ⟨gb530, 0, none⟩ = some (.string t527) := (blk_cell BK530.out 0).trans rfl; have hcz20_1 : w15.cell? ⟨gb530, 1, none⟩ = some (.string t528) := (blk_cell BK530.out 1).trans rfl; have hfz20_0 := blk_frozen BK530.out 0; have hfz20_1 := blk_frozen BK530.out 1) | ((with_reducible refine gate_callee (f := 28) rfl ?_); refine goesL_ (some 35) rfl rfl Tryd.func28 (by kernel_rfl) rfl #[.agg #[.string t524, .string t525, .int .i64 t526], .agg #[.string t527, .string t528]] rfl (by (try simp only [List.map_toArray, List.map_cons, List.map_nil]); first | done | rfl | (simp only [List.length_drop, List.length_take]; rfl)) ?_; (with_reducible refine (spec_AppendRecord.calls k t524 t525 t526 t527 t528 t536 t537 t538 t539 _ A6.out).mono ?_); rintro e w21 ⟨rfl, hb⟩; refine ⟨_, rfl, ?_⟩; have n0_ := Aside0.mk (blk_below (g := gb529) (o := .cells #[.string t524, .string t525, .int .i64 t526] 31 (0, 0)) (by (with_reducible repeat (first | refine blk_drewN ?_ _ | refine blk_drew ?_ | refine blk_alloc ?_ _)); refine blk_far ?_ NB529_535.out _; (with_reducible repeat (first | refine blk_drewN ?_ _ | refine blk_drew ?_ | refine blk_alloc ?_ _)); refine blk_far ?_ NB529_535.out _; (with_reducible repeat (first | refine blk_drewN ?_ _ | refine blk_drew ?_ | refine blk_alloc ?_ _)); refine blk_far ?_ NB529_535.out _; (with_reducible repeat (first | refine blk_drewN ?_ _ | refine blk_drew ?_ | refine blk_alloc ?_ _)); exact BK529.out) hb); have n1_ := Aside0.mk (blk_below (g := gb530) (o := .cells #[.string t527, .string t528] 27 (0, 0)) (by (with_reducible repeat (first | refine blk_drewN ?_ _ | refine blk_drew ?_ | refine blk_alloc ?_ _)); refine blk_far ?_ NB530_535.out _; (with_reducible repeat (first | refine blk_drewN ?_ _ | refine blk_drew ?_ | refine blk_alloc ?_ _)); refine blk_far ?_ NB530_535.out _; (with_reducible repeat (first | refine blk_drewN ?_ _ | refine blk_drew ?_ | refine blk_alloc ?_ _)); refine blk_far ?_ NB530_535.out _; (with_reducible repeat (first | refine blk_drewN ?_ _ | refine blk_drew ?_ | refine blk_alloc ?_ _)); exact BK530.out) hb); have n2_ := Aside0.mk (blk_below (g := gb535) (o := .cells #[.string t531, .string t532, .int .i64 t533] 31 (0, 0)) (by (with_reducible repeat (first | refine blk_drewN ?_ _ | refine blk_drew ?_ | refine blk_alloc ?_ _)); refine blk_put (cs := #[.string t531, .string t532, .int .i64 0]) ?_ 2 _ rfl; (with_reducible repeat (first | refine blk_drewN ?_ _ | refine blk_drew ?_ | refine blk_alloc ?_ _)); refine blk_put (cs := #[.string t531, .string (⟨#[]⟩ : ByteArray), .int .i64 0]) ?_ 1 _ rfl; (with_reducible repeat (first | refine blk_drewN ?_ _ | refine blk_drew ?_ | refine blk_alloc ?_ _)); refine blk_put (cs := #[.string (⟨#[]⟩ : ByteArray), .string (⟨#[]⟩ : ByteArray), .int .i64 0]) ?_ 0 _ rfl; (with_reducible repeat (first | refine blk_drewN ?_ _ | refine blk_drew ?_ | refine blk_alloc ?_ _)); exact BK535.out) hb); have n3_ := Aside0.mk (below_step (by repeat (first | (with_reducible first | exact HB.out | apply below_alloc | apply pw_below_drewN | apply below_drew1 | refine below_set ?_ GE529.out | refine below_set ?_ GE530.out | refine below_set ?_ GE535.out) | exact HB.out)) hb); clear BK529; clear BK530; clear BK535; clear HB; have BK529 := n0_; have BK530 := n1_; have BK535 := n2_; have HB := n3_; clear n0_ n1_ n2_ n3_; (try clear hb); (try clear hb2); (try clear hk); (try clear hi)) | ((with_reducible refine gate_dst (N := 7) rfl ?_); (try (refine gate_guard (by rfl) ?_; dsimp only)); refine box_event ?hg (N := 7) ?hd (cs := #[.string (⟨#[]⟩ : ByteArray), .string (⟨#[]⟩ : ByteArray), .int .i64 0]) (t := 31) ?hr ?_; (case hd => rfl); (case hg => rfl); (case hr => first | (go_simp; done) | (go_simp; rfl)); intro gb540 hg w22 hbox hb; have n0_ := Aside0.mk (blk_below (g := gb529) (o := .cells #[.string t524, .string t525, .int .i64 t526] 31 (0, 0)) BK529.out hb); have n1_ := Aside0.mk (blk_below (g := gb530) (o := .cells #[.string t527, .string t528] 27 (0, 0)) BK530.out hb); have n2_ := Aside0.mk (blk_below (g := gb535) (o := .cells #[.string t531, .string t532, .int .i64 t533] 31 (0, 0)) BK535.out hb); have n3_ := Aside0.mk (below_step (by repeat (first | (with_reducible first | exact HB.out | apply below_alloc | apply pw_below_drewN | apply below_drew1 | refine below_set ?_ GE529.out | refine below_set ?_ GE530.out | refine below_set ?_ GE535.out) | exact HB.out)) hb); have n4_ := Aside0.mk (hbox); have n5_ := Aside0.mk ((by rw [hg]; exact (below_size (by repeat (first | (with_reducible first | exact HB.out | apply below_alloc | apply pw_below_drewN | apply below_drew1 | refine below_set ?_ GE529.out | refine below_set ?_ GE530.out | refine below_set ?_ GE535.out) | exact HB.out))) : w.heap.size ≤ gb540)); have n6_ := Aside0.mk ((by rw [hg]; exact (below_size (by repeat (first | (with_reducible first | exact HB.out | apply below_alloc | apply pw_below_drewN | apply below_drew1 | refine below_set ?_ GE529.out | refine below_set ?_ GE530.out | refine below_set ?_ GE535.out) | exact HB.out))) : w.heap.size ≤ gb540)); have n7_ := Aside0.mk ((by rw [hg]; exact Nat.ne_of_lt (blk_lt (g := gb529) (o := .cells #[.string t524, .string t525, .int .i64 t526] 31 (0, 0)) BK529.out) : gb529 ≠ gb540)); have n8_ := Aside0.mk ((by rw [hg]; exact Nat.ne_of_gt (blk_lt (g := gb529) (o := .cells #[.string t524, .string t525, .int .i64 t526] 31 (0, 0)) BK529.out) : gb540 ≠ gb529)); have n9_ := Aside0.mk ((by rw [hg]; exact Nat.ne_of_lt (blk_lt (g := gb530) (o := .cells #[.string t527, .string t528] 27 (0, 0)) BK530.out) : gb530 ≠ gb540)); have n10_ := Aside0.mk ((by rw [hg]; exact Nat.ne_of_gt (blk_lt (g := gb530) (o := .cells #[.string t527, .string t528] 27 (0, 0)) BK530.out) : gb540 ≠ gb530)); have n11_ := Aside0.mk ((by rw [hg]; exact Nat.ne_of_lt (blk_lt (g := gb535) (o := .cells #[.string t531, .string t532, .int .i64 t533] 31 (0, 0)) BK535.out) : gb535 ≠ gb540)); have n12_ := Aside0.mk ((by rw [hg]; exact Nat.ne_of_gt (blk_lt (g := gb535) (o := .cells #[.string t531, .string t532, .int .i64 t533] 31 (0, 0)) BK535.out) : gb540 ≠ gb535)); clear BK529; clear BK530; clear BK535; clear HB; have BK529 := n0_; have BK530 := n1_; have BK535 := n2_; have HB := n3_; have BK540 := n4_; have GW540 := n5_; have GE540 := n6_; have NB529_540 := n7_; have NB540_529 := n8_; have NB530_540 := n9_; have NB540_530 := n10_; have NB535_540 := n11_; have NB540_535 := n12_; clear n0_ n1_ n2_ n3_ n4_ n5_ n6_ n7_ n8_ n9_ n10_ n11_ n12_; clear hb hbox hg; have hnb23 := NB540_529.out; have hnc23 := NB529_540.out; have hnb24 := NB540_530.out; have hnc24 := NB530_540.out; have hnb25 := NB540_535.out; have hnc25 := NB535_540.out; have hcz26_0 : w22.cell? ⟨gb540, 0, none⟩ = some (.string (⟨#[]⟩ : ByteArray)) := (blk_cell BK540.out 0).trans rfl; have hcz26_1 : w22.cell? ⟨gb540, 1, none⟩ = some (.string (⟨#[]⟩ : ByteArray)) := (blk_cell BK540.out 1).trans rfl; have hcz26_2 : w22.cell? ⟨gb540, 2, none⟩ = some (.int .i64 0) := (blk_cell BK540.out 2).trans rfl; have hfz26_0 := blk_frozen BK540.out 0; have hfz26_1 := blk_frozen BK540.out 1; have hfz26_2 := blk_frozen BK540.out 2))
    (try simp only [Act.put, List.setIfInBounds_toArray, List.set_cons_zero, List.set_cons_succ])
    go_cut [59] (fun v59 wc => ∃ (kq : Nat) (x59_6 : Bool), v59 = .bool x59_6 ∧ Aside0 (laws_FnLog.j0 kq t534 x59_6 t524 t525 t526 t527 t528 t531 t532 t533 = some r) ∧ Aside0 (kq ≤ k) ∧ Aside0 (wc.heap[gb529]? = some (.cells #[.string t524, .string t525, .int .i64 t526] 31 (0, 0))) ∧ Aside0 (wc.heap[gb530]? = some (.cells #[.string t527, .string t528] 27 (0, 0))) ∧ Aside0 (wc.heap[gb535]? = some (.cells #[.string t531, .string t532, .int .i64 t533] 31 (0, 0))) ∧ Aside0 (wc.heap[gb540]? = some (.cells #[.string t536, .string t537, .int .i64 t538] 31 (0, 0))) ∧ Aside0 (Below w.heap.size w wc))
    case first =>
      as_aux_lemma =>
        have H := HC7.out
        clear HC7
        by_cases c27 : (!(t531.toList == t536.toList) || (!(t532.toList == t537.toList) || (!(t533 == t538)))) = true
        · rw [if_pos c27] at H
          have c27b0 : (!(t531.toList == t536.toList) || (!(t532.toList == t537.toList) || (!(t533 == t538)))) = true := c27
          clear c27
          (first | rw [c27b0] | (simp only [i64_w, i32_w]; rw [c27b0]) | skip)
          have H' := Aside0.mk H
          clear H
          try go_wp2
          have n0_ : Aside0 ((((w22.setCell ⟨gb540, 0, none⟩ (.string t536)).setCell ⟨gb540, 1, none⟩ (.string t537)).setCell ⟨gb540, 2, none⟩ (.int .i64 t538)).heap[gb529]? = some (.cells #[.string t524, .string t525, .int .i64 t526] 31 (0, 0))) := ⟨by (with_reducible repeat (first | refine blk_drewN ?_ _ | refine blk_drew ?_ | refine blk_alloc ?_ _)); refine blk_far ?_ NB529_540.out _; (with_reducible repeat (first | refine blk_drewN ?_ _ | refine blk_drew ?_ | refine blk_alloc ?_ _)); refine blk_far ?_ NB529_540.out _; (with_reducible repeat (first | refine blk_drewN ?_ _ | refine blk_drew ?_ | refine blk_alloc ?_ _)); refine blk_far ?_ NB529_540.out _; (with_reducible repeat (first | refine blk_drewN ?_ _ | refine blk_drew ?_ | refine blk_alloc ?_ _)); exact BK529.out⟩
          have n1_ : Aside0 ((((w22.setCell ⟨gb540, 0, none⟩ (.string t536)).setCell ⟨gb540, 1, none⟩ (.string t537)).setCell ⟨gb540, 2, none⟩ (.int .i64 t538)).heap[gb530]? = some (.cells #[.string t527, .string t528] 27 (0, 0))) := ⟨by (with_reducible repeat (first | refine blk_drewN ?_ _ | refine blk_drew ?_ | refine blk_alloc ?_ _)); refine blk_far ?_ NB530_540.out _; (with_reducible repeat (first | refine blk_drewN ?_ _ | refine blk_drew ?_ | refine blk_alloc ?_ _)); refine blk_far ?_ NB530_540.out _; (with_reducible repeat (first | refine blk_drewN ?_ _ | refine blk_drew ?_ | refine blk_alloc ?_ _)); refine blk_far ?_ NB530_540.out _; (with_reducible repeat (first | refine blk_drewN ?_ _ | refine blk_drew ?_ | refine blk_alloc ?_ _)); exact BK530.out⟩
          have n2_ : Aside0 ((((w22.setCell ⟨gb540, 0, none⟩ (.string t536)).setCell ⟨gb540, 1, none⟩ (.string t537)).setCell ⟨gb540, 2, none⟩ (.int .i64 t538)).heap[gb535]? = some (.cells #[.string t531, .string t532, .int .i64 t533] 31 (0, 0))) := ⟨by (with_reducible repeat (first | refine blk_drewN ?_ _ | refine blk_drew ?_ | refine blk_alloc ?_ _)); refine blk_far ?_ NB535_540.out _; (with_reducible repeat (first | refine blk_drewN ?_ _ | refine blk_drew ?_ | refine blk_alloc ?_ _)); refine blk_far ?_ NB535_540.out _; (with_reducible repeat (first | refine blk_drewN ?_ _ | refine blk_drew ?_ | refine blk_alloc ?_ _)); refine blk_far ?_ NB535_540.out _; (with_reducible repeat (first | refine blk_drewN ?_ _ | refine blk_drew ?_ | refine blk_alloc ?_ _)); exact BK535.out⟩
          have n3_ : Aside0 ((((w22.setCell ⟨gb540, 0, none⟩ (.string t536)).setCell ⟨gb540, 1, none⟩ (.string t537)).setCell ⟨gb540, 2, none⟩ (.int .i64 t538)).heap[gb540]? = some (.cells #[.string t536, .string t537, .int .i64 t538] 31 (0, 0))) := ⟨by (with_reducible repeat (first | refine blk_drewN ?_ _ | refine blk_drew ?_ | refine blk_alloc ?_ _)); refine blk_put (cs := #[.string t536, .string t537, .int .i64 0]) ?_ 2 _ rfl; (with_reducible repeat (first | refine blk_drewN ?_ _ | refine blk_drew ?_ | refine blk_alloc ?_ _)); refine blk_put (cs := #[.string t536, .string (⟨#[]⟩ : ByteArray), .int .i64 0]) ?_ 1 _ rfl; (with_reducible repeat (first | refine blk_drewN ?_ _ | refine blk_drew ?_ | refine blk_alloc ?_ _)); refine blk_put (cs := #[.string (⟨#[]⟩ : ByteArray), .string (⟨#[]⟩ : ByteArray), .int .i64 0]) ?_ 0 _ rfl; (with_reducible repeat (first | refine blk_drewN ?_ _ | refine blk_drew ?_ | refine blk_alloc ?_ _)); exact BK540.out⟩
          have n4_ : Aside0 (Below w.heap.size w (((w22.setCell ⟨gb540, 0, none⟩ (.string t536)).setCell ⟨gb540, 1, none⟩ (.string t537)).setCell ⟨gb540, 2, none⟩ (.int .i64 t538))) := ⟨by repeat (first | (with_reducible first | exact HB.out | apply below_alloc | apply pw_below_drewN | apply below_drew1 | refine below_set ?_ GE529.out | refine below_set ?_ GE530.out | refine below_set ?_ GE535.out | refine below_set ?_ GE540.out) | exact HB.out)⟩
          (try clear BK529)
          (try clear BK530)
          (try clear BK535)
          (try clear BK540)
          (try clear HB)
          generalize (((w22.setCell ⟨gb540, 0, none⟩ (.string t536)).setCell ⟨gb540, 1, none⟩ (.string t537)).setCell ⟨gb540, 2, none⟩ (.int .i64 t538)) = w28 at n0_ n1_ n2_ n3_ n4_ ⊢
          have BK529 := n0_
          have BK530 := n1_
          have BK535 := n2_
          have BK540 := n3_
          have HB := n4_
          clear n0_ n1_ n2_ n3_ n4_
          have n0_ := Aside0.mk (blk_drew BK529.out)
          have n1_ := Aside0.mk (blk_drew BK530.out)
          have n2_ := Aside0.mk (blk_drew BK535.out)
          have n3_ := Aside0.mk (blk_drew BK540.out)
          have n4_ := Aside0.mk (below_drew1 HB.out)
          clear BK529
          clear BK530
          clear BK535
          clear BK540
          clear HB
          have BK529 := n0_
          have BK530 := n1_
          have BK535 := n2_
          have BK540 := n3_
          have HB := n4_
          clear n0_ n1_ n2_ n3_ n4_
          refine start_ (n := 22) (S := fun w' => w'.cell? ⟨gb535, 0, none⟩ = some (.string t531) ∧ w'.cell? ⟨gb535, 1, none⟩ = some (.string t532) ∧ w'.cell? ⟨gb535, 2, none⟩ = some (.int .i64 t533) ∧ w'.cell? ⟨gb540, 0, none⟩ = some (.string t536) ∧ w'.cell? ⟨gb540, 1, none⟩ = some (.string t537) ∧ w'.cell? ⟨gb540, 2, none⟩ = some (.int .i64 t538)) (ds := []) #[false, false, false, false, false, false, false, false, false, false, false, false, false, false, false, false, false, false, false, false, false, false] (by kernel_rfl) rfl rfl ⟨(blk_cell BK535.out 0).trans rfl, (blk_cell BK535.out 1).trans rfl, (blk_cell BK535.out 2).trans rfl, (blk_cell BK540.out 0).trans rfl, (blk_cell BK540.out 1).trans rfl, (blk_cell BK540.out 2).trans rfl⟩ (fun hHeld => ?_); refine with_tabW laws_FnLog.tab6 laws_FnLog.bits6 (fun HT_ HW_ => ?_)
          generalize w28.drew = w29 at BK529 BK530 BK535 BK540 HB hHeld ⊢
          refine take_ (i := 0) (N := some 38) (v := ?_) (a' := ?_) #[true, false, false, false, false, false, false, false, false, false, false, false, false, false, false, false, false, false, false, false, false, false] rfl rfl (take_ofW HT_.out HW_.out (by kernel_rfl)) (fun _ _ _ h => h) (Or.inl ⟨by rfl, ?_⟩) hHeld ?_ ?_
          rotate_left
          · rintro w' ⟨s0, s1, s2, s3, s4, s5⟩
            go_simp
            with_reducible rfl
          rotate_left
          · simp only [Act.put, List.setIfInBounds_toArray, List.set_cons_zero, List.set_cons_succ, i64_w, i32_w]
            rfl
          refine take_ (i := 1) (N := some 39) (v := ?_) (a' := ?_) #[true, true, false, false, false, false, false, false, false, false, false, false, false, false, false, false, false, false, false, false, false, false] rfl rfl (take_ofW HT_.out HW_.out (by kernel_rfl)) (fun _ _ _ h => h) (Or.inl ⟨by rfl, ?_⟩) hHeld ?_ ?_
          rotate_left
          · rintro w' ⟨s0, s1, s2, s3, s4, s5⟩
            go_simp
            with_reducible rfl
          rotate_left
          · simp only [Act.put, List.setIfInBounds_toArray, List.set_cons_zero, List.set_cons_succ, i64_w, i32_w]
            rfl
          refine pure_ (i := 2) (N := some 40) (v := ?_) (a' := ?_) #[true, true, true, false, false, false, false, false, false, false, false, false, false, false, false, false, false, false, false, false, false, false] rfl rfl (any_of HT_.out (by kernel_rfl)) (fun _ _ _ h => h) (Or.inl ⟨by rfl, ?_⟩) ?_ ?_
          rotate_left
          · intro w'
            go_simp
            with_reducible rfl
          rotate_left
          · simp only [Act.put, List.setIfInBounds_toArray, List.set_cons_zero, List.set_cons_succ, i64_w, i32_w]
            rfl
          refine pure_ (i := 3) (N := some 41) (v := ?_) (a' := ?_) #[true, true, true, true, false, false, false, false, false, false, false, false, false, false, false, false, false, false, false, false, false, false] rfl rfl (any_of HT_.out (by kernel_rfl)) (fun _ _ _ h => h) (Or.inl ⟨by rfl, ?_⟩) ?_ ?_
          rotate_left
          · intro w'
            go_simp
            with_reducible rfl
          rotate_left
          · simp only [Act.put, List.setIfInBounds_toArray, List.set_cons_zero, List.set_cons_succ, i64_w, i32_w]
            rfl
          refine pure_ (i := 4) (N := some 42) (v := undef) (a' := ?_) #[true, true, true, true, true, false, false, false, false, false, false, false, false, false, false, false, false, false, false, false, false, false] rfl rfl (any_of HT_.out (by kernel_rfl)) (fun _ _ _ h => h) (Or.inr ⟨by rfl, rfl⟩) ?_ ?_
          rotate_left
          · simp only [Act.put, List.setIfInBounds_toArray, List.set_cons_zero, List.set_cons_succ, i64_w, i32_w]
            rfl
          refine pure_ (i := 5) (N := some 43) (v := undef) (a' := ?_) #[true, true, true, true, true, true, false, false, false, false, false, false, false, false, false, false, false, false, false, false, false, false] rfl rfl (any_of HT_.out (by kernel_rfl)) (fun _ _ _ h => h) (Or.inr ⟨by rfl, rfl⟩) ?_ ?_
          rotate_left
          · simp only [Act.put, List.setIfInBounds_toArray, List.set_cons_zero, List.set_cons_succ, i64_w, i32_w]
            rfl
          refine pure_ (i := 6) (N := some 44) (v := undef) (a' := ?_) #[true, true, true, true, true, true, true, false, false, false, false, false, false, false, false, false, false, false, false, false, false, false] rfl rfl (any_of HT_.out (by kernel_rfl)) (fun _ _ _ h => h) (Or.inr ⟨by rfl, rfl⟩) ?_ ?_
          rotate_left
          · simp only [Act.put, List.setIfInBounds_toArray, List.set_cons_zero, List.set_cons_succ, i64_w, i32_w]
            rfl
          refine pure_ (i := 7) (N := some 45) (v := ?_) (a' := ?_) #[true, true, true, true, true, true, true, true, false, false, false, false, false, false, false, false, false, false, false, false, false, false] rfl rfl (any_of HT_.out (by kernel_rfl)) (fun _ _ _ h => h) (Or.inl ⟨by rfl, ?_⟩) ?_ ?_
          rotate_left
          · intro w'
            go_simp
            with_reducible rfl
          rotate_left
          · simp only [Act.put, List.setIfInBounds_toArray, List.set_cons_zero, List.set_cons_succ, i64_w, i32_w]
            rfl
          refine pure_ (i := 8) (N := some 46) (v := ?_) (a' := ?_) #[true, true, true, true, true, true, true, true, true, false, false, false, false, false, false, false, false, false, false, false, false, false] rfl rfl (any_of HT_.out (by kernel_rfl)) (fun _ _ _ h => h) (Or.inl ⟨by rfl, ?_⟩) ?_ ?_
          rotate_left
          · intro w'
            go_simp
            with_reducible rfl
          rotate_left
          · simp only [Act.put, List.setIfInBounds_toArray, List.set_cons_zero, List.set_cons_succ, i64_w, i32_w]
            rfl
          refine pure_ (i := 9) (N := some 47) (v := undef) (a' := ?_) #[true, true, true, true, true, true, true, true, true, true, false, false, false, false, false, false, false, false, false, false, false, false] rfl rfl (any_of HT_.out (by kernel_rfl)) (fun _ _ _ h => h) (Or.inr ⟨by rfl, rfl⟩) ?_ ?_
          rotate_left
          · simp only [Act.put, List.setIfInBounds_toArray, List.set_cons_zero, List.set_cons_succ, i64_w, i32_w]
            rfl
          refine pure_ (i := 10) (N := some 48) (v := undef) (a' := ?_) #[true, true, true, true, true, true, true, true, true, true, true, false, false, false, false, false, false, false, false, false, false, false] rfl rfl (any_of HT_.out (by kernel_rfl)) (fun _ _ _ h => h) (Or.inr ⟨by rfl, rfl⟩) ?_ ?_
          rotate_left
          · simp only [Act.put, List.setIfInBounds_toArray, List.set_cons_zero, List.set_cons_succ, i64_w, i32_w]
            rfl
          refine pure_ (i := 11) (N := some 49) (v := undef) (a' := ?_) #[true, true, true, true, true, true, true, true, true, true, true, true, false, false, false, false, false, false, false, false, false, false] rfl rfl (any_of HT_.out (by kernel_rfl)) (fun _ _ _ h => h) (Or.inr ⟨by rfl, rfl⟩) ?_ ?_
          rotate_left
          · simp only [Act.put, List.setIfInBounds_toArray, List.set_cons_zero, List.set_cons_succ, i64_w, i32_w]
            rfl
          refine pure_ (i := 12) (N := some 50) (v := undef) (a' := ?_) #[true, true, true, true, true, true, true, true, true, true, true, true, true, false, false, false, false, false, false, false, false, false] rfl rfl (any_of HT_.out (by kernel_rfl)) (fun _ _ _ h => h) (Or.inr ⟨by rfl, rfl⟩) ?_ ?_
          rotate_left
          · simp only [Act.put, List.setIfInBounds_toArray, List.set_cons_zero, List.set_cons_succ, i64_w, i32_w]
            rfl
          refine pure_ (i := 13) (N := some 51) (v := undef) (a' := ?_) #[true, true, true, true, true, true, true, true, true, true, true, true, true, true, false, false, false, false, false, false, false, false] rfl rfl (any_of HT_.out (by kernel_rfl)) (fun _ _ _ h => h) (Or.inr ⟨by rfl, rfl⟩) ?_ ?_
          rotate_left
          · simp only [Act.put, List.setIfInBounds_toArray, List.set_cons_zero, List.set_cons_succ, i64_w, i32_w]
            rfl
          refine pure_ (i := 14) (N := some 52) (v := ?_) (a' := ?_) #[true, true, true, true, true, true, true, true, true, true, true, true, true, true, true, false, false, false, false, false, false, false] rfl rfl (any_of HT_.out (by kernel_rfl)) (fun _ _ _ h => h) (Or.inl ⟨by rfl, ?_⟩) ?_ ?_
          rotate_left
          · intro w'
            go_simp
            with_reducible rfl
          rotate_left
          · simp only [Act.put, List.setIfInBounds_toArray, List.set_cons_zero, List.set_cons_succ, i64_w, i32_w]
            rfl
          refine pure_ (i := 15) (N := some 53) (v := ?_) (a' := ?_) #[true, true, true, true, true, true, true, true, true, true, true, true, true, true, true, true, false, false, false, false, false, false] rfl rfl (any_of HT_.out (by kernel_rfl)) (fun _ _ _ h => h) (Or.inl ⟨by rfl, ?_⟩) ?_ ?_
          rotate_left
          · intro w'
            go_simp
            with_reducible rfl
          rotate_left
          · simp only [Act.put, List.setIfInBounds_toArray, List.set_cons_zero, List.set_cons_succ, i64_w, i32_w]
            rfl
          refine pure_ (i := 16) (N := some 54) (v := undef) (a' := ?_) #[true, true, true, true, true, true, true, true, true, true, true, true, true, true, true, true, true, false, false, false, false, false] rfl rfl (any_of HT_.out (by kernel_rfl)) (fun _ _ _ h => h) (Or.inr ⟨by rfl, rfl⟩) ?_ ?_
          rotate_left
          · simp only [Act.put, List.setIfInBounds_toArray, List.set_cons_zero, List.set_cons_succ, i64_w, i32_w]
            rfl
          refine pure_ (i := 17) (N := some 55) (v := undef) (a' := ?_) #[true, true, true, true, true, true, true, true, true, true, true, true, true, true, true, true, true, true, false, false, false, false] rfl rfl (any_of HT_.out (by kernel_rfl)) (fun _ _ _ h => h) (Or.inr ⟨by rfl, rfl⟩) ?_ ?_
          rotate_left
          · simp only [Act.put, List.setIfInBounds_toArray, List.set_cons_zero, List.set_cons_succ, i64_w, i32_w]
            rfl
          refine pure_ (i := 18) (N := some 56) (v := undef) (a' := ?_) #[true, true, true, true, true, true, true, true, true, true, true, true, true, true, true, true, true, true, true, false, false, false] rfl rfl (any_of HT_.out (by kernel_rfl)) (fun _ _ _ h => h) (Or.inr ⟨by rfl, rfl⟩) ?_ ?_
          rotate_left
          · simp only [Act.put, List.setIfInBounds_toArray, List.set_cons_zero, List.set_cons_succ, i64_w, i32_w]
            rfl
          refine pure_ (i := 19) (N := some 57) (v := undef) (a' := ?_) #[true, true, true, true, true, true, true, true, true, true, true, true, true, true, true, true, true, true, true, true, false, false] rfl rfl (any_of HT_.out (by kernel_rfl)) (fun _ _ _ h => h) (Or.inr ⟨by rfl, rfl⟩) ?_ ?_
          rotate_left
          · simp only [Act.put, List.setIfInBounds_toArray, List.set_cons_zero, List.set_cons_succ, i64_w, i32_w]
            rfl
          refine pure_ (i := 20) (N := some 58) (v := undef) (a' := ?_) #[true, true, true, true, true, true, true, true, true, true, true, true, true, true, true, true, true, true, true, true, true, false] rfl rfl (any_of HT_.out (by kernel_rfl)) (fun _ _ _ h => h) (Or.inr ⟨by rfl, rfl⟩) ?_ ?_
          rotate_left
          · simp only [Act.put, List.setIfInBounds_toArray, List.set_cons_zero, List.set_cons_succ, i64_w, i32_w]
            rfl
          refine pure_ (i := 21) (N := some 59) (v := ?_) (a' := ?_) #[true, true, true, true, true, true, true, true, true, true, true, true, true, true, true, true, true, true, true, true, true, true] rfl rfl (any_of HT_.out (by kernel_rfl)) (fun _ _ _ h => h) (Or.inl ⟨by rfl, ?_⟩) ?_ ?_
          rotate_left
          · intro w'
            go_simp
            with_reducible rfl
          rotate_left
          · simp only [Act.put, List.setIfInBounds_toArray, List.set_cons_zero, List.set_cons_succ, i64_w, i32_w]
            rfl
          refine done_ (done_of HT_.out (by kernel_rfl)) ?_
          try go_wp2
          go_meet
          case rel => exact ⟨_, (true), (by first | rfl | (simp; done) | (simp [*]; done)), H', ⟨by first | omega | exact Nat.le_refl _⟩, ⟨by (with_reducible repeat (first | refine blk_drewN ?_ _ | refine blk_drew ?_ | refine blk_alloc ?_ _)); exact BK529.out⟩, ⟨by (with_reducible repeat (first | refine blk_drewN ?_ _ | refine blk_drew ?_ | refine blk_alloc ?_ _)); exact BK530.out⟩, ⟨by (with_reducible repeat (first | refine blk_drewN ?_ _ | refine blk_drew ?_ | refine blk_alloc ?_ _)); exact BK535.out⟩, ⟨by (with_reducible repeat (first | refine blk_drewN ?_ _ | refine blk_drew ?_ | refine blk_alloc ?_ _)); exact BK540.out⟩, ⟨by repeat (first | (with_reducible first | exact HB.out | apply below_alloc | apply pw_below_drewN | apply below_drew1 | refine below_set ?_ GE529.out | refine below_set ?_ GE530.out | refine below_set ?_ GE535.out | refine below_set ?_ GE540.out) | exact HB.out)⟩⟩
        · rw [if_neg c27] at H
          have c27b0 : (!(t531.toList == t536.toList) || (!(t532.toList == t537.toList) || (!(t533 == t538)))) = false := by simpa using c27
          clear c27
          (first | rw [c27b0] | (simp only [i64_w, i32_w]; rw [c27b0]) | skip)
          by_cases c30 : t534 = t539
          · rw [if_pos c30] at H
            have c30b0 : (t534 == t539) = true := beq_iff_eq.mpr c30
            have c30b1 : (t534 != t539) = false := bne_eq_false_iff_eq.mpr c30
            clear c30
            replace H := Option.bind_eq_some_iff.mp H
            obtain ⟨t541, A310, H⟩ := H
            replace H : ((spec_IsValidLog.f k t524 t525 t526).bind fun t542 => (if (t541 != t542) = true then (laws_FnLog.j0 k t534 true t524 t525 t526 t527 t528 t531 t532 t533) else ((impl_IsValidRecord.f k t527 t528).bind fun t543 => ((spec_IsValidRecord.f k t527 t528).bind fun t544 => (laws_FnLog.j0 k t534 (t543 != t544) t524 t525 t526 t527 t528 t531 t532 t533))))) = some r := H
            have A31 := Aside0.mk A310
            clear A310
            replace H := Option.bind_eq_some_iff.mp H
            obtain ⟨t542, A320, H⟩ := H
            replace H : (if (t541 != t542) = true then (laws_FnLog.j0 k t534 true t524 t525 t526 t527 t528 t531 t532 t533) else ((impl_IsValidRecord.f k t527 t528).bind fun t543 => ((spec_IsValidRecord.f k t527 t528).bind fun t544 => (laws_FnLog.j0 k t534 (t543 != t544) t524 t525 t526 t527 t528 t531 t532 t533)))) = some r := H
            have A32 := Aside0.mk A320
            clear A320
            by_cases c33 : (t541 != t542) = true
            · rw [if_pos c33] at H
              have c33b0 : (t541 != t542) = true := c33
              (try (have c33b1 : decide (t541 = t542) = false := by simpa using c33))
              (try (have c33b2 : (t541 == t542) = false := by simpa using c33))
              (try (have c33b3 : ¬ (t541 = t542) := by simpa using c33))
              clear c33
              have H' := Aside0.mk H
              clear H
              try go_wp2
              have n0_ : Aside0 ((((w22.setCell ⟨gb540, 0, none⟩ (.string t536)).setCell ⟨gb540, 1, none⟩ (.string t537)).setCell ⟨gb540, 2, none⟩ (.int .i64 t538)).heap[gb529]? = some (.cells #[.string t524, .string t525, .int .i64 t526] 31 (0, 0))) := ⟨by (with_reducible repeat (first | refine blk_drewN ?_ _ | refine blk_drew ?_ | refine blk_alloc ?_ _)); refine blk_far ?_ NB529_540.out _; (with_reducible repeat (first | refine blk_drewN ?_ _ | refine blk_drew ?_ | refine blk_alloc ?_ _)); refine blk_far ?_ NB529_540.out _; (with_reducible repeat (first | refine blk_drewN ?_ _ | refine blk_drew ?_ | refine blk_alloc ?_ _)); refine blk_far ?_ NB529_540.out _; (with_reducible repeat (first | refine blk_drewN ?_ _ | refine blk_drew ?_ | refine blk_alloc ?_ _)); exact BK529.out⟩
              have n1_ : Aside0 ((((w22.setCell ⟨gb540, 0, none⟩ (.string t536)).setCell ⟨gb540, 1, none⟩ (.string t537)).setCell ⟨gb540, 2, none⟩ (.int .i64 t538)).heap[gb530]? = some (.cells #[.string t527, .string t528] 27 (0, 0))) := ⟨by (with_reducible repeat (first | refine blk_drewN ?_ _ | refine blk_drew ?_ | refine blk_alloc ?_ _)); refine blk_far ?_ NB530_540.out _; (with_reducible repeat (first | refine blk_drewN ?_ _ | refine blk_drew ?_ | refine blk_alloc ?_ _)); refine blk_far ?_ NB530_540.out _; (with_reducible repeat (first | refine blk_drewN ?_ _ | refine blk_drew ?_ | refine blk_alloc ?_ _)); refine blk_far ?_ NB530_540.out _; (with_reducible repeat (first | refine blk_drewN ?_ _ | refine blk_drew ?_ | refine blk_alloc ?_ _)); exact BK530.out⟩
              have n2_ : Aside0 ((((w22.setCell ⟨gb540, 0, none⟩ (.string t536)).setCell ⟨gb540, 1, none⟩ (.string t537)).setCell ⟨gb540, 2, none⟩ (.int .i64 t538)).heap[gb535]? = some (.cells #[.string t531, .string t532, .int .i64 t533] 31 (0, 0))) := ⟨by (with_reducible repeat (first | refine blk_drewN ?_ _ | refine blk_drew ?_ | refine blk_alloc ?_ _)); refine blk_far ?_ NB535_540.out _; (with_reducible repeat (first | refine blk_drewN ?_ _ | refine blk_drew ?_ | refine blk_alloc ?_ _)); refine blk_far ?_ NB535_540.out _; (with_reducible repeat (first | refine blk_drewN ?_ _ | refine blk_drew ?_ | refine blk_alloc ?_ _)); refine blk_far ?_ NB535_540.out _; (with_reducible repeat (first | refine blk_drewN ?_ _ | refine blk_drew ?_ | refine blk_alloc ?_ _)); exact BK535.out⟩
              have n3_ : Aside0 ((((w22.setCell ⟨gb540, 0, none⟩ (.string t536)).setCell ⟨gb540, 1, none⟩ (.string t537)).setCell ⟨gb540, 2, none⟩ (.int .i64 t538)).heap[gb540]? = some (.cells #[.string t536, .string t537, .int .i64 t538] 31 (0, 0))) := ⟨by (with_reducible repeat (first | refine blk_drewN ?_ _ | refine blk_drew ?_ | refine blk_alloc ?_ _)); refine blk_put (cs := #[.string t536, .string t537, .int .i64 0]) ?_ 2 _ rfl; (with_reducible repeat (first | refine blk_drewN ?_ _ | refine blk_drew ?_ | refine blk_alloc ?_ _)); refine blk_put (cs := #[.string t536, .string (⟨#[]⟩ : ByteArray), .int .i64 0]) ?_ 1 _ rfl; (with_reducible repeat (first | refine blk_drewN ?_ _ | refine blk_drew ?_ | refine blk_alloc ?_ _)); refine blk_put (cs := #[.string (⟨#[]⟩ : ByteArray), .string (⟨#[]⟩ : ByteArray), .int .i64 0]) ?_ 0 _ rfl; (with_reducible repeat (first | refine blk_drewN ?_ _ | refine blk_drew ?_ | refine blk_alloc ?_ _)); exact BK540.out⟩
              have n4_ : Aside0 (Below w.heap.size w (((w22.setCell ⟨gb540, 0, none⟩ (.string t536)).setCell ⟨gb540, 1, none⟩ (.string t537)).setCell ⟨gb540, 2, none⟩ (.int .i64 t538))) := ⟨by repeat (first | (with_reducible first | exact HB.out | apply below_alloc | apply pw_below_drewN | apply below_drew1 | refine below_set ?_ GE529.out | refine below_set ?_ GE530.out | refine below_set ?_ GE535.out | refine below_set ?_ GE540.out) | exact HB.out)⟩
              (try clear BK529)
              (try clear BK530)
              (try clear BK535)
              (try clear BK540)
              (try clear HB)
              generalize (((w22.setCell ⟨gb540, 0, none⟩ (.string t536)).setCell ⟨gb540, 1, none⟩ (.string t537)).setCell ⟨gb540, 2, none⟩ (.int .i64 t538)) = w34 at n0_ n1_ n2_ n3_ n4_ ⊢
              have BK529 := n0_
              have BK530 := n1_
              have BK535 := n2_
              have BK540 := n3_
              have HB := n4_
              clear n0_ n1_ n2_ n3_ n4_
              have n0_ := Aside0.mk (blk_drew BK529.out)
              have n1_ := Aside0.mk (blk_drew BK530.out)
              have n2_ := Aside0.mk (blk_drew BK535.out)
              have n3_ := Aside0.mk (blk_drew BK540.out)
              have n4_ := Aside0.mk (below_drew1 HB.out)
              clear BK529
              clear BK530
              clear BK535
              clear BK540
              clear HB
              have BK529 := n0_
              have BK530 := n1_
              have BK535 := n2_
              have BK540 := n3_
              have HB := n4_
              clear n0_ n1_ n2_ n3_ n4_
              refine start_ (n := 22) (S := fun w' => w'.cell? ⟨gb535, 0, none⟩ = some (.string t531) ∧ w'.cell? ⟨gb535, 1, none⟩ = some (.string t532) ∧ w'.cell? ⟨gb535, 2, none⟩ = some (.int .i64 t533) ∧ w'.cell? ⟨gb540, 0, none⟩ = some (.string t536) ∧ w'.cell? ⟨gb540, 1, none⟩ = some (.string t537) ∧ w'.cell? ⟨gb540, 2, none⟩ = some (.int .i64 t538) ∧ w'.cell? ⟨gb529, 0, none⟩ = some (.string t524) ∧ w'.cell? ⟨gb529, 1, none⟩ = some (.string t525) ∧ w'.cell? ⟨gb529, 2, none⟩ = some (.int .i64 t526)) (ds := []) #[false, false, false, false, false, false, false, false, false, false, false, false, false, false, false, false, false, false, false, false, false, false] (by kernel_rfl) rfl rfl ⟨(blk_cell BK535.out 0).trans rfl, (blk_cell BK535.out 1).trans rfl, (blk_cell BK535.out 2).trans rfl, (blk_cell BK540.out 0).trans rfl, (blk_cell BK540.out 1).trans rfl, (blk_cell BK540.out 2).trans rfl, (blk_cell BK529.out 0).trans rfl, (blk_cell BK529.out 1).trans rfl, (blk_cell BK529.out 2).trans rfl⟩ (fun hHeld => ?_); refine with_tabW laws_FnLog.tab6 laws_FnLog.bits6 (fun HT_ HW_ => ?_)
              generalize w34.drew = w35 at BK529 BK530 BK535 BK540 HB hHeld ⊢
              refine take_ (i := 0) (N := some 38) (v := ?_) (a' := ?_) #[true, false, false, false, false, false, false, false, false, false, false, false, false, false, false, false, false, false, false, false, false, false] rfl rfl (take_ofW HT_.out HW_.out (by kernel_rfl)) (fun _ _ _ h => h) (Or.inl ⟨by rfl, ?_⟩) hHeld ?_ ?_
              rotate_left
              · rintro w' ⟨s0, s1, s2, s3, s4, s5, s6, s7, s8⟩
                go_simp
                with_reducible rfl
              rotate_left
              · simp only [Act.put, List.setIfInBounds_toArray, List.set_cons_zero, List.set_cons_succ, i64_w, i32_w]
                rfl
              refine take_ (i := 1) (N := some 39) (v := ?_) (a' := ?_) #[true, true, false, false, false, false, false, false, false, false, false, false, false, false, false, false, false, false, false, false, false, false] rfl rfl (take_ofW HT_.out HW_.out (by kernel_rfl)) (fun _ _ _ h => h) (Or.inl ⟨by rfl, ?_⟩) hHeld ?_ ?_
              rotate_left
              · rintro w' ⟨s0, s1, s2, s3, s4, s5, s6, s7, s8⟩
                go_simp
                with_reducible rfl
              rotate_left
              · simp only [Act.put, List.setIfInBounds_toArray, List.set_cons_zero, List.set_cons_succ, i64_w, i32_w]
                rfl
              refine pure_ (i := 2) (N := some 40) (v := ?_) (a' := ?_) #[true, true, true, false, false, false, false, false, false, false, false, false, false, false, false, false, false, false, false, false, false, false] rfl rfl (any_of HT_.out (by kernel_rfl)) (fun _ _ _ h => h) (Or.inl ⟨by rfl, ?_⟩) ?_ ?_
              rotate_left
              · intro w'
                go_simp
                with_reducible rfl
              rotate_left
              · simp only [Act.put, List.setIfInBounds_toArray, List.set_cons_zero, List.set_cons_succ, i64_w, i32_w]
                rfl
              refine pure_ (i := 3) (N := some 41) (v := ?_) (a' := ?_) #[true, true, true, true, false, false, false, false, false, false, false, false, false, false, false, false, false, false, false, false, false, false] rfl rfl (any_of HT_.out (by kernel_rfl)) (fun _ _ _ h => h) (Or.inl ⟨by rfl, ?_⟩) ?_ ?_
              rotate_left
              · intro w'
                go_simp
                with_reducible rfl
              rotate_left
              · simp only [Act.put, List.setIfInBounds_toArray, List.set_cons_zero, List.set_cons_succ, i64_w, i32_w]
                rfl
              refine pure_ (i := 4) (N := some 42) (v := ?_) (a' := ?_) #[true, true, true, true, true, false, false, false, false, false, false, false, false, false, false, false, false, false, false, false, false, false] rfl rfl (any_of HT_.out (by kernel_rfl)) (fun _ _ _ h => h) (Or.inl ⟨by rfl, ?_⟩) ?_ ?_
              rotate_left
              · intro w'
                go_simp
                with_reducible rfl
              rotate_left
              · simp only [Act.put, List.setIfInBounds_toArray, List.set_cons_zero, List.set_cons_succ, i64_w, i32_w]
                rfl
              refine pure_ (i := 5) (N := some 43) (v := ?_) (a' := ?_) #[true, true, true, true, true, true, false, false, false, false, false, false, false, false, false, false, false, false, false, false, false, false] rfl rfl (any_of HT_.out (by kernel_rfl)) (fun _ _ _ h => h) (Or.inl ⟨by rfl, ?_⟩) ?_ ?_
              rotate_left
              · intro w'
                go_simp
                with_reducible rfl
              rotate_left
              · simp only [Act.put, List.setIfInBounds_toArray, List.set_cons_zero, List.set_cons_succ, i64_w, i32_w]
                rfl
              refine pure_ (i := 6) (N := some 44) (v := ?_) (a' := ?_) #[true, true, true, true, true, true, true, false, false, false, false, false, false, false, false, false, false, false, false, false, false, false] rfl rfl (any_of HT_.out (by kernel_rfl)) (fun _ _ _ h => h) (Or.inl ⟨by rfl, ?_⟩) ?_ ?_
              rotate_left
              · intro w'
                go_simp
                with_reducible rfl
              rotate_left
              · simp only [Act.put, List.setIfInBounds_toArray, List.set_cons_zero, List.set_cons_succ, i64_w, i32_w]
                rfl
              refine pure_ (i := 7) (N := some 45) (v := ?_) (a' := ?_) #[true, true, true, true, true, true, true, true, false, false, false, false, false, false, false, false, false, false, false, false, false, false] rfl rfl (any_of HT_.out (by kernel_rfl)) (fun _ _ _ h => h) (Or.inl ⟨by rfl, ?_⟩) ?_ ?_
              rotate_left
              · intro w'
                go_simp
                with_reducible rfl
              rotate_left
              · simp only [Act.put, List.setIfInBounds_toArray, List.set_cons_zero, List.set_cons_succ, i64_w, i32_w]
                rfl
              refine pure_ (i := 8) (N := some 46) (v := ?_) (a' := ?_) #[true, true, true, true, true, true, true, true, true, false, false, false, false, false, false, false, false, false, false, false, false, false] rfl rfl (any_of HT_.out (by kernel_rfl)) (fun _ _ _ h => h) (Or.inl ⟨by rfl, ?_⟩) ?_ ?_
              rotate_left
              · intro w'
                go_simp
                with_reducible rfl
              rotate_left
              · simp only [Act.put, List.setIfInBounds_toArray, List.set_cons_zero, List.set_cons_succ, i64_w, i32_w]
                rfl
              refine take_ (i := 9) (N := some 47) (v := ?_) (a' := ?_) #[true, true, true, true, true, true, true, true, true, true, false, false, false, false, false, false, false, false, false, false, false, false] rfl rfl (take_ofW HT_.out HW_.out (by kernel_rfl)) (fun _ _ _ h => h) (Or.inl ⟨by rfl, ?_⟩) hHeld ?_ ?_
              rotate_left
              · rintro w' ⟨s0, s1, s2, s3, s4, s5, s6, s7, s8⟩
                go_simp
                with_reducible rfl
              rotate_left
              · simp only [Act.put, List.setIfInBounds_toArray, List.set_cons_zero, List.set_cons_succ, i64_w, i32_w]
                rfl
              refine take_ (i := 11) (N := some 49) (v := ?_) (a' := ?_) #[true, true, true, true, true, true, true, true, true, true, false, true, false, false, false, false, false, false, false, false, false, false] rfl rfl (take_ofW HT_.out HW_.out (by kernel_rfl)) (fun _ _ _ h => h) (Or.inl ⟨by rfl, ?_⟩) hHeld ?_ ?_
              rotate_left
              · rintro w' ⟨s0, s1, s2, s3, s4, s5, s6, s7, s8⟩
                go_simp
                with_reducible rfl
              rotate_left
              · simp only [Act.put, List.setIfInBounds_toArray, List.set_cons_zero, List.set_cons_succ, i64_w, i32_w]
                rfl
              refine one_ (i := 10) (N := some 48) #[true, true, true, true, true, true, true, true, true, true, true, true, false, false, false, false, false, false, false, false, false, false] rfl rfl (one_of HT_.out (by kernel_rfl)) (by decide) (fun K hK => ?_)
              refine goes_ Tryd.func23 (by kernel_rfl) rfl #[.agg #[.string t524, .string t525, .int .i64 t526]] (by rfl) rfl rfl (by (try simp only [List.map_toArray, List.map_cons, List.map_nil]); first | done | rfl | (simp only [List.length_drop, List.length_take]; rfl)) ?_
              with_reducible refine (impl_IsValidLog.calls k t524 t525 t526 t541 _ A31.out ?sideG).mono ?_
              case sideG => exact (gw_below HG.out (by repeat (first | (with_reducible first | exact HB.out | apply below_alloc | apply pw_below_drewN | apply below_drew1 | refine below_set ?_ GE529.out | refine below_set ?_ GE530.out | refine below_set ?_ GE535.out | refine below_set ?_ GE540.out) | exact HB.out)))
              rintro e w36 ⟨rfl, hb⟩
              refine ⟨_, rfl, ?_⟩
              have n0_ := Aside0.mk (blk_below (g := gb529) (o := .cells #[.string t524, .string t525, .int .i64 t526] 31 (0, 0)) BK529.out hb)
              have n1_ := Aside0.mk (blk_below (g := gb530) (o := .cells #[.string t527, .string t528] 27 (0, 0)) BK530.out hb)
              have n2_ := Aside0.mk (blk_below (g := gb535) (o := .cells #[.string t531, .string t532, .int .i64 t533] 31 (0, 0)) BK535.out hb)
              have n3_ := Aside0.mk (blk_below (g := gb540) (o := .cells #[.string t536, .string t537, .int .i64 t538] 31 (0, 0)) BK540.out hb)
              have n4_ := Aside0.mk (below_step (by repeat (first | (with_reducible first | exact HB.out | apply below_alloc | apply pw_below_drewN | apply below_drew1 | refine below_set ?_ GE529.out | refine below_set ?_ GE530.out | refine below_set ?_ GE535.out | refine below_set ?_ GE540.out) | exact HB.out)) hb)
              clear BK529
              clear BK530
              clear BK535
              clear BK540
              clear HB
              have BK529 := n0_
              have BK530 := n1_
              have BK535 := n2_
              have BK540 := n3_
              have HB := n4_
              clear n0_ n1_ n2_ n3_ n4_
              (try clear hb)
              (try clear hb2)
              (try clear hk)
              (try clear hi)
              refine hK.out _ _ ⟨(blk_cell BK535.out 0).trans rfl, (blk_cell BK535.out 1).trans rfl, (blk_cell BK535.out 2).trans rfl, (blk_cell BK540.out 0).trans rfl, (blk_cell BK540.out 1).trans rfl, (blk_cell BK540.out 2).trans rfl, (blk_cell BK529.out 0).trans rfl, (blk_cell BK529.out 1).trans rfl, (blk_cell BK529.out 2).trans rfl⟩ (fun hHeld => ?_)
              clear hK K
              refine norm_ (a' := ?_) ?_ ?_
              rotate_left
              · show Act.put _ (some 48) _ = _
                simp only [Act.put, List.setIfInBounds_toArray, List.set_cons_zero, List.set_cons_succ, i64_w, i32_w]
                rfl
              refine one_ (i := 12) (N := some 50) #[true, true, true, true, true, true, true, true, true, true, true, true, true, false, false, false, false, false, false, false, false, false] rfl rfl (one_of HT_.out (by kernel_rfl)) (by decide) (fun K hK => ?_)
              refine goes_ Tryd.func21 (by kernel_rfl) rfl #[.agg #[.string t524, .string t525, .int .i64 t526]] (by rfl) rfl rfl (by (try simp only [List.map_toArray, List.map_cons, List.map_nil]); first | done | rfl | (simp only [List.length_drop, List.length_take]; rfl)) ?_
              with_reducible refine (spec_IsValidLog.calls k t524 t525 t526 t542 _ A32.out).mono ?_
              rintro e w37 ⟨rfl, hb⟩
              refine ⟨_, rfl, ?_⟩
              have n0_ := Aside0.mk (blk_below (g := gb529) (o := .cells #[.string t524, .string t525, .int .i64 t526] 31 (0, 0)) BK529.out hb)
              have n1_ := Aside0.mk (blk_below (g := gb530) (o := .cells #[.string t527, .string t528] 27 (0, 0)) BK530.out hb)
              have n2_ := Aside0.mk (blk_below (g := gb535) (o := .cells #[.string t531, .string t532, .int .i64 t533] 31 (0, 0)) BK535.out hb)
              have n3_ := Aside0.mk (blk_below (g := gb540) (o := .cells #[.string t536, .string t537, .int .i64 t538] 31 (0, 0)) BK540.out hb)
              have n4_ := Aside0.mk (below_step (by repeat (first | (with_reducible first | exact HB.out | apply below_alloc | apply pw_below_drewN | apply below_drew1 | refine below_set ?_ GE529.out | refine below_set ?_ GE530.out | refine below_set ?_ GE535.out | refine below_set ?_ GE540.out) | exact HB.out)) hb)
              clear BK529
              clear BK530
              clear BK535
              clear BK540
              clear HB
              have BK529 := n0_
              have BK530 := n1_
              have BK535 := n2_
              have BK540 := n3_
              have HB := n4_
              clear n0_ n1_ n2_ n3_ n4_
              (try clear hb)
              (try clear hb2)
              (try clear hk)
              (try clear hi)
              refine hK.out _ _ ⟨(blk_cell BK535.out 0).trans rfl, (blk_cell BK535.out 1).trans rfl, (blk_cell BK535.out 2).trans rfl, (blk_cell BK540.out 0).trans rfl, (blk_cell BK540.out 1).trans rfl, (blk_cell BK540.out 2).trans rfl, (blk_cell BK529.out 0).trans rfl, (blk_cell BK529.out 1).trans rfl, (blk_cell BK529.out 2).trans rfl⟩ (fun hHeld => ?_)
              clear hK K
              refine norm_ (a' := ?_) ?_ ?_
              rotate_left
              · show Act.put _ (some 50) _ = _
                simp only [Act.put, List.setIfInBounds_toArray, List.set_cons_zero, List.set_cons_succ, i64_w, i32_w]
                rfl
              refine pure_ (i := 13) (N := some 51) (v := ?_) (a' := ?_) #[true, true, true, true, true, true, true, true, true, true, true, true, true, true, false, false, false, false, false, false, false, false] rfl rfl (any_of HT_.out (by kernel_rfl)) (fun _ _ _ h => h) (Or.inl ⟨by rfl, ?_⟩) ?_ ?_
              rotate_left
              · intro w'
                go_simp
                with_reducible rfl
              rotate_left
              · simp only [Act.put, List.setIfInBounds_toArray, List.set_cons_zero, List.set_cons_succ, i64_w, i32_w]
                rfl
              refine pure_ (i := 14) (N := some 52) (v := ?_) (a' := ?_) #[true, true, true, true, true, true, true, true, true, true, true, true, true, true, true, false, false, false, false, false, false, false] rfl rfl (any_of HT_.out (by kernel_rfl)) (fun _ _ _ h => h) (Or.inl ⟨by rfl, ?_⟩) ?_ ?_
              rotate_left
              · intro w'
                go_simp
                with_reducible rfl
              rotate_left
              · simp only [Act.put, List.setIfInBounds_toArray, List.set_cons_zero, List.set_cons_succ, i64_w, i32_w]
                rfl
              refine pure_ (i := 15) (N := some 53) (v := ?_) (a' := ?_) #[true, true, true, true, true, true, true, true, true, true, true, true, true, true, true, true, false, false, false, false, false, false] rfl rfl (any_of HT_.out (by kernel_rfl)) (fun _ _ _ h => h) (Or.inl ⟨by rfl, ?_⟩) ?_ ?_
              rotate_left
              · intro w'
                go_simp
                with_reducible rfl
              rotate_left
              · simp only [Act.put, List.setIfInBounds_toArray, List.set_cons_zero, List.set_cons_succ, i64_w, i32_w]
                rfl
              refine pure_ (i := 16) (N := some 54) (v := undef) (a' := ?_) #[true, true, true, true, true, true, true, true, true, true, true, true, true, true, true, true, true, false, false, false, false, false] rfl rfl (any_of HT_.out (by kernel_rfl)) (fun _ _ _ h => h) (Or.inr ⟨by rfl, rfl⟩) ?_ ?_
              rotate_left
              · simp only [Act.put, List.setIfInBounds_toArray, List.set_cons_zero, List.set_cons_succ, i64_w, i32_w]
                rfl
              refine pure_ (i := 17) (N := some 55) (v := undef) (a' := ?_) #[true, true, true, true, true, true, true, true, true, true, true, true, true, true, true, true, true, true, false, false, false, false] rfl rfl (any_of HT_.out (by kernel_rfl)) (fun _ _ _ h => h) (Or.inr ⟨by rfl, rfl⟩) ?_ ?_
              rotate_left
              · simp only [Act.put, List.setIfInBounds_toArray, List.set_cons_zero, List.set_cons_succ, i64_w, i32_w]
                rfl
              refine pure_ (i := 18) (N := some 56) (v := undef) (a' := ?_) #[true, true, true, true, true, true, true, true, true, true, true, true, true, true, true, true, true, true, true, false, false, false] rfl rfl (any_of HT_.out (by kernel_rfl)) (fun _ _ _ h => h) (Or.inr ⟨by rfl, rfl⟩) ?_ ?_
              rotate_left
              · simp only [Act.put, List.setIfInBounds_toArray, List.set_cons_zero, List.set_cons_succ, i64_w, i32_w]
                rfl
              refine pure_ (i := 19) (N := some 57) (v := undef) (a' := ?_) #[true, true, true, true, true, true, true, true, true, true, true, true, true, true, true, true, true, true, true, true, false, false] rfl rfl (any_of HT_.out (by kernel_rfl)) (fun _ _ _ h => h) (Or.inr ⟨by rfl, rfl⟩) ?_ ?_
              rotate_left
              · simp only [Act.put, List.setIfInBounds_toArray, List.set_cons_zero, List.set_cons_succ, i64_w, i32_w]
                rfl
              refine pure_ (i := 20) (N := some 58) (v := undef) (a' := ?_) #[true, true, true, true, true, true, true, true, true, true, true, true, true, true, true, true, true, true, true, true, true, false] rfl rfl (any_of HT_.out (by kernel_rfl)) (fun _ _ _ h => h) (Or.inr ⟨by rfl, rfl⟩) ?_ ?_
              rotate_left
              · simp only [Act.put, List.setIfInBounds_toArray, List.set_cons_zero, List.set_cons_succ, i64_w, i32_w]
                rfl
              refine pure_ (i := 21) (N := some 59) (v := ?_) (a' := ?_) #[true, true, true, true, true, true, true, true, true, true, true, true, true, true, true, true, true, true, true, true, true, true] rfl rfl (any_of HT_.out (by kernel_rfl)) (fun _ _ _ h => h) (Or.inl ⟨by rfl, ?_⟩) ?_ ?_
              rotate_left
              · intro w'
                go_simp
                with_reducible rfl
              rotate_left
              · simp only [Act.put, List.setIfInBounds_toArray, List.set_cons_zero, List.set_cons_succ, i64_w, i32_w]
                rfl
              refine done_ (done_of HT_.out (by kernel_rfl)) ?_
              try go_wp2
              go_meet
              case rel => exact ⟨_, (true), (by first | rfl | (simp; done) | (simp [*]; done)), H', ⟨by first | omega | exact Nat.le_refl _⟩, ⟨by (with_reducible repeat (first | refine blk_drewN ?_ _ | refine blk_drew ?_ | refine blk_alloc ?_ _)); exact BK529.out⟩, ⟨by (with_reducible repeat (first | refine blk_drewN ?_ _ | refine blk_drew ?_ | refine blk_alloc ?_ _)); exact BK530.out⟩, ⟨by (with_reducible repeat (first | refine blk_drewN ?_ _ | refine blk_drew ?_ | refine blk_alloc ?_ _)); exact BK535.out⟩, ⟨by (with_reducible repeat (first | refine blk_drewN ?_ _ | refine blk_drew ?_ | refine blk_alloc ?_ _)); exact BK540.out⟩, ⟨by repeat (first | (with_reducible first | exact HB.out | apply below_alloc | apply pw_below_drewN | apply below_drew1 | refine below_set ?_ GE529.out | refine below_set ?_ GE530.out | refine below_set ?_ GE535.out | refine below_set ?_ GE540.out) | exact HB.out)⟩⟩
            · rw [if_neg c33] at H
              have c33b0 : (t541 != t542) = false := by simpa using c33
              (try (have c33b1 : decide (t541 = t542) = true := by simpa using c33))
              (try (have c33b2 : (t541 == t542) = true := by simpa using c33))
              clear c33
              replace H := Option.bind_eq_some_iff.mp H
              obtain ⟨t543, A380, H⟩ := H
              replace H : ((spec_IsValidRecord.f k t527 t528).bind fun t544 => (laws_FnLog.j0 k t534 (t543 != t544) t524 t525 t526 t527 t528 t531 t532 t533)) = some r := H
              have A38 := Aside0.mk A380
              clear A380
              replace H := Option.bind_eq_some_iff.mp H
              obtain ⟨t544, A390, H⟩ := H
              replace H : (laws_FnLog.j0 k t534 (t543 != t544) t524 t525 t526 t527 t528 t531 t532 t533) = some r := H
              have A39 := Aside0.mk A390
              clear A390
              have H' := Aside0.mk H
              clear H
              try go_wp2
              have n0_ : Aside0 ((((w22.setCell ⟨gb540, 0, none⟩ (.string t536)).setCell ⟨gb540, 1, none⟩ (.string t537)).setCell ⟨gb540, 2, none⟩ (.int .i64 t538)).heap[gb529]? = some (.cells #[.string t524, .string t525, .int .i64 t526] 31 (0, 0))) := ⟨by (with_reducible repeat (first | refine blk_drewN ?_ _ | refine blk_drew ?_ | refine blk_alloc ?_ _)); refine blk_far ?_ NB529_540.out _; (with_reducible repeat (first | refine blk_drewN ?_ _ | refine blk_drew ?_ | refine blk_alloc ?_ _)); refine blk_far ?_ NB529_540.out _; (with_reducible repeat (first | refine blk_drewN ?_ _ | refine blk_drew ?_ | refine blk_alloc ?_ _)); refine blk_far ?_ NB529_540.out _; (with_reducible repeat (first | refine blk_drewN ?_ _ | refine blk_drew ?_ | refine blk_alloc ?_ _)); exact BK529.out⟩
              have n1_ : Aside0 ((((w22.setCell ⟨gb540, 0, none⟩ (.string t536)).setCell ⟨gb540, 1, none⟩ (.string t537)).setCell ⟨gb540, 2, none⟩ (.int .i64 t538)).heap[gb530]? = some (.cells #[.string t527, .string t528] 27 (0, 0))) := ⟨by (with_reducible repeat (first | refine blk_drewN ?_ _ | refine blk_drew ?_ | refine blk_alloc ?_ _)); refine blk_far ?_ NB530_540.out _; (with_reducible repeat (first | refine blk_drewN ?_ _ | refine blk_drew ?_ | refine blk_alloc ?_ _)); refine blk_far ?_ NB530_540.out _; (with_reducible repeat (first | refine blk_drewN ?_ _ | refine blk_drew ?_ | refine blk_alloc ?_ _)); refine blk_far ?_ NB530_540.out _; (with_reducible repeat (first | refine blk_drewN ?_ _ | refine blk_drew ?_ | refine blk_alloc ?_ _)); exact BK530.out⟩
              have n2_ : Aside0 ((((w22.setCell ⟨gb540, 0, none⟩ (.string t536)).setCell ⟨gb540, 1, none⟩ (.string t537)).setCell ⟨gb540, 2, none⟩ (.int .i64 t538)).heap[gb535]? = some (.cells #[.string t531, .string t532, .int .i64 t533] 31 (0, 0))) := ⟨by (with_reducible repeat (first | refine blk_drewN ?_ _ | refine blk_drew ?_ | refine blk_alloc ?_ _)); refine blk_far ?_ NB535_540.out _; (with_reducible repeat (first | refine blk_drewN ?_ _ | refine blk_drew ?_ | refine blk_alloc ?_ _)); refine blk_far ?_ NB535_540.out _; (with_reducible repeat (first | refine blk_drewN ?_ _ | refine blk_drew ?_ | refine blk_alloc ?_ _)); refine blk_far ?_ NB535_540.out _; (with_reducible repeat (first | refine blk_drewN ?_ _ | refine blk_drew ?_ | refine blk_alloc ?_ _)); exact BK535.out⟩
              have n3_ : Aside0 ((((w22.setCell ⟨gb540, 0, none⟩ (.string t536)).setCell ⟨gb540, 1, none⟩ (.string t537)).setCell ⟨gb540, 2, none⟩ (.int .i64 t538)).heap[gb540]? = some (.cells #[.string t536, .string t537, .int .i64 t538] 31 (0, 0))) := ⟨by (with_reducible repeat (first | refine blk_drewN ?_ _ | refine blk_drew ?_ | refine blk_alloc ?_ _)); refine blk_put (cs := #[.string t536, .string t537, .int .i64 0]) ?_ 2 _ rfl; (with_reducible repeat (first | refine blk_drewN ?_ _ | refine blk_drew ?_ | refine blk_alloc ?_ _)); refine blk_put (cs := #[.string t536, .string (⟨#[]⟩ : ByteArray), .int .i64 0]) ?_ 1 _ rfl; (with_reducible repeat (first | refine blk_drewN ?_ _ | refine blk_drew ?_ | refine blk_alloc ?_ _)); refine blk_put (cs := #[.string (⟨#[]⟩ : ByteArray), .string (⟨#[]⟩ : ByteArray), .int .i64 0]) ?_ 0 _ rfl; (with_reducible repeat (first | refine blk_drewN ?_ _ | refine blk_drew ?_ | refine blk_alloc ?_ _)); exact BK540.out⟩
              have n4_ : Aside0 (Below w.heap.size w (((w22.setCell ⟨gb540, 0, none⟩ (.string t536)).setCell ⟨gb540, 1, none⟩ (.string t537)).setCell ⟨gb540, 2, none⟩ (.int .i64 t538))) := ⟨by repeat (first | (with_reducible first | exact HB.out | apply below_alloc | apply pw_below_drewN | apply below_drew1 | refine below_set ?_ GE529.out | refine below_set ?_ GE530.out | refine below_set ?_ GE535.out | refine below_set ?_ GE540.out) | exact HB.out)⟩
              (try clear BK529)
              (try clear BK530)
              (try clear BK535)
              (try clear BK540)
              (try clear HB)
              generalize (((w22.setCell ⟨gb540, 0, none⟩ (.string t536)).setCell ⟨gb540, 1, none⟩ (.string t537)).setCell ⟨gb540, 2, none⟩ (.int .i64 t538)) = w40 at n0_ n1_ n2_ n3_ n4_ ⊢
              have BK529 := n0_
              have BK530 := n1_
              have BK535 := n2_
              have BK540 := n3_
              have HB := n4_
              clear n0_ n1_ n2_ n3_ n4_
              have n0_ := Aside0.mk (blk_drew BK529.out)
              have n1_ := Aside0.mk (blk_drew BK530.out)
              have n2_ := Aside0.mk (blk_drew BK535.out)
              have n3_ := Aside0.mk (blk_drew BK540.out)
              have n4_ := Aside0.mk (below_drew1 HB.out)
              clear BK529
              clear BK530
              clear BK535
              clear BK540
              clear HB
              have BK529 := n0_
              have BK530 := n1_
              have BK535 := n2_
              have BK540 := n3_
              have HB := n4_
              clear n0_ n1_ n2_ n3_ n4_
              refine start_ (n := 22) (S := fun w' => w'.cell? ⟨gb535, 0, none⟩ = some (.string t531) ∧ w'.cell? ⟨gb535, 1, none⟩ = some (.string t532) ∧ w'.cell? ⟨gb535, 2, none⟩ = some (.int .i64 t533) ∧ w'.cell? ⟨gb540, 0, none⟩ = some (.string t536) ∧ w'.cell? ⟨gb540, 1, none⟩ = some (.string t537) ∧ w'.cell? ⟨gb540, 2, none⟩ = some (.int .i64 t538) ∧ w'.cell? ⟨gb529, 0, none⟩ = some (.string t524) ∧ w'.cell? ⟨gb529, 1, none⟩ = some (.string t525) ∧ w'.cell? ⟨gb529, 2, none⟩ = some (.int .i64 t526) ∧ w'.cell? ⟨gb530, 0, none⟩ = some (.string t527) ∧ w'.cell? ⟨gb530, 1, none⟩ = some (.string t528)) (ds := []) #[false, false, false, false, false, false, false, false, false, false, false, false, false, false, false, false, false, false, false, false, false, false] (by kernel_rfl) rfl rfl ⟨(blk_cell BK535.out 0).trans rfl, (blk_cell BK535.out 1).trans rfl, (blk_cell BK535.out 2).trans rfl, (blk_cell BK540.out 0).trans rfl, (blk_cell BK540.out 1).trans rfl, (blk_cell BK540.out 2).trans rfl, (blk_cell BK529.out 0).trans rfl, (blk_cell BK529.out 1).trans rfl, (blk_cell BK529.out 2).trans rfl, (blk_cell BK530.out 0).trans rfl, (blk_cell BK530.out 1).trans rfl⟩ (fun hHeld => ?_); refine with_tabW laws_FnLog.tab6 laws_FnLog.bits6 (fun HT_ HW_ => ?_)
              generalize w40.drew = w41 at BK529 BK530 BK535 BK540 HB hHeld ⊢
              refine take_ (i := 0) (N := some 38) (v := ?_) (a' := ?_) #[true, false, false, false, false, false, false, false, false, false, false, false, false, false, false, false, false, false, false, false, false, false] rfl rfl (take_ofW HT_.out HW_.out (by kernel_rfl)) (fun _ _ _ h => h) (Or.inl ⟨by rfl, ?_⟩) hHeld ?_ ?_
              rotate_left
              · rintro w' ⟨s0, s1, s2, s3, s4, s5, s6, s7, s8, s9, s10⟩
                go_simp
                with_reducible rfl
              rotate_left
              · simp only [Act.put, List.setIfInBounds_toArray, List.set_cons_zero, List.set_cons_succ, i64_w, i32_w]
                rfl
              refine take_ (i := 1) (N := some 39) (v := ?_) (a' := ?_) #[true, true, false, false, false, false, false, false, false, false, false, false, false, false, false, false, false, false, false, false, false, false] rfl rfl (take_ofW HT_.out HW_.out (by kernel_rfl)) (fun _ _ _ h => h) (Or.inl ⟨by rfl, ?_⟩) hHeld ?_ ?_
              rotate_left
              · rintro w' ⟨s0, s1, s2, s3, s4, s5, s6, s7, s8, s9, s10⟩
                go_simp
                with_reducible rfl
              rotate_left
              · simp only [Act.put, List.setIfInBounds_toArray, List.set_cons_zero, List.set_cons_succ, i64_w, i32_w]
                rfl
              refine pure_ (i := 2) (N := some 40) (v := ?_) (a' := ?_) #[true, true, true, false, false, false, false, false, false, false, false, false, false, false, false, false, false, false, false, false, false, false] rfl rfl (any_of HT_.out (by kernel_rfl)) (fun _ _ _ h => h) (Or.inl ⟨by rfl, ?_⟩) ?_ ?_
              rotate_left
              · intro w'
                go_simp
                with_reducible rfl
              rotate_left
              · simp only [Act.put, List.setIfInBounds_toArray, List.set_cons_zero, List.set_cons_succ, i64_w, i32_w]
                rfl
              refine pure_ (i := 3) (N := some 41) (v := ?_) (a' := ?_) #[true, true, true, true, false, false, false, false, false, false, false, false, false, false, false, false, false, false, false, false, false, false] rfl rfl (any_of HT_.out (by kernel_rfl)) (fun _ _ _ h => h) (Or.inl ⟨by rfl, ?_⟩) ?_ ?_
              rotate_left
              · intro w'
                go_simp
                with_reducible rfl
              rotate_left
              · simp only [Act.put, List.setIfInBounds_toArray, List.set_cons_zero, List.set_cons_succ, i64_w, i32_w]
                rfl
              refine pure_ (i := 4) (N := some 42) (v := ?_) (a' := ?_) #[true, true, true, true, true, false, false, false, false, false, false, false, false, false, false, false, false, false, false, false, false, false] rfl rfl (any_of HT_.out (by kernel_rfl)) (fun _ _ _ h => h) (Or.inl ⟨by rfl, ?_⟩) ?_ ?_
              rotate_left
              · intro w'
                go_simp
                with_reducible rfl
              rotate_left
              · simp only [Act.put, List.setIfInBounds_toArray, List.set_cons_zero, List.set_cons_succ, i64_w, i32_w]
                rfl
              refine pure_ (i := 5) (N := some 43) (v := ?_) (a' := ?_) #[true, true, true, true, true, true, false, false, false, false, false, false, false, false, false, false, false, false, false, false, false, false] rfl rfl (any_of HT_.out (by kernel_rfl)) (fun _ _ _ h => h) (Or.inl ⟨by rfl, ?_⟩) ?_ ?_
              rotate_left
              · intro w'
                go_simp
                with_reducible rfl
              rotate_left
              · simp only [Act.put, List.setIfInBounds_toArray, List.set_cons_zero, List.set_cons_succ, i64_w, i32_w]
                rfl
              refine pure_ (i := 6) (N := some 44) (v := ?_) (a' := ?_) #[true, true, true, true, true, true, true, false, false, false, false, false, false, false, false, false, false, false, false, false, false, false] rfl rfl (any_of HT_.out (by kernel_rfl)) (fun _ _ _ h => h) (Or.inl ⟨by rfl, ?_⟩) ?_ ?_
              rotate_left
              · intro w'
                go_simp
                with_reducible rfl
              rotate_left
              · simp only [Act.put, List.setIfInBounds_toArray, List.set_cons_zero, List.set_cons_succ, i64_w, i32_w]
                rfl
              refine pure_ (i := 7) (N := some 45) (v := ?_) (a' := ?_) #[true, true, true, true, true, true, true, true, false, false, false, false, false, false, false, false, false, false, false, false, false, false] rfl rfl (any_of HT_.out (by kernel_rfl)) (fun _ _ _ h => h) (Or.inl ⟨by rfl, ?_⟩) ?_ ?_
              rotate_left
              · intro w'
                go_simp
                with_reducible rfl
              rotate_left
              · simp only [Act.put, List.setIfInBounds_toArray, List.set_cons_zero, List.set_cons_succ, i64_w, i32_w]
                rfl
              refine pure_ (i := 8) (N := some 46) (v := ?_) (a' := ?_) #[true, true, true, true, true, true, true, true, true, false, false, false, false, false, false, false, false, false, false, false, false, false] rfl rfl (any_of HT_.out (by kernel_rfl)) (fun _ _ _ h => h) (Or.inl ⟨by rfl, ?_⟩) ?_ ?_
              rotate_left
              · intro w'
                go_simp
                with_reducible rfl
              rotate_left
              · simp only [Act.put, List.setIfInBounds_toArray, List.set_cons_zero, List.set_cons_succ, i64_w, i32_w]
                rfl
              refine take_ (i := 9) (N := some 47) (v := ?_) (a' := ?_) #[true, true, true, true, true, true, true, true, true, true, false, false, false, false, false, false, false, false, false, false, false, false] rfl rfl (take_ofW HT_.out HW_.out (by kernel_rfl)) (fun _ _ _ h => h) (Or.inl ⟨by rfl, ?_⟩) hHeld ?_ ?_
              rotate_left
              · rintro w' ⟨s0, s1, s2, s3, s4, s5, s6, s7, s8, s9, s10⟩
                go_simp
                with_reducible rfl
              rotate_left
              · simp only [Act.put, List.setIfInBounds_toArray, List.set_cons_zero, List.set_cons_succ, i64_w, i32_w]
                rfl
              refine take_ (i := 11) (N := some 49) (v := ?_) (a' := ?_) #[true, true, true, true, true, true, true, true, true, true, false, true, false, false, false, false, false, false, false, false, false, false] rfl rfl (take_ofW HT_.out HW_.out (by kernel_rfl)) (fun _ _ _ h => h) (Or.inl ⟨by rfl, ?_⟩) hHeld ?_ ?_
              rotate_left
              · rintro w' ⟨s0, s1, s2, s3, s4, s5, s6, s7, s8, s9, s10⟩
                go_simp
                with_reducible rfl
              rotate_left
              · simp only [Act.put, List.setIfInBounds_toArray, List.set_cons_zero, List.set_cons_succ, i64_w, i32_w]
                rfl
              refine one_ (i := 10) (N := some 48) #[true, true, true, true, true, true, true, true, true, true, true, true, false, false, false, false, false, false, false, false, false, false] rfl rfl (one_of HT_.out (by kernel_rfl)) (by decide) (fun K hK => ?_)
              refine goes_ Tryd.func23 (by kernel_rfl) rfl #[.agg #[.string t524, .string t525, .int .i64 t526]] (by rfl) rfl rfl (by (try simp only [List.map_toArray, List.map_cons, List.map_nil]); first | done | rfl | (simp only [List.length_drop, List.length_take]; rfl)) ?_
              with_reducible refine (impl_IsValidLog.calls k t524 t525 t526 t541 _ A31.out ?sideG).mono ?_
              case sideG => exact (gw_below HG.out (by repeat (first | (with_reducible first | exact HB.out | apply below_alloc | apply pw_below_drewN | apply below_drew1 | refine below_set ?_ GE529.out | refine below_set ?_ GE530.out | refine below_set ?_ GE535.out | refine below_set ?_ GE540.out) | exact HB.out)))
              rintro e w42 ⟨rfl, hb⟩
              refine ⟨_, rfl, ?_⟩
              have n0_ := Aside0.mk (blk_below (g := gb529) (o := .cells #[.string t524, .string t525, .int .i64 t526] 31 (0, 0)) BK529.out hb)
              have n1_ := Aside0.mk (blk_below (g := gb530) (o := .cells #[.string t527, .string t528] 27 (0, 0)) BK530.out hb)
              have n2_ := Aside0.mk (blk_below (g := gb535) (o := .cells #[.string t531, .string t532, .int .i64 t533] 31 (0, 0)) BK535.out hb)
              have n3_ := Aside0.mk (blk_below (g := gb540) (o := .cells #[.string t536, .string t537, .int .i64 t538] 31 (0, 0)) BK540.out hb)
              have n4_ := Aside0.mk (below_step (by repeat (first | (with_reducible first | exact HB.out | apply below_alloc | apply pw_below_drewN | apply below_drew1 | refine below_set ?_ GE529.out | refine below_set ?_ GE530.out | refine below_set ?_ GE535.out | refine below_set ?_ GE540.out) | exact HB.out)) hb)
              clear BK529
              clear BK530
              clear BK535
              clear BK540
              clear HB
              have BK529 := n0_
              have BK530 := n1_
              have BK535 := n2_
              have BK540 := n3_
              have HB := n4_
              clear n0_ n1_ n2_ n3_ n4_
              (try clear hb)
              (try clear hb2)
              (try clear hk)
              (try clear hi)
              refine hK.out _ _ ⟨(blk_cell BK535.out 0).trans rfl, (blk_cell BK535.out 1).trans rfl, (blk_cell BK535.out 2).trans rfl, (blk_cell BK540.out 0).trans rfl, (blk_cell BK540.out 1).trans rfl, (blk_cell BK540.out 2).trans rfl, (blk_cell BK529.out 0).trans rfl, (blk_cell BK529.out 1).trans rfl, (blk_cell BK529.out 2).trans rfl, (blk_cell BK530.out 0).trans rfl, (blk_cell BK530.out 1).trans rfl⟩ (fun hHeld => ?_)
              clear hK K
              refine norm_ (a' := ?_) ?_ ?_
              rotate_left
              · show Act.put _ (some 48) _ = _
                simp only [Act.put, List.setIfInBounds_toArray, List.set_cons_zero, List.set_cons_succ, i64_w, i32_w]
                rfl
              refine one_ (i := 12) (N := some 50) #[true, true, true, true, true, true, true, true, true, true, true, true, true, false, false, false, false, false, false, false, false, false] rfl rfl (one_of HT_.out (by kernel_rfl)) (by decide) (fun K hK => ?_)
              refine goes_ Tryd.func21 (by kernel_rfl) rfl #[.agg #[.string t524, .string t525, .int .i64 t526]] (by rfl) rfl rfl (by (try simp only [List.map_toArray, List.map_cons, List.map_nil]); first | done | rfl | (simp only [List.length_drop, List.length_take]; rfl)) ?_
              with_reducible refine (spec_IsValidLog.calls k t524 t525 t526 t542 _ A32.out).mono ?_
              rintro e w43 ⟨rfl, hb⟩
              refine ⟨_, rfl, ?_⟩
              have n0_ := Aside0.mk (blk_below (g := gb529) (o := .cells #[.string t524, .string t525, .int .i64 t526] 31 (0, 0)) BK529.out hb)
              have n1_ := Aside0.mk (blk_below (g := gb530) (o := .cells #[.string t527, .string t528] 27 (0, 0)) BK530.out hb)
              have n2_ := Aside0.mk (blk_below (g := gb535) (o := .cells #[.string t531, .string t532, .int .i64 t533] 31 (0, 0)) BK535.out hb)
              have n3_ := Aside0.mk (blk_below (g := gb540) (o := .cells #[.string t536, .string t537, .int .i64 t538] 31 (0, 0)) BK540.out hb)
              have n4_ := Aside0.mk (below_step (by repeat (first | (with_reducible first | exact HB.out | apply below_alloc | apply pw_below_drewN | apply below_drew1 | refine below_set ?_ GE529.out | refine below_set ?_ GE530.out | refine below_set ?_ GE535.out | refine below_set ?_ GE540.out) | exact HB.out)) hb)
              clear BK529
              clear BK530
              clear BK535
              clear BK540
              clear HB
              have BK529 := n0_
              have BK530 := n1_
              have BK535 := n2_
              have BK540 := n3_
              have HB := n4_
              clear n0_ n1_ n2_ n3_ n4_
              (try clear hb)
              (try clear hb2)
              (try clear hk)
              (try clear hi)
              refine hK.out _ _ ⟨(blk_cell BK535.out 0).trans rfl, (blk_cell BK535.out 1).trans rfl, (blk_cell BK535.out 2).trans rfl, (blk_cell BK540.out 0).trans rfl, (blk_cell BK540.out 1).trans rfl, (blk_cell BK540.out 2).trans rfl, (blk_cell BK529.out 0).trans rfl, (blk_cell BK529.out 1).trans rfl, (blk_cell BK529.out 2).trans rfl, (blk_cell BK530.out 0).trans rfl, (blk_cell BK530.out 1).trans rfl⟩ (fun hHeld => ?_)
              clear hK K
              refine norm_ (a' := ?_) ?_ ?_
              rotate_left
              · show Act.put _ (some 50) _ = _
                simp only [Act.put, List.setIfInBounds_toArray, List.set_cons_zero, List.set_cons_succ, i64_w, i32_w]
                rfl
              refine pure_ (i := 13) (N := some 51) (v := ?_) (a' := ?_) #[true, true, true, true, true, true, true, true, true, true, true, true, true, true, false, false, false, false, false, false, false, false] rfl rfl (any_of HT_.out (by kernel_rfl)) (fun _ _ _ h => h) (Or.inl ⟨by rfl, ?_⟩) ?_ ?_
              rotate_left
              · intro w'
                go_simp
                with_reducible rfl
              rotate_left
              · simp only [Act.put, List.setIfInBounds_toArray, List.set_cons_zero, List.set_cons_succ, i64_w, i32_w]
                rfl
              refine pure_ (i := 14) (N := some 52) (v := ?_) (a' := ?_) #[true, true, true, true, true, true, true, true, true, true, true, true, true, true, true, false, false, false, false, false, false, false] rfl rfl (any_of HT_.out (by kernel_rfl)) (fun _ _ _ h => h) (Or.inl ⟨by rfl, ?_⟩) ?_ ?_
              rotate_left
              · intro w'
                go_simp
                with_reducible rfl
              rotate_left
              · simp only [Act.put, List.setIfInBounds_toArray, List.set_cons_zero, List.set_cons_succ, i64_w, i32_w]
                rfl
              refine pure_ (i := 15) (N := some 53) (v := ?_) (a' := ?_) #[true, true, true, true, true, true, true, true, true, true, true, true, true, true, true, true, false, false, false, false, false, false] rfl rfl (any_of HT_.out (by kernel_rfl)) (fun _ _ _ h => h) (Or.inl ⟨by rfl, ?_⟩) ?_ ?_
              rotate_left
              · intro w'
                go_simp
                with_reducible rfl
              rotate_left
              · simp only [Act.put, List.setIfInBounds_toArray, List.set_cons_zero, List.set_cons_succ, i64_w, i32_w]
                rfl
              refine take_ (i := 16) (N := some 54) (v := ?_) (a' := ?_) #[true, true, true, true, true, true, true, true, true, true, true, true, true, true, true, true, true, false, false, false, false, false] rfl rfl (take_ofW HT_.out HW_.out (by kernel_rfl)) (fun _ _ _ h => h) (Or.inl ⟨by rfl, ?_⟩) hHeld ?_ ?_
              rotate_left
              · rintro w' ⟨s0, s1, s2, s3, s4, s5, s6, s7, s8, s9, s10⟩
                go_simp
                with_reducible rfl
              rotate_left
              · simp only [Act.put, List.setIfInBounds_toArray, List.set_cons_zero, List.set_cons_succ, i64_w, i32_w]
                rfl
              refine take_ (i := 18) (N := some 56) (v := ?_) (a' := ?_) #[true, true, true, true, true, true, true, true, true, true, true, true, true, true, true, true, true, false, true, false, false, false] rfl rfl (take_ofW HT_.out HW_.out (by kernel_rfl)) (fun _ _ _ h => h) (Or.inl ⟨by rfl, ?_⟩) hHeld ?_ ?_
              rotate_left
              · rintro w' ⟨s0, s1, s2, s3, s4, s5, s6, s7, s8, s9, s10⟩
                go_simp
                with_reducible rfl
              rotate_left
              · simp only [Act.put, List.setIfInBounds_toArray, List.set_cons_zero, List.set_cons_succ, i64_w, i32_w]
                rfl
              refine one_ (i := 17) (N := some 55) #[true, true, true, true, true, true, true, true, true, true, true, true, true, true, true, true, true, true, true, false, false, false] rfl rfl (one_of HT_.out (by kernel_rfl)) (by decide) (fun K hK => ?_)
              refine goes_ Tryd.func37 (by kernel_rfl) rfl #[.agg #[.string t527, .string t528]] (by rfl) rfl rfl (by (try simp only [List.map_toArray, List.map_cons, List.map_nil]); first | done | rfl | (simp only [List.length_drop, List.length_take]; rfl)) ?_
              with_reducible refine (impl_IsValidRecord.calls k t527 t528 t543 _ A38.out).mono ?_
              rintro e w44 ⟨rfl, hb⟩
              refine ⟨_, rfl, ?_⟩
              have n0_ := Aside0.mk (blk_below (g := gb529) (o := .cells #[.string t524, .string t525, .int .i64 t526] 31 (0, 0)) BK529.out hb)
              have n1_ := Aside0.mk (blk_below (g := gb530) (o := .cells #[.string t527, .string t528] 27 (0, 0)) BK530.out hb)
              have n2_ := Aside0.mk (blk_below (g := gb535) (o := .cells #[.string t531, .string t532, .int .i64 t533] 31 (0, 0)) BK535.out hb)
              have n3_ := Aside0.mk (blk_below (g := gb540) (o := .cells #[.string t536, .string t537, .int .i64 t538] 31 (0, 0)) BK540.out hb)
              have n4_ := Aside0.mk (below_step (by repeat (first | (with_reducible first | exact HB.out | apply below_alloc | apply pw_below_drewN | apply below_drew1 | refine below_set ?_ GE529.out | refine below_set ?_ GE530.out | refine below_set ?_ GE535.out | refine below_set ?_ GE540.out) | exact HB.out)) hb)
              clear BK529
              clear BK530
              clear BK535
              clear BK540
              clear HB
              have BK529 := n0_
              have BK530 := n1_
              have BK535 := n2_
              have BK540 := n3_
              have HB := n4_
              clear n0_ n1_ n2_ n3_ n4_
              (try clear hb)
              (try clear hb2)
              (try clear hk)
              (try clear hi)
              refine hK.out _ _ ⟨(blk_cell BK535.out 0).trans rfl, (blk_cell BK535.out 1).trans rfl, (blk_cell BK535.out 2).trans rfl, (blk_cell BK540.out 0).trans rfl, (blk_cell BK540.out 1).trans rfl, (blk_cell BK540.out 2).trans rfl, (blk_cell BK529.out 0).trans rfl, (blk_cell BK529.out 1).trans rfl, (blk_cell BK529.out 2).trans rfl, (blk_cell BK530.out 0).trans rfl, (blk_cell BK530.out 1).trans rfl⟩ (fun hHeld => ?_)
              clear hK K
              refine norm_ (a' := ?_) ?_ ?_
              rotate_left
              · show Act.put _ (some 55) _ = _
                simp only [Act.put, List.setIfInBounds_toArray, List.set_cons_zero, List.set_cons_succ, i64_w, i32_w]
                rfl
              refine one_ (i := 19) (N := some 57) #[true, true, true, true, true, true, true, true, true, true, true, true, true, true, true, true, true, true, true, true, false, false] rfl rfl (one_of HT_.out (by kernel_rfl)) (by decide) (fun K hK => ?_)
              refine goes_ Tryd.func38 (by kernel_rfl) rfl #[.agg #[.string t527, .string t528]] (by rfl) rfl rfl (by (try simp only [List.map_toArray, List.map_cons, List.map_nil]); first | done | rfl | (simp only [List.length_drop, List.length_take]; rfl)) ?_
              with_reducible refine (spec_IsValidRecord.calls k t527 t528 t544 _ A39.out).mono ?_
              rintro e w45 ⟨rfl, hb⟩
              refine ⟨_, rfl, ?_⟩
              have n0_ := Aside0.mk (blk_below (g := gb529) (o := .cells #[.string t524, .string t525, .int .i64 t526] 31 (0, 0)) BK529.out hb)
              have n1_ := Aside0.mk (blk_below (g := gb530) (o := .cells #[.string t527, .string t528] 27 (0, 0)) BK530.out hb)
              have n2_ := Aside0.mk (blk_below (g := gb535) (o := .cells #[.string t531, .string t532, .int .i64 t533] 31 (0, 0)) BK535.out hb)
              have n3_ := Aside0.mk (blk_below (g := gb540) (o := .cells #[.string t536, .string t537, .int .i64 t538] 31 (0, 0)) BK540.out hb)
              have n4_ := Aside0.mk (below_step (by repeat (first | (with_reducible first | exact HB.out | apply below_alloc | apply pw_below_drewN | apply below_drew1 | refine below_set ?_ GE529.out | refine below_set ?_ GE530.out | refine below_set ?_ GE535.out | refine below_set ?_ GE540.out) | exact HB.out)) hb)
              clear BK529
              clear BK530
              clear BK535
              clear BK540
              clear HB
              have BK529 := n0_
              have BK530 := n1_
              have BK535 := n2_
              have BK540 := n3_
              have HB := n4_
              clear n0_ n1_ n2_ n3_ n4_
              (try clear hb)
              (try clear hb2)
              (try clear hk)
              (try clear hi)
              refine hK.out _ _ ⟨(blk_cell BK535.out 0).trans rfl, (blk_cell BK535.out 1).trans rfl, (blk_cell BK535.out 2).trans rfl, (blk_cell BK540.out 0).trans rfl, (blk_cell BK540.out 1).trans rfl, (blk_cell BK540.out 2).trans rfl, (blk_cell BK529.out 0).trans rfl, (blk_cell BK529.out 1).trans rfl, (blk_cell BK529.out 2).trans rfl, (blk_cell BK530.out 0).trans rfl, (blk_cell BK530.out 1).trans rfl⟩ (fun hHeld => ?_)
              clear hK K
              refine norm_ (a' := ?_) ?_ ?_
              rotate_left
              · show Act.put _ (some 57) _ = _
                simp only [Act.put, List.setIfInBounds_toArray, List.set_cons_zero, List.set_cons_succ, i64_w, i32_w]
                rfl
              refine pure_ (i := 20) (N := some 58) (v := ?_) (a' := ?_) #[true, true, true, true, true, true, true, true, true, true, true, true, true, true, true, true, true, true, true, true, true, false] rfl rfl (any_of HT_.out (by kernel_rfl)) (fun _ _ _ h => h) (Or.inl ⟨by rfl, ?_⟩) ?_ ?_
              rotate_left
              · intro w'
                go_simp
                with_reducible rfl
              rotate_left
              · simp only [Act.put, List.setIfInBounds_toArray, List.set_cons_zero, List.set_cons_succ, i64_w, i32_w]
                rfl
              refine pure_ (i := 21) (N := some 59) (v := ?_) (a' := ?_) #[true, true, true, true, true, true, true, true, true, true, true, true, true, true, true, true, true, true, true, true, true, true] rfl rfl (any_of HT_.out (by kernel_rfl)) (fun _ _ _ h => h) (Or.inl ⟨by rfl, ?_⟩) ?_ ?_
              rotate_left
              · intro w'
                go_simp
                with_reducible rfl
              rotate_left
              · simp only [Act.put, List.setIfInBounds_toArray, List.set_cons_zero, List.set_cons_succ, i64_w, i32_w]
                rfl
              refine done_ (done_of HT_.out (by kernel_rfl)) ?_
              try go_wp2
              go_meet
              case rel => exact ⟨_, ((t543 != t544)), (by first | rfl | (simp; done) | (simp [*]; done)), H', ⟨by first | omega | exact Nat.le_refl _⟩, ⟨by (with_reducible repeat (first | refine blk_drewN ?_ _ | refine blk_drew ?_ | refine blk_alloc ?_ _)); exact BK529.out⟩, ⟨by (with_reducible repeat (first | refine blk_drewN ?_ _ | refine blk_drew ?_ | refine blk_alloc ?_ _)); exact BK530.out⟩, ⟨by (with_reducible repeat (first | refine blk_drewN ?_ _ | refine blk_drew ?_ | refine blk_alloc ?_ _)); exact BK535.out⟩, ⟨by (with_reducible repeat (first | refine blk_drewN ?_ _ | refine blk_drew ?_ | refine blk_alloc ?_ _)); exact BK540.out⟩, ⟨by repeat (first | (with_reducible first | exact HB.out | apply below_alloc | apply pw_below_drewN | apply below_drew1 | refine below_set ?_ GE529.out | refine below_set ?_ GE530.out | refine below_set ?_ GE535.out | refine below_set ?_ GE540.out) | exact HB.out)⟩⟩
          · rw [if_neg c30] at H
            have c30b0 : (t534 == t539) = false := beq_eq_false_iff_ne.mpr c30
            have c30b1 : (t534 != t539) = true := bne_iff_ne.mpr c30
            have H' := Aside0.mk H
            clear H
            try go_wp2
            have n0_ : Aside0 ((((w22.setCell ⟨gb540, 0, none⟩ (.string t536)).setCell ⟨gb540, 1, none⟩ (.string t537)).setCell ⟨gb540, 2, none⟩ (.int .i64 t538)).heap[gb529]? = some (.cells #[.string t524, .string t525, .int .i64 t526] 31 (0, 0))) := ⟨by (with_reducible repeat (first | refine blk_drewN ?_ _ | refine blk_drew ?_ | refine blk_alloc ?_ _)); refine blk_far ?_ NB529_540.out _; (with_reducible repeat (first | refine blk_drewN ?_ _ | refine blk_drew ?_ | refine blk_alloc ?_ _)); refine blk_far ?_ NB529_540.out _; (with_reducible repeat (first | refine blk_drewN ?_ _ | refine blk_drew ?_ | refine blk_alloc ?_ _)); refine blk_far ?_ NB529_540.out _; (with_reducible repeat (first | refine blk_drewN ?_ _ | refine blk_drew ?_ | refine blk_alloc ?_ _)); exact BK529.out⟩
            have n1_ : Aside0 ((((w22.setCell ⟨gb540, 0, none⟩ (.string t536)).setCell ⟨gb540, 1, none⟩ (.string t537)).setCell ⟨gb540, 2, none⟩ (.int .i64 t538)).heap[gb530]? = some (.cells #[.string t527, .string t528] 27 (0, 0))) := ⟨by (with_reducible repeat (first | refine blk_drewN ?_ _ | refine blk_drew ?_ | refine blk_alloc ?_ _)); refine blk_far ?_ NB530_540.out _; (with_reducible repeat (first | refine blk_drewN ?_ _ | refine blk_drew ?_ | refine blk_alloc ?_ _)); refine blk_far ?_ NB530_540.out _; (with_reducible repeat (first | refine blk_drewN ?_ _ | refine blk_drew ?_ | refine blk_alloc ?_ _)); refine blk_far ?_ NB530_540.out _; (with_reducible repeat (first | refine blk_drewN ?_ _ | refine blk_drew ?_ | refine blk_alloc ?_ _)); exact BK530.out⟩
            have n2_ : Aside0 ((((w22.setCell ⟨gb540, 0, none⟩ (.string t536)).setCell ⟨gb540, 1, none⟩ (.string t537)).setCell ⟨gb540, 2, none⟩ (.int .i64 t538)).heap[gb535]? = some (.cells #[.string t531, .string t532, .int .i64 t533] 31 (0, 0))) := ⟨by (with_reducible repeat (first | refine blk_drewN ?_ _ | refine blk_drew ?_ | refine blk_alloc ?_ _)); refine blk_far ?_ NB535_540.out _; (with_reducible repeat (first | refine blk_drewN ?_ _ | refine blk_drew ?_ | refine blk_alloc ?_ _)); refine blk_far ?_ NB535_540.out _; (with_reducible repeat (first | refine blk_drewN ?_ _ | refine blk_drew ?_ | refine blk_alloc ?_ _)); refine blk_far ?_ NB535_540.out _; (with_reducible repeat (first | refine blk_drewN ?_ _ | refine blk_drew ?_ | refine blk_alloc ?_ _)); exact BK535.out⟩
            have n3_ : Aside0 ((((w22.setCell ⟨gb540, 0, none⟩ (.string t536)).setCell ⟨gb540, 1, none⟩ (.string t537)).setCell ⟨gb540, 2, none⟩ (.int .i64 t538)).heap[gb540]? = some (.cells #[.string t536, .string t537, .int .i64 t538] 31 (0, 0))) := ⟨by (with_reducible repeat (first | refine blk_drewN ?_ _ | refine blk_drew ?_ | refine blk_alloc ?_ _)); refine blk_put (cs := #[.string t536, .string t537, .int .i64 0]) ?_ 2 _ rfl; (with_reducible repeat (first | refine blk_drewN ?_ _ | refine blk_drew ?_ | refine blk_alloc ?_ _)); refine blk_put (cs := #[.string t536, .string (⟨#[]⟩ : ByteArray), .int .i64 0]) ?_ 1 _ rfl; (with_reducible repeat (first | refine blk_drewN ?_ _ | refine blk_drew ?_ | refine blk_alloc ?_ _)); refine blk_put (cs := #[.string (⟨#[]⟩ : ByteArray), .string (⟨#[]⟩ : ByteArray), .int .i64 0]) ?_ 0 _ rfl; (with_reducible repeat (first | refine blk_drewN ?_ _ | refine blk_drew ?_ | refine blk_alloc ?_ _)); exact BK540.out⟩
            have n4_ : Aside0 (Below w.heap.size w (((w22.setCell ⟨gb540, 0, none⟩ (.string t536)).setCell ⟨gb540, 1, none⟩ (.string t537)).setCell ⟨gb540, 2, none⟩ (.int .i64 t538))) := ⟨by repeat (first | (with_reducible first | exact HB.out | apply below_alloc | apply pw_below_drewN | apply below_drew1 | refine below_set ?_ GE529.out | refine below_set ?_ GE530.out | refine below_set ?_ GE535.out | refine below_set ?_ GE540.out) | exact HB.out)⟩
            (try clear BK529)
            (try clear BK530)
            (try clear BK535)
            (try clear BK540)
            (try clear HB)
            generalize (((w22.setCell ⟨gb540, 0, none⟩ (.string t536)).setCell ⟨gb540, 1, none⟩ (.string t537)).setCell ⟨gb540, 2, none⟩ (.int .i64 t538)) = w46 at n0_ n1_ n2_ n3_ n4_ ⊢
            have BK529 := n0_
            have BK530 := n1_
            have BK535 := n2_
            have BK540 := n3_
            have HB := n4_
            clear n0_ n1_ n2_ n3_ n4_
            have n0_ := Aside0.mk (blk_drew BK529.out)
            have n1_ := Aside0.mk (blk_drew BK530.out)
            have n2_ := Aside0.mk (blk_drew BK535.out)
            have n3_ := Aside0.mk (blk_drew BK540.out)
            have n4_ := Aside0.mk (below_drew1 HB.out)
            clear BK529
            clear BK530
            clear BK535
            clear BK540
            clear HB
            have BK529 := n0_
            have BK530 := n1_
            have BK535 := n2_
            have BK540 := n3_
            have HB := n4_
            clear n0_ n1_ n2_ n3_ n4_
            refine start_ (n := 22) (S := fun w' => w'.cell? ⟨gb535, 0, none⟩ = some (.string t531) ∧ w'.cell? ⟨gb535, 1, none⟩ = some (.string t532) ∧ w'.cell? ⟨gb535, 2, none⟩ = some (.int .i64 t533) ∧ w'.cell? ⟨gb540, 0, none⟩ = some (.string t536) ∧ w'.cell? ⟨gb540, 1, none⟩ = some (.string t537) ∧ w'.cell? ⟨gb540, 2, none⟩ = some (.int .i64 t538)) (ds := []) #[false, false, false, false, false, false, false, false, false, false, false, false, false, false, false, false, false, false, false, false, false, false] (by kernel_rfl) rfl rfl ⟨(blk_cell BK535.out 0).trans rfl, (blk_cell BK535.out 1).trans rfl, (blk_cell BK535.out 2).trans rfl, (blk_cell BK540.out 0).trans rfl, (blk_cell BK540.out 1).trans rfl, (blk_cell BK540.out 2).trans rfl⟩ (fun hHeld => ?_); refine with_tabW laws_FnLog.tab6 laws_FnLog.bits6 (fun HT_ HW_ => ?_)
            generalize w46.drew = w47 at BK529 BK530 BK535 BK540 HB hHeld ⊢
            refine take_ (i := 0) (N := some 38) (v := ?_) (a' := ?_) #[true, false, false, false, false, false, false, false, false, false, false, false, false, false, false, false, false, false, false, false, false, false] rfl rfl (take_ofW HT_.out HW_.out (by kernel_rfl)) (fun _ _ _ h => h) (Or.inl ⟨by rfl, ?_⟩) hHeld ?_ ?_
            rotate_left
            · rintro w' ⟨s0, s1, s2, s3, s4, s5⟩
              go_simp
              with_reducible rfl
            rotate_left
            · simp only [Act.put, List.setIfInBounds_toArray, List.set_cons_zero, List.set_cons_succ, i64_w, i32_w]
              rfl
            refine take_ (i := 1) (N := some 39) (v := ?_) (a' := ?_) #[true, true, false, false, false, false, false, false, false, false, false, false, false, false, false, false, false, false, false, false, false, false] rfl rfl (take_ofW HT_.out HW_.out (by kernel_rfl)) (fun _ _ _ h => h) (Or.inl ⟨by rfl, ?_⟩) hHeld ?_ ?_
            rotate_left
            · rintro w' ⟨s0, s1, s2, s3, s4, s5⟩
              go_simp
              with_reducible rfl
            rotate_left
            · simp only [Act.put, List.setIfInBounds_toArray, List.set_cons_zero, List.set_cons_succ, i64_w, i32_w]
              rfl
            refine pure_ (i := 2) (N := some 40) (v := ?_) (a' := ?_) #[true, true, true, false, false, false, false, false, false, false, false, false, false, false, false, false, false, false, false, false, false, false] rfl rfl (any_of HT_.out (by kernel_rfl)) (fun _ _ _ h => h) (Or.inl ⟨by rfl, ?_⟩) ?_ ?_
            rotate_left
            · intro w'
              go_simp
              with_reducible rfl
            rotate_left
            · simp only [Act.put, List.setIfInBounds_toArray, List.set_cons_zero, List.set_cons_succ, i64_w, i32_w]
              rfl
            refine pure_ (i := 3) (N := some 41) (v := ?_) (a' := ?_) #[true, true, true, true, false, false, false, false, false, false, false, false, false, false, false, false, false, false, false, false, false, false] rfl rfl (any_of HT_.out (by kernel_rfl)) (fun _ _ _ h => h) (Or.inl ⟨by rfl, ?_⟩) ?_ ?_
            rotate_left
            · intro w'
              go_simp
              with_reducible rfl
            rotate_left
            · simp only [Act.put, List.setIfInBounds_toArray, List.set_cons_zero, List.set_cons_succ, i64_w, i32_w]
              rfl
            refine pure_ (i := 4) (N := some 42) (v := ?_) (a' := ?_) #[true, true, true, true, true, false, false, false, false, false, false, false, false, false, false, false, false, false, false, false, false, false] rfl rfl (any_of HT_.out (by kernel_rfl)) (fun _ _ _ h => h) (Or.inl ⟨by rfl, ?_⟩) ?_ ?_
            rotate_left
            · intro w'
              go_simp
              with_reducible rfl
            rotate_left
            · simp only [Act.put, List.setIfInBounds_toArray, List.set_cons_zero, List.set_cons_succ, i64_w, i32_w]
              rfl
            refine pure_ (i := 5) (N := some 43) (v := ?_) (a' := ?_) #[true, true, true, true, true, true, false, false, false, false, false, false, false, false, false, false, false, false, false, false, false, false] rfl rfl (any_of HT_.out (by kernel_rfl)) (fun _ _ _ h => h) (Or.inl ⟨by rfl, ?_⟩) ?_ ?_
            rotate_left
            · intro w'
              go_simp
              with_reducible rfl
            rotate_left
            · simp only [Act.put, List.setIfInBounds_toArray, List.set_cons_zero, List.set_cons_succ, i64_w, i32_w]
              rfl
            refine pure_ (i := 6) (N := some 44) (v := ?_) (a' := ?_) #[true, true, true, true, true, true, true, false, false, false, false, false, false, false, false, false, false, false, false, false, false, false] rfl rfl (any_of HT_.out (by kernel_rfl)) (fun _ _ _ h => h) (Or.inl ⟨by rfl, ?_⟩) ?_ ?_
            rotate_left
            · intro w'
              go_simp
              with_reducible rfl
            rotate_left
            · simp only [Act.put, List.setIfInBounds_toArray, List.set_cons_zero, List.set_cons_succ, i64_w, i32_w]
              rfl
            refine pure_ (i := 7) (N := some 45) (v := ?_) (a' := ?_) #[true, true, true, true, true, true, true, true, false, false, false, false, false, false, false, false, false, false, false, false, false, false] rfl rfl (any_of HT_.out (by kernel_rfl)) (fun _ _ _ h => h) (Or.inl ⟨by rfl, ?_⟩) ?_ ?_
            rotate_left
            · intro w'
              go_simp
              with_reducible rfl
            rotate_left
            · simp only [Act.put, List.setIfInBounds_toArray, List.set_cons_zero, List.set_cons_succ, i64_w, i32_w]
              rfl
            refine pure_ (i := 8) (N := some 46) (v := ?_) (a' := ?_) #[true, true, true, true, true, true, true, true, true, false, false, false, false, false, false, false, false, false, false, false, false, false] rfl rfl (any_of HT_.out (by kernel_rfl)) (fun _ _ _ h => h) (Or.inl ⟨by rfl, ?_⟩) ?_ ?_
            rotate_left
            · intro w'
              go_simp
              with_reducible rfl
            rotate_left
            · simp only [Act.put, List.setIfInBounds_toArray, List.set_cons_zero, List.set_cons_succ, i64_w, i32_w]
              rfl
            refine pure_ (i := 9) (N := some 47) (v := undef) (a' := ?_) #[true, true, true, true, true, true, true, true, true, true, false, false, false, false, false, false, false, false, false, false, false, false] rfl rfl (any_of HT_.out (by kernel_rfl)) (fun _ _ _ h => h) (Or.inr ⟨by rfl, rfl⟩) ?_ ?_
            rotate_left
            · simp only [Act.put, List.setIfInBounds_toArray, List.set_cons_zero, List.set_cons_succ, i64_w, i32_w]
              rfl
            refine pure_ (i := 10) (N := some 48) (v := undef) (a' := ?_) #[true, true, true, true, true, true, true, true, true, true, true, false, false, false, false, false, false, false, false, false, false, false] rfl rfl (any_of HT_.out (by kernel_rfl)) (fun _ _ _ h => h) (Or.inr ⟨by rfl, rfl⟩) ?_ ?_
            rotate_left
            · simp only [Act.put, List.setIfInBounds_toArray, List.set_cons_zero, List.set_cons_succ, i64_w, i32_w]
              rfl
            refine pure_ (i := 11) (N := some 49) (v := undef) (a' := ?_) #[true, true, true, true, true, true, true, true, true, true, true, true, false, false, false, false, false, false, false, false, false, false] rfl rfl (any_of HT_.out (by kernel_rfl)) (fun _ _ _ h => h) (Or.inr ⟨by rfl, rfl⟩) ?_ ?_
            rotate_left
            · simp only [Act.put, List.setIfInBounds_toArray, List.set_cons_zero, List.set_cons_succ, i64_w, i32_w]
              rfl
            refine pure_ (i := 12) (N := some 50) (v := undef) (a' := ?_) #[true, true, true, true, true, true, true, true, true, true, true, true, true, false, false, false, false, false, false, false, false, false] rfl rfl (any_of HT_.out (by kernel_rfl)) (fun _ _ _ h => h) (Or.inr ⟨by rfl, rfl⟩) ?_ ?_
            rotate_left
            · simp only [Act.put, List.setIfInBounds_toArray, List.set_cons_zero, List.set_cons_succ, i64_w, i32_w]
              rfl
            refine pure_ (i := 13) (N := some 51) (v := undef) (a' := ?_) #[true, true, true, true, true, true, true, true, true, true, true, true, true, true, false, false, false, false, false, false, false, false] rfl rfl (any_of HT_.out (by kernel_rfl)) (fun _ _ _ h => h) (Or.inr ⟨by rfl, rfl⟩) ?_ ?_
            rotate_left
            · simp only [Act.put, List.setIfInBounds_toArray, List.set_cons_zero, List.set_cons_succ, i64_w, i32_w]
              rfl
            refine pure_ (i := 14) (N := some 52) (v := ?_) (a' := ?_) #[true, true, true, true, true, true, true, true, true, true, true, true, true, true, true, false, false, false, false, false, false, false] rfl rfl (any_of HT_.out (by kernel_rfl)) (fun _ _ _ h => h) (Or.inl ⟨by rfl, ?_⟩) ?_ ?_
            rotate_left
            · intro w'
              go_simp
              with_reducible rfl
            rotate_left
            · simp only [Act.put, List.setIfInBounds_toArray, List.set_cons_zero, List.set_cons_succ, i64_w, i32_w]
              rfl
            refine pure_ (i := 15) (N := some 53) (v := ?_) (a' := ?_) #[true, true, true, true, true, true, true, true, true, true, true, true, true, true, true, true, false, false, false, false, false, false] rfl rfl (any_of HT_.out (by kernel_rfl)) (fun _ _ _ h => h) (Or.inl ⟨by rfl, ?_⟩) ?_ ?_
            rotate_left
            · intro w'
              go_simp
              with_reducible rfl
            rotate_left
            · simp only [Act.put, List.setIfInBounds_toArray, List.set_cons_zero, List.set_cons_succ, i64_w, i32_w]
              rfl
            refine pure_ (i := 16) (N := some 54) (v := undef) (a' := ?_) #[true, true, true, true, true, true, true, true, true, true, true, true, true, true, true, true, true, false, false, false, false, false] rfl rfl (any_of HT_.out (by kernel_rfl)) (fun _ _ _ h => h) (Or.inr ⟨by rfl, rfl⟩) ?_ ?_
            rotate_left
            · simp only [Act.put, List.setIfInBounds_toArray, List.set_cons_zero, List.set_cons_succ, i64_w, i32_w]
              rfl
            refine pure_ (i := 17) (N := some 55) (v := undef) (a' := ?_) #[true, true, true, true, true, true, true, true, true, true, true, true, true, true, true, true, true, true, false, false, false, false] rfl rfl (any_of HT_.out (by kernel_rfl)) (fun _ _ _ h => h) (Or.inr ⟨by rfl, rfl⟩) ?_ ?_
            rotate_left
            · simp only [Act.put, List.setIfInBounds_toArray, List.set_cons_zero, List.set_cons_succ, i64_w, i32_w]
              rfl
            refine pure_ (i := 18) (N := some 56) (v := undef) (a' := ?_) #[true, true, true, true, true, true, true, true, true, true, true, true, true, true, true, true, true, true, true, false, false, false] rfl rfl (any_of HT_.out (by kernel_rfl)) (fun _ _ _ h => h) (Or.inr ⟨by rfl, rfl⟩) ?_ ?_
            rotate_left
            · simp only [Act.put, List.setIfInBounds_toArray, List.set_cons_zero, List.set_cons_succ, i64_w, i32_w]
              rfl
            refine pure_ (i := 19) (N := some 57) (v := undef) (a' := ?_) #[true, true, true, true, true, true, true, true, true, true, true, true, true, true, true, true, true, true, true, true, false, false] rfl rfl (any_of HT_.out (by kernel_rfl)) (fun _ _ _ h => h) (Or.inr ⟨by rfl, rfl⟩) ?_ ?_
            rotate_left
            · simp only [Act.put, List.setIfInBounds_toArray, List.set_cons_zero, List.set_cons_succ, i64_w, i32_w]
              rfl
            refine pure_ (i := 20) (N := some 58) (v := undef) (a' := ?_) #[true, true, true, true, true, true, true, true, true, true, true, true, true, true, true, true, true, true, true, true, true, false] rfl rfl (any_of HT_.out (by kernel_rfl)) (fun _ _ _ h => h) (Or.inr ⟨by rfl, rfl⟩) ?_ ?_
            rotate_left
            · simp only [Act.put, List.setIfInBounds_toArray, List.set_cons_zero, List.set_cons_succ, i64_w, i32_w]
              rfl
            refine pure_ (i := 21) (N := some 59) (v := ?_) (a' := ?_) #[true, true, true, true, true, true, true, true, true, true, true, true, true, true, true, true, true, true, true, true, true, true] rfl rfl (any_of HT_.out (by kernel_rfl)) (fun _ _ _ h => h) (Or.inl ⟨by rfl, ?_⟩) ?_ ?_
            rotate_left
            · intro w'
              go_simp
              with_reducible rfl
            rotate_left
            · simp only [Act.put, List.setIfInBounds_toArray, List.set_cons_zero, List.set_cons_succ, i64_w, i32_w]
              rfl
            refine done_ (done_of HT_.out (by kernel_rfl)) ?_
            try go_wp2
            go_meet
            case rel => exact ⟨_, (true), (by first | rfl | (simp; done) | (simp [*]; done)), H', ⟨by first | omega | exact Nat.le_refl _⟩, ⟨by (with_reducible repeat (first | refine blk_drewN ?_ _ | refine blk_drew ?_ | refine blk_alloc ?_ _)); exact BK529.out⟩, ⟨by (with_reducible repeat (first | refine blk_drewN ?_ _ | refine blk_drew ?_ | refine blk_alloc ?_ _)); exact BK530.out⟩, ⟨by (with_reducible repeat (first | refine blk_drewN ?_ _ | refine blk_drew ?_ | refine blk_alloc ?_ _)); exact BK535.out⟩, ⟨by (with_reducible repeat (first | refine blk_drewN ?_ _ | refine blk_drew ?_ | refine blk_alloc ?_ _)); exact BK540.out⟩, ⟨by repeat (first | (with_reducible first | exact HB.out | apply below_alloc | apply pw_below_drewN | apply below_drew1 | refine below_set ?_ GE529.out | refine below_set ?_ GE530.out | refine below_set ?_ GE535.out | refine below_set ?_ GE540.out) | exact HB.out)⟩⟩
    case rest =>
      as_aux_lemma =>
        clear HC7
        obtain ⟨kq, x59_6, rfl, HA, HJ6, BK529, BK530, BK535, BK540, HB⟩ := hcut
        cases kq with
        | zero => exact absurd HA.out (by simp [laws_FnLog.j0])
        | succ kj6 =>
          have H := HA.out
          clear HA
          simp only [laws_FnLog.j0] at H
          by_cases c48 : x59_6 = true
          · subst c48
            have H1 : (some false) = some r := by rw [if_pos rfl] at H; exact H
            exact absurd ((Option.some.inj H1).trans hrt_) (by decide)
          · replace c48 := Bool.eq_false_iff.mpr c48
            subst c48
            have H1 : (if t534 = 0 then ((impl_LogRecords.f kj6 t531 t532 t533).bind fun bt545 => ((impl_LogRecords.f kj6 t524 t525 t526).bind fun bt549 => (if t531.size + t532.size ≤ 9223372036854775807 then ((impl_RecoverLog.f kj6 (t531 ++ t532)).bind fun bt553 => ((impl_SyncLog.f kj6 t531 t532 t533).bind fun bt559 => (if bt545.2 = true then (if (bt545.1.length : Int) = (wrap64 ((bt549.1.length : Int) + 1)) then (laws_FnLog.j1 kj6 bt545.1 bt549.1 bt553.2.2.2.1 bt553.2.2.2.2 bt559.2.2.2 (t533 != (bt545.1.length : Int)) t527 t528 t531 t532 t533 bt553.1 bt553.2.1 bt553.2.2.1 bt559.1 bt559.2.1 bt559.2.2.1) else (laws_FnLog.j1 kj6 bt545.1 bt549.1 bt553.2.2.2.1 bt553.2.2.2.2 bt559.2.2.2 true t527 t528 t531 t532 t533 bt553.1 bt553.2.1 bt553.2.2.1 bt559.1 bt559.2.1 bt559.2.2.1)) else (laws_FnLog.j1 kj6 bt545.1 bt549.1 bt553.2.2.2.1 bt553.2.2.2.2 bt559.2.2.2 true t527 t528 t531 t532 t533 bt553.1 bt553.2.1 bt553.2.2.1 bt559.1 bt559.2.1 bt559.2.2.1)))) else (none)))) else (some (t531.toList == t524.toList && (t532.toList == t525.toList && (t533 == t526))))) = some r := by rw [if_neg (show ¬ (false = true) by decide)] at H; exact H
            clear H
            have H := H1
            clear H1
            by_cases c49 : t534 = 0
            · rw [if_pos c49] at H
              have c49b0 : (t534 == 0) = true := beq_iff_eq.mpr c49
              have c49b1 : (t534 != 0) = false := bne_eq_false_iff_eq.mpr c49
              clear c49
              replace H := Option.bind_eq_some_iff.mp H
              obtain ⟨⟨t545, t548⟩, A500, H⟩ := H
              replace H : ((impl_LogRecords.f kj6 t524 t525 t526).bind fun bt549 => (if t531.size + t532.size ≤ 9223372036854775807 then ((impl_RecoverLog.f kj6 (t531 ++ t532)).bind fun bt553 => ((impl_SyncLog.f kj6 t531 t532 t533).bind fun bt559 => (if t548 = true then (if (t545.length : Int) = (wrap64 ((bt549.1.length : Int) + 1)) then (laws_FnLog.j1 kj6 t545 bt549.1 bt553.2.2.2.1 bt553.2.2.2.2 bt559.2.2.2 (t533 != (t545.length : Int)) t527 t528 t531 t532 t533 bt553.1 bt553.2.1 bt553.2.2.1 bt559.1 bt559.2.1 bt559.2.2.1) else (laws_FnLog.j1 kj6 t545 bt549.1 bt553.2.2.2.1 bt553.2.2.2.2 bt559.2.2.2 true t527 t528 t531 t532 t533 bt553.1 bt553.2.1 bt553.2.2.1 bt559.1 bt559.2.1 bt559.2.2.1)) else (laws_FnLog.j1 kj6 t545 bt549.1 bt553.2.2.2.1 bt553.2.2.2.2 bt559.2.2.2 true t527 t528 t531 t532 t533 bt553.1 bt553.2.1 bt553.2.2.1 bt559.1 bt559.2.1 bt559.2.2.1)))) else (none))) = some r := H
              have A50 := Aside0.mk A500
              clear A500
              replace H := Option.bind_eq_some_iff.mp H
              obtain ⟨⟨t549, t552⟩, A510, H⟩ := H
              replace H : (if t531.size + t532.size ≤ 9223372036854775807 then ((impl_RecoverLog.f kj6 (t531 ++ t532)).bind fun bt553 => ((impl_SyncLog.f kj6 t531 t532 t533).bind fun bt559 => (if t548 = true then (if (t545.length : Int) = (wrap64 ((t549.length : Int) + 1)) then (laws_FnLog.j1 kj6 t545 t549 bt553.2.2.2.1 bt553.2.2.2.2 bt559.2.2.2 (t533 != (t545.length : Int)) t527 t528 t531 t532 t533 bt553.1 bt553.2.1 bt553.2.2.1 bt559.1 bt559.2.1 bt559.2.2.1) else (laws_FnLog.j1 kj6 t545 t549 bt553.2.2.2.1 bt553.2.2.2.2 bt559.2.2.2 true t527 t528 t531 t532 t533 bt553.1 bt553.2.1 bt553.2.2.1 bt559.1 bt559.2.1 bt559.2.2.1)) else (laws_FnLog.j1 kj6 t545 t549 bt553.2.2.2.1 bt553.2.2.2.2 bt559.2.2.2 true t527 t528 t531 t532 t533 bt553.1 bt553.2.1 bt553.2.2.1 bt559.1 bt559.2.1 bt559.2.2.1)))) else (none)) = some r := H
              have A51 := Aside0.mk A510
              clear A510
              by_cases c52 : t531.size + t532.size ≤ 9223372036854775807
              · rw [if_pos c52] at H
                have c52b0 := eq_true c52
                have c52b1 : decide (t531.size + t532.size ≤ 9223372036854775807) = true := decide_eq_true c52
                try have c52b2 : (9223372036854775807 < t531.size + t532.size) = False := eq_false (Nat.not_lt.2 c52)
                replace H := Option.bind_eq_some_iff.mp H
                obtain ⟨⟨t553, t554, t555, t556, t557⟩, A530, H⟩ := H
                replace H : ((impl_SyncLog.f kj6 t531 t532 t533).bind fun bt559 => (if t548 = true then (if (t545.length : Int) = (wrap64 ((t549.length : Int) + 1)) then (laws_FnLog.j1 kj6 t545 t549 t556 t557 bt559.2.2.2 (t533 != (t545.length : Int)) t527 t528 t531 t532 t533 t553 t554 t555 bt559.1 bt559.2.1 bt559.2.2.1) else (laws_FnLog.j1 kj6 t545 t549 t556 t557 bt559.2.2.2 true t527 t528 t531 t532 t533 t553 t554 t555 bt559.1 bt559.2.1 bt559.2.2.1)) else (laws_FnLog.j1 kj6 t545 t549 t556 t557 bt559.2.2.2 true t527 t528 t531 t532 t533 t553 t554 t555 bt559.1 bt559.2.1 bt559.2.2.1))) = some r := H
                have A53 := Aside0.mk A530
                clear A530
                replace H := Option.bind_eq_some_iff.mp H
                obtain ⟨⟨t559, t560, t561, t562⟩, A540, H⟩ := H
                replace H : (if t548 = true then (if (t545.length : Int) = (wrap64 ((t549.length : Int) + 1)) then (laws_FnLog.j1 kj6 t545 t549 t556 t557 t562 (t533 != (t545.length : Int)) t527 t528 t531 t532 t533 t553 t554 t555 t559 t560 t561) else (laws_FnLog.j1 kj6 t545 t549 t556 t557 t562 true t527 t528 t531 t532 t533 t553 t554 t555 t559 t560 t561)) else (laws_FnLog.j1 kj6 t545 t549 t556 t557 t562 true t527 t528 t531 t532 t533 t553 t554 t555 t559 t560 t561)) = some r := H
                have A54 := Aside0.mk A540
                clear A540
                have HC55 := Aside0.mk H
                clear H
                have hnb56 := NB535_529.out
                have hnc56 := NB529_535.out
                have hnb57 := NB535_530.out
                have hnc57 := NB530_535.out
                have hnb58 := NB535_540.out
                have hnc58 := NB540_535.out
                have hcz59_0 : wc.cell? ⟨gb535, 0, none⟩ = some (.string t531) := (blk_cell BK535.out 0).trans rfl
                have hcz59_1 : wc.cell? ⟨gb535, 1, none⟩ = some (.string t532) := (blk_cell BK535.out 1).trans rfl
                have hcz59_2 : wc.cell? ⟨gb535, 2, none⟩ = some (.int .i64 t533) := (blk_cell BK535.out 2).trans rfl
                have hfz59_0 := blk_frozen BK535.out 0
                have hfz59_1 := blk_frozen BK535.out 1
                have hfz59_2 := blk_frozen BK535.out 2
                go_upto_region 14 with (first | ((with_reducible refine gate_callee (f := 31) rfl ?_); refine goesL_ (some 67) rfl rfl Tryd.func31 (by kernel_rfl) rfl #[.agg #[.string t531, .string t532, .int .i64 t533]] rfl (by (try simp only [List.map_toArray, List.map_cons, List.map_nil]); first | done | rfl | (simp only [List.length_drop, List.length_take]; rfl)) ?_; (with_reducible refine (impl_LogRecords.calls kj6 t531 t532 t533 t545 t548 _ A50.out ?sideG).mono ?_); (case sideG => exact (gw_below HG.out (by repeat (first | (with_reducible first | exact HB.out | apply below_alloc | apply pw_below_drewN | apply below_drew1 | refine below_set ?_ GE529.out | refine below_set ?_ GE530.out | refine below_set ?_ GE535.out | refine below_set ?_ GE540.out) | exact HB.out)))); rintro e w60 ⟨v546, rfl, ho0, hb⟩; refine ⟨_, rfl, ?_⟩; have n0_ := Aside0.mk (Kd.R_lower (Kd.R_newB ho0 (g := gb530) (o := .cells #[.string t527, .string t528] 27 (0, 0)) BK530.out) (below_size (by repeat (first | (with_reducible first | exact HB.out | apply below_alloc | apply pw_below_drewN | apply below_drew1 | refine below_set ?_ GE529.out | refine below_set ?_ GE530.out | refine below_set ?_ GE535.out | refine below_set ?_ GE540.out) | exact HB.out)))); have n1_ := Aside0.mk (blk_below (g := gb529) (o := .cells #[.string t524, .string t525, .int .i64 t526] 31 (0, 0)) BK529.out hb); have n2_ := Aside0.mk (blk_below (g := gb530) (o := .cells #[.string t527, .string t528] 27 (0, 0)) BK530.out hb); have n3_ := Aside0.mk (blk_below (g := gb535) (o := .cells #[.string t531, .string t532, .int .i64 t533] 31 (0, 0)) BK535.out hb); have n4_ := Aside0.mk (blk_below (g := gb540) (o := .cells #[.string t536, .string t537, .int .i64 t538] 31 (0, 0)) BK540.out hb); have n5_ := Aside0.mk (below_step (by repeat (first | (with_reducible first | exact HB.out | apply below_alloc | apply pw_below_drewN | apply below_drew1 | refine below_set ?_ GE529.out | refine below_set ?_ GE530.out | refine below_set ?_ GE535.out | refine below_set ?_ GE540.out) | exact HB.out)) hb); clear BK529; clear BK530; clear BK535; clear BK540; clear HB; have HO547 := n0_; have BK529 := n1_; have BK530 := n2_; have BK535 := n3_; have BK540 := n4_; have HB := n5_; clear n0_ n1_ n2_ n3_ n4_ n5_; (try clear hb); (try clear hb2); (try clear hk); (try clear hi); (try clear ho0); have hnb61 := NB529_530.out; have hnc61 := NB530_529.out; have hnb62 := NB529_540.out; have hnc62 := NB540_529.out; have hcz63_0 : w60.cell? ⟨gb529, 0, none⟩ = some (.string t524) := (blk_cell BK529.out 0).trans rfl; have hcz63_1 : w60.cell? ⟨gb529, 1, none⟩ = some (.string t525) := (blk_cell BK529.out 1).trans rfl; have hcz63_2 : w60.cell? ⟨gb529, 2, none⟩ = some (.int .i64 t526) := (blk_cell BK529.out 2).trans rfl; have hfz63_0 := blk_frozen BK529.out 0; have hfz63_1 := blk_frozen BK529.out 1; have hfz63_2 := blk_frozen BK529.out 2) | ((with_reducible refine gate_callee (f := 31) rfl ?_); refine goesL_ (some 72) rfl rfl Tryd.func31 (by kernel_rfl) rfl #[.agg #[.string t524, .string t525, .int .i64 t526]] rfl (by (try simp only [List.map_toArray, List.map_cons, List.map_nil]); first | done | rfl | (simp only [List.length_drop, List.length_take]; rfl)) ?_; (with_reducible refine (impl_LogRecords.calls kj6 t524 t525 t526 t549 t552 _ A51.out ?sideG).mono ?_); (case sideG => exact (gw_below HG.out (by repeat (first | (with_reducible first | exact HB.out | apply below_alloc | apply pw_below_drewN | apply below_drew1 | refine below_set ?_ GE529.out | refine below_set ?_ GE530.out | refine below_set ?_ GE535.out | refine below_set ?_ GE540.out) | exact HB.out)))); rintro e w64 ⟨v550, rfl, ho0, hb⟩; refine ⟨_, rfl, ?_⟩; have n0_ := Aside0.mk (Kd.R_elder' (by (with_reducible repeat (first | apply Kd.R_alloc | apply Kd.R_drewN | apply Kd.R_drew)); exact HO547.out) (Kd.R_base ho0) hb); have n1_ := Aside0.mk (Kd.R_lower (Kd.R_newB (Kd.R_new' ho0 (Kd.R_lt (by (with_reducible repeat (first | apply Kd.R_alloc | apply Kd.R_drewN | apply Kd.R_drew)); exact HO547.out))) (g := gb530) (o := .cells #[.string t527, .string t528] 27 (0, 0)) BK530.out) (below_size (by repeat (first | (with_reducible first | exact HB.out | apply below_alloc | apply pw_below_drewN | apply below_drew1 | refine below_set ?_ GE529.out | refine below_set ?_ GE530.out | refine below_set ?_ GE535.out | refine below_set ?_ GE540.out) | exact HB.out)))); have n2_ := Aside0.mk (blk_below (g := gb529) (o := .cells #[.string t524, .string t525, .int .i64 t526] 31 (0, 0)) BK529.out hb); have n3_ := Aside0.mk (blk_below (g := gb530) (o := .cells #[.string t527, .string t528] 27 (0, 0)) BK530.out hb); have n4_ := Aside0.mk (blk_below (g := gb535) (o := .cells #[.string t531, .string t532, .int .i64 t533] 31 (0, 0)) BK535.out hb); have n5_ := Aside0.mk (blk_below (g := gb540) (o := .cells #[.string t536, .string t537, .int .i64 t538] 31 (0, 0)) BK540.out hb); have n6_ := Aside0.mk (below_step (by repeat (first | (with_reducible first | exact HB.out | apply below_alloc | apply pw_below_drewN | apply below_drew1 | refine below_set ?_ GE529.out | refine below_set ?_ GE530.out | refine below_set ?_ GE535.out | refine below_set ?_ GE540.out) | exact HB.out)) hb); clear HO547; clear BK529; clear BK530; clear BK535; clear BK540; clear HB; have HO547 := n0_; have HO551 := n1_; have BK529 := n2_; have BK530 := n3_; have BK535 := n4_; have BK540 := n5_; have HB := n6_; clear n0_ n1_ n2_ n3_ n4_ n5_ n6_; (try clear hb); (try clear hb2); (try clear hk); (try clear hi); (try clear ho0); have hcz65_0 : w64.cell? ⟨gb535, 0, none⟩ = some (.string t531) := (blk_cell BK535.out 0).trans rfl; have hcz65_1 : w64.cell? ⟨gb535, 1, none⟩ = some (.string t532) := (blk_cell BK535.out 1).trans rfl; have hcz65_2 : w64.cell? ⟨gb535, 2, none⟩ = some (.int .i64 t533) := (blk_cell BK535.out 2).trans rfl; have hfz65_0 := blk_frozen BK535.out 0; have hfz65_1 := blk_frozen BK535.out 1; have hfz65_2 := blk_frozen BK535.out 2) | ((with_reducible refine gate_callee (f := 18) rfl ?_); refine goesL_ (some 81) rfl rfl Tryd.func18 (by kernel_rfl) rfl #[.string (t531 ++ t532)] rfl (by (try simp only [List.map_toArray, List.map_cons, List.map_nil]); first | done | rfl | (simp only [List.length_drop, List.length_take]; rfl)) ?_; (with_reducible refine (impl_RecoverLog.calls kj6 (t531 ++ t532) t553 t554 t555 t556 t557 _ A53.out ?sideG).mono ?_); (case sideG => exact (gw_below HG.out (by repeat (first | (with_reducible first | exact HB.out | apply below_alloc | apply pw_below_drewN | apply below_drew1 | refine below_set ?_ GE529.out | refine below_set ?_ GE530.out | refine below_set ?_ GE535.out | refine below_set ?_ GE540.out) | exact HB.out)))); rintro e w66 ⟨rfl, hb⟩; refine ⟨_, rfl, ?_⟩; have n0_ := Aside0.mk (Kd.R_below (by (with_reducible repeat (first | apply Kd.R_alloc | apply Kd.R_drewN | apply Kd.R_drew)); exact HO547.out) hb); have n1_ := Aside0.mk (Kd.R_below (by (with_reducible repeat (first | apply Kd.R_alloc | apply Kd.R_drewN | apply Kd.R_drew)); exact HO551.out) hb); have n2_ := Aside0.mk (blk_below (g := gb529) (o := .cells #[.string t524, .string t525, .int .i64 t526] 31 (0, 0)) BK529.out hb); have n3_ := Aside0.mk (blk_below (g := gb530) (o := .cells #[.string t527, .string t528] 27 (0, 0)) BK530.out hb); have n4_ := Aside0.mk (blk_below (g := gb535) (o := .cells #[.string t531, .string t532, .int .i64 t533] 31 (0, 0)) BK535.out hb); have n5_ := Aside0.mk (blk_below (g := gb540) (o := .cells #[.string t536, .string t537, .int .i64 t538] 31 (0, 0)) BK540.out hb); have n6_ := Aside0.mk (below_step (by repeat (first | (with_reducible first | exact HB.out | apply below_alloc | apply pw_below_drewN | apply below_drew1 | refine below_set ?_ GE529.out | refine below_set ?_ GE530.out | refine below_set ?_ GE535.out | refine below_set ?_ GE540.out) | exact HB.out)) hb); clear HO547; clear HO551; clear BK529; clear BK530; clear BK535; clear BK540; clear HB; have HO547 := n0_; have HO551 := n1_; have BK529 := n2_; have BK530 := n3_; have BK535 := n4_; have BK540 := n5_; have HB := n6_; clear n0_ n1_ n2_ n3_ n4_ n5_ n6_; (try clear hb); (try clear hb2); (try clear hk); (try clear hi)) | ((with_reducible refine gate_dst (N := 13) rfl ?_); (try (refine gate_guard (by rfl) ?_; dsimp only)); refine box_event ?hg (N := 13) ?hd (cs := #[.string (⟨#[]⟩ : ByteArray), .string (⟨#[]⟩ : ByteArray), .int .i64 0]) (t := 31) ?hr ?_; (case hd => rfl); (case hg => rfl); (case hr => first | (go_simp; done) | (go_simp; rfl)); intro gb558 hg w67 hbox hb; have n0_ := Aside0.mk (Kd.R_below (by (with_reducible repeat (first | apply Kd.R_alloc | apply Kd.R_drewN | apply Kd.R_drew)); exact HO547.out) hb); have n1_ := Aside0.mk (Kd.R_below (by (with_reducible repeat (first | apply Kd.R_alloc | apply Kd.R_drewN | apply Kd.R_drew)); exact HO551.out) hb); have n2_ := Aside0.mk (blk_below (g := gb529) (o := .cells #[.string t524, .string t525, .int .i64 t526] 31 (0, 0)) BK529.out hb); have n3_ := Aside0.mk (blk_below (g := gb530) (o := .cells #[.string t527, .string t528] 27 (0, 0)) BK530.out hb); have n4_ := Aside0.mk (blk_below (g := gb535) (o := .cells #[.string t531, .string t532, .int .i64 t533] 31 (0, 0)) BK535.out hb); have n5_ := Aside0.mk (blk_below (g := gb540) (o := .cells #[.string t536, .string t537, .int .i64 t538] 31 (0, 0)) BK540.out hb); have n6_ := Aside0.mk (below_step (by repeat (first | (with_reducible first | exact HB.out | apply below_alloc | apply pw_below_drewN | apply below_drew1 | refine below_set ?_ GE529.out | refine below_set ?_ GE530.out | refine below_set ?_ GE535.out | refine below_set ?_ GE540.out) | exact HB.out)) hb); have n7_ := Aside0.mk (hbox); have n8_ := Aside0.mk ((by rw [hg]; exact (below_size (by repeat (first | (with_reducible first | exact HB.out | apply below_alloc | apply pw_below_drewN | apply below_drew1 | refine below_set ?_ GE529.out | refine below_set ?_ GE530.out | refine below_set ?_ GE535.out | refine below_set ?_ GE540.out) | exact HB.out))) : w.heap.size ≤ gb558)); have n9_ := Aside0.mk ((by rw [hg]; exact (below_size (by repeat (first | (with_reducible first | exact HB.out | apply below_alloc | apply pw_below_drewN | apply below_drew1 | refine below_set ?_ GE529.out | refine below_set ?_ GE530.out | refine below_set ?_ GE535.out | refine below_set ?_ GE540.out) | exact HB.out))) : w.heap.size ≤ gb558)); have n10_ := Aside0.mk ((by rw [hg]; exact Nat.ne_of_lt (blk_lt (g := gb529) (o := .cells #[.string t524, .string t525, .int .i64 t526] 31 (0, 0)) BK529.out) : gb529 ≠ gb558)); have n11_ := Aside0.mk ((by rw [hg]; exact Nat.ne_of_gt (blk_lt (g := gb529) (o := .cells #[.string t524, .string t525, .int .i64 t526] 31 (0, 0)) BK529.out) : gb558 ≠ gb529)); have n12_ := Aside0.mk ((by rw [hg]; exact Nat.ne_of_lt (blk_lt (g := gb530) (o := .cells #[.string t527, .string t528] 27 (0, 0)) BK530.out) : gb530 ≠ gb558)); have n13_ := Aside0.mk ((by rw [hg]; exact Nat.ne_of_gt (blk_lt (g := gb530) (o := .cells #[.string t527, .string t528] 27 (0, 0)) BK530.out) : gb558 ≠ gb530)); have n14_ := Aside0.mk ((by rw [hg]; exact Nat.ne_of_lt (blk_lt (g := gb535) (o := .cells #[.string t531, .string t532, .int .i64 t533] 31 (0, 0)) BK535.out) : gb535 ≠ gb558)); have n15_ := Aside0.mk ((by rw [hg]; exact Nat.ne_of_gt (blk_lt (g := gb535) (o := .cells #[.string t531, .string t532, .int .i64 t533] 31 (0, 0)) BK535.out) : gb558 ≠ gb535)); have n16_ := Aside0.mk ((by rw [hg]; exact Nat.ne_of_lt (blk_lt (g := gb540) (o := .cells #[.string t536, .string t537, .int .i64 t538] 31 (0, 0)) BK540.out) : gb540 ≠ gb558)); have n17_ := Aside0.mk ((by rw [hg]; exact Nat.ne_of_gt (blk_lt (g := gb540) (o := .cells #[.string t536, .string t537, .int .i64 t538] 31 (0, 0)) BK540.out) : gb558 ≠ gb540)); clear HO547; clear HO551; clear BK529; clear BK530; clear BK535; clear BK540; clear HB; have HO547 := n0_; have HO551 := n1_; have BK529 := n2_; have BK530 := n3_; have BK535 := n4_; have BK540 := n5_; have HB := n6_; have BK558 := n7_; have GW558 := n8_; have GE558 := n9_; have NB529_558 := n10_; have NB558_529 := n11_; have NB530_558 := n12_; have NB558_530 := n13_; have NB535_558 := n14_; have NB558_535 := n15_; have NB540_558 := n16_; have NB558_540 := n17_; clear n0_ n1_ n2_ n3_ n4_ n5_ n6_ n7_ n8_ n9_ n10_ n11_ n12_ n13_ n14_ n15_ n16_ n17_; clear hb hbox hg; have hnb68 := NB558_529.out; have hnc68 := NB529_558.out; have hnb69 := NB558_530.out; have hnc69 := NB530_558.out; have hnb70 := NB558_535.out; have hnc70 := NB535_558.out; have hnb71 := NB558_540.out; have hnc71 := NB540_558.out; have hcz72_0 : w67.cell? ⟨gb558, 0, none⟩ = some (.string (⟨#[]⟩ : ByteArray)) := (blk_cell BK558.out 0).trans rfl; have hcz72_1 : w67.cell? ⟨gb558, 1, none⟩ = some (.string (⟨#[]⟩ : ByteArray)) := (blk_cell BK558.out 1).trans rfl; have hcz72_2 : w67.cell? ⟨gb558, 2, none⟩ = some (.int .i64 0) := (blk_cell BK558.out 2).trans rfl; have hfz72_0 := blk_frozen BK558.out 0; have hfz72_1 := blk_frozen BK558.out 1; have hfz72_2 := blk_frozen BK558.out 2; have hcz73_0 : w67.cell? ⟨gb535, 0, none⟩ = some (.string t531) := (blk_cell BK535.out 0).trans rfl; have hcz73_1 : w67.cell? ⟨gb535, 1, none⟩ = some (.string t532) := (blk_cell BK535.out 1).trans rfl; have hcz73_2 : w67.cell? ⟨gb535, 2, none⟩ = some (.int .i64 t533) := (blk_cell BK535.out 2).trans rfl; have hfz73_0 := blk_frozen BK535.out 0; have hfz73_1 := blk_frozen BK535.out 1; have hfz73_2 := blk_frozen BK535.out 2) | ((with_reducible refine gate_callee (f := 27) rfl ?_); refine goesL_ (some 87) rfl rfl Tryd.func27 (by kernel_rfl) rfl #[.agg #[.string t531, .string t532, .int .i64 t533]] rfl (by (try simp only [List.map_toArray, List.map_cons, List.map_nil]); first | done | rfl | (simp only [List.length_drop, List.length_take]; rfl)) ?_; (with_reducible refine (impl_SyncLog.calls kj6 t531 t532 t533 t559 t560 t561 t562 _ A54.out ?sideG).mono ?_); (case sideG => exact (gw_below HG.out (by repeat (first | (with_reducible first | exact HB.out | apply below_alloc | apply pw_below_drewN | apply below_drew1 | refine below_set ?_ GE529.out | refine below_set ?_ GE530.out | refine below_set ?_ GE535.out | refine below_set ?_ GE540.out | refine below_set ?_ GE558.out) | exact HB.out)))); rintro e w74 ⟨rfl, hb⟩; refine ⟨_, rfl, ?_⟩; have n0_ := Aside0.mk (Kd.R_below (by (with_reducible repeat (first | apply Kd.R_alloc | apply Kd.R_drewN | apply Kd.R_drew)); exact (Kd.R_mono (Kd.R_far (p := ⟨gb558, 2, none⟩) (Kd.R_far (p := ⟨gb558, 1, none⟩) (Kd.R_far (p := ⟨gb558, 0, none⟩) (Kd.R_types HO547.out BK558.out (by decide)) (fun _ hk => hk.2) (.string t553)) (fun _ hk => hk.2) (.string t554)) (fun _ hk => hk.2) (.int .i64 t555)) (fun _ h_ => h_.1))) hb); have n1_ := Aside0.mk (Kd.R_below (by (with_reducible repeat (first | apply Kd.R_alloc | apply Kd.R_drewN | apply Kd.R_drew)); exact (Kd.R_mono (Kd.R_far (p := ⟨gb558, 2, none⟩) (Kd.R_far (p := ⟨gb558, 1, none⟩) (Kd.R_far (p := ⟨gb558, 0, none⟩) (Kd.R_types HO551.out BK558.out (by decide)) (fun _ hk => hk.2) (.string t553)) (fun _ hk => hk.2) (.string t554)) (fun _ hk => hk.2) (.int .i64 t555)) (fun _ h_ => h_.1))) hb); have n2_ := Aside0.mk (blk_below (g := gb529) (o := .cells #[.string t524, .string t525, .int .i64 t526] 31 (0, 0)) (by (with_reducible repeat (first | refine blk_drewN ?_ _ | refine blk_drew ?_ | refine blk_alloc ?_ _)); refine blk_far ?_ NB529_558.out _; (with_reducible repeat (first | refine blk_drewN ?_ _ | refine blk_drew ?_ | refine blk_alloc ?_ _)); refine blk_far ?_ NB529_558.out _; (with_reducible repeat (first | refine blk_drewN ?_ _ | refine blk_drew ?_ | refine blk_alloc ?_ _)); refine blk_far ?_ NB529_558.out _; (with_reducible repeat (first | refine blk_drewN ?_ _ | refine blk_drew ?_ | refine blk_alloc ?_ _)); exact BK529.out) hb); have n3_ := Aside0.mk (blk_below (g := gb530) (o := .cells #[.string t527, .string t528] 27 (0, 0)) (by (with_reducible repeat (first | refine blk_drewN ?_ _ | refine blk_drew ?_ | refine blk_alloc ?_ _)); refine blk_far ?_ NB530_558.out _; (with_reducible repeat (first | refine blk_drewN ?_ _ | refine blk_drew ?_ | refine blk_alloc ?_ _)); refine blk_far ?_ NB530_558.out _; (with_reducible repeat (first | refine blk_drewN ?_ _ | refine blk_drew ?_ | refine blk_alloc ?_ _)); refine blk_far ?_ NB530_558.out _; (with_reducible repeat (first | refine blk_drewN ?_ _ | refine blk_drew ?_ | refine blk_alloc ?_ _)); exact BK530.out) hb); have n4_ := Aside0.mk (blk_below (g := gb535) (o := .cells #[.string t531, .string t532, .int .i64 t533] 31 (0, 0)) (by (with_reducible repeat (first | refine blk_drewN ?_ _ | refine blk_drew ?_ | refine blk_alloc ?_ _)); refine blk_far ?_ NB535_558.out _; (with_reducible repeat (first | refine blk_drewN ?_ _ | refine blk_drew ?_ | refine blk_alloc ?_ _)); refine blk_far ?_ NB535_558.out _; (with_reducible repeat (first | refine blk_drewN ?_ _ | refine blk_drew ?_ | refine blk_alloc ?_ _)); refine blk_far ?_ NB535_558.out _; (with_reducible repeat (first | refine blk_drewN ?_ _ | refine blk_drew ?_ | refine blk_alloc ?_ _)); exact BK535.out) hb); have n5_ := Aside0.mk (blk_below (g := gb540) (o := .cells #[.string t536, .string t537, .int .i64 t538] 31 (0, 0)) (by (with_reducible repeat (first | refine blk_drewN ?_ _ | refine blk_drew ?_ | refine blk_alloc ?_ _)); refine blk_far ?_ NB540_558.out _; (with_reducible repeat (first | refine blk_drewN ?_ _ | refine blk_drew ?_ | refine blk_alloc ?_ _)); refine blk_far ?_ NB540_558.out _; (with_reducible repeat (first | refine blk_drewN ?_ _ | refine blk_drew ?_ | refine blk_alloc ?_ _)); refine blk_far ?_ NB540_558.out _; (with_reducible repeat (first | refine blk_drewN ?_ _ | refine blk_drew ?_ | refine blk_alloc ?_ _)); exact BK540.out) hb); have n6_ := Aside0.mk (blk_below (g := gb558) (o := .cells #[.string t553, .string t554, .int .i64 t555] 31 (0, 0)) (by (with_reducible repeat (first | refine blk_drewN ?_ _ | refine blk_drew ?_ | refine blk_alloc ?_ _)); refine blk_put (cs := #[.string t553, .string t554, .int .i64 0]) ?_ 2 _ rfl; (with_reducible repeat (first | refine blk_drewN ?_ _ | refine blk_drew ?_ | refine blk_alloc ?_ _)); refine blk_put (cs := #[.string t553, .string (⟨#[]⟩ : ByteArray), .int .i64 0]) ?_ 1 _ rfl; (with_reducible repeat (first | refine blk_drewN ?_ _ | refine blk_drew ?_ | refine blk_alloc ?_ _)); refine blk_put (cs := #[.string (⟨#[]⟩ : ByteArray), .string (⟨#[]⟩ : ByteArray), .int .i64 0]) ?_ 0 _ rfl; (with_reducible repeat (first | refine blk_drewN ?_ _ | refine blk_drew ?_ | refine blk_alloc ?_ _)); exact BK558.out) hb); have n7_ := Aside0.mk (below_step (by repeat (first | (with_reducible first | exact HB.out | apply below_alloc | apply pw_below_drewN | apply below_drew1 | refine below_set ?_ GE529.out | refine below_set ?_ GE530.out | refine below_set ?_ GE535.out | refine below_set ?_ GE540.out | refine below_set ?_ GE558.out) | exact HB.out)) hb); clear HO547; clear HO551; clear BK529; clear BK530; clear BK535; clear BK540; clear BK558; clear HB; have HO547 := n0_; have HO551 := n1_; have BK529 := n2_; have BK530 := n3_; have BK535 := n4_; have BK540 := n5_; have BK558 := n6_; have HB := n7_; clear n0_ n1_ n2_ n3_ n4_ n5_ n6_ n7_; (try clear hb); (try clear hb2); (try clear hk); (try clear hi)) | ((with_reducible refine gate_dst (N := 16) rfl ?_); (try (refine gate_guard (by rfl) ?_; dsimp only)); refine box_event ?hg (N := 16) ?hd (cs := #[.string (⟨#[]⟩ : ByteArray), .string (⟨#[]⟩ : ByteArray), .int .i64 0]) (t := 31) ?hr ?_; (case hd => rfl); (case hg => rfl); (case hr => first | (go_simp; done) | (go_simp; rfl)); intro gb563 hg w75 hbox hb; have n0_ := Aside0.mk (Kd.R_below (by (with_reducible repeat (first | apply Kd.R_alloc | apply Kd.R_drewN | apply Kd.R_drew)); exact HO547.out) hb); have n1_ := Aside0.mk (Kd.R_below (by (with_reducible repeat (first | apply Kd.R_alloc | apply Kd.R_drewN | apply Kd.R_drew)); exact HO551.out) hb); have n2_ := Aside0.mk (blk_below (g := gb529) (o := .cells #[.string t524, .string t525, .int .i64 t526] 31 (0, 0)) BK529.out hb); have n3_ := Aside0.mk (blk_below (g := gb530) (o := .cells #[.string t527, .string t528] 27 (0, 0)) BK530.out hb); have n4_ := Aside0.mk (blk_below (g := gb535) (o := .cells #[.string t531, .string t532, .int .i64 t533] 31 (0, 0)) BK535.out hb); have n5_ := Aside0.mk (blk_below (g := gb540) (o := .cells #[.string t536, .string t537, .int .i64 t538] 31 (0, 0)) BK540.out hb); have n6_ := Aside0.mk (blk_below (g := gb558) (o := .cells #[.string t553, .string t554, .int .i64 t555] 31 (0, 0)) BK558.out hb); have n7_ := Aside0.mk (below_step (by repeat (first | (with_reducible first | exact HB.out | apply below_alloc | apply pw_below_drewN | apply below_drew1 | refine below_set ?_ GE529.out | refine below_set ?_ GE530.out | refine below_set ?_ GE535.out | refine below_set ?_ GE540.out | refine below_set ?_ GE558.out) | exact HB.out)) hb); have n8_ := Aside0.mk (hbox); have n9_ := Aside0.mk ((by rw [hg]; exact (below_size (by repeat (first | (with_reducible first | exact HB.out | apply below_alloc | apply pw_below_drewN | apply below_drew1 | refine below_set ?_ GE529.out | refine below_set ?_ GE530.out | refine below_set ?_ GE535.out | refine below_set ?_ GE540.out | refine below_set ?_ GE558.out) | exact HB.out))) : w.heap.size ≤ gb563)); have n10_ := Aside0.mk ((by rw [hg]; exact (below_size (by repeat (first | (with_reducible first | exact HB.out | apply below_alloc | apply pw_below_drewN | apply below_drew1 | refine below_set ?_ GE529.out | refine below_set ?_ GE530.out | refine below_set ?_ GE535.out | refine below_set ?_ GE540.out | refine below_set ?_ GE558.out) | exact HB.out))) : w.heap.size ≤ gb563)); have n11_ := Aside0.mk ((by rw [hg]; exact Nat.ne_of_lt (blk_lt (g := gb529) (o := .cells #[.string t524, .string t525, .int .i64 t526] 31 (0, 0)) BK529.out) : gb529 ≠ gb563)); have n12_ := Aside0.mk ((by rw [hg]; exact Nat.ne_of_gt (blk_lt (g := gb529) (o := .cells #[.string t524, .string t525, .int .i64 t526] 31 (0, 0)) BK529.out) : gb563 ≠ gb529)); have n13_ := Aside0.mk ((by rw [hg]; exact Nat.ne_of_lt (blk_lt (g := gb530) (o := .cells #[.string t527, .string t528] 27 (0, 0)) BK530.out) : gb530 ≠ gb563)); have n14_ := Aside0.mk ((by rw [hg]; exact Nat.ne_of_gt (blk_lt (g := gb530) (o := .cells #[.string t527, .string t528] 27 (0, 0)) BK530.out) : gb563 ≠ gb530)); have n15_ := Aside0.mk ((by rw [hg]; exact Nat.ne_of_lt (blk_lt (g := gb535) (o := .cells #[.string t531, .string t532, .int .i64 t533] 31 (0, 0)) BK535.out) : gb535 ≠ gb563)); have n16_ := Aside0.mk ((by rw [hg]; exact Nat.ne_of_gt (blk_lt (g := gb535) (o := .cells #[.string t531, .string t532, .int .i64 t533] 31 (0, 0)) BK535.out) : gb563 ≠ gb535)); have n17_ := Aside0.mk ((by rw [hg]; exact Nat.ne_of_lt (blk_lt (g := gb540) (o := .cells #[.string t536, .string t537, .int .i64 t538] 31 (0, 0)) BK540.out) : gb540 ≠ gb563)); have n18_ := Aside0.mk ((by rw [hg]; exact Nat.ne_of_gt (blk_lt (g := gb540) (o := .cells #[.string t536, .string t537, .int .i64 t538] 31 (0, 0)) BK540.out) : gb563 ≠ gb540)); have n19_ := Aside0.mk ((by rw [hg]; exact Nat.ne_of_lt (blk_lt (g := gb558) (o := .cells #[.string t553, .string t554, .int .i64 t555] 31 (0, 0)) BK558.out) : gb558 ≠ gb563)); have n20_ := Aside0.mk ((by rw [hg]; exact Nat.ne_of_gt (blk_lt (g := gb558) (o := .cells #[.string t553, .string t554, .int .i64 t555] 31 (0, 0)) BK558.out) : gb563 ≠ gb558)); clear HO547; clear HO551; clear BK529; clear BK530; clear BK535; clear BK540; clear BK558; clear HB; have HO547 := n0_; have HO551 := n1_; have BK529 := n2_; have BK530 := n3_; have BK535 := n4_; have BK540 := n5_; have BK558 := n6_; have HB := n7_; have BK563 := n8_; have GW563 := n9_; have GE563 := n10_; have NB529_563 := n11_; have NB563_529 := n12_; have NB530_563 := n13_; have NB563_530 := n14_; have NB535_563 := n15_; have NB563_535 := n16_; have NB540_563 := n17_; have NB563_540 := n18_; have NB558_563 := n19_; have NB563_558 := n20_; clear n0_ n1_ n2_ n3_ n4_ n5_ n6_ n7_ n8_ n9_ n10_ n11_ n12_ n13_ n14_ n15_ n16_ n17_ n18_ n19_ n20_; clear hb hbox hg; have hnb76 := NB563_529.out; have hnc76 := NB529_563.out; have hnb77 := NB563_530.out; have hnc77 := NB530_563.out; have hnb78 := NB563_535.out; have hnc78 := NB535_563.out; have hnb79 := NB563_540.out; have hnc79 := NB540_563.out; have hnb80 := NB563_558.out; have hnc80 := NB558_563.out; have hcz81_0 : w75.cell? ⟨gb563, 0, none⟩ = some (.string (⟨#[]⟩ : ByteArray)) := (blk_cell BK563.out 0).trans rfl; have hcz81_1 : w75.cell? ⟨gb563, 1, none⟩ = some (.string (⟨#[]⟩ : ByteArray)) := (blk_cell BK563.out 1).trans rfl; have hcz81_2 : w75.cell? ⟨gb563, 2, none⟩ = some (.int .i64 0) := (blk_cell BK563.out 2).trans rfl; have hfz81_0 := blk_frozen BK563.out 0; have hfz81_1 := blk_frozen BK563.out 1; have hfz81_2 := blk_frozen BK563.out 2))
                (try simp only [Act.put, List.setIfInBounds_toArray, List.set_cons_zero, List.set_cons_succ])
                go_cut [106] (fun v106 wc => ∃ (kq : Nat) (x106_54 : Bool), v106 = .bool x106_54 ∧ Aside0 (laws_FnLog.j1 kq t545 t549 t556 t557 t562 x106_54 t527 t528 t531 t532 t533 t553 t554 t555 t559 t560 t561 = some r) ∧ Aside0 (kq ≤ kj6) ∧ Aside0 (Kd.R k27 27 wc w.heap.size (fun k_ => some k_ ≠ (v550 : Value).ownBlock ∧ k_ ≠ gb530) v546 t545) ∧ Aside0 (Kd.R k27 27 wc w.heap.size (fun k_ => some k_ ≠ (v546 : Value).ownBlock ∧ k_ ≠ gb530) v550 t549) ∧ Aside0 (wc.heap[gb529]? = some (.cells #[.string t524, .string t525, .int .i64 t526] 31 (0, 0))) ∧ Aside0 (wc.heap[gb530]? = some (.cells #[.string t527, .string t528] 27 (0, 0))) ∧ Aside0 (wc.heap[gb535]? = some (.cells #[.string t531, .string t532, .int .i64 t533] 31 (0, 0))) ∧ Aside0 (wc.heap[gb540]? = some (.cells #[.string t536, .string t537, .int .i64 t538] 31 (0, 0))) ∧ Aside0 (wc.heap[gb558]? = some (.cells #[.string t553, .string t554, .int .i64 t555] 31 (0, 0))) ∧ Aside0 (wc.heap[gb563]? = some (.cells #[.string t559, .string t560, .int .i64 t561] 31 (0, 0))) ∧ Aside0 (Below w.heap.size w wc))
                case first =>
                  as_aux_lemma =>
                    have H := HC55.out
                    clear HC55
                    by_cases c82 : t548 = true
                    · subst c82
                      have H1 : (if (t545.length : Int) = (wrap64 ((t549.length : Int) + 1)) then (laws_FnLog.j1 kj6 t545 t549 t556 t557 t562 (t533 != (t545.length : Int)) t527 t528 t531 t532 t533 t553 t554 t555 t559 t560 t561) else (laws_FnLog.j1 kj6 t545 t549 t556 t557 t562 true t527 t528 t531 t532 t533 t553 t554 t555 t559 t560 t561)) = some r := by rw [if_pos rfl] at H; exact H
                      clear H
                      have H := H1
                      clear H1
                      by_cases c83 : (t545.length : Int) = (wrap64 ((t549.length : Int) + 1))
                      · rw [if_pos c83] at H
                        have c83b0 : ((t545.length : Int) == (wrap64 ((t549.length : Int) + 1))) = true := beq_iff_eq.mpr c83
                        have c83b1 : ((t545.length : Int) != (wrap64 ((t549.length : Int) + 1))) = false := bne_eq_false_iff_eq.mpr c83
                        clear c83
                        (first | rw [c83b0] | (simp only [i64_w, i32_w]; rw [c83b0]) | skip)
                        have H' := Aside0.mk H
                        clear H
                        obtain ⟨Ao84, co84, eo84⟩ := Kd.R_slice HO547.out
                        subst eo84
                        obtain ⟨Ao85, co85, eo85⟩ := Kd.R_slice HO551.out
                        subst eo85
                        have hnb86 := NB535_529.out
                        have hnc86 := NB529_535.out
                        have hnb87 := NB535_530.out
                        have hnc87 := NB530_535.out
                        have hnb88 := NB535_540.out
                        have hnc88 := NB540_535.out
                        have hnb89 := NB535_558.out
                        have hnc89 := NB558_535.out
                        have hnb90 := NB535_563.out
                        have hnc90 := NB563_535.out
                        have hcz91_0 : w75.cell? ⟨gb535, 0, none⟩ = some (.string t531) := (blk_cell BK535.out 0).trans rfl
                        have hcz91_1 : w75.cell? ⟨gb535, 1, none⟩ = some (.string t532) := (blk_cell BK535.out 1).trans rfl
                        have hcz91_2 : w75.cell? ⟨gb535, 2, none⟩ = some (.int .i64 t533) := (blk_cell BK535.out 2).trans rfl
                        have hfz91_0 := blk_frozen BK535.out 0
                        have hfz91_1 := blk_frozen BK535.out 1
                        have hfz91_2 := blk_frozen BK535.out 2
                        go_wp2
                        go_meet
                        case rel => exact ⟨_, ((t533 != (t545.length : Int))), (by first | rfl | (simp; done) | (simp [*]; done)), H', ⟨by have := HJ6.out; first | omega | exact Nat.le_refl _⟩, ⟨by (with_reducible repeat (first | apply Kd.R_alloc | apply Kd.R_drewN | apply Kd.R_drew)); exact Kd.R_mono (Kd.R_far (p := ⟨gb563, 2, none⟩) (Kd.R_far (p := ⟨gb563, 1, none⟩) (Kd.R_far (p := ⟨gb563, 0, none⟩) (Kd.R_types HO547.out BK563.out (by decide)) (fun _ hk => hk.2) (.string t559)) (fun _ hk => hk.2) (.string t560)) (fun _ hk => hk.2) (.int .i64 t561)) (fun _ hk => ⟨hk.1.2, hk.1.1.2⟩)⟩, ⟨by (with_reducible repeat (first | apply Kd.R_alloc | apply Kd.R_drewN | apply Kd.R_drew)); exact Kd.R_mono (Kd.R_far (p := ⟨gb563, 2, none⟩) (Kd.R_far (p := ⟨gb563, 1, none⟩) (Kd.R_far (p := ⟨gb563, 0, none⟩) (Kd.R_types HO551.out BK563.out (by decide)) (fun _ hk => hk.2) (.string t559)) (fun _ hk => hk.2) (.string t560)) (fun _ hk => hk.2) (.int .i64 t561)) (fun _ hk => ⟨hk.1.1.2, hk.1.2⟩)⟩, ⟨by (with_reducible repeat (first | refine blk_drewN ?_ _ | refine blk_drew ?_ | refine blk_alloc ?_ _)); refine blk_far ?_ NB529_563.out _; (with_reducible repeat (first | refine blk_drewN ?_ _ | refine blk_drew ?_ | refine blk_alloc ?_ _)); refine blk_far ?_ NB529_563.out _; (with_reducible repeat (first | refine blk_drewN ?_ _ | refine blk_drew ?_ | refine blk_alloc ?_ _)); refine blk_far ?_ NB529_563.out _; (with_reducible repeat (first | refine blk_drewN ?_ _ | refine blk_drew ?_ | refine blk_alloc ?_ _)); exact BK529.out⟩, ⟨by (with_reducible repeat (first | refine blk_drewN ?_ _ | refine blk_drew ?_ | refine blk_alloc ?_ _)); refine blk_far ?_ NB530_563.out _; (with_reducible repeat (first | refine blk_drewN ?_ _ | refine blk_drew ?_ | refine blk_alloc ?_ _)); refine blk_far ?_ NB530_563.out _; (with_reducible repeat (first | refine blk_drewN ?_ _ | refine blk_drew ?_ | refine blk_alloc ?_ _)); refine blk_far ?_ NB530_563.out _; (with_reducible repeat (first | refine blk_drewN ?_ _ | refine blk_drew ?_ | refine blk_alloc ?_ _)); exact BK530.out⟩, ⟨by (with_reducible repeat (first | refine blk_drewN ?_ _ | refine blk_drew ?_ | refine blk_alloc ?_ _)); refine blk_far ?_ NB535_563.out _; (with_reducible repeat (first | refine blk_drewN ?_ _ | refine blk_drew ?_ | refine blk_alloc ?_ _)); refine blk_far ?_ NB535_563.out _; (with_reducible repeat (first | refine blk_drewN ?_ _ | refine blk_drew ?_ | refine blk_alloc ?_ _)); refine blk_far ?_ NB535_563.out _; (with_reducible repeat (first | refine blk_drewN ?_ _ | refine blk_drew ?_ | refine blk_alloc ?_ _)); exact BK535.out⟩, ⟨by (with_reducible repeat (first | refine blk_drewN ?_ _ | refine blk_drew ?_ | refine blk_alloc ?_ _)); refine blk_far ?_ NB540_563.out _; (with_reducible repeat (first | refine blk_drewN ?_ _ | refine blk_drew ?_ | refine blk_alloc ?_ _)); refine blk_far ?_ NB540_563.out _; (with_reducible repeat (first | refine blk_drewN ?_ _ | refine blk_drew ?_ | refine blk_alloc ?_ _)); refine blk_far ?_ NB540_563.out _; (with_reducible repeat (first | refine blk_drewN ?_ _ | refine blk_drew ?_ | refine blk_alloc ?_ _)); exact BK540.out⟩, ⟨by (with_reducible repeat (first | refine blk_drewN ?_ _ | refine blk_drew ?_ | refine blk_alloc ?_ _)); refine blk_far ?_ NB558_563.out _; (with_reducible repeat (first | refine blk_drewN ?_ _ | refine blk_drew ?_ | refine blk_alloc ?_ _)); refine blk_far ?_ NB558_563.out _; (with_reducible repeat (first | refine blk_drewN ?_ _ | refine blk_drew ?_ | refine blk_alloc ?_ _)); refine blk_far ?_ NB558_563.out _; (with_reducible repeat (first | refine blk_drewN ?_ _ | refine blk_drew ?_ | refine blk_alloc ?_ _)); exact BK558.out⟩, ⟨by (with_reducible repeat (first | refine blk_drewN ?_ _ | refine blk_drew ?_ | refine blk_alloc ?_ _)); refine blk_put (cs := #[.string t559, .string t560, .int .i64 0]) ?_ 2 _ rfl; (with_reducible repeat (first | refine blk_drewN ?_ _ | refine blk_drew ?_ | refine blk_alloc ?_ _)); refine blk_put (cs := #[.string t559, .string (⟨#[]⟩ : ByteArray), .int .i64 0]) ?_ 1 _ rfl; (with_reducible repeat (first | refine blk_drewN ?_ _ | refine blk_drew ?_ | refine blk_alloc ?_ _)); refine blk_put (cs := #[.string (⟨#[]⟩ : ByteArray), .string (⟨#[]⟩ : ByteArray), .int .i64 0]) ?_ 0 _ rfl; (with_reducible repeat (first | refine blk_drewN ?_ _ | refine blk_drew ?_ | refine blk_alloc ?_ _)); exact BK563.out⟩, ⟨by repeat (first | (with_reducible first | exact HB.out | apply below_alloc | apply pw_below_drewN | apply below_drew1 | refine below_set ?_ GE529.out | refine below_set ?_ GE530.out | refine below_set ?_ GE535.out | refine below_set ?_ GE540.out | refine below_set ?_ GE558.out | refine below_set ?_ GE563.out) | exact HB.out)⟩⟩
                      · rw [if_neg c83] at H
                        have c83b0 : ((t545.length : Int) == (wrap64 ((t549.length : Int) + 1))) = false := beq_eq_false_iff_ne.mpr c83
                        have c83b1 : ((t545.length : Int) != (wrap64 ((t549.length : Int) + 1))) = true := bne_iff_ne.mpr c83
                        (first | rw [c83b0] | (simp only [i64_w, i32_w]; rw [c83b0]) | skip)
                        have H' := Aside0.mk H
                        clear H
                        obtain ⟨Ao92, co92, eo92⟩ := Kd.R_slice HO547.out
                        subst eo92
                        obtain ⟨Ao93, co93, eo93⟩ := Kd.R_slice HO551.out
                        subst eo93
                        go_wp2
                        go_meet
                        case rel => exact ⟨_, (true), (by first | rfl | (simp; done) | (simp [*]; done)), H', ⟨by have := HJ6.out; first | omega | exact Nat.le_refl _⟩, ⟨by (with_reducible repeat (first | apply Kd.R_alloc | apply Kd.R_drewN | apply Kd.R_drew)); exact Kd.R_mono (Kd.R_far (p := ⟨gb563, 2, none⟩) (Kd.R_far (p := ⟨gb563, 1, none⟩) (Kd.R_far (p := ⟨gb563, 0, none⟩) (Kd.R_types HO547.out BK563.out (by decide)) (fun _ hk => hk.2) (.string t559)) (fun _ hk => hk.2) (.string t560)) (fun _ hk => hk.2) (.int .i64 t561)) (fun _ hk => ⟨hk.1.2, hk.1.1.2⟩)⟩, ⟨by (with_reducible repeat (first | apply Kd.R_alloc | apply Kd.R_drewN | apply Kd.R_drew)); exact Kd.R_mono (Kd.R_far (p := ⟨gb563, 2, none⟩) (Kd.R_far (p := ⟨gb563, 1, none⟩) (Kd.R_far (p := ⟨gb563, 0, none⟩) (Kd.R_types HO551.out BK563.out (by decide)) (fun _ hk => hk.2) (.string t559)) (fun _ hk => hk.2) (.string t560)) (fun _ hk => hk.2) (.int .i64 t561)) (fun _ hk => ⟨hk.1.1.2, hk.1.2⟩)⟩, ⟨by (with_reducible repeat (first | refine blk_drewN ?_ _ | refine blk_drew ?_ | refine blk_alloc ?_ _)); refine blk_far ?_ NB529_563.out _; (with_reducible repeat (first | refine blk_drewN ?_ _ | refine blk_drew ?_ | refine blk_alloc ?_ _)); refine blk_far ?_ NB529_563.out _; (with_reducible repeat (first | refine blk_drewN ?_ _ | refine blk_drew ?_ | refine blk_alloc ?_ _)); refine blk_far ?_ NB529_563.out _; (with_reducible repeat (first | refine blk_drewN ?_ _ | refine blk_drew ?_ | refine blk_alloc ?_ _)); exact BK529.out⟩, ⟨by (with_reducible repeat (first | refine blk_drewN ?_ _ | refine blk_drew ?_ | refine blk_alloc ?_ _)); refine blk_far ?_ NB530_563.out _; (with_reducible repeat (first | refine blk_drewN ?_ _ | refine blk_drew ?_ | refine blk_alloc ?_ _)); refine blk_far ?_ NB530_563.out _; (with_reducible repeat (first | refine blk_drewN ?_ _ | refine blk_drew ?_ | refine blk_alloc ?_ _)); refine blk_far ?_ NB530_563.out _; (with_reducible repeat (first | refine blk_drewN ?_ _ | refine blk_drew ?_ | refine blk_alloc ?_ _)); exact BK530.out⟩, ⟨by (with_reducible repeat (first | refine blk_drewN ?_ _ | refine blk_drew ?_ | refine blk_alloc ?_ _)); refine blk_far ?_ NB535_563.out _; (with_reducible repeat (first | refine blk_drewN ?_ _ | refine blk_drew ?_ | refine blk_alloc ?_ _)); refine blk_far ?_ NB535_563.out _; (with_reducible repeat (first | refine blk_drewN ?_ _ | refine blk_drew ?_ | refine blk_alloc ?_ _)); refine blk_far ?_ NB535_563.out _; (with_reducible repeat (first | refine blk_drewN ?_ _ | refine blk_drew ?_ | refine blk_alloc ?_ _)); exact BK535.out⟩, ⟨by (with_reducible repeat (first | refine blk_drewN ?_ _ | refine blk_drew ?_ | refine blk_alloc ?_ _)); refine blk_far ?_ NB540_563.out _; (with_reducible repeat (first | refine blk_drewN ?_ _ | refine blk_drew ?_ | refine blk_alloc ?_ _)); refine blk_far ?_ NB540_563.out _; (with_reducible repeat (first | refine blk_drewN ?_ _ | refine blk_drew ?_ | refine blk_alloc ?_ _)); refine blk_far ?_ NB540_563.out _; (with_reducible repeat (first | refine blk_drewN ?_ _ | refine blk_drew ?_ | refine blk_alloc ?_ _)); exact BK540.out⟩, ⟨by (with_reducible repeat (first | refine blk_drewN ?_ _ | refine blk_drew ?_ | refine blk_alloc ?_ _)); refine blk_far ?_ NB558_563.out _; (with_reducible repeat (first | refine blk_drewN ?_ _ | refine blk_drew ?_ | refine blk_alloc ?_ _)); refine blk_far ?_ NB558_563.out _; (with_reducible repeat (first | refine blk_drewN ?_ _ | refine blk_drew ?_ | refine blk_alloc ?_ _)); refine blk_far ?_ NB558_563.out _; (with_reducible repeat (first | refine blk_drewN ?_ _ | refine blk_drew ?_ | refine blk_alloc ?_ _)); exact BK558.out⟩, ⟨by (with_reducible repeat (first | refine blk_drewN ?_ _ | refine blk_drew ?_ | refine blk_alloc ?_ _)); refine blk_put (cs := #[.string t559, .string t560, .int .i64 0]) ?_ 2 _ rfl; (with_reducible repeat (first | refine blk_drewN ?_ _ | refine blk_drew ?_ | refine blk_alloc ?_ _)); refine blk_put (cs := #[.string t559, .string (⟨#[]⟩ : ByteArray), .int .i64 0]) ?_ 1 _ rfl; (with_reducible repeat (first | refine blk_drewN ?_ _ | refine blk_drew ?_ | refine blk_alloc ?_ _)); refine blk_put (cs := #[.string (⟨#[]⟩ : ByteArray), .string (⟨#[]⟩ : ByteArray), .int .i64 0]) ?_ 0 _ rfl; (with_reducible repeat (first | refine blk_drewN ?_ _ | refine blk_drew ?_ | refine blk_alloc ?_ _)); exact BK563.out⟩, ⟨by repeat (first | (with_reducible first | exact HB.out | apply below_alloc | apply pw_below_drewN | apply below_drew1 | refine below_set ?_ GE529.out | refine below_set ?_ GE530.out | refine below_set ?_ GE535.out | refine below_set ?_ GE540.out | refine below_set ?_ GE558.out | refine below_set ?_ GE563.out) | exact HB.out)⟩⟩
                    · replace c82 := Bool.eq_false_iff.mpr c82
                      subst c82
                      have H1 : (laws_FnLog.j1 kj6 t545 t549 t556 t557 t562 true t527 t528 t531 t532 t533 t553 t554 t555 t559 t560 t561) = some r := by rw [if_neg (show ¬ (false = true) by decide)] at H; exact H
                      clear H
                      have H := H1
                      clear H1
                      have H' := Aside0.mk H
                      clear H
                      go_wp2
                      go_meet
                      case rel => exact ⟨_, (true), (by first | rfl | (simp; done) | (simp [*]; done)), H', ⟨by have := HJ6.out; first | omega | exact Nat.le_refl _⟩, ⟨by (with_reducible repeat (first | apply Kd.R_alloc | apply Kd.R_drewN | apply Kd.R_drew)); exact Kd.R_mono (Kd.R_far (p := ⟨gb563, 2, none⟩) (Kd.R_far (p := ⟨gb563, 1, none⟩) (Kd.R_far (p := ⟨gb563, 0, none⟩) (Kd.R_types HO547.out BK563.out (by decide)) (fun _ hk => hk.2) (.string t559)) (fun _ hk => hk.2) (.string t560)) (fun _ hk => hk.2) (.int .i64 t561)) (fun _ hk => ⟨hk.1.2, hk.1.1.2⟩)⟩, ⟨by (with_reducible repeat (first | apply Kd.R_alloc | apply Kd.R_drewN | apply Kd.R_drew)); exact Kd.R_mono (Kd.R_far (p := ⟨gb563, 2, none⟩) (Kd.R_far (p := ⟨gb563, 1, none⟩) (Kd.R_far (p := ⟨gb563, 0, none⟩) (Kd.R_types HO551.out BK563.out (by decide)) (fun _ hk => hk.2) (.string t559)) (fun _ hk => hk.2) (.string t560)) (fun _ hk => hk.2) (.int .i64 t561)) (fun _ hk => ⟨hk.1.1.2, hk.1.2⟩)⟩, ⟨by (with_reducible repeat (first | refine blk_drewN ?_ _ | refine blk_drew ?_ | refine blk_alloc ?_ _)); refine blk_far ?_ NB529_563.out _; (with_reducible repeat (first | refine blk_drewN ?_ _ | refine blk_drew ?_ | refine blk_alloc ?_ _)); refine blk_far ?_ NB529_563.out _; (with_reducible repeat (first | refine blk_drewN ?_ _ | refine blk_drew ?_ | refine blk_alloc ?_ _)); refine blk_far ?_ NB529_563.out _; (with_reducible repeat (first | refine blk_drewN ?_ _ | refine blk_drew ?_ | refine blk_alloc ?_ _)); exact BK529.out⟩, ⟨by (with_reducible repeat (first | refine blk_drewN ?_ _ | refine blk_drew ?_ | refine blk_alloc ?_ _)); refine blk_far ?_ NB530_563.out _; (with_reducible repeat (first | refine blk_drewN ?_ _ | refine blk_drew ?_ | refine blk_alloc ?_ _)); refine blk_far ?_ NB530_563.out _; (with_reducible repeat (first | refine blk_drewN ?_ _ | refine blk_drew ?_ | refine blk_alloc ?_ _)); refine blk_far ?_ NB530_563.out _; (with_reducible repeat (first | refine blk_drewN ?_ _ | refine blk_drew ?_ | refine blk_alloc ?_ _)); exact BK530.out⟩, ⟨by (with_reducible repeat (first | refine blk_drewN ?_ _ | refine blk_drew ?_ | refine blk_alloc ?_ _)); refine blk_far ?_ NB535_563.out _; (with_reducible repeat (first | refine blk_drewN ?_ _ | refine blk_drew ?_ | refine blk_alloc ?_ _)); refine blk_far ?_ NB535_563.out _; (with_reducible repeat (first | refine blk_drewN ?_ _ | refine blk_drew ?_ | refine blk_alloc ?_ _)); refine blk_far ?_ NB535_563.out _; (with_reducible repeat (first | refine blk_drewN ?_ _ | refine blk_drew ?_ | refine blk_alloc ?_ _)); exact BK535.out⟩, ⟨by (with_reducible repeat (first | refine blk_drewN ?_ _ | refine blk_drew ?_ | refine blk_alloc ?_ _)); refine blk_far ?_ NB540_563.out _; (with_reducible repeat (first | refine blk_drewN ?_ _ | refine blk_drew ?_ | refine blk_alloc ?_ _)); refine blk_far ?_ NB540_563.out _; (with_reducible repeat (first | refine blk_drewN ?_ _ | refine blk_drew ?_ | refine blk_alloc ?_ _)); refine blk_far ?_ NB540_563.out _; (with_reducible repeat (first | refine blk_drewN ?_ _ | refine blk_drew ?_ | refine blk_alloc ?_ _)); exact BK540.out⟩, ⟨by (with_reducible repeat (first | refine blk_drewN ?_ _ | refine blk_drew ?_ | refine blk_alloc ?_ _)); refine blk_far ?_ NB558_563.out _; (with_reducible repeat (first | refine blk_drewN ?_ _ | refine blk_drew ?_ | refine blk_alloc ?_ _)); refine blk_far ?_ NB558_563.out _; (with_reducible repeat (first | refine blk_drewN ?_ _ | refine blk_drew ?_ | refine blk_alloc ?_ _)); refine blk_far ?_ NB558_563.out _; (with_reducible repeat (first | refine blk_drewN ?_ _ | refine blk_drew ?_ | refine blk_alloc ?_ _)); exact BK558.out⟩, ⟨by (with_reducible repeat (first | refine blk_drewN ?_ _ | refine blk_drew ?_ | refine blk_alloc ?_ _)); refine blk_put (cs := #[.string t559, .string t560, .int .i64 0]) ?_ 2 _ rfl; (with_reducible repeat (first | refine blk_drewN ?_ _ | refine blk_drew ?_ | refine blk_alloc ?_ _)); refine blk_put (cs := #[.string t559, .string (⟨#[]⟩ : ByteArray), .int .i64 0]) ?_ 1 _ rfl; (with_reducible repeat (first | refine blk_drewN ?_ _ | refine blk_drew ?_ | refine blk_alloc ?_ _)); refine blk_put (cs := #[.string (⟨#[]⟩ : ByteArray), .string (⟨#[]⟩ : ByteArray), .int .i64 0]) ?_ 0 _ rfl; (with_reducible repeat (first | refine blk_drewN ?_ _ | refine blk_drew ?_ | refine blk_alloc ?_ _)); exact BK563.out⟩, ⟨by repeat (first | (with_reducible first | exact HB.out | apply below_alloc | apply pw_below_drewN | apply below_drew1 | refine below_set ?_ GE529.out | refine below_set ?_ GE530.out | refine below_set ?_ GE535.out | refine below_set ?_ GE540.out | refine below_set ?_ GE558.out | refine below_set ?_ GE563.out) | exact HB.out)⟩⟩
                case rest =>
                  as_aux_lemma =>
                    clear HC55
                    obtain ⟨kq, x106_54, rfl, HA, HJ54, HO_9, HO_11, BK529, BK530, BK535, BK540, BK558, BK563, HB⟩ := hcut
                    cases kq with
                    | zero => exact absurd HA.out (by simp [laws_FnLog.j1])
                    | succ kj54 =>
                      have H := HA.out
                      clear HA
                      simp only [laws_FnLog.j1] at H
                      by_cases c94 : x106_54 = true
                      · subst c94
                        have H1 : (some false) = some r := by rw [if_pos rfl] at H; exact H
                        exact absurd ((Option.some.inj H1).trans hrt_) (by decide)
                      · replace c94 := Bool.eq_false_iff.mpr c94
                        subst c94
                        have H1 : (laws_FnLog.l0 kj54 t545 t549 t556 t557 t562 0 t527 t528 t531 t532 t533 t553 t554 t555 t559 t560 t561) = some r := by rw [if_neg (show ¬ (false = true) by decide)] at H; exact H
                        clear H
                        have H := H1
                        clear H1
                        have H' := Aside0.mk H
                        clear H
                        go_wp2
                        go_loopg [18] kj54 (fun kq v18 w' => ∃ (x18_3 : Int), v18 = .int .i64 x18_3 ∧ Aside0 (laws_FnLog.l0 kq t545 t549 t556 t557 t562 x18_3 t527 t528 t531 t532 t533 t553 t554 t555 t559 t560 t561 = some r) ∧ Aside0 (kq ≤ kj54) ∧ Aside0 (Kd.R k27 27 w' w.heap.size (fun k_ => some k_ ≠ (v550 : Value).ownBlock ∧ k_ ≠ gb530) v546 t545) ∧ Aside0 (Kd.R k27 27 w' w.heap.size (fun k_ => some k_ ≠ (v546 : Value).ownBlock ∧ k_ ≠ gb530) v550 t549) ∧ Aside0 (w'.heap[gb529]? = some (.cells #[.string t524, .string t525, .int .i64 t526] 31 (0, 0))) ∧ Aside0 (w'.heap[gb530]? = some (.cells #[.string t527, .string t528] 27 (0, 0))) ∧ Aside0 (w'.heap[gb535]? = some (.cells #[.string t531, .string t532, .int .i64 t533] 31 (0, 0))) ∧ Aside0 (w'.heap[gb540]? = some (.cells #[.string t536, .string t537, .int .i64 t538] 31 (0, 0))) ∧ Aside0 (w'.heap[gb558]? = some (.cells #[.string t553, .string t554, .int .i64 t555] 31 (0, 0))) ∧ Aside0 (w'.heap[gb563]? = some (.cells #[.string t559, .string t560, .int .i64 t561] 31 (0, 0))) ∧ Aside0 (Below w.heap.size w w'))
                        case atStart => exact ⟨(0), (by first | rfl | (simp; done) | (simp [*]; done)), H', ⟨Nat.le_refl _⟩, ⟨by (with_reducible repeat (first | apply Kd.R_alloc | apply Kd.R_drewN | apply Kd.R_drew)); exact HO_9.out⟩, ⟨by (with_reducible repeat (first | apply Kd.R_alloc | apply Kd.R_drewN | apply Kd.R_drew)); exact HO_11.out⟩, ⟨by (with_reducible repeat (first | refine blk_drewN ?_ _ | refine blk_drew ?_ | refine blk_alloc ?_ _)); exact BK529.out⟩, ⟨by (with_reducible repeat (first | refine blk_drewN ?_ _ | refine blk_drew ?_ | refine blk_alloc ?_ _)); exact BK530.out⟩, ⟨by (with_reducible repeat (first | refine blk_drewN ?_ _ | refine blk_drew ?_ | refine blk_alloc ?_ _)); exact BK535.out⟩, ⟨by (with_reducible repeat (first | refine blk_drewN ?_ _ | refine blk_drew ?_ | refine blk_alloc ?_ _)); exact BK540.out⟩, ⟨by (with_reducible repeat (first | refine blk_drewN ?_ _ | refine blk_drew ?_ | refine blk_alloc ?_ _)); exact BK558.out⟩, ⟨by (with_reducible repeat (first | refine blk_drewN ?_ _ | refine blk_drew ?_ | refine blk_alloc ?_ _)); exact BK563.out⟩, ⟨by repeat (first | (with_reducible first | exact HB.out | apply below_alloc | apply pw_below_drewN | apply below_drew1 | refine below_set ?_ GE529.out | refine below_set ?_ GE530.out | refine below_set ?_ GE535.out | refine below_set ?_ GE540.out | refine below_set ?_ GE558.out | refine below_set ?_ GE563.out) | exact HB.out)⟩⟩
                        case round =>
                          as_aux_lemma =>
                            clear H'
                            obtain ⟨x18_3, rfl, HA, HK3, HO_9, HO_11, BK529, BK530, BK535, BK540, BK558, BK563, HB⟩ := hrel
                            cases gk with
                            | zero => exact absurd HA.out (by simp [laws_FnLog.l0])
                            | succ k3 =>
                              have H := HA.out
                              clear HA
                              simp only [laws_FnLog.l0] at H
                              by_cases c95 : x18_3 < (t549.length : Int)
                              · rw [if_pos c95] at H
                                have c95b0 : decide (x18_3 < (t549.length : Int)) = true := decide_eq_true c95
                                clear c95
                                by_cases c96 : 0 ≤ x18_3
                                · rw [if_pos c96] at H
                                  have c96b0 : decide (0 ≤ x18_3) = true := decide_eq_true c96
                                  clear c96
                                  by_cases c97 : x18_3 < (t545.length : Int)
                                  · rw [if_pos c97] at H
                                    have c97b0 : decide (x18_3 < (t545.length : Int)) = true := decide_eq_true c97
                                    clear c97
                                    by_cases c98 : (!((((rd_T27 t545 x18_3).f0).toList) == (((rd_T27 t549 x18_3).f0).toList)) || (!((((rd_T27 t545 x18_3).f1).toList) == (((rd_T27 t549 x18_3).f1).toList)))) = true
                                    · rw [if_pos c98] at H
                                      have c98b0 : (!((((rd_T27 t545 x18_3).f0).toList) == (((rd_T27 t549 x18_3).f0).toList)) || (!((((rd_T27 t545 x18_3).f1).toList) == (((rd_T27 t549 x18_3).f1).toList)))) = true := c98
                                      clear c98
                                      exact absurd ((Option.some.inj H).trans hrt_) (by decide)
                                    · rw [if_neg c98] at H
                                      have c98b0 : (!((((rd_T27 t545 x18_3).f0).toList) == (((rd_T27 t549 x18_3).f0).toList)) || (!((((rd_T27 t545 x18_3).f1).toList) == (((rd_T27 t549 x18_3).f1).toList)))) = false := by simpa using c98
                                      clear c98
                                      have H' := Aside0.mk H
                                      clear H
                                      obtain ⟨Ao102, co102, eo102⟩ := Kd.R_slice HO_11.out
                                      subst eo102
                                      try go_wp2
                                      have n0_ := Aside0.mk (Kd.R_drew HO_9.out)
                                      have n1_ := Aside0.mk (Kd.R_drew HO_11.out)
                                      have n2_ := Aside0.mk (blk_drew BK529.out)
                                      have n3_ := Aside0.mk (blk_drew BK530.out)
                                      have n4_ := Aside0.mk (blk_drew BK535.out)
                                      have n5_ := Aside0.mk (blk_drew BK540.out)
                                      have n6_ := Aside0.mk (blk_drew BK558.out)
                                      have n7_ := Aside0.mk (blk_drew BK563.out)
                                      have n8_ := Aside0.mk (below_drew1 HB.out)
                                      clear HO_9
                                      clear HO_11
                                      clear BK529
                                      clear BK530
                                      clear BK535
                                      clear BK540
                                      clear BK558
                                      clear BK563
                                      clear HB
                                      have HO_9 := n0_
                                      have HO_11 := n1_
                                      have BK529 := n2_
                                      have BK530 := n3_
                                      have BK535 := n4_
                                      have BK540 := n5_
                                      have BK558 := n6_
                                      have BK563 := n7_
                                      have HB := n8_
                                      clear n0_ n1_ n2_ n3_ n4_ n5_ n6_ n7_ n8_
                                      obtain ⟨Ao104, co104, eo104⟩ := Kd.R_slice HO_9.out
                                      (first | subst eo104 | (injection eo104 with f1_ f2_ f3_; have f4_ := f1_.symm; have f5_ := f3_.symm; clear f1_ f2_ f3_; subst f4_; subst f5_))
                                      have p564 : 0 ≤ (x18_3 : Int) := of_decide_eq_true (by first | (with_reducible assumption) | assumption)
                                      have q564 : x18_3 < (t545.length : Int) := of_decide_eq_true (by first | (with_reducible assumption) | assumption)
                                      obtain ⟨ad564, e564, hx564_0, hx564_1⟩ := at_T27 (Kd.R_reads' HO_9.out).2.2 x18_3 p564 q564
                                      cases e564
                                      replace p564 := eq_true p564
                                      replace q564 := eq_true q564
                                      have p565 : 0 ≤ (x18_3 : Int) := of_decide_eq_true (by first | (with_reducible assumption) | assumption)
                                      have q565 : x18_3 < (t549.length : Int) := of_decide_eq_true (by first | (with_reducible assumption) | assumption)
                                      obtain ⟨ad565, e565, hx565_0, hx565_1⟩ := at_T27 (Kd.R_reads' HO_11.out).2.2 x18_3 p565 q565
                                      cases e565
                                      replace p565 := eq_true p565
                                      replace q565 := eq_true q565
                                      refine start_ (n := 9) (S := fun w' => w'.cell? (ad564.add ((x18_3).toNat * 2)) = some (.string ((rd_T27 t545 x18_3).f0)) ∧ w'.cell? ⟨(ad564.add ((x18_3).toNat * 2)).block, (ad564.add ((x18_3).toNat * 2)).off + 1, none⟩ = some (.string ((rd_T27 t545 x18_3).f1)) ∧ w'.cell? (ad565.add ((x18_3).toNat * 2)) = some (.string ((rd_T27 t549 x18_3).f0)) ∧ w'.cell? ⟨(ad565.add ((x18_3).toNat * 2)).block, (ad565.add ((x18_3).toNat * 2)).off + 1, none⟩ = some (.string ((rd_T27 t549 x18_3).f1))) (ds := []) #[false, false, false, false, false, false, false, false, false] (by kernel_rfl) rfl rfl ⟨hx564_0, hx564_1, hx565_0, hx565_1⟩ (fun hHeld => ?_); refine with_tabW laws_FnLog.tab19 laws_FnLog.bits19 (fun HT_ HW_ => ?_)
                                      generalize wr.drew = w103 at HO_9 HO_11 BK529 BK530 BK535 BK540 BK558 BK563 HB hx564_0 hx564_1 hx565_0 hx565_1 hHeld ⊢
                                      refine pure_ (i := 0) (N := some 113) (v := ?_) (a' := ?_) #[true, false, false, false, false, false, false, false, false] rfl rfl (any_of HT_.out (by kernel_rfl)) (fun _ _ _ h => h) (Or.inl ⟨by rfl, ?_⟩) ?_ ?_
                                      rotate_left
                                      · intro w'
                                        go_simp
                                        with_reducible rfl
                                      rotate_left
                                      · simp only [Act.put, List.setIfInBounds_toArray, List.set_cons_zero, List.set_cons_succ, i64_w, i32_w]
                                        rfl
                                      refine pure_ (i := 1) (N := some 114) (v := ?_) (a' := ?_) #[true, true, false, false, false, false, false, false, false] rfl rfl (any_of HT_.out (by kernel_rfl)) (fun _ _ _ h => h) (Or.inl ⟨by rfl, ?_⟩) ?_ ?_
                                      rotate_left
                                      · intro w'
                                        go_simp
                                        with_reducible rfl
                                      rotate_left
                                      · simp only [Act.put, List.setIfInBounds_toArray, List.set_cons_zero, List.set_cons_succ, i64_w, i32_w]
                                        rfl
                                      refine pure_ (i := 2) (N := some 115) (v := ?_) (a' := ?_) #[true, true, true, false, false, false, false, false, false] rfl rfl (any_of HT_.out (by kernel_rfl)) (fun _ _ _ h => h) (Or.inl ⟨by rfl, ?_⟩) ?_ ?_
                                      rotate_left
                                      · intro w'
                                        go_simp
                                        with_reducible rfl
                                      rotate_left
                                      · simp only [Act.put, List.setIfInBounds_toArray, List.set_cons_zero, List.set_cons_succ, i64_w, i32_w]
                                        rfl
                                      refine pure_ (i := 4) (N := some 117) (v := ?_) (a' := ?_) #[true, true, true, false, true, false, false, false, false] rfl rfl (any_of HT_.out (by kernel_rfl)) (fun _ _ _ h => h) (Or.inl ⟨by rfl, ?_⟩) ?_ ?_
                                      rotate_left
                                      · intro w'
                                        go_simp
                                        with_reducible rfl
                                      rotate_left
                                      · simp only [Act.put, List.setIfInBounds_toArray, List.set_cons_zero, List.set_cons_succ, i64_w, i32_w]
                                        rfl
                                      refine pure_ (i := 5) (N := some 118) (v := ?_) (a' := ?_) #[true, true, true, false, true, true, false, false, false] rfl rfl (any_of HT_.out (by kernel_rfl)) (fun _ _ _ h => h) (Or.inl ⟨by rfl, ?_⟩) ?_ ?_
                                      rotate_left
                                      · intro w'
                                        go_simp
                                        with_reducible rfl
                                      rotate_left
                                      · simp only [Act.put, List.setIfInBounds_toArray, List.set_cons_zero, List.set_cons_succ, i64_w, i32_w]
                                        rfl
                                      refine pure_ (i := 6) (N := some 119) (v := ?_) (a' := ?_) #[true, true, true, false, true, true, true, false, false] rfl rfl (any_of HT_.out (by kernel_rfl)) (fun _ _ _ h => h) (Or.inl ⟨by rfl, ?_⟩) ?_ ?_
                                      rotate_left
                                      · intro w'
                                        go_simp
                                        with_reducible rfl
                                      rotate_left
                                      · simp only [Act.put, List.setIfInBounds_toArray, List.set_cons_zero, List.set_cons_succ, i64_w, i32_w]
                                        rfl
                                      refine take_ (i := 3) (N := some 116) (v := ?_) (a' := ?_) #[true, true, true, true, true, true, true, false, false] rfl rfl (take_ofW HT_.out HW_.out (by kernel_rfl)) (fun _ _ _ h => h) (Or.inl ⟨by rfl, ?_⟩) hHeld ?_ ?_
                                      rotate_left
                                      · rintro w' ⟨s0, s1, s2, s3⟩
                                        go_simp
                                        with_reducible rfl
                                      rotate_left
                                      · simp only [Act.put, List.setIfInBounds_toArray, List.set_cons_zero, List.set_cons_succ, i64_w, i32_w]
                                        rfl
                                      refine take_ (i := 7) (N := some 120) (v := ?_) (a' := ?_) #[true, true, true, true, true, true, true, true, false] rfl rfl (take_ofW HT_.out HW_.out (by kernel_rfl)) (fun _ _ _ h => h) (Or.inl ⟨by rfl, ?_⟩) hHeld ?_ ?_
                                      rotate_left
                                      · rintro w' ⟨s0, s1, s2, s3⟩
                                        go_simp
                                        with_reducible rfl
                                      rotate_left
                                      · simp only [Act.put, List.setIfInBounds_toArray, List.set_cons_zero, List.set_cons_succ, i64_w, i32_w]
                                        rfl
                                      refine pure_ (i := 8) (N := some 121) (v := ?_) (a' := ?_) #[true, true, true, true, true, true, true, true, true] rfl rfl (any_of HT_.out (by kernel_rfl)) (fun _ _ _ h => h) (Or.inl ⟨by rfl, ?_⟩) ?_ ?_
                                      rotate_left
                                      · intro w'
                                        go_simp
                                        with_reducible rfl
                                      rotate_left
                                      · simp only [Act.put, List.setIfInBounds_toArray, List.set_cons_zero, List.set_cons_succ, i64_w, i32_w]
                                        rfl
                                      refine done_ (done_of HT_.out (by kernel_rfl)) ?_
                                      try go_wp2
                                      go_roundg k3
                                      case measure => have := HJ6.out; have := HJ54.out; have := HK3.out; omega
                                      case rel => exact ⟨(wrap64 (x18_3 + 1)), (by first | rfl | (simp; done) | (simp [*]; done)), H', ⟨by have := HJ6.out; have := HJ54.out; have := HK3.out; omega⟩, ⟨by (with_reducible repeat (first | apply Kd.R_alloc | apply Kd.R_drewN | apply Kd.R_drew)); exact HO_9.out⟩, ⟨by (with_reducible repeat (first | apply Kd.R_alloc | apply Kd.R_drewN | apply Kd.R_drew)); exact HO_11.out⟩, ⟨by (with_reducible repeat (first | refine blk_drewN ?_ _ | refine blk_drew ?_ | refine blk_alloc ?_ _)); exact BK529.out⟩, ⟨by (with_reducible repeat (first | refine blk_drewN ?_ _ | refine blk_drew ?_ | refine blk_alloc ?_ _)); exact BK530.out⟩, ⟨by (with_reducible repeat (first | refine blk_drewN ?_ _ | refine blk_drew ?_ | refine blk_alloc ?_ _)); exact BK535.out⟩, ⟨by (with_reducible repeat (first | refine blk_drewN ?_ _ | refine blk_drew ?_ | refine blk_alloc ?_ _)); exact BK540.out⟩, ⟨by (with_reducible repeat (first | refine blk_drewN ?_ _ | refine blk_drew ?_ | refine blk_alloc ?_ _)); exact BK558.out⟩, ⟨by (with_reducible repeat (first | refine blk_drewN ?_ _ | refine blk_drew ?_ | refine blk_alloc ?_ _)); exact BK563.out⟩, ⟨by repeat (first | (with_reducible first | exact HB.out | apply below_alloc | apply pw_below_drewN | apply below_drew1 | refine below_set ?_ GE529.out | refine below_set ?_ GE530.out | refine below_set ?_ GE535.out | refine below_set ?_ GE540.out | refine below_set ?_ GE558.out | refine below_set ?_ GE563.out) | exact HB.out)⟩⟩
                                  · rw [if_neg c97] at H
                                    exact absurd H (by simp)
                                · rw [if_neg c96] at H
                                  exact absurd H (by simp)
                              · rw [if_neg c95] at H
                                have c95b0 : decide (x18_3 < (t549.length : Int)) = false := decide_eq_false c95
                                clear c95
                                by_cases c105 : 0 ≤ (t549.length : Int)
                                · rw [if_pos c105] at H
                                  have c105b0 : decide (0 ≤ (t549.length : Int)) = true := decide_eq_true c105
                                  have c105b1 : decide (0 ≤ t549.length) = true := decide_eq_true (by omega)
                                  clear c105
                                  by_cases c106 : (t549.length : Int) < (t545.length : Int)
                                  · rw [if_pos c106] at H
                                    have c106b0 : decide ((t549.length : Int) < (t545.length : Int)) = true := decide_eq_true c106
                                    have c106b1 : decide (t549.length < t545.length) = true := decide_eq_true (Int.ofNat_lt.mp c106)
                                    clear c106
                                    by_cases c107 : ((((rd_T27 t545 (t549.length : Int)).f0).toList) == t527.toList && ((((rd_T27 t545 (t549.length : Int)).f1).toList) == t528.toList)) = true
                                    · rw [if_pos c107] at H
                                      have c107b0 : ((((rd_T27 t545 (t549.length : Int)).f0).toList) == t527.toList && ((((rd_T27 t545 (t549.length : Int)).f1).toList) == t528.toList)) = true := c107
                                      (try (have c107b1 : decide ((((rd_T27 t545 (t549.length : Int)).f0).toList) = t527.toList && ((((rd_T27 t545 (t549.length : Int)).f1).toList) == t528.toList)) = true := by simpa using c107))
                                      (try (have c107b2 : ((((rd_T27 t545 (t549.length : Int)).f0).toList) == t527.toList && ((((rd_T27 t545 (t549.length : Int)).f1).toList) == t528.toList)) = true := by simpa using c107))
                                      clear c107
                                      by_cases c108 : t557 = true
                                      · subst c108
                                        have H1 : (if t531.size + t532.size ≤ 9223372036854775807 then (if t556 = ((t531 ++ t532).size : Int) then (if t562 = true then (if (t559.toList == t553.toList && (t560.toList == t554.toList && (t561 == t555))) = true then ((impl_IsValidLog.f k3 t531 t532 t533).bind fun t567 => (some t567)) else (some false)) else (some false)) else (some false)) else (none)) = some r := by rw [if_pos rfl] at H; exact H
                                        clear H
                                        have H := H1
                                        clear H1
                                        by_cases c109 : t531.size + t532.size ≤ 9223372036854775807
                                        · rw [if_pos c109] at H
                                          have c109b0 := eq_true c109
                                          have c109b1 : decide (t531.size + t532.size ≤ 9223372036854775807) = true := decide_eq_true c109
                                          try have c109b2 : (9223372036854775807 < t531.size + t532.size) = False := eq_false (Nat.not_lt.2 c109)
                                          by_cases c110 : t556 = ((t531 ++ t532).size : Int)
                                          · rw [if_pos c110] at H
                                            have c110b0 : (t556 == ((t531 ++ t532).size : Int)) = true := beq_iff_eq.mpr c110
                                            try (have c110b0y := c110b0; simp only [ByteArray.size_append, Int.natCast_add] at c110b0y)
                                            try have c110b0z : (t556 == ((t531.size + t532.size) : Int)) = true := by have h_ := c110b0; (try simp only [ByteArray.size_append] at h_); exact h_
                                            have c110b1 : (t556 != ((t531 ++ t532).size : Int)) = false := bne_eq_false_iff_eq.mpr c110
                                            try (have c110b1y := c110b1; simp only [ByteArray.size_append, Int.natCast_add] at c110b1y)
                                            try have c110b1z : (t556 != ((t531.size + t532.size) : Int)) = false := by have h_ := c110b1; (try simp only [ByteArray.size_append] at h_); exact h_
                                            clear c110
                                            by_cases c111 : t562 = true
                                            · subst c111
                                              have H1 : (if (t559.toList == t553.toList && (t560.toList == t554.toList && (t561 == t555))) = true then ((impl_IsValidLog.f k3 t531 t532 t533).bind fun t567 => (some t567)) else (some false)) = some r := by rw [if_pos rfl] at H; exact H
                                              clear H
                                              have H := H1
                                              clear H1
                                              by_cases c112 : (t559.toList == t553.toList && (t560.toList == t554.toList && (t561 == t555))) = true
                                              · rw [if_pos c112] at H
                                                have c112b0 : (t559.toList == t553.toList && (t560.toList == t554.toList && (t561 == t555))) = true := c112
                                                (try (have c112b1 : decide (t559.toList = t553.toList && (t560.toList == t554.toList && (t561 == t555))) = true := by simpa using c112))
                                                (try (have c112b2 : (t559.toList == t553.toList && (t560.toList == t554.toList && (t561 == t555))) = true := by simpa using c112))
                                                clear c112
                                                replace H := Option.bind_eq_some_iff.mp H
                                                obtain ⟨t567, A1130, H⟩ := H
                                                replace H : (some t567) = some r := H
                                                have A113 := Aside0.mk A1130
                                                clear A1130
                                                obtain rfl := Option.some.inj H
                                                obtain ⟨Ao114, co114, eo114⟩ := Kd.R_slice HO_11.out
                                                subst eo114
                                                try go_wp2
                                                have n0_ := Aside0.mk (Kd.R_drew HO_9.out)
                                                have n1_ := Aside0.mk (Kd.R_drew HO_11.out)
                                                have n2_ := Aside0.mk (blk_drew BK529.out)
                                                have n3_ := Aside0.mk (blk_drew BK530.out)
                                                have n4_ := Aside0.mk (blk_drew BK535.out)
                                                have n5_ := Aside0.mk (blk_drew BK540.out)
                                                have n6_ := Aside0.mk (blk_drew BK558.out)
                                                have n7_ := Aside0.mk (blk_drew BK563.out)
                                                have n8_ := Aside0.mk (below_drew1 HB.out)
                                                clear HO_9
                                                clear HO_11
                                                clear BK529
                                                clear BK530
                                                clear BK535
                                                clear BK540
                                                clear BK558
                                                clear BK563
                                                clear HB
                                                have HO_9 := n0_
                                                have HO_11 := n1_
                                                have BK529 := n2_
                                                have BK530 := n3_
                                                have BK535 := n4_
                                                have BK540 := n5_
                                                have BK558 := n6_
                                                have BK563 := n7_
                                                have HB := n8_
                                                clear n0_ n1_ n2_ n3_ n4_ n5_ n6_ n7_ n8_
                                                obtain ⟨Ao116, co116, eo116⟩ := Kd.R_slice HO_9.out
                                                (first | subst eo116 | (injection eo116 with f1_ f2_ f3_; have f4_ := f1_.symm; have f5_ := f3_.symm; clear f1_ f2_ f3_; subst f4_; subst f5_))
                                                have p566 : 0 ≤ ((t549.length : Int) : Int) := of_decide_eq_true (by first | (with_reducible assumption) | assumption)
                                                have q566 : (t549.length : Int) < (t545.length : Int) := of_decide_eq_true (by first | (with_reducible assumption) | assumption)
                                                obtain ⟨ad566, e566, hx566_0, hx566_1⟩ := at_T27 (Kd.R_reads' HO_9.out).2.2 (t549.length : Int) p566 q566
                                                cases e566
                                                (try simp only [Go.IntWalk.toNatUp] at hx566_0)
                                                (try simp only [Go.IntWalk.toNatUp] at hx566_1)
                                                replace p566 := eq_true p566
                                                replace q566 := eq_true q566
                                                refine start_ (n := 33) (S := fun w' => w'.cell? ⟨gb530, 0, none⟩ = some (.string t527) ∧ w'.cell? ⟨gb530, 1, none⟩ = some (.string t528) ∧ w'.cell? ⟨gb535, 0, none⟩ = some (.string t531) ∧ w'.cell? ⟨gb535, 1, none⟩ = some (.string t532) ∧ w'.cell? ⟨gb535, 2, none⟩ = some (.int .i64 t533) ∧ w'.cell? ⟨gb563, 0, none⟩ = some (.string t559) ∧ w'.cell? ⟨gb563, 1, none⟩ = some (.string t560) ∧ w'.cell? ⟨gb563, 2, none⟩ = some (.int .i64 t561) ∧ w'.cell? ⟨gb558, 0, none⟩ = some (.string t553) ∧ w'.cell? ⟨gb558, 1, none⟩ = some (.string t554) ∧ w'.cell? ⟨gb558, 2, none⟩ = some (.int .i64 t555) ∧ w'.cell? (ad566.add (t549.length * 2)) = some (.string ((rd_T27 t545 (t549.length : Int)).f0)) ∧ w'.cell? ⟨(ad566.add (t549.length * 2)).block, (ad566.add (t549.length * 2)).off + 1, none⟩ = some (.string ((rd_T27 t545 (t549.length : Int)).f1))) (ds := []) #[false, false, false, false, false, false, false, false, false, false, false, false, false, false, false, false, false, false, false, false, false, false, false, false, false, false, false, false, false, false, false, false, false] (by kernel_rfl) rfl rfl ⟨(blk_cell BK530.out 0).trans rfl, (blk_cell BK530.out 1).trans rfl, (blk_cell BK535.out 0).trans rfl, (blk_cell BK535.out 1).trans rfl, (blk_cell BK535.out 2).trans rfl, (blk_cell BK563.out 0).trans rfl, (blk_cell BK563.out 1).trans rfl, (blk_cell BK563.out 2).trans rfl, (blk_cell BK558.out 0).trans rfl, (blk_cell BK558.out 1).trans rfl, (blk_cell BK558.out 2).trans rfl, hx566_0, hx566_1⟩ (fun hHeld => ?_); refine with_tabW laws_FnLog.tab21 laws_FnLog.bits21 (fun HT_ HW_ => ?_)
                                                generalize wr.drew = w115 at HO_9 HO_11 BK529 BK530 BK535 BK540 BK558 BK563 HB hx566_0 hx566_1 hHeld ⊢
                                                refine pure_ (i := 0) (N := some 122) (v := ?_) (a' := ?_) #[true, false, false, false, false, false, false, false, false, false, false, false, false, false, false, false, false, false, false, false, false, false, false, false, false, false, false, false, false, false, false, false, false] rfl rfl (any_of HT_.out (by kernel_rfl)) (fun _ _ _ h => h) (Or.inl ⟨by rfl, ?_⟩) ?_ ?_
                                                rotate_left
                                                · intro w'
                                                  go_simp
                                                  with_reducible rfl
                                                rotate_left
                                                · simp only [Act.put, List.setIfInBounds_toArray, List.set_cons_zero, List.set_cons_succ, i64_w, i32_w]
                                                  rfl
                                                refine pure_ (i := 1) (N := some 123) (v := ?_) (a' := ?_) #[true, true, false, false, false, false, false, false, false, false, false, false, false, false, false, false, false, false, false, false, false, false, false, false, false, false, false, false, false, false, false, false, false] rfl rfl (any_of HT_.out (by kernel_rfl)) (fun _ _ _ h => h) (Or.inl ⟨by rfl, ?_⟩) ?_ ?_
                                                rotate_left
                                                · intro w'
                                                  go_simp
                                                  with_reducible rfl
                                                rotate_left
                                                · simp only [Act.put, List.setIfInBounds_toArray, List.set_cons_zero, List.set_cons_succ, i64_w, i32_w]
                                                  rfl
                                                refine pure_ (i := 2) (N := some 124) (v := ?_) (a' := ?_) #[true, true, true, false, false, false, false, false, false, false, false, false, false, false, false, false, false, false, false, false, false, false, false, false, false, false, false, false, false, false, false, false, false] rfl rfl (any_of HT_.out (by kernel_rfl)) (fun _ _ _ h => h) (Or.inl ⟨by rfl, ?_⟩) ?_ ?_
                                                rotate_left
                                                · intro w'
                                                  go_simp
                                                  with_reducible rfl
                                                rotate_left
                                                · simp only [Act.put, List.setIfInBounds_toArray, List.set_cons_zero, List.set_cons_succ, i64_w, i32_w]
                                                  rfl
                                                refine pure_ (i := 3) (N := some 125) (v := ?_) (a' := ?_) #[true, true, true, true, false, false, false, false, false, false, false, false, false, false, false, false, false, false, false, false, false, false, false, false, false, false, false, false, false, false, false, false, false] rfl rfl (any_of HT_.out (by kernel_rfl)) (fun _ _ _ h => h) (Or.inl ⟨by rfl, ?_⟩) ?_ ?_
                                                rotate_left
                                                · intro w'
                                                  go_simp
                                                  with_reducible rfl
                                                rotate_left
                                                · simp only [Act.put, List.setIfInBounds_toArray, List.set_cons_zero, List.set_cons_succ, i64_w, i32_w]
                                                  rfl
                                                refine take_ (i := 4) (N := some 126) (v := ?_) (a' := ?_) #[true, true, true, true, true, false, false, false, false, false, false, false, false, false, false, false, false, false, false, false, false, false, false, false, false, false, false, false, false, false, false, false, false] rfl rfl (take_ofW HT_.out HW_.out (by kernel_rfl)) (fun _ _ _ h => h) (Or.inl ⟨by rfl, ?_⟩) hHeld ?_ ?_
                                                rotate_left
                                                · rintro w' ⟨s0, s1, s2, s3, s4, s5, s6, s7, s8, s9, s10, s11, s12⟩
                                                  go_simp
                                                  with_reducible rfl
                                                rotate_left
                                                · simp only [Act.put, List.setIfInBounds_toArray, List.set_cons_zero, List.set_cons_succ, i64_w, i32_w]
                                                  rfl
                                                refine take_ (i := 5) (N := some 127) (v := ?_) (a' := ?_) #[true, true, true, true, true, true, false, false, false, false, false, false, false, false, false, false, false, false, false, false, false, false, false, false, false, false, false, false, false, false, false, false, false] rfl rfl (take_ofW HT_.out HW_.out (by kernel_rfl)) (fun _ _ _ h => h) (Or.inl ⟨by rfl, ?_⟩) hHeld ?_ ?_
                                                rotate_left
                                                · rintro w' ⟨s0, s1, s2, s3, s4, s5, s6, s7, s8, s9, s10, s11, s12⟩
                                                  go_simp
                                                  with_reducible rfl
                                                rotate_left
                                                · simp only [Act.put, List.setIfInBounds_toArray, List.set_cons_zero, List.set_cons_succ, i64_w, i32_w]
                                                  rfl
                                                refine pure_ (i := 6) (N := some 128) (v := ?_) (a' := ?_) #[true, true, true, true, true, true, true, false, false, false, false, false, false, false, false, false, false, false, false, false, false, false, false, false, false, false, false, false, false, false, false, false, false] rfl rfl (any_of HT_.out (by kernel_rfl)) (fun _ _ _ h => h) (Or.inl ⟨by rfl, ?_⟩) ?_ ?_
                                                rotate_left
                                                · intro w'
                                                  go_simp
                                                  with_reducible rfl
                                                rotate_left
                                                · simp only [Act.put, List.setIfInBounds_toArray, List.set_cons_zero, List.set_cons_succ, i64_w, i32_w]
                                                  rfl
                                                refine pure_ (i := 7) (N := some 129) (v := ?_) (a' := ?_) #[true, true, true, true, true, true, true, true, false, false, false, false, false, false, false, false, false, false, false, false, false, false, false, false, false, false, false, false, false, false, false, false, false] rfl rfl (any_of HT_.out (by kernel_rfl)) (fun _ _ _ h => h) (Or.inl ⟨by rfl, ?_⟩) ?_ ?_
                                                rotate_left
                                                · intro w'
                                                  go_simp
                                                  with_reducible rfl
                                                rotate_left
                                                · simp only [Act.put, List.setIfInBounds_toArray, List.set_cons_zero, List.set_cons_succ, i64_w, i32_w]
                                                  rfl
                                                refine pure_ (i := 8) (N := some 130) (v := ?_) (a' := ?_) #[true, true, true, true, true, true, true, true, true, false, false, false, false, false, false, false, false, false, false, false, false, false, false, false, false, false, false, false, false, false, false, false, false] rfl rfl (any_of HT_.out (by kernel_rfl)) (fun _ _ _ h => h) (Or.inl ⟨by rfl, ?_⟩) ?_ ?_
                                                rotate_left
                                                · intro w'
                                                  go_simp
                                                  with_reducible rfl
                                                rotate_left
                                                · simp only [Act.put, List.setIfInBounds_toArray, List.set_cons_zero, List.set_cons_succ, i64_w, i32_w]
                                                  rfl
                                                refine pure_ (i := 9) (N := some 131) (v := ?_) (a' := ?_) #[true, true, true, true, true, true, true, true, true, true, false, false, false, false, false, false, false, false, false, false, false, false, false, false, false, false, false, false, false, false, false, false, false] rfl rfl (any_of HT_.out (by kernel_rfl)) (fun _ _ _ h => h) (Or.inl ⟨by rfl, ?_⟩) ?_ ?_
                                                rotate_left
                                                · intro w'
                                                  go_simp
                                                  with_reducible rfl
                                                rotate_left
                                                · simp only [Act.put, List.setIfInBounds_toArray, List.set_cons_zero, List.set_cons_succ, i64_w, i32_w]
                                                  rfl
                                                refine pure_ (i := 10) (N := some 132) (v := ?_) (a' := ?_) #[true, true, true, true, true, true, true, true, true, true, true, false, false, false, false, false, false, false, false, false, false, false, false, false, false, false, false, false, false, false, false, false, false] rfl rfl (any_of HT_.out (by kernel_rfl)) (fun _ _ _ h => h) (Or.inl ⟨by rfl, ?_⟩) ?_ ?_
                                                rotate_left
                                                · intro w'
                                                  go_simp
                                                  with_reducible rfl
                                                rotate_left
                                                · simp only [Act.put, List.setIfInBounds_toArray, List.set_cons_zero, List.set_cons_succ, i64_w, i32_w]
                                                  rfl
                                                refine pure_ (i := 11) (N := some 133) (v := ?_) (a' := ?_) #[true, true, true, true, true, true, true, true, true, true, true, true, false, false, false, false, false, false, false, false, false, false, false, false, false, false, false, false, false, false, false, false, false] rfl rfl (any_of HT_.out (by kernel_rfl)) (fun _ _ _ h => h) (Or.inl ⟨by rfl, ?_⟩) ?_ ?_
                                                rotate_left
                                                · intro w'
                                                  go_simp
                                                  with_reducible rfl
                                                rotate_left
                                                · simp only [Act.put, List.setIfInBounds_toArray, List.set_cons_zero, List.set_cons_succ, i64_w, i32_w]
                                                  rfl
                                                refine pure_ (i := 12) (N := some 134) (v := ?_) (a' := ?_) #[true, true, true, true, true, true, true, true, true, true, true, true, true, false, false, false, false, false, false, false, false, false, false, false, false, false, false, false, false, false, false, false, false] rfl rfl (any_of HT_.out (by kernel_rfl)) (fun _ _ _ h => h) (Or.inl ⟨by rfl, ?_⟩) ?_ ?_
                                                rotate_left
                                                · intro w'
                                                  go_simp
                                                  with_reducible rfl
                                                rotate_left
                                                · simp only [Act.put, List.setIfInBounds_toArray, List.set_cons_zero, List.set_cons_succ, i64_w, i32_w]
                                                  rfl
                                                refine pure_ (i := 14) (N := some 136) (v := ?_) (a' := ?_) #[true, true, true, true, true, true, true, true, true, true, true, true, true, false, true, false, false, false, false, false, false, false, false, false, false, false, false, false, false, false, false, false, false] rfl rfl (any_of HT_.out (by kernel_rfl)) (fun _ _ _ h => h) (Or.inl ⟨by rfl, ?_⟩) ?_ ?_
                                                rotate_left
                                                · intro w'
                                                  go_simp
                                                  with_reducible rfl
                                                rotate_left
                                                · simp only [Act.put, List.setIfInBounds_toArray, List.set_cons_zero, List.set_cons_succ, i64_w, i32_w]
                                                  rfl
                                                refine take_ (i := 13) (N := some 135) (v := ?_) (a' := ?_) #[true, true, true, true, true, true, true, true, true, true, true, true, true, true, true, false, false, false, false, false, false, false, false, false, false, false, false, false, false, false, false, false, false] rfl rfl (take_ofW HT_.out HW_.out (by kernel_rfl)) (fun _ _ _ h => h) (Or.inl ⟨by rfl, ?_⟩) hHeld ?_ ?_
                                                rotate_left
                                                · rintro w' ⟨s0, s1, s2, s3, s4, s5, s6, s7, s8, s9, s10, s11, s12⟩
                                                  go_simp
                                                  with_reducible rfl
                                                rotate_left
                                                · simp only [Act.put, List.setIfInBounds_toArray, List.set_cons_zero, List.set_cons_succ, i64_w, i32_w]
                                                  rfl
                                                refine take_ (i := 15) (N := some 137) (v := ?_) (a' := ?_) #[true, true, true, true, true, true, true, true, true, true, true, true, true, true, true, true, false, false, false, false, false, false, false, false, false, false, false, false, false, false, false, false, false] rfl rfl (take_ofW HT_.out HW_.out (by kernel_rfl)) (fun _ _ _ h => h) (Or.inl ⟨by rfl, ?_⟩) hHeld ?_ ?_
                                                rotate_left
                                                · rintro w' ⟨s0, s1, s2, s3, s4, s5, s6, s7, s8, s9, s10, s11, s12⟩
                                                  go_simp
                                                  with_reducible rfl
                                                rotate_left
                                                · simp only [Act.put, List.setIfInBounds_toArray, List.set_cons_zero, List.set_cons_succ, i64_w, i32_w]
                                                  rfl
                                                refine pure_ (i := 16) (N := some 138) (v := ?_) (a' := ?_) #[true, true, true, true, true, true, true, true, true, true, true, true, true, true, true, true, true, false, false, false, false, false, false, false, false, false, false, false, false, false, false, false, false] rfl rfl (any_of HT_.out (by kernel_rfl)) (fun _ _ _ h => h) (Or.inl ⟨by rfl, ?_⟩) ?_ ?_
                                                rotate_left
                                                · intro w'
                                                  go_simp
                                                  with_reducible rfl
                                                rotate_left
                                                · simp only [Act.put, List.setIfInBounds_toArray, List.set_cons_zero, List.set_cons_succ, i64_w, i32_w]
                                                  rfl
                                                refine pure_ (i := 17) (N := some 139) (v := ?_) (a' := ?_) #[true, true, true, true, true, true, true, true, true, true, true, true, true, true, true, true, true, true, false, false, false, false, false, false, false, false, false, false, false, false, false, false, false] rfl rfl (any_of HT_.out (by kernel_rfl)) (fun _ _ _ h => h) (Or.inl ⟨by rfl, ?_⟩) ?_ ?_
                                                rotate_left
                                                · intro w'
                                                  go_simp
                                                  with_reducible rfl
                                                rotate_left
                                                · simp only [Act.put, List.setIfInBounds_toArray, List.set_cons_zero, List.set_cons_succ, i64_w, i32_w]
                                                  rfl
                                                refine pure_ (i := 18) (N := some 140) (v := ?_) (a' := ?_) #[true, true, true, true, true, true, true, true, true, true, true, true, true, true, true, true, true, true, true, false, false, false, false, false, false, false, false, false, false, false, false, false, false] rfl rfl (any_of HT_.out (by kernel_rfl)) (fun _ _ _ h => h) (Or.inl ⟨by rfl, ?_⟩) ?_ ?_
                                                rotate_left
                                                · intro w'
                                                  go_simp
                                                  with_reducible rfl
                                                rotate_left
                                                · simp only [Act.put, List.setIfInBounds_toArray, List.set_cons_zero, List.set_cons_succ, i64_w, i32_w]
                                                  rfl
                                                refine pure_ (i := 19) (N := some 141) (v := ?_) (a' := ?_) #[true, true, true, true, true, true, true, true, true, true, true, true, true, true, true, true, true, true, true, true, false, false, false, false, false, false, false, false, false, false, false, false, false] rfl rfl (any_of HT_.out (by kernel_rfl)) (fun _ _ _ h => h) (Or.inl ⟨by rfl, ?_⟩) ?_ ?_
                                                rotate_left
                                                · intro w'
                                                  go_simp
                                                  with_reducible rfl
                                                rotate_left
                                                · simp only [Act.put, List.setIfInBounds_toArray, List.set_cons_zero, List.set_cons_succ, i64_w, i32_w]
                                                  rfl
                                                refine pure_ (i := 20) (N := some 142) (v := ?_) (a' := ?_) #[true, true, true, true, true, true, true, true, true, true, true, true, true, true, true, true, true, true, true, true, true, false, false, false, false, false, false, false, false, false, false, false, false] rfl rfl (any_of HT_.out (by kernel_rfl)) (fun _ _ _ h => h) (Or.inl ⟨by rfl, ?_⟩) ?_ ?_
                                                rotate_left
                                                · intro w'
                                                  go_simp
                                                  with_reducible rfl
                                                rotate_left
                                                · simp only [Act.put, List.setIfInBounds_toArray, List.set_cons_zero, List.set_cons_succ, i64_w, i32_w]
                                                  rfl
                                                refine pure_ (i := 21) (N := some 143) (v := ?_) (a' := ?_) #[true, true, true, true, true, true, true, true, true, true, true, true, true, true, true, true, true, true, true, true, true, true, false, false, false, false, false, false, false, false, false, false, false] rfl rfl (any_of HT_.out (by kernel_rfl)) (fun _ _ _ h => h) (Or.inl ⟨by rfl, ?_⟩) ?_ ?_
                                                rotate_left
                                                · intro w'
                                                  go_simp
                                                  with_reducible rfl
                                                rotate_left
                                                · simp only [Act.put, List.setIfInBounds_toArray, List.set_cons_zero, List.set_cons_succ, i64_w, i32_w]
                                                  rfl
                                                refine pure_ (i := 22) (N := some 144) (v := ?_) (a' := ?_) #[true, true, true, true, true, true, true, true, true, true, true, true, true, true, true, true, true, true, true, true, true, true, true, false, false, false, false, false, false, false, false, false, false] rfl rfl (any_of HT_.out (by kernel_rfl)) (fun _ _ _ h => h) (Or.inl ⟨by rfl, ?_⟩) ?_ ?_
                                                rotate_left
                                                · intro w'
                                                  go_simp
                                                  with_reducible rfl
                                                rotate_left
                                                · simp only [Act.put, List.setIfInBounds_toArray, List.set_cons_zero, List.set_cons_succ, i64_w, i32_w]
                                                  rfl
                                                refine pure_ (i := 23) (N := some 145) (v := ?_) (a' := ?_) #[true, true, true, true, true, true, true, true, true, true, true, true, true, true, true, true, true, true, true, true, true, true, true, true, false, false, false, false, false, false, false, false, false] rfl rfl (any_of HT_.out (by kernel_rfl)) (fun _ _ _ h => h) (Or.inl ⟨by rfl, ?_⟩) ?_ ?_
                                                rotate_left
                                                · intro w'
                                                  go_simp
                                                  with_reducible rfl
                                                rotate_left
                                                · simp only [Act.put, List.setIfInBounds_toArray, List.set_cons_zero, List.set_cons_succ, i64_w, i32_w]
                                                  rfl
                                                refine take_ (i := 24) (N := some 146) (v := ?_) (a' := ?_) #[true, true, true, true, true, true, true, true, true, true, true, true, true, true, true, true, true, true, true, true, true, true, true, true, true, false, false, false, false, false, false, false, false] rfl rfl (take_ofW HT_.out HW_.out (by kernel_rfl)) (fun _ _ _ h => h) (Or.inl ⟨by rfl, ?_⟩) hHeld ?_ ?_
                                                rotate_left
                                                · rintro w' ⟨s0, s1, s2, s3, s4, s5, s6, s7, s8, s9, s10, s11, s12⟩
                                                  go_simp
                                                  with_reducible rfl
                                                rotate_left
                                                · simp only [Act.put, List.setIfInBounds_toArray, List.set_cons_zero, List.set_cons_succ, i64_w, i32_w]
                                                  rfl
                                                refine take_ (i := 25) (N := some 147) (v := ?_) (a' := ?_) #[true, true, true, true, true, true, true, true, true, true, true, true, true, true, true, true, true, true, true, true, true, true, true, true, true, true, false, false, false, false, false, false, false] rfl rfl (take_ofW HT_.out HW_.out (by kernel_rfl)) (fun _ _ _ h => h) (Or.inl ⟨by rfl, ?_⟩) hHeld ?_ ?_
                                                rotate_left
                                                · rintro w' ⟨s0, s1, s2, s3, s4, s5, s6, s7, s8, s9, s10, s11, s12⟩
                                                  go_simp
                                                  with_reducible rfl
                                                rotate_left
                                                · simp only [Act.put, List.setIfInBounds_toArray, List.set_cons_zero, List.set_cons_succ, i64_w, i32_w]
                                                  rfl
                                                refine pure_ (i := 26) (N := some 148) (v := ?_) (a' := ?_) #[true, true, true, true, true, true, true, true, true, true, true, true, true, true, true, true, true, true, true, true, true, true, true, true, true, true, true, false, false, false, false, false, false] rfl rfl (any_of HT_.out (by kernel_rfl)) (fun _ _ _ h => h) (Or.inl ⟨by rfl, ?_⟩) ?_ ?_
                                                rotate_left
                                                · intro w'
                                                  go_simp
                                                  with_reducible rfl
                                                rotate_left
                                                · simp only [Act.put, List.setIfInBounds_toArray, List.set_cons_zero, List.set_cons_succ, i64_w, i32_w]
                                                  rfl
                                                refine pure_ (i := 27) (N := some 149) (v := ?_) (a' := ?_) #[true, true, true, true, true, true, true, true, true, true, true, true, true, true, true, true, true, true, true, true, true, true, true, true, true, true, true, true, false, false, false, false, false] rfl rfl (any_of HT_.out (by kernel_rfl)) (fun _ _ _ h => h) (Or.inl ⟨by rfl, ?_⟩) ?_ ?_
                                                rotate_left
                                                · intro w'
                                                  go_simp
                                                  with_reducible rfl
                                                rotate_left
                                                · simp only [Act.put, List.setIfInBounds_toArray, List.set_cons_zero, List.set_cons_succ, i64_w, i32_w]
                                                  rfl
                                                refine pure_ (i := 28) (N := some 150) (v := ?_) (a' := ?_) #[true, true, true, true, true, true, true, true, true, true, true, true, true, true, true, true, true, true, true, true, true, true, true, true, true, true, true, true, true, false, false, false, false] rfl rfl (any_of HT_.out (by kernel_rfl)) (fun _ _ _ h => h) (Or.inl ⟨by rfl, ?_⟩) ?_ ?_
                                                rotate_left
                                                · intro w'
                                                  go_simp
                                                  with_reducible rfl
                                                rotate_left
                                                · simp only [Act.put, List.setIfInBounds_toArray, List.set_cons_zero, List.set_cons_succ, i64_w, i32_w]
                                                  rfl
                                                refine take_ (i := 29) (N := some 151) (v := ?_) (a' := ?_) #[true, true, true, true, true, true, true, true, true, true, true, true, true, true, true, true, true, true, true, true, true, true, true, true, true, true, true, true, true, true, false, false, false] rfl rfl (take_ofW HT_.out HW_.out (by kernel_rfl)) (fun _ _ _ h => h) (Or.inl ⟨by rfl, ?_⟩) hHeld ?_ ?_
                                                rotate_left
                                                · rintro w' ⟨s0, s1, s2, s3, s4, s5, s6, s7, s8, s9, s10, s11, s12⟩
                                                  go_simp
                                                  with_reducible rfl
                                                rotate_left
                                                · simp only [Act.put, List.setIfInBounds_toArray, List.set_cons_zero, List.set_cons_succ, i64_w, i32_w]
                                                  rfl
                                                refine one_ (i := 30) (N := some 152) #[true, true, true, true, true, true, true, true, true, true, true, true, true, true, true, true, true, true, true, true, true, true, true, true, true, true, true, true, true, true, true, false, false] rfl rfl (one_of HT_.out (by kernel_rfl)) (by decide) (fun K hK => ?_)
                                                refine goes_ Tryd.func23 (by kernel_rfl) rfl #[.agg #[.string t531, .string t532, .int .i64 t533]] (by rfl) rfl rfl (by (try simp only [List.map_toArray, List.map_cons, List.map_nil]); first | done | rfl | (simp only [List.length_drop, List.length_take]; rfl)) ?_
                                                with_reducible refine (impl_IsValidLog.calls k3 t531 t532 t533 t567 _ A113.out ?sideG).mono ?_
                                                case sideG => exact (gw_below HG.out (by repeat (first | (with_reducible first | exact HB.out | apply below_alloc | apply pw_below_drewN | apply below_drew1 | refine below_set ?_ GE529.out | refine below_set ?_ GE530.out | refine below_set ?_ GE535.out | refine below_set ?_ GE540.out | refine below_set ?_ GE558.out | refine below_set ?_ GE563.out) | exact HB.out)))
                                                rintro e w117 ⟨rfl, hb⟩
                                                have HS11_ := (hb.cell (World.block_lt_of_cell? _ _ (hHeld.2.2.2.2.2.2.2.2.2.2.2.1))).trans (hHeld.2.2.2.2.2.2.2.2.2.2.2.1)
                                                have HS12_ := (hb.cell (World.block_lt_of_cell? _ _ (hHeld.2.2.2.2.2.2.2.2.2.2.2.2))).trans (hHeld.2.2.2.2.2.2.2.2.2.2.2.2)
                                                refine ⟨_, rfl, ?_⟩
                                                have n0_ := Aside0.mk (Kd.R_below (by (with_reducible repeat (first | apply Kd.R_alloc | apply Kd.R_drewN | apply Kd.R_drew)); exact HO_9.out) hb)
                                                have n1_ := Aside0.mk (Kd.R_below (by (with_reducible repeat (first | apply Kd.R_alloc | apply Kd.R_drewN | apply Kd.R_drew)); exact HO_11.out) hb)
                                                have n2_ := Aside0.mk (blk_below (g := gb529) (o := .cells #[.string t524, .string t525, .int .i64 t526] 31 (0, 0)) BK529.out hb)
                                                have n3_ := Aside0.mk (blk_below (g := gb530) (o := .cells #[.string t527, .string t528] 27 (0, 0)) BK530.out hb)
                                                have n4_ := Aside0.mk (blk_below (g := gb535) (o := .cells #[.string t531, .string t532, .int .i64 t533] 31 (0, 0)) BK535.out hb)
                                                have n5_ := Aside0.mk (blk_below (g := gb540) (o := .cells #[.string t536, .string t537, .int .i64 t538] 31 (0, 0)) BK540.out hb)
                                                have n6_ := Aside0.mk (blk_below (g := gb558) (o := .cells #[.string t553, .string t554, .int .i64 t555] 31 (0, 0)) BK558.out hb)
                                                have n7_ := Aside0.mk (blk_below (g := gb563) (o := .cells #[.string t559, .string t560, .int .i64 t561] 31 (0, 0)) BK563.out hb)
                                                have n8_ := Aside0.mk (below_step (by repeat (first | (with_reducible first | exact HB.out | apply below_alloc | apply pw_below_drewN | apply below_drew1 | refine below_set ?_ GE529.out | refine below_set ?_ GE530.out | refine below_set ?_ GE535.out | refine below_set ?_ GE540.out | refine below_set ?_ GE558.out | refine below_set ?_ GE563.out) | exact HB.out)) hb)
                                                clear HO_9
                                                clear HO_11
                                                clear BK529
                                                clear BK530
                                                clear BK535
                                                clear BK540
                                                clear BK558
                                                clear BK563
                                                clear HB
                                                have HO_9 := n0_
                                                have HO_11 := n1_
                                                have BK529 := n2_
                                                have BK530 := n3_
                                                have BK535 := n4_
                                                have BK540 := n5_
                                                have BK558 := n6_
                                                have BK563 := n7_
                                                have HB := n8_
                                                clear n0_ n1_ n2_ n3_ n4_ n5_ n6_ n7_ n8_
                                                (try clear hb)
                                                (try clear hb2)
                                                (try clear hk)
                                                (try clear hi)
                                                refine hK.out _ _ ⟨(blk_cell BK530.out 0).trans rfl, (blk_cell BK530.out 1).trans rfl, (blk_cell BK535.out 0).trans rfl, (blk_cell BK535.out 1).trans rfl, (blk_cell BK535.out 2).trans rfl, (blk_cell BK563.out 0).trans rfl, (blk_cell BK563.out 1).trans rfl, (blk_cell BK563.out 2).trans rfl, (blk_cell BK558.out 0).trans rfl, (blk_cell BK558.out 1).trans rfl, (blk_cell BK558.out 2).trans rfl, HS11_, HS12_⟩ (fun hHeld => ?_)
                                                clear hK K
                                                refine norm_ (a' := ?_) ?_ ?_
                                                rotate_left
                                                · show Act.put _ (some 152) _ = _
                                                  simp only [Act.put, List.setIfInBounds_toArray, List.set_cons_zero, List.set_cons_succ, i64_w, i32_w]
                                                  rfl
                                                refine pure_ (i := 31) (N := some 153) (v := ?_) (a' := ?_) #[true, true, true, true, true, true, true, true, true, true, true, true, true, true, true, true, true, true, true, true, true, true, true, true, true, true, true, true, true, true, true, true, false] rfl rfl (any_of HT_.out (by kernel_rfl)) (fun _ _ _ h => h) (Or.inl ⟨by rfl, ?_⟩) ?_ ?_
                                                rotate_left
                                                · intro w'
                                                  go_simp
                                                  with_reducible rfl
                                                rotate_left
                                                · simp only [Act.put, List.setIfInBounds_toArray, List.set_cons_zero, List.set_cons_succ, i64_w, i32_w]
                                                  rfl
                                                refine pure_ (i := 32) (N := some 2) (v := ?_) (a' := ?_) #[true, true, true, true, true, true, true, true, true, true, true, true, true, true, true, true, true, true, true, true, true, true, true, true, true, true, true, true, true, true, true, true, true] rfl rfl (any_of HT_.out (by kernel_rfl)) (fun _ _ _ h => h) (Or.inl ⟨by rfl, ?_⟩) ?_ ?_
                                                rotate_left
                                                · intro w'
                                                  go_simp
                                                  with_reducible rfl
                                                rotate_left
                                                · simp only [Act.put, List.setIfInBounds_toArray, List.set_cons_zero, List.set_cons_succ, i64_w, i32_w]
                                                  rfl
                                                refine done_ (done_of HT_.out (by kernel_rfl)) ?_
                                                try go_wp2
                                                go_ret
                                                exact ⟨by first | rfl | (simp [errW_none, errW_some] <;> rfl) | (simp [*, errW_none, errW_some] <;> rfl), by repeat (first | (with_reducible first | exact HB.out | apply below_alloc | apply pw_below_drewN | apply below_drew1 | refine below_set ?_ GE529.out | refine below_set ?_ GE530.out | refine below_set ?_ GE535.out | refine below_set ?_ GE540.out | refine below_set ?_ GE558.out | refine below_set ?_ GE563.out) | exact HB.out)⟩
                                              · rw [if_neg c112] at H
                                                have c112b0 : (t559.toList == t553.toList && (t560.toList == t554.toList && (t561 == t555))) = false := by simpa using c112
                                                (try (have c112b1 : decide (t559.toList = t553.toList && (t560.toList == t554.toList && (t561 == t555))) = false := by simpa using c112))
                                                (try (have c112b2 : (t559.toList == t553.toList && (t560.toList == t554.toList && (t561 == t555))) = false := by simpa using c112))
                                                (try (have c112b3 : ¬ (t559.toList = t553.toList && (t560.toList == t554.toList && (t561 == t555))) := by simpa using c112))
                                                clear c112
                                                exact absurd ((Option.some.inj H).trans hrt_) (by decide)
                                            · replace c111 := Bool.eq_false_iff.mpr c111
                                              subst c111
                                              have H1 : (some false) = some r := by rw [if_neg (show ¬ (false = true) by decide)] at H; exact H
                                              exact absurd ((Option.some.inj H1).trans hrt_) (by decide)
                                          · rw [if_neg c110] at H
                                            have c110b0 : (t556 == ((t531 ++ t532).size : Int)) = false := beq_eq_false_iff_ne.mpr c110
                                            try (have c110b0y := c110b0; simp only [ByteArray.size_append, Int.natCast_add] at c110b0y)
                                            try have c110b0z : (t556 == ((t531.size + t532.size) : Int)) = false := by have h_ := c110b0; (try simp only [ByteArray.size_append] at h_); exact h_
                                            have c110b1 : (t556 != ((t531 ++ t532).size : Int)) = true := bne_iff_ne.mpr c110
                                            try (have c110b1y := c110b1; simp only [ByteArray.size_append, Int.natCast_add] at c110b1y)
                                            try have c110b1z : (t556 != ((t531.size + t532.size) : Int)) = true := by have h_ := c110b1; (try simp only [ByteArray.size_append] at h_); exact h_
                                            exact absurd ((Option.some.inj H).trans hrt_) (by decide)
                                        · rw [if_neg c109] at H
                                          exact absurd H (by simp)
                                      · replace c108 := Bool.eq_false_iff.mpr c108
                                        subst c108
                                        have H1 : (some false) = some r := by rw [if_neg (show ¬ (false = true) by decide)] at H; exact H
                                        exact absurd ((Option.some.inj H1).trans hrt_) (by decide)
                                    · rw [if_neg c107] at H
                                      have c107b0 : ((((rd_T27 t545 (t549.length : Int)).f0).toList) == t527.toList && ((((rd_T27 t545 (t549.length : Int)).f1).toList) == t528.toList)) = false := by simpa using c107
                                      (try (have c107b1 : decide ((((rd_T27 t545 (t549.length : Int)).f0).toList) = t527.toList && ((((rd_T27 t545 (t549.length : Int)).f1).toList) == t528.toList)) = false := by simpa using c107))
                                      (try (have c107b2 : ((((rd_T27 t545 (t549.length : Int)).f0).toList) == t527.toList && ((((rd_T27 t545 (t549.length : Int)).f1).toList) == t528.toList)) = false := by simpa using c107))
                                      (try (have c107b3 : ¬ ((((rd_T27 t545 (t549.length : Int)).f0).toList) = t527.toList && ((((rd_T27 t545 (t549.length : Int)).f1).toList) == t528.toList)) := by simpa using c107))
                                      clear c107
                                      exact absurd ((Option.some.inj H).trans hrt_) (by decide)
                                  · rw [if_neg c106] at H
                                    exact absurd H (by simp)
                                · rw [if_neg c105] at H
                                  exact absurd H (by simp)
              · rw [if_neg c52] at H
                exact absurd H (by simp)
            · rw [if_neg c49] at H
              have c49b0 : (t534 == 0) = false := beq_eq_false_iff_ne.mpr c49
              have c49b1 : (t534 != 0) = true := bne_iff_ne.mpr c49
              obtain rfl := Option.some.inj H
              have hnb133 := NB535_529.out
              have hnc133 := NB529_535.out
              have hnb134 := NB535_530.out
              have hnc134 := NB530_535.out
              have hnb135 := NB535_540.out
              have hnc135 := NB540_535.out
              have hcz136_0 : wc.cell? ⟨gb535, 0, none⟩ = some (.string t531) := (blk_cell BK535.out 0).trans rfl
              have hcz136_1 : wc.cell? ⟨gb535, 1, none⟩ = some (.string t532) := (blk_cell BK535.out 1).trans rfl
              have hcz136_2 : wc.cell? ⟨gb535, 2, none⟩ = some (.int .i64 t533) := (blk_cell BK535.out 2).trans rfl
              have hfz136_0 := blk_frozen BK535.out 0
              have hfz136_1 := blk_frozen BK535.out 1
              have hfz136_2 := blk_frozen BK535.out 2
              have hnb137 := NB529_530.out
              have hnc137 := NB530_529.out
              have hnb138 := NB529_540.out
              have hnc138 := NB540_529.out
              have hcz139_0 : wc.cell? ⟨gb529, 0, none⟩ = some (.string t524) := (blk_cell BK529.out 0).trans rfl
              have hcz139_1 : wc.cell? ⟨gb529, 1, none⟩ = some (.string t525) := (blk_cell BK529.out 1).trans rfl
              have hcz139_2 : wc.cell? ⟨gb529, 2, none⟩ = some (.int .i64 t526) := (blk_cell BK529.out 2).trans rfl
              have hfz139_0 := blk_frozen BK529.out 0
              have hfz139_1 := blk_frozen BK529.out 1
              have hfz139_2 := blk_frozen BK529.out 2
              go_wp2
              go_ret
              exact ⟨by first | rfl | (simp [errW_none, errW_some] <;> rfl) | (simp [*, errW_none, errW_some] <;> rfl), by repeat (first | (with_reducible first | exact HB.out | apply below_alloc | apply pw_below_drewN | apply below_drew1 | refine below_set ?_ GE529.out | refine below_set ?_ GE530.out | refine below_set ?_ GE535.out | refine below_set ?_ GE540.out) | exact HB.out)⟩

end Go.Proofs.YtdpopkpoogmboaaDoor.P
