-- Made by pp.py of this session out of the kit's print and of contracts proved by hand; Lean checks it.
import Derived.Test.YtdpopkpoogmboaaDoorPx0
import Derived.Test.YtdpopkpoogmboaaDoorPx2
import Derived.Test.YtdpopkpoogmboaaDoorPx8
import Derived.Test.YtdpopkpoogmboaaDoorPx13
import Derived.Test.YtdpopkpoogmboaaDoorPx15
import Derived.Test.YtdpopkpoogmboaaDoorPx19
import Derived.Test.YtdpopkpoogmboaaDoorPx21
import Derived.Test.YtdpopkpoogmboaaDoorPx24
import Derived.Test.YtdpopkpoogmboaaDoorPx25
import Derived.Test.YtdpopkpoogmboaaDoorPx43
namespace Go.Proofs.YtdpopkpoogmboaaDoor.P
open Go.RowKit Go.Proofs.YtdpopkpoogmboaaDoorW.PrintWords Go.Proofs.YtdpopkpoogmboaaDoorW.PrintLast Go.Proofs.YtdpopkpoogmboaaDoorW.PrintMore
attribute [local go_sem] max2_int min2_int max_two min_two max_three min_three max_four min_four   -- for this text's walks alone
set_option linter.unusedVariables false
set_option linter.unusedSimpArgs false

attribute [local go_sem high] eqA31
/-! ### laws_FnLogLines: function 11 -/
mutual
def laws_FnLogLines.j0 : Nat → Int → ByteArray → Bool → Bool → Bool → ByteArray → ByteArray → Int → Option (Bool)
  | 0, _, _, _, _, _, _, _, _ => none
  | k + 1, x3, x5, x6, x12, x76, x639000, x639001, x639002 => if x76 = true then (some false) else ((impl_RecoverLog.f k x5).bind fun bt645 => (if x6 = true then (if ((decide (bt645.2.2.2.1 > 0)) != (x3 == 0)) = true then (laws_FnLogLines.j1 k x5 x6 x12 true x639000 x639001 x639002) else (if x3 = 0 then (laws_FnLogLines.j1 k x5 x6 x12 (bt645.2.2.1 != 1) x639000 x639001 x639002) else (laws_FnLogLines.j1 k x5 x6 x12 false x639000 x639001 x639002))) else (laws_FnLogLines.j1 k x5 x6 x12 false x639000 x639001 x639002)))
def laws_FnLogLines.j1 : Nat → ByteArray → Bool → Bool → Bool → ByteArray → ByteArray → Int → Option (Bool)
  | 0, _, _, _, _, _, _, _ => none
  | k + 1, x5, x6, x12, x102, x639000, x639001, x639002 => if x102 = true then (some false) else ((impl_SyncLog.f k x639000 x639001 x639002).bind fun bt651 => (if x12 = true then (if bt651.2.2.2 = true then (if (bt651.1.toList == x639000.toList && (bt651.2.1.toList == x639001.toList && (bt651.2.2.1 == x639002))) = true then ((impl_IsValidLog.f k x639000 x639001 x639002).bind fun t656 => (if t656 = true then (if x6 = true then (some true) else (some (x5.toList == ([] : List UInt8)))) else (some false))) else (some false)) else (some false)) else (some true)))
end
def laws_FnLogLines.f (k : Nat) (l0 : List Int) : Option (Bool) := (laws_vBig.f l0).bind fun t623 => (if t623 = true then (some true) else ((spec_DrawEncodeRecord.f l0).bind fun bt624 => ((impl_EncodeRecord.f k bt624.1 bt624.2.1 bt624.2.2).bind fun bt628 => ((spec_EncodeRecord.f k bt624.1 bt624.2.1 bt624.2.2).bind fun bt630 => ((spec_DrawRecoverLog.f k l0).bind fun t632 => ((impl_RecoverLog.f k t632).bind fun bt633 => ((spec_RecoverLog.f k t632).bind fun bt639 => (if bt628.1.toList = bt630.1.toList then (if (bt628.2 != bt630.2) = true then (laws_FnLogLines.j0 k bt624.1 bt628.1 bt628.2 bt633.2.2.2.2 true bt633.1 bt633.2.1 bt633.2.2.1) else (if (!(bt633.1.toList == bt639.1.toList) || (!(bt633.2.1.toList == bt639.2.1.toList) || (!(bt633.2.2.1 == bt639.2.2.1)))) = true then (laws_FnLogLines.j0 k bt624.1 bt628.1 bt628.2 bt633.2.2.2.2 true bt633.1 bt633.2.1 bt633.2.2.1) else (if bt633.2.2.2.1 = bt639.2.2.2.1 then (laws_FnLogLines.j0 k bt624.1 bt628.1 bt628.2 bt633.2.2.2.2 (bt633.2.2.2.2 != bt639.2.2.2.2) bt633.1 bt633.2.1 bt633.2.2.1) else (laws_FnLogLines.j0 k bt624.1 bt628.1 bt628.2 bt633.2.2.2.2 true bt633.1 bt633.2.1 bt633.2.2.1)))) else (laws_FnLogLines.j0 k bt624.1 bt628.1 bt628.2 bt633.2.2.2.2 true bt633.1 bt633.2.1 bt633.2.2.1)))))))))
set_option maxHeartbeats 8000000 in
set_option maxRecDepth 100000 in
theorem laws_FnLogLines.calls (k : Nat) (A0 : Option Addr) (c0 : Nat) (l0 : List Int) (r : Bool) (w : World) (hr0 : Kd.C (Kd.int .u8) w A0 l0.length l0) (hc0 : l0.length ≤ c0) (h : laws_FnLogLines.f k l0 = some r) (hrt_ : r = true) (hG_ : GW w) :
    Calls Tryd.prog 11 #[.slice A0 l0.length c0] w fun e w' => e = .returned (.bool r) ∧ Below w.heap.size w w' := by
  have HG := Aside0.mk hG_
  clear hG_
  have hu27 := Tryd.underlying27
  have hu31 := Tryd.underlying31
  have HR0 := Aside0.mk hr0
  have HC0 := Aside0.mk hc0
  clear hr0 hc0
  have HB := Aside0.mk (Below.refl w.heap.size w)
  have H : ((laws_vBig.f l0).bind fun t623 => (if t623 = true then (some true) else ((spec_DrawEncodeRecord.f l0).bind fun bt624 => ((impl_EncodeRecord.f k bt624.1 bt624.2.1 bt624.2.2).bind fun bt628 => ((spec_EncodeRecord.f k bt624.1 bt624.2.1 bt624.2.2).bind fun bt630 => ((spec_DrawRecoverLog.f k l0).bind fun t632 => ((impl_RecoverLog.f k t632).bind fun bt633 => ((spec_RecoverLog.f k t632).bind fun bt639 => (if bt628.1.toList = bt630.1.toList then (if (bt628.2 != bt630.2) = true then (laws_FnLogLines.j0 k bt624.1 bt628.1 bt628.2 bt633.2.2.2.2 true bt633.1 bt633.2.1 bt633.2.2.1) else (if (!(bt633.1.toList == bt639.1.toList) || (!(bt633.2.1.toList == bt639.2.1.toList) || (!(bt633.2.2.1 == bt639.2.2.1)))) = true then (laws_FnLogLines.j0 k bt624.1 bt628.1 bt628.2 bt633.2.2.2.2 true bt633.1 bt633.2.1 bt633.2.2.1) else (if bt633.2.2.2.1 = bt639.2.2.2.1 then (laws_FnLogLines.j0 k bt624.1 bt628.1 bt628.2 bt633.2.2.2.2 (bt633.2.2.2.2 != bt639.2.2.2.2) bt633.1 bt633.2.1 bt633.2.2.1) else (laws_FnLogLines.j0 k bt624.1 bt628.1 bt628.2 bt633.2.2.2.2 true bt633.1 bt633.2.1 bt633.2.2.1)))) else (laws_FnLogLines.j0 k bt624.1 bt628.1 bt628.2 bt633.2.2.2.2 true bt633.1 bt633.2.1 bt633.2.2.1)))))))))) = some r := h
  clear h
  replace H := Option.bind_eq_some_iff.mp H
  obtain ⟨t623, A20, H⟩ := H
  replace H : (if t623 = true then (some true) else ((spec_DrawEncodeRecord.f l0).bind fun bt624 => ((impl_EncodeRecord.f k bt624.1 bt624.2.1 bt624.2.2).bind fun bt628 => ((spec_EncodeRecord.f k bt624.1 bt624.2.1 bt624.2.2).bind fun bt630 => ((spec_DrawRecoverLog.f k l0).bind fun t632 => ((impl_RecoverLog.f k t632).bind fun bt633 => ((spec_RecoverLog.f k t632).bind fun bt639 => (if bt628.1.toList = bt630.1.toList then (if (bt628.2 != bt630.2) = true then (laws_FnLogLines.j0 k bt624.1 bt628.1 bt628.2 bt633.2.2.2.2 true bt633.1 bt633.2.1 bt633.2.2.1) else (if (!(bt633.1.toList == bt639.1.toList) || (!(bt633.2.1.toList == bt639.2.1.toList) || (!(bt633.2.2.1 == bt639.2.2.1)))) = true then (laws_FnLogLines.j0 k bt624.1 bt628.1 bt628.2 bt633.2.2.2.2 true bt633.1 bt633.2.1 bt633.2.2.1) else (if bt633.2.2.2.1 = bt639.2.2.2.1 then (laws_FnLogLines.j0 k bt624.1 bt628.1 bt628.2 bt633.2.2.2.2 (bt633.2.2.2.2 != bt639.2.2.2.2) bt633.1 bt633.2.1 bt633.2.2.1) else (laws_FnLogLines.j0 k bt624.1 bt628.1 bt628.2 bt633.2.2.2.2 true bt633.1 bt633.2.1 bt633.2.2.1)))) else (laws_FnLogLines.j0 k bt624.1 bt628.1 bt628.2 bt633.2.2.2.2 true bt633.1 bt633.2.1 bt633.2.2.1))))))))) = some r := H
  have A2 := Aside0.mk A20
  clear A20
  by_cases c3 : t623 = true
  · subst c3
    have H1 : (some true) = some r := by rw [if_pos rfl] at H; exact H
    clear H
    have H := H1
    clear H1
    obtain rfl := Option.some.inj H
    go_enter Tryd.func11, Tryd.ntmps11
    go_wp2_with (first | ((with_reducible refine gate_callee (f := 35) rfl ?_); refine goesL_ (some 22) rfl rfl Tryd.func35 (by kernel_rfl) rfl #[.slice A0 l0.length c0] rfl (by (try simp only [List.map_toArray, List.map_cons, List.map_nil]); first | done | rfl | (simp only [List.length_drop, List.length_take]; rfl)) ?_; (with_reducible refine (laws_vBig.calls _ _ l0 true _ ?side1 ?side2 A2.out).mono ?_); (case side1 => repeat (first | exact HR0.out | (with_reducible refine Kd.C_alloc ?_ _) | (with_reducible refine Kd.C_drewN ?_ _) | (with_reducible refine Kd.C_drew ?_))); (case side2 => exact HC0.out); rintro e w' ⟨rfl, ⟨nd, rfl⟩⟩; refine ⟨_, rfl, ?_⟩))
    go_ret
    exact ⟨by first | rfl | (simp [errW_none, errW_some] <;> rfl) | (simp [*, errW_none, errW_some] <;> rfl), by repeat (first | (with_reducible first | exact HB.out | apply below_alloc | apply pw_below_drewN | apply below_drew1) | exact HB.out)⟩
  · replace c3 := Bool.eq_false_iff.mpr c3
    subst c3
    have H1 : ((spec_DrawEncodeRecord.f l0).bind fun bt624 => ((impl_EncodeRecord.f k bt624.1 bt624.2.1 bt624.2.2).bind fun bt628 => ((spec_EncodeRecord.f k bt624.1 bt624.2.1 bt624.2.2).bind fun bt630 => ((spec_DrawRecoverLog.f k l0).bind fun t632 => ((impl_RecoverLog.f k t632).bind fun bt633 => ((spec_RecoverLog.f k t632).bind fun bt639 => (if bt628.1.toList = bt630.1.toList then (if (bt628.2 != bt630.2) = true then (laws_FnLogLines.j0 k bt624.1 bt628.1 bt628.2 bt633.2.2.2.2 true bt633.1 bt633.2.1 bt633.2.2.1) else (if (!(bt633.1.toList == bt639.1.toList) || (!(bt633.2.1.toList == bt639.2.1.toList) || (!(bt633.2.2.1 == bt639.2.2.1)))) = true then (laws_FnLogLines.j0 k bt624.1 bt628.1 bt628.2 bt633.2.2.2.2 true bt633.1 bt633.2.1 bt633.2.2.1) else (if bt633.2.2.2.1 = bt639.2.2.2.1 then (laws_FnLogLines.j0 k bt624.1 bt628.1 bt628.2 bt633.2.2.2.2 (bt633.2.2.2.2 != bt639.2.2.2.2) bt633.1 bt633.2.1 bt633.2.2.1) else (laws_FnLogLines.j0 k bt624.1 bt628.1 bt628.2 bt633.2.2.2.2 true bt633.1 bt633.2.1 bt633.2.2.1)))) else (laws_FnLogLines.j0 k bt624.1 bt628.1 bt628.2 bt633.2.2.2.2 true bt633.1 bt633.2.1 bt633.2.2.1)))))))) = some r := by rw [if_neg (show ¬ (false = true) by decide)] at H; exact H
    clear H
    have H := H1
    clear H1
    replace H := Option.bind_eq_some_iff.mp H
    obtain ⟨⟨t624, t625, t626⟩, A40, H⟩ := H
    replace H : ((impl_EncodeRecord.f k t624 t625 t626).bind fun bt628 => ((spec_EncodeRecord.f k t624 t625 t626).bind fun bt630 => ((spec_DrawRecoverLog.f k l0).bind fun t632 => ((impl_RecoverLog.f k t632).bind fun bt633 => ((spec_RecoverLog.f k t632).bind fun bt639 => (if bt628.1.toList = bt630.1.toList then (if (bt628.2 != bt630.2) = true then (laws_FnLogLines.j0 k t624 bt628.1 bt628.2 bt633.2.2.2.2 true bt633.1 bt633.2.1 bt633.2.2.1) else (if (!(bt633.1.toList == bt639.1.toList) || (!(bt633.2.1.toList == bt639.2.1.toList) || (!(bt633.2.2.1 == bt639.2.2.1)))) = true then (laws_FnLogLines.j0 k t624 bt628.1 bt628.2 bt633.2.2.2.2 true bt633.1 bt633.2.1 bt633.2.2.1) else (if bt633.2.2.2.1 = bt639.2.2.2.1 then (laws_FnLogLines.j0 k t624 bt628.1 bt628.2 bt633.2.2.2.2 (bt633.2.2.2.2 != bt639.2.2.2.2) bt633.1 bt633.2.1 bt633.2.2.1) else (laws_FnLogLines.j0 k t624 bt628.1 bt628.2 bt633.2.2.2.2 true bt633.1 bt633.2.1 bt633.2.2.1)))) else (laws_FnLogLines.j0 k t624 bt628.1 bt628.2 bt633.2.2.2.2 true bt633.1 bt633.2.1 bt633.2.2.1))))))) = some r := H
    have A4 := Aside0.mk A40
    clear A40
    replace H := Option.bind_eq_some_iff.mp H
    obtain ⟨⟨t628, t629⟩, A50, H⟩ := H
    replace H : ((spec_EncodeRecord.f k t624 t625 t626).bind fun bt630 => ((spec_DrawRecoverLog.f k l0).bind fun t632 => ((impl_RecoverLog.f k t632).bind fun bt633 => ((spec_RecoverLog.f k t632).bind fun bt639 => (if t628.toList = bt630.1.toList then (if (t629 != bt630.2) = true then (laws_FnLogLines.j0 k t624 t628 t629 bt633.2.2.2.2 true bt633.1 bt633.2.1 bt633.2.2.1) else (if (!(bt633.1.toList == bt639.1.toList) || (!(bt633.2.1.toList == bt639.2.1.toList) || (!(bt633.2.2.1 == bt639.2.2.1)))) = true then (laws_FnLogLines.j0 k t624 t628 t629 bt633.2.2.2.2 true bt633.1 bt633.2.1 bt633.2.2.1) else (if bt633.2.2.2.1 = bt639.2.2.2.1 then (laws_FnLogLines.j0 k t624 t628 t629 bt633.2.2.2.2 (bt633.2.2.2.2 != bt639.2.2.2.2) bt633.1 bt633.2.1 bt633.2.2.1) else (laws_FnLogLines.j0 k t624 t628 t629 bt633.2.2.2.2 true bt633.1 bt633.2.1 bt633.2.2.1)))) else (laws_FnLogLines.j0 k t624 t628 t629 bt633.2.2.2.2 true bt633.1 bt633.2.1 bt633.2.2.1)))))) = some r := H
    have A5 := Aside0.mk A50
    clear A50
    replace H := Option.bind_eq_some_iff.mp H
    obtain ⟨⟨t630, t631⟩, A60, H⟩ := H
    replace H : ((spec_DrawRecoverLog.f k l0).bind fun t632 => ((impl_RecoverLog.f k t632).bind fun bt633 => ((spec_RecoverLog.f k t632).bind fun bt639 => (if t628.toList = t630.toList then (if (t629 != t631) = true then (laws_FnLogLines.j0 k t624 t628 t629 bt633.2.2.2.2 true bt633.1 bt633.2.1 bt633.2.2.1) else (if (!(bt633.1.toList == bt639.1.toList) || (!(bt633.2.1.toList == bt639.2.1.toList) || (!(bt633.2.2.1 == bt639.2.2.1)))) = true then (laws_FnLogLines.j0 k t624 t628 t629 bt633.2.2.2.2 true bt633.1 bt633.2.1 bt633.2.2.1) else (if bt633.2.2.2.1 = bt639.2.2.2.1 then (laws_FnLogLines.j0 k t624 t628 t629 bt633.2.2.2.2 (bt633.2.2.2.2 != bt639.2.2.2.2) bt633.1 bt633.2.1 bt633.2.2.1) else (laws_FnLogLines.j0 k t624 t628 t629 bt633.2.2.2.2 true bt633.1 bt633.2.1 bt633.2.2.1)))) else (laws_FnLogLines.j0 k t624 t628 t629 bt633.2.2.2.2 true bt633.1 bt633.2.1 bt633.2.2.1))))) = some r := H
    have A6 := Aside0.mk A60
    clear A60
    replace H := Option.bind_eq_some_iff.mp H
    obtain ⟨t632, A70, H⟩ := H
    replace H : ((impl_RecoverLog.f k t632).bind fun bt633 => ((spec_RecoverLog.f k t632).bind fun bt639 => (if t628.toList = t630.toList then (if (t629 != t631) = true then (laws_FnLogLines.j0 k t624 t628 t629 bt633.2.2.2.2 true bt633.1 bt633.2.1 bt633.2.2.1) else (if (!(bt633.1.toList == bt639.1.toList) || (!(bt633.2.1.toList == bt639.2.1.toList) || (!(bt633.2.2.1 == bt639.2.2.1)))) = true then (laws_FnLogLines.j0 k t624 t628 t629 bt633.2.2.2.2 true bt633.1 bt633.2.1 bt633.2.2.1) else (if bt633.2.2.2.1 = bt639.2.2.2.1 then (laws_FnLogLines.j0 k t624 t628 t629 bt633.2.2.2.2 (bt633.2.2.2.2 != bt639.2.2.2.2) bt633.1 bt633.2.1 bt633.2.2.1) else (laws_FnLogLines.j0 k t624 t628 t629 bt633.2.2.2.2 true bt633.1 bt633.2.1 bt633.2.2.1)))) else (laws_FnLogLines.j0 k t624 t628 t629 bt633.2.2.2.2 true bt633.1 bt633.2.1 bt633.2.2.1)))) = some r := H
    have A7 := Aside0.mk A70
    clear A70
    replace H := Option.bind_eq_some_iff.mp H
    obtain ⟨⟨t633, t634, t635, t636, t637⟩, A80, H⟩ := H
    replace H : ((spec_RecoverLog.f k t632).bind fun bt639 => (if t628.toList = t630.toList then (if (t629 != t631) = true then (laws_FnLogLines.j0 k t624 t628 t629 t637 true t633 t634 t635) else (if (!(t633.toList == bt639.1.toList) || (!(t634.toList == bt639.2.1.toList) || (!(t635 == bt639.2.2.1)))) = true then (laws_FnLogLines.j0 k t624 t628 t629 t637 true t633 t634 t635) else (if t636 = bt639.2.2.2.1 then (laws_FnLogLines.j0 k t624 t628 t629 t637 (t637 != bt639.2.2.2.2) t633 t634 t635) else (laws_FnLogLines.j0 k t624 t628 t629 t637 true t633 t634 t635)))) else (laws_FnLogLines.j0 k t624 t628 t629 t637 true t633 t634 t635))) = some r := H
    have A8 := Aside0.mk A80
    clear A80
    replace H := Option.bind_eq_some_iff.mp H
    obtain ⟨⟨t639, t640, t641, t642, t643⟩, A90, H⟩ := H
    replace H : (if t628.toList = t630.toList then (if (t629 != t631) = true then (laws_FnLogLines.j0 k t624 t628 t629 t637 true t633 t634 t635) else (if (!(t633.toList == t639.toList) || (!(t634.toList == t640.toList) || (!(t635 == t641)))) = true then (laws_FnLogLines.j0 k t624 t628 t629 t637 true t633 t634 t635) else (if t636 = t642 then (laws_FnLogLines.j0 k t624 t628 t629 t637 (t637 != t643) t633 t634 t635) else (laws_FnLogLines.j0 k t624 t628 t629 t637 true t633 t634 t635)))) else (laws_FnLogLines.j0 k t624 t628 t629 t637 true t633 t634 t635)) = some r := H
    have A9 := Aside0.mk A90
    clear A90
    have HC10 := Aside0.mk H
    clear H
    go_enter Tryd.func11, Tryd.ntmps11
    go_upto_region 9 with (first | ((with_reducible refine gate_callee (f := 35) rfl ?_); refine goesL_ (some 22) rfl rfl Tryd.func35 (by kernel_rfl) rfl #[.slice A0 l0.length c0] rfl (by (try simp only [List.map_toArray, List.map_cons, List.map_nil]); first | done | rfl | (simp only [List.length_drop, List.length_take]; rfl)) ?_; (with_reducible refine (laws_vBig.calls _ _ l0 false _ ?side1 ?side2 A2.out).mono ?_); (case side1 => repeat (first | exact HR0.out | (with_reducible refine Kd.C_alloc ?_ _) | (with_reducible refine Kd.C_drewN ?_ _) | (with_reducible refine Kd.C_drew ?_))); (case side2 => exact HC0.out); rintro e w' ⟨rfl, ⟨nd, rfl⟩⟩; refine ⟨_, rfl, ?_⟩) | ((with_reducible refine gate_callee (f := 39) rfl ?_); refine goesL_ (some 25) rfl rfl Tryd.func39 (by kernel_rfl) rfl #[.slice A0 l0.length c0] rfl (by (try simp only [List.map_toArray, List.map_cons, List.map_nil]); first | done | rfl | (simp only [List.length_drop, List.length_take]; rfl)) ?_; (with_reducible refine (spec_DrawEncodeRecord.calls _ _ l0 t624 t625 t626 _ ?side1 ?side2 A4.out).mono ?_); (case side1 => repeat (first | exact HR0.out | (with_reducible refine Kd.C_alloc ?_ _) | (with_reducible refine Kd.C_drewN ?_ _) | (with_reducible refine Kd.C_drew ?_))); (case side2 => exact HC0.out); rintro e w11 ⟨rfl, hb⟩; refine ⟨_, rfl, ?_⟩; have n0_ := Aside0.mk (below_step (by repeat (first | (with_reducible first | exact HB.out | apply below_alloc | apply pw_below_drewN | apply below_drew1) | exact HB.out)) hb); clear HB; have HB := n0_; clear n0_; (try clear hb); (try clear hb2); (try clear hk); (try clear hi)) | ((with_reducible refine gate_dst (N := 4) rfl ?_); refine box_event ?hg (N := 4) ?hd (cs := #[.string (⟨#[]⟩ : ByteArray), .string (⟨#[]⟩ : ByteArray)]) (t := 27) ?hr ?_; (case hd => rfl); (case hg => rfl); (case hr => first | (go_simp; done) | (go_simp; rfl)); intro gb627 hg w12 hbox hb; have n0_ := Aside0.mk (below_step (by repeat (first | (with_reducible first | exact HB.out | apply below_alloc | apply pw_below_drewN | apply below_drew1) | exact HB.out)) hb); have n1_ := Aside0.mk (hbox); have n2_ := Aside0.mk ((by rw [hg]; exact (below_size (by repeat (first | (with_reducible first | exact HB.out | apply below_alloc | apply pw_below_drewN | apply below_drew1) | exact HB.out))) : w.heap.size ≤ gb627)); have n3_ := Aside0.mk ((by rw [hg]; exact (below_size (by repeat (first | (with_reducible first | exact HB.out | apply below_alloc | apply pw_below_drewN | apply below_drew1) | exact HB.out))) : w.heap.size ≤ gb627)); clear HB; have HB := n0_; have BK627 := n1_; have GW627 := n2_; have GE627 := n3_; clear n0_ n1_ n2_ n3_; clear hb hbox hg; have hcz13_0 : w12.cell? ⟨gb627, 0, none⟩ = some (.string (⟨#[]⟩ : ByteArray)) := (blk_cell BK627.out 0).trans rfl; have hcz13_1 : w12.cell? ⟨gb627, 1, none⟩ = some (.string (⟨#[]⟩ : ByteArray)) := (blk_cell BK627.out 1).trans rfl; have hfz13_0 := blk_frozen BK627.out 0; have hfz13_1 := blk_frozen BK627.out 1) | ((with_reducible refine gate_callee (f := 16) rfl ?_); refine goesL_ (some 31) rfl rfl Tryd.func16 (by kernel_rfl) rfl #[.int .i64 t624, .agg #[.string t625, .string t626]] rfl (by (try simp only [List.map_toArray, List.map_cons, List.map_nil]); first | done | rfl | (simp only [List.length_drop, List.length_take]; rfl)) ?_; (with_reducible refine (impl_EncodeRecord.calls k t624 t625 t626 t628 t629 _ A5.out ?sideG).mono ?_); (case sideG => exact (gw_below HG.out (by repeat (first | (with_reducible first | exact HB.out | apply below_alloc | apply pw_below_drewN | apply below_drew1 | refine below_set ?_ GE627.out) | exact HB.out)))); rintro e w14 ⟨rfl, hb⟩; refine ⟨_, rfl, ?_⟩; have n0_ := Aside0.mk (blk_below (g := gb627) (o := .cells #[.string t625, .string t626] 27 (0, 0)) (by (with_reducible repeat (first | refine blk_drewN ?_ _ | refine blk_drew ?_ | refine blk_alloc ?_ _)); refine blk_put (cs := #[.string t625, .string (⟨#[]⟩ : ByteArray)]) ?_ 1 _ rfl; (with_reducible repeat (first | refine blk_drewN ?_ _ | refine blk_drew ?_ | refine blk_alloc ?_ _)); refine blk_put (cs := #[.string (⟨#[]⟩ : ByteArray), .string (⟨#[]⟩ : ByteArray)]) ?_ 0 _ rfl; (with_reducible repeat (first | refine blk_drewN ?_ _ | refine blk_drew ?_ | refine blk_alloc ?_ _)); exact BK627.out) hb); have n1_ := Aside0.mk (below_step (by repeat (first | (with_reducible first | exact HB.out | apply below_alloc | apply pw_below_drewN | apply below_drew1 | refine below_set ?_ GE627.out) | exact HB.out)) hb); clear BK627; clear HB; have BK627 := n0_; have HB := n1_; clear n0_ n1_; (try clear hb); (try clear hb2); (try clear hk); (try clear hi); have hcz15_0 : w14.cell? ⟨gb627, 0, none⟩ = some (.string t625) := (blk_cell BK627.out 0).trans rfl; have hcz15_1 : w14.cell? ⟨gb627, 1, none⟩ = some (.string t626) := (blk_cell BK627.out 1).trans rfl; have hfz15_0 := blk_frozen BK627.out 0; have hfz15_1 := blk_frozen BK627.out 1) | ((with_reducible refine gate_callee (f := 14) rfl ?_); refine goesL_ (some 37) rfl rfl Tryd.func14 (by kernel_rfl) rfl #[.int .i64 t624, .agg #[.string t625, .string t626]] rfl (by (try simp only [List.map_toArray, List.map_cons, List.map_nil]); first | done | rfl | (simp only [List.length_drop, List.length_take]; rfl)) ?_; (with_reducible refine (spec_EncodeRecord.calls k t624 t625 t626 t630 t631 _ A6.out).mono ?_); rintro e w16 ⟨rfl, hb⟩; refine ⟨_, rfl, ?_⟩; have n0_ := Aside0.mk (blk_below (g := gb627) (o := .cells #[.string t625, .string t626] 27 (0, 0)) BK627.out hb); have n1_ := Aside0.mk (below_step (by repeat (first | (with_reducible first | exact HB.out | apply below_alloc | apply pw_below_drewN | apply below_drew1 | refine below_set ?_ GE627.out) | exact HB.out)) hb); clear BK627; clear HB; have BK627 := n0_; have HB := n1_; clear n0_ n1_; (try clear hb); (try clear hb2); (try clear hk); (try clear hi)) | ((with_reducible refine gate_callee (f := 40) rfl ?_); refine goesL_ (some 41) rfl rfl Tryd.func40 (by kernel_rfl) rfl #[.slice A0 l0.length c0] rfl (by (try simp only [List.map_toArray, List.map_cons, List.map_nil]); first | done | rfl | (simp only [List.length_drop, List.length_take]; rfl)) ?_; (with_reducible refine (spec_DrawRecoverLog.calls k _ _ l0 t632 _ ?side1 ?side2 A7.out).mono ?_); (case side1 => repeat (first | exact (Kd.C_below HR0.out HB.out) | (with_reducible refine Kd.C_alloc ?_ _) | (with_reducible refine Kd.C_drewN ?_ _) | (with_reducible refine Kd.C_drew ?_))); (case side2 => exact HC0.out); rintro e w17 ⟨rfl, hb⟩; refine ⟨_, rfl, ?_⟩; have n0_ := Aside0.mk (blk_below (g := gb627) (o := .cells #[.string t625, .string t626] 27 (0, 0)) BK627.out hb); have n1_ := Aside0.mk (below_step (by repeat (first | (with_reducible first | exact HB.out | apply below_alloc | apply pw_below_drewN | apply below_drew1 | refine below_set ?_ GE627.out) | exact HB.out)) hb); clear BK627; clear HB; have BK627 := n0_; have HB := n1_; clear n0_ n1_; (try clear hb); (try clear hb2); (try clear hk); (try clear hi)) | ((with_reducible refine gate_callee (f := 18) rfl ?_); refine goesL_ (some 44) rfl rfl Tryd.func18 (by kernel_rfl) rfl #[.string t632] rfl (by (try simp only [List.map_toArray, List.map_cons, List.map_nil]); first | done | rfl | (simp only [List.length_drop, List.length_take]; rfl)) ?_; (with_reducible refine (impl_RecoverLog.calls k t632 t633 t634 t635 t636 t637 _ A8.out ?sideG).mono ?_); (case sideG => exact (gw_below HG.out (by repeat (first | (with_reducible first | exact HB.out | apply below_alloc | apply pw_below_drewN | apply below_drew1 | refine below_set ?_ GE627.out) | exact HB.out)))); rintro e w18 ⟨rfl, hb⟩; refine ⟨_, rfl, ?_⟩; have n0_ := Aside0.mk (blk_below (g := gb627) (o := .cells #[.string t625, .string t626] 27 (0, 0)) BK627.out hb); have n1_ := Aside0.mk (below_step (by repeat (first | (with_reducible first | exact HB.out | apply below_alloc | apply pw_below_drewN | apply below_drew1 | refine below_set ?_ GE627.out) | exact HB.out)) hb); clear BK627; clear HB; have BK627 := n0_; have HB := n1_; clear n0_ n1_; (try clear hb); (try clear hb2); (try clear hk); (try clear hi)) | ((with_reducible refine gate_dst (N := 10) rfl ?_); refine box_event ?hg (N := 10) ?hd (cs := #[.string (⟨#[]⟩ : ByteArray), .string (⟨#[]⟩ : ByteArray), .int .i64 0]) (t := 31) ?hr ?_; (case hd => rfl); (case hg => rfl); (case hr => first | (go_simp; done) | (go_simp; rfl)); intro gb638 hg w19 hbox hb; have n0_ := Aside0.mk (blk_below (g := gb627) (o := .cells #[.string t625, .string t626] 27 (0, 0)) BK627.out hb); have n1_ := Aside0.mk (below_step (by repeat (first | (with_reducible first | exact HB.out | apply below_alloc | apply pw_below_drewN | apply below_drew1 | refine below_set ?_ GE627.out) | exact HB.out)) hb); have n2_ := Aside0.mk (hbox); have n3_ := Aside0.mk ((by rw [hg]; exact (below_size (by repeat (first | (with_reducible first | exact HB.out | apply below_alloc | apply pw_below_drewN | apply below_drew1 | refine below_set ?_ GE627.out) | exact HB.out))) : w.heap.size ≤ gb638)); have n4_ := Aside0.mk ((by rw [hg]; exact (below_size (by repeat (first | (with_reducible first | exact HB.out | apply below_alloc | apply pw_below_drewN | apply below_drew1 | refine below_set ?_ GE627.out) | exact HB.out))) : w.heap.size ≤ gb638)); have n5_ := Aside0.mk ((by rw [hg]; exact Nat.ne_of_lt (blk_lt (g := gb627) (o := .cells #[.string t625, .string t626] 27 (0, 0)) BK627.out) : gb627 ≠ gb638)); have n6_ := Aside0.mk ((by rw [hg]; exact Nat.ne_of_gt (blk_lt (g := gb627) (o := .cells #[.string t625, .string t626] 27 (0, 0)) BK627.out) : gb638 ≠ gb627)); clear BK627; clear HB; have BK627 := n0_; have HB := n1_; have BK638 := n2_; have GW638 := n3_; have GE638 := n4_; have NB627_638 := n5_; have NB638_627 := n6_; clear n0_ n1_ n2_ n3_ n4_ n5_ n6_; clear hb hbox hg; have hnb20 := NB638_627.out; have hnc20 := NB627_638.out; have hcz21_0 : w19.cell? ⟨gb638, 0, none⟩ = some (.string (⟨#[]⟩ : ByteArray)) := (blk_cell BK638.out 0).trans rfl; have hcz21_1 : w19.cell? ⟨gb638, 1, none⟩ = some (.string (⟨#[]⟩ : ByteArray)) := (blk_cell BK638.out 1).trans rfl; have hcz21_2 : w19.cell? ⟨gb638, 2, none⟩ = some (.int .i64 0) := (blk_cell BK638.out 2).trans rfl; have hfz21_0 := blk_frozen BK638.out 0; have hfz21_1 := blk_frozen BK638.out 1; have hfz21_2 := blk_frozen BK638.out 2) | ((with_reducible refine gate_callee (f := 17) rfl ?_); refine goesL_ (some 50) rfl rfl Tryd.func17 (by kernel_rfl) rfl #[.string t632] rfl (by (try simp only [List.map_toArray, List.map_cons, List.map_nil]); first | done | rfl | (simp only [List.length_drop, List.length_take]; rfl)) ?_; (with_reducible refine (spec_RecoverLog.calls k t632 t639 t640 t641 t642 t643 _ A9.out).mono ?_); rintro e w22 ⟨rfl, hb⟩; refine ⟨_, rfl, ?_⟩; have n0_ := Aside0.mk (blk_below (g := gb627) (o := .cells #[.string t625, .string t626] 27 (0, 0)) (by (with_reducible repeat (first | refine blk_drewN ?_ _ | refine blk_drew ?_ | refine blk_alloc ?_ _)); refine blk_far ?_ NB627_638.out _; (with_reducible repeat (first | refine blk_drewN ?_ _ | refine blk_drew ?_ | refine blk_alloc ?_ _)); refine blk_far ?_ NB627_638.out _; (with_reducible repeat (first | refine blk_drewN ?_ _ | refine blk_drew ?_ | refine blk_alloc ?_ _)); refine blk_far ?_ NB627_638.out _; (with_reducible repeat (first | refine blk_drewN ?_ _ | refine blk_drew ?_ | refine blk_alloc ?_ _)); exact BK627.out) hb); have n1_ := Aside0.mk (blk_below (g := gb638) (o := .cells #[.string t633, .string t634, .int .i64 t635] 31 (0, 0)) (by (with_reducible repeat (first | refine blk_drewN ?_ _ | refine blk_drew ?_ | refine blk_alloc ?_ _)); refine blk_put (cs := #[.string t633, .string t634, .int .i64 0]) ?_ 2 _ rfl; (with_reducible repeat (first | refine blk_drewN ?_ _ | refine blk_drew ?_ | refine blk_alloc ?_ _)); refine blk_put (cs := #[.string t633, .string (⟨#[]⟩ : ByteArray), .int .i64 0]) ?_ 1 _ rfl; (with_reducible repeat (first | refine blk_drewN ?_ _ | refine blk_drew ?_ | refine blk_alloc ?_ _)); refine blk_put (cs := #[.string (⟨#[]⟩ : ByteArray), .string (⟨#[]⟩ : ByteArray), .int .i64 0]) ?_ 0 _ rfl; (with_reducible repeat (first | refine blk_drewN ?_ _ | refine blk_drew ?_ | refine blk_alloc ?_ _)); exact BK638.out) hb); have n2_ := Aside0.mk (below_step (by repeat (first | (with_reducible first | exact HB.out | apply below_alloc | apply pw_below_drewN | apply below_drew1 | refine below_set ?_ GE627.out | refine below_set ?_ GE638.out) | exact HB.out)) hb); clear BK627; clear BK638; clear HB; have BK627 := n0_; have BK638 := n1_; have HB := n2_; clear n0_ n1_ n2_; (try clear hb); (try clear hb2); (try clear hk); (try clear hi)) | ((with_reducible refine gate_dst (N := 13) rfl ?_); refine box_event ?hg (N := 13) ?hd (cs := #[.string (⟨#[]⟩ : ByteArray), .string (⟨#[]⟩ : ByteArray), .int .i64 0]) (t := 31) ?hr ?_; (case hd => rfl); (case hg => rfl); (case hr => first | (go_simp; done) | (go_simp; rfl)); intro gb644 hg w23 hbox hb; have n0_ := Aside0.mk (blk_below (g := gb627) (o := .cells #[.string t625, .string t626] 27 (0, 0)) BK627.out hb); have n1_ := Aside0.mk (blk_below (g := gb638) (o := .cells #[.string t633, .string t634, .int .i64 t635] 31 (0, 0)) BK638.out hb); have n2_ := Aside0.mk (below_step (by repeat (first | (with_reducible first | exact HB.out | apply below_alloc | apply pw_below_drewN | apply below_drew1 | refine below_set ?_ GE627.out | refine below_set ?_ GE638.out) | exact HB.out)) hb); have n3_ := Aside0.mk (hbox); have n4_ := Aside0.mk ((by rw [hg]; exact (below_size (by repeat (first | (with_reducible first | exact HB.out | apply below_alloc | apply pw_below_drewN | apply below_drew1 | refine below_set ?_ GE627.out | refine below_set ?_ GE638.out) | exact HB.out))) : w.heap.size ≤ gb644)); have n5_ := Aside0.mk ((by rw [hg]; exact (below_size (by repeat (first | (with_reducible first | exact HB.out | apply below_alloc | apply pw_below_drewN | apply below_drew1 | refine below_set ?_ GE627.out | refine below_set ?_ GE638.out) | exact HB.out))) : w.heap.size ≤ gb644)); have n6_ := Aside0.mk ((by rw [hg]; exact Nat.ne_of_lt (blk_lt (g := gb627) (o := .cells #[.string t625, .string t626] 27 (0, 0)) BK627.out) : gb627 ≠ gb644)); have n7_ := Aside0.mk ((by rw [hg]; exact Nat.ne_of_gt (blk_lt (g := gb627) (o := .cells #[.string t625, .string t626] 27 (0, 0)) BK627.out) : gb644 ≠ gb627)); have n8_ := Aside0.mk ((by rw [hg]; exact Nat.ne_of_lt (blk_lt (g := gb638) (o := .cells #[.string t633, .string t634, .int .i64 t635] 31 (0, 0)) BK638.out) : gb638 ≠ gb644)); have n9_ := Aside0.mk ((by rw [hg]; exact Nat.ne_of_gt (blk_lt (g := gb638) (o := .cells #[.string t633, .string t634, .int .i64 t635] 31 (0, 0)) BK638.out) : gb644 ≠ gb638)); clear BK627; clear BK638; clear HB; have BK627 := n0_; have BK638 := n1_; have HB := n2_; have BK644 := n3_; have GW644 := n4_; have GE644 := n5_; have NB627_644 := n6_; have NB644_627 := n7_; have NB638_644 := n8_; have NB644_638 := n9_; clear n0_ n1_ n2_ n3_ n4_ n5_ n6_ n7_ n8_ n9_; clear hb hbox hg; have hnb24 := NB644_627.out; have hnc24 := NB627_644.out; have hnb25 := NB644_638.out; have hnc25 := NB638_644.out; have hcz26_0 : w23.cell? ⟨gb644, 0, none⟩ = some (.string (⟨#[]⟩ : ByteArray)) := (blk_cell BK644.out 0).trans rfl; have hcz26_1 : w23.cell? ⟨gb644, 1, none⟩ = some (.string (⟨#[]⟩ : ByteArray)) := (blk_cell BK644.out 1).trans rfl; have hcz26_2 : w23.cell? ⟨gb644, 2, none⟩ = some (.int .i64 0) := (blk_cell BK644.out 2).trans rfl; have hfz26_0 := blk_frozen BK644.out 0; have hfz26_1 := blk_frozen BK644.out 1; have hfz26_2 := blk_frozen BK644.out 2))
    (try simp only [Act.put, List.setIfInBounds_toArray, List.set_cons_zero, List.set_cons_succ])
    go_cut [76] (fun v76 wc => ∃ (kq : Nat) (x76_9 : Bool), v76 = .bool x76_9 ∧ Aside0 (laws_FnLogLines.j0 kq t624 t628 t629 t637 x76_9 t633 t634 t635 = some r) ∧ Aside0 (kq ≤ k) ∧ Aside0 (wc.heap[gb627]? = some (.cells #[.string t625, .string t626] 27 (0, 0))) ∧ Aside0 (wc.heap[gb638]? = some (.cells #[.string t633, .string t634, .int .i64 t635] 31 (0, 0))) ∧ Aside0 (wc.heap[gb644]? = some (.cells #[.string t639, .string t640, .int .i64 t641] 31 (0, 0))) ∧ Aside0 (Below w.heap.size w wc))
    case first =>
      as_aux_lemma =>
        have H := HC10.out
        clear HC10
        by_cases c27 : t628.toList = t630.toList
        · rw [if_pos c27] at H
          have c27b0 : (t628.toList == t630.toList) = true := beq_iff_eq.mpr c27
          have c27b1 : (t628.toList != t630.toList) = false := bne_eq_false_iff_eq.mpr c27
          clear c27
          (first | rw [c27b0] | (simp only [i64_w, i32_w]; rw [c27b0]) | skip)
          by_cases c28 : (t629 != t631) = true
          · rw [if_pos c28] at H
            have c28b0 : (t629 != t631) = true := c28
            (try (have c28b1 : decide (t629 = t631) = false := by simpa using c28))
            (try (have c28b2 : (t629 == t631) = false := by simpa using c28))
            (try (have c28b3 : ¬ (t629 = t631) := by simpa using c28))
            clear c28
            have H' := Aside0.mk H
            clear H
            go_wp2
            go_meet
            case rel => exact ⟨_, (true), (by first | rfl | (simp; done) | (simp [*]; done)), H', ⟨by first | omega | exact Nat.le_refl _⟩, ⟨by (with_reducible repeat (first | refine blk_drewN ?_ _ | refine blk_drew ?_ | refine blk_alloc ?_ _)); refine blk_far ?_ NB627_644.out _; (with_reducible repeat (first | refine blk_drewN ?_ _ | refine blk_drew ?_ | refine blk_alloc ?_ _)); refine blk_far ?_ NB627_644.out _; (with_reducible repeat (first | refine blk_drewN ?_ _ | refine blk_drew ?_ | refine blk_alloc ?_ _)); refine blk_far ?_ NB627_644.out _; (with_reducible repeat (first | refine blk_drewN ?_ _ | refine blk_drew ?_ | refine blk_alloc ?_ _)); exact BK627.out⟩, ⟨by (with_reducible repeat (first | refine blk_drewN ?_ _ | refine blk_drew ?_ | refine blk_alloc ?_ _)); refine blk_far ?_ NB638_644.out _; (with_reducible repeat (first | refine blk_drewN ?_ _ | refine blk_drew ?_ | refine blk_alloc ?_ _)); refine blk_far ?_ NB638_644.out _; (with_reducible repeat (first | refine blk_drewN ?_ _ | refine blk_drew ?_ | refine blk_alloc ?_ _)); refine blk_far ?_ NB638_644.out _; (with_reducible repeat (first | refine blk_drewN ?_ _ | refine blk_drew ?_ | refine blk_alloc ?_ _)); exact BK638.out⟩, ⟨by (with_reducible repeat (first | refine blk_drewN ?_ _ | refine blk_drew ?_ | refine blk_alloc ?_ _)); refine blk_put (cs := #[.string t639, .string t640, .int .i64 0]) ?_ 2 _ rfl; (with_reducible repeat (first | refine blk_drewN ?_ _ | refine blk_drew ?_ | refine blk_alloc ?_ _)); refine blk_put (cs := #[.string t639, .string (⟨#[]⟩ : ByteArray), .int .i64 0]) ?_ 1 _ rfl; (with_reducible repeat (first | refine blk_drewN ?_ _ | refine blk_drew ?_ | refine blk_alloc ?_ _)); refine blk_put (cs := #[.string (⟨#[]⟩ : ByteArray), .string (⟨#[]⟩ : ByteArray), .int .i64 0]) ?_ 0 _ rfl; (with_reducible repeat (first | refine blk_drewN ?_ _ | refine blk_drew ?_ | refine blk_alloc ?_ _)); exact BK644.out⟩, ⟨by repeat (first | (with_reducible first | exact HB.out | apply below_alloc | apply pw_below_drewN | apply below_drew1 | refine below_set ?_ GE627.out | refine below_set ?_ GE638.out | refine below_set ?_ GE644.out) | exact HB.out)⟩⟩
          · rw [if_neg c28] at H
            have c28b0 : (t629 != t631) = false := by simpa using c28
            (try (have c28b1 : decide (t629 = t631) = true := by simpa using c28))
            (try (have c28b2 : (t629 == t631) = true := by simpa using c28))
            clear c28
            by_cases c29 : (!(t633.toList == t639.toList) || (!(t634.toList == t640.toList) || (!(t635 == t641)))) = true
            · rw [if_pos c29] at H
              have c29b0 : (!(t633.toList == t639.toList) || (!(t634.toList == t640.toList) || (!(t635 == t641)))) = true := c29
              clear c29
              have H' := Aside0.mk H
              clear H
              have hnb30 := NB638_627.out
              have hnc30 := NB627_638.out
              have hnb31 := NB638_644.out
              have hnc31 := NB644_638.out
              have hcz32_0 : w23.cell? ⟨gb638, 0, none⟩ = some (.string t633) := (blk_cell BK638.out 0).trans rfl
              have hcz32_1 : w23.cell? ⟨gb638, 1, none⟩ = some (.string t634) := (blk_cell BK638.out 1).trans rfl
              have hcz32_2 : w23.cell? ⟨gb638, 2, none⟩ = some (.int .i64 t635) := (blk_cell BK638.out 2).trans rfl
              have hfz32_0 := blk_frozen BK638.out 0
              have hfz32_1 := blk_frozen BK638.out 1
              have hfz32_2 := blk_frozen BK638.out 2
              have hnb33 := NB644_627.out
              have hnc33 := NB627_644.out
              have hcz34_0 : w23.cell? ⟨gb644, 0, none⟩ = some (.string (⟨#[]⟩ : ByteArray)) := (blk_cell BK644.out 0).trans rfl
              have hcz34_1 : w23.cell? ⟨gb644, 1, none⟩ = some (.string (⟨#[]⟩ : ByteArray)) := (blk_cell BK644.out 1).trans rfl
              have hcz34_2 : w23.cell? ⟨gb644, 2, none⟩ = some (.int .i64 0) := (blk_cell BK644.out 2).trans rfl
              have hfz34_0 := blk_frozen BK644.out 0
              have hfz34_1 := blk_frozen BK644.out 1
              have hfz34_2 := blk_frozen BK644.out 2
              go_wp2
              go_meet
              case rel => exact ⟨_, (true), (by first | rfl | (simp; done) | (simp [*]; done)), H', ⟨by first | omega | exact Nat.le_refl _⟩, ⟨by (with_reducible repeat (first | refine blk_drewN ?_ _ | refine blk_drew ?_ | refine blk_alloc ?_ _)); refine blk_far ?_ NB627_644.out _; (with_reducible repeat (first | refine blk_drewN ?_ _ | refine blk_drew ?_ | refine blk_alloc ?_ _)); refine blk_far ?_ NB627_644.out _; (with_reducible repeat (first | refine blk_drewN ?_ _ | refine blk_drew ?_ | refine blk_alloc ?_ _)); refine blk_far ?_ NB627_644.out _; (with_reducible repeat (first | refine blk_drewN ?_ _ | refine blk_drew ?_ | refine blk_alloc ?_ _)); exact BK627.out⟩, ⟨by (with_reducible repeat (first | refine blk_drewN ?_ _ | refine blk_drew ?_ | refine blk_alloc ?_ _)); refine blk_far ?_ NB638_644.out _; (with_reducible repeat (first | refine blk_drewN ?_ _ | refine blk_drew ?_ | refine blk_alloc ?_ _)); refine blk_far ?_ NB638_644.out _; (with_reducible repeat (first | refine blk_drewN ?_ _ | refine blk_drew ?_ | refine blk_alloc ?_ _)); refine blk_far ?_ NB638_644.out _; (with_reducible repeat (first | refine blk_drewN ?_ _ | refine blk_drew ?_ | refine blk_alloc ?_ _)); exact BK638.out⟩, ⟨by (with_reducible repeat (first | refine blk_drewN ?_ _ | refine blk_drew ?_ | refine blk_alloc ?_ _)); refine blk_put (cs := #[.string t639, .string t640, .int .i64 0]) ?_ 2 _ rfl; (with_reducible repeat (first | refine blk_drewN ?_ _ | refine blk_drew ?_ | refine blk_alloc ?_ _)); refine blk_put (cs := #[.string t639, .string (⟨#[]⟩ : ByteArray), .int .i64 0]) ?_ 1 _ rfl; (with_reducible repeat (first | refine blk_drewN ?_ _ | refine blk_drew ?_ | refine blk_alloc ?_ _)); refine blk_put (cs := #[.string (⟨#[]⟩ : ByteArray), .string (⟨#[]⟩ : ByteArray), .int .i64 0]) ?_ 0 _ rfl; (with_reducible repeat (first | refine blk_drewN ?_ _ | refine blk_drew ?_ | refine blk_alloc ?_ _)); exact BK644.out⟩, ⟨by repeat (first | (with_reducible first | exact HB.out | apply below_alloc | apply pw_below_drewN | apply below_drew1 | refine below_set ?_ GE627.out | refine below_set ?_ GE638.out | refine below_set ?_ GE644.out) | exact HB.out)⟩⟩
            · rw [if_neg c29] at H
              have c29b0 : (!(t633.toList == t639.toList) || (!(t634.toList == t640.toList) || (!(t635 == t641)))) = false := by simpa using c29
              clear c29
              by_cases c35 : t636 = t642
              · rw [if_pos c35] at H
                have c35b0 : (t636 == t642) = true := beq_iff_eq.mpr c35
                have c35b1 : (t636 != t642) = false := bne_eq_false_iff_eq.mpr c35
                clear c35
                have H' := Aside0.mk H
                clear H
                have hnb36 := NB638_627.out
                have hnc36 := NB627_638.out
                have hnb37 := NB638_644.out
                have hnc37 := NB644_638.out
                have hcz38_0 : w23.cell? ⟨gb638, 0, none⟩ = some (.string t633) := (blk_cell BK638.out 0).trans rfl
                have hcz38_1 : w23.cell? ⟨gb638, 1, none⟩ = some (.string t634) := (blk_cell BK638.out 1).trans rfl
                have hcz38_2 : w23.cell? ⟨gb638, 2, none⟩ = some (.int .i64 t635) := (blk_cell BK638.out 2).trans rfl
                have hfz38_0 := blk_frozen BK638.out 0
                have hfz38_1 := blk_frozen BK638.out 1
                have hfz38_2 := blk_frozen BK638.out 2
                have hnb39 := NB644_627.out
                have hnc39 := NB627_644.out
                have hcz40_0 : w23.cell? ⟨gb644, 0, none⟩ = some (.string (⟨#[]⟩ : ByteArray)) := (blk_cell BK644.out 0).trans rfl
                have hcz40_1 : w23.cell? ⟨gb644, 1, none⟩ = some (.string (⟨#[]⟩ : ByteArray)) := (blk_cell BK644.out 1).trans rfl
                have hcz40_2 : w23.cell? ⟨gb644, 2, none⟩ = some (.int .i64 0) := (blk_cell BK644.out 2).trans rfl
                have hfz40_0 := blk_frozen BK644.out 0
                have hfz40_1 := blk_frozen BK644.out 1
                have hfz40_2 := blk_frozen BK644.out 2
                go_wp2
                go_meet
                case rel => exact ⟨_, ((t637 != t643)), (by first | rfl | (simp; done) | (simp [*]; done)), H', ⟨by first | omega | exact Nat.le_refl _⟩, ⟨by (with_reducible repeat (first | refine blk_drewN ?_ _ | refine blk_drew ?_ | refine blk_alloc ?_ _)); refine blk_far ?_ NB627_644.out _; (with_reducible repeat (first | refine blk_drewN ?_ _ | refine blk_drew ?_ | refine blk_alloc ?_ _)); refine blk_far ?_ NB627_644.out _; (with_reducible repeat (first | refine blk_drewN ?_ _ | refine blk_drew ?_ | refine blk_alloc ?_ _)); refine blk_far ?_ NB627_644.out _; (with_reducible repeat (first | refine blk_drewN ?_ _ | refine blk_drew ?_ | refine blk_alloc ?_ _)); exact BK627.out⟩, ⟨by (with_reducible repeat (first | refine blk_drewN ?_ _ | refine blk_drew ?_ | refine blk_alloc ?_ _)); refine blk_far ?_ NB638_644.out _; (with_reducible repeat (first | refine blk_drewN ?_ _ | refine blk_drew ?_ | refine blk_alloc ?_ _)); refine blk_far ?_ NB638_644.out _; (with_reducible repeat (first | refine blk_drewN ?_ _ | refine blk_drew ?_ | refine blk_alloc ?_ _)); refine blk_far ?_ NB638_644.out _; (with_reducible repeat (first | refine blk_drewN ?_ _ | refine blk_drew ?_ | refine blk_alloc ?_ _)); exact BK638.out⟩, ⟨by (with_reducible repeat (first | refine blk_drewN ?_ _ | refine blk_drew ?_ | refine blk_alloc ?_ _)); refine blk_put (cs := #[.string t639, .string t640, .int .i64 0]) ?_ 2 _ rfl; (with_reducible repeat (first | refine blk_drewN ?_ _ | refine blk_drew ?_ | refine blk_alloc ?_ _)); refine blk_put (cs := #[.string t639, .string (⟨#[]⟩ : ByteArray), .int .i64 0]) ?_ 1 _ rfl; (with_reducible repeat (first | refine blk_drewN ?_ _ | refine blk_drew ?_ | refine blk_alloc ?_ _)); refine blk_put (cs := #[.string (⟨#[]⟩ : ByteArray), .string (⟨#[]⟩ : ByteArray), .int .i64 0]) ?_ 0 _ rfl; (with_reducible repeat (first | refine blk_drewN ?_ _ | refine blk_drew ?_ | refine blk_alloc ?_ _)); exact BK644.out⟩, ⟨by repeat (first | (with_reducible first | exact HB.out | apply below_alloc | apply pw_below_drewN | apply below_drew1 | refine below_set ?_ GE627.out | refine below_set ?_ GE638.out | refine below_set ?_ GE644.out) | exact HB.out)⟩⟩
              · rw [if_neg c35] at H
                have c35b0 : (t636 == t642) = false := beq_eq_false_iff_ne.mpr c35
                have c35b1 : (t636 != t642) = true := bne_iff_ne.mpr c35
                have H' := Aside0.mk H
                clear H
                have hnb41 := NB638_627.out
                have hnc41 := NB627_638.out
                have hnb42 := NB638_644.out
                have hnc42 := NB644_638.out
                have hcz43_0 : w23.cell? ⟨gb638, 0, none⟩ = some (.string t633) := (blk_cell BK638.out 0).trans rfl
                have hcz43_1 : w23.cell? ⟨gb638, 1, none⟩ = some (.string t634) := (blk_cell BK638.out 1).trans rfl
                have hcz43_2 : w23.cell? ⟨gb638, 2, none⟩ = some (.int .i64 t635) := (blk_cell BK638.out 2).trans rfl
                have hfz43_0 := blk_frozen BK638.out 0
                have hfz43_1 := blk_frozen BK638.out 1
                have hfz43_2 := blk_frozen BK638.out 2
                have hnb44 := NB644_627.out
                have hnc44 := NB627_644.out
                have hcz45_0 : w23.cell? ⟨gb644, 0, none⟩ = some (.string (⟨#[]⟩ : ByteArray)) := (blk_cell BK644.out 0).trans rfl
                have hcz45_1 : w23.cell? ⟨gb644, 1, none⟩ = some (.string (⟨#[]⟩ : ByteArray)) := (blk_cell BK644.out 1).trans rfl
                have hcz45_2 : w23.cell? ⟨gb644, 2, none⟩ = some (.int .i64 0) := (blk_cell BK644.out 2).trans rfl
                have hfz45_0 := blk_frozen BK644.out 0
                have hfz45_1 := blk_frozen BK644.out 1
                have hfz45_2 := blk_frozen BK644.out 2
                go_wp2
                go_meet
                case rel => exact ⟨_, (true), (by first | rfl | (simp; done) | (simp [*]; done)), H', ⟨by first | omega | exact Nat.le_refl _⟩, ⟨by (with_reducible repeat (first | refine blk_drewN ?_ _ | refine blk_drew ?_ | refine blk_alloc ?_ _)); refine blk_far ?_ NB627_644.out _; (with_reducible repeat (first | refine blk_drewN ?_ _ | refine blk_drew ?_ | refine blk_alloc ?_ _)); refine blk_far ?_ NB627_644.out _; (with_reducible repeat (first | refine blk_drewN ?_ _ | refine blk_drew ?_ | refine blk_alloc ?_ _)); refine blk_far ?_ NB627_644.out _; (with_reducible repeat (first | refine blk_drewN ?_ _ | refine blk_drew ?_ | refine blk_alloc ?_ _)); exact BK627.out⟩, ⟨by (with_reducible repeat (first | refine blk_drewN ?_ _ | refine blk_drew ?_ | refine blk_alloc ?_ _)); refine blk_far ?_ NB638_644.out _; (with_reducible repeat (first | refine blk_drewN ?_ _ | refine blk_drew ?_ | refine blk_alloc ?_ _)); refine blk_far ?_ NB638_644.out _; (with_reducible repeat (first | refine blk_drewN ?_ _ | refine blk_drew ?_ | refine blk_alloc ?_ _)); refine blk_far ?_ NB638_644.out _; (with_reducible repeat (first | refine blk_drewN ?_ _ | refine blk_drew ?_ | refine blk_alloc ?_ _)); exact BK638.out⟩, ⟨by (with_reducible repeat (first | refine blk_drewN ?_ _ | refine blk_drew ?_ | refine blk_alloc ?_ _)); refine blk_put (cs := #[.string t639, .string t640, .int .i64 0]) ?_ 2 _ rfl; (with_reducible repeat (first | refine blk_drewN ?_ _ | refine blk_drew ?_ | refine blk_alloc ?_ _)); refine blk_put (cs := #[.string t639, .string (⟨#[]⟩ : ByteArray), .int .i64 0]) ?_ 1 _ rfl; (with_reducible repeat (first | refine blk_drewN ?_ _ | refine blk_drew ?_ | refine blk_alloc ?_ _)); refine blk_put (cs := #[.string (⟨#[]⟩ : ByteArray), .string (⟨#[]⟩ : ByteArray), .int .i64 0]) ?_ 0 _ rfl; (with_reducible repeat (first | refine blk_drewN ?_ _ | refine blk_drew ?_ | refine blk_alloc ?_ _)); exact BK644.out⟩, ⟨by repeat (first | (with_reducible first | exact HB.out | apply below_alloc | apply pw_below_drewN | apply below_drew1 | refine below_set ?_ GE627.out | refine below_set ?_ GE638.out | refine below_set ?_ GE644.out) | exact HB.out)⟩⟩
        · rw [if_neg c27] at H
          have c27b0 : (t628.toList == t630.toList) = false := beq_eq_false_iff_ne.mpr c27
          have c27b1 : (t628.toList != t630.toList) = true := bne_iff_ne.mpr c27
          (first | rw [c27b0] | (simp only [i64_w, i32_w]; rw [c27b0]) | skip)
          have H' := Aside0.mk H
          clear H
          go_wp2
          go_meet
          case rel => exact ⟨_, (true), (by first | rfl | (simp; done) | (simp [*]; done)), H', ⟨by first | omega | exact Nat.le_refl _⟩, ⟨by (with_reducible repeat (first | refine blk_drewN ?_ _ | refine blk_drew ?_ | refine blk_alloc ?_ _)); refine blk_far ?_ NB627_644.out _; (with_reducible repeat (first | refine blk_drewN ?_ _ | refine blk_drew ?_ | refine blk_alloc ?_ _)); refine blk_far ?_ NB627_644.out _; (with_reducible repeat (first | refine blk_drewN ?_ _ | refine blk_drew ?_ | refine blk_alloc ?_ _)); refine blk_far ?_ NB627_644.out _; (with_reducible repeat (first | refine blk_drewN ?_ _ | refine blk_drew ?_ | refine blk_alloc ?_ _)); exact BK627.out⟩, ⟨by (with_reducible repeat (first | refine blk_drewN ?_ _ | refine blk_drew ?_ | refine blk_alloc ?_ _)); refine blk_far ?_ NB638_644.out _; (with_reducible repeat (first | refine blk_drewN ?_ _ | refine blk_drew ?_ | refine blk_alloc ?_ _)); refine blk_far ?_ NB638_644.out _; (with_reducible repeat (first | refine blk_drewN ?_ _ | refine blk_drew ?_ | refine blk_alloc ?_ _)); refine blk_far ?_ NB638_644.out _; (with_reducible repeat (first | refine blk_drewN ?_ _ | refine blk_drew ?_ | refine blk_alloc ?_ _)); exact BK638.out⟩, ⟨by (with_reducible repeat (first | refine blk_drewN ?_ _ | refine blk_drew ?_ | refine blk_alloc ?_ _)); refine blk_put (cs := #[.string t639, .string t640, .int .i64 0]) ?_ 2 _ rfl; (with_reducible repeat (first | refine blk_drewN ?_ _ | refine blk_drew ?_ | refine blk_alloc ?_ _)); refine blk_put (cs := #[.string t639, .string (⟨#[]⟩ : ByteArray), .int .i64 0]) ?_ 1 _ rfl; (with_reducible repeat (first | refine blk_drewN ?_ _ | refine blk_drew ?_ | refine blk_alloc ?_ _)); refine blk_put (cs := #[.string (⟨#[]⟩ : ByteArray), .string (⟨#[]⟩ : ByteArray), .int .i64 0]) ?_ 0 _ rfl; (with_reducible repeat (first | refine blk_drewN ?_ _ | refine blk_drew ?_ | refine blk_alloc ?_ _)); exact BK644.out⟩, ⟨by repeat (first | (with_reducible first | exact HB.out | apply below_alloc | apply pw_below_drewN | apply below_drew1 | refine below_set ?_ GE627.out | refine below_set ?_ GE638.out | refine below_set ?_ GE644.out) | exact HB.out)⟩⟩
    case rest =>
      as_aux_lemma =>
        clear HC10
        try clear c1
        try clear c2
        try clear p2
        try clear c3
        try clear c4
        try clear c11
        try clear c14
        try clear c16
        try clear c17
        try clear c18
        try clear c20
        try clear c24
        try clear c25
        try clear c27
        try clear c27b0
        try clear c27b1
        try clear c28
        try clear c28b0
        try clear c28b1
        try clear c28b2
        try clear c29
        try clear c29b0
        try clear c30
        try clear c31
        try clear c33
        try clear c35
        try clear c35b0
        try clear c35b1
        try clear c36
        try clear c37
        try clear c39
        try clear c40
        try clear c41
        try clear c42
        try clear c44
        try clear hcz13_0
        try clear hcz13_1
        try clear hcz15_0
        try clear hcz15_1
        try clear hcz21_0
        try clear hcz21_1
        try clear hcz21_2
        try clear hcz26_0
        try clear hcz26_1
        try clear hcz26_2
        try clear hcz32_0
        try clear hcz32_1
        try clear hcz32_2
        try clear hcz34_0
        try clear hcz34_1
        try clear hcz34_2
        try clear hcz38_0
        try clear hcz38_1
        try clear hcz38_2
        try clear hcz40_0
        try clear hcz40_1
        try clear hcz40_2
        try clear hcz43_0
        try clear hcz43_1
        try clear hcz43_2
        try clear hcz45_0
        try clear hcz45_1
        try clear hcz45_2
        try clear hfz13_0
        try clear hfz13_1
        try clear hfz15_0
        try clear hfz15_1
        try clear hfz21_0
        try clear hfz21_1
        try clear hfz21_2
        try clear hfz26_0
        try clear hfz26_1
        try clear hfz26_2
        try clear hfz32_0
        try clear hfz32_1
        try clear hfz32_2
        try clear hfz34_0
        try clear hfz34_1
        try clear hfz34_2
        try clear hfz38_0
        try clear hfz38_1
        try clear hfz38_2
        try clear hfz40_0
        try clear hfz40_1
        try clear hfz40_2
        try clear hfz43_0
        try clear hfz43_1
        try clear hfz43_2
        try clear hfz45_0
        try clear hfz45_1
        try clear hfz45_2
        obtain ⟨kq, x76_9, rfl, HA, HJ9, BK627, BK638, BK644, HB⟩ := hcut
        cases kq with
        | zero => exact absurd HA.out (by simp [laws_FnLogLines.j0])
        | succ kj9 =>
          have H := HA.out
          clear HA
          simp only [laws_FnLogLines.j0] at H
          by_cases c46 : x76_9 = true
          · subst c46
            have H1 : (some false) = some r := by rw [if_pos rfl] at H; exact H
            exact absurd ((Option.some.inj H1).trans hrt_) (by decide)
          · replace c46 := Bool.eq_false_iff.mpr c46
            subst c46
            have H1 : ((impl_RecoverLog.f kj9 t628).bind fun bt645 => (if t629 = true then (if ((decide (bt645.2.2.2.1 > 0)) != (t624 == 0)) = true then (laws_FnLogLines.j1 kj9 t628 t629 t637 true t633 t634 t635) else (if t624 = 0 then (laws_FnLogLines.j1 kj9 t628 t629 t637 (bt645.2.2.1 != 1) t633 t634 t635) else (laws_FnLogLines.j1 kj9 t628 t629 t637 false t633 t634 t635))) else (laws_FnLogLines.j1 kj9 t628 t629 t637 false t633 t634 t635))) = some r := by rw [if_neg (show ¬ (false = true) by decide)] at H; exact H
            clear H
            have H := H1
            clear H1
            replace H := Option.bind_eq_some_iff.mp H
            obtain ⟨⟨t645, t646, t647, t648, t649⟩, A470, H⟩ := H
            replace H : (if t629 = true then (if ((decide (t648 > 0)) != (t624 == 0)) = true then (laws_FnLogLines.j1 kj9 t628 t629 t637 true t633 t634 t635) else (if t624 = 0 then (laws_FnLogLines.j1 kj9 t628 t629 t637 (t647 != 1) t633 t634 t635) else (laws_FnLogLines.j1 kj9 t628 t629 t637 false t633 t634 t635))) else (laws_FnLogLines.j1 kj9 t628 t629 t637 false t633 t634 t635)) = some r := H
            have A47 := Aside0.mk A470
            clear A470
            have HC48 := Aside0.mk H
            clear H
            go_upto_region 12 with (first | ((with_reducible refine gate_callee (f := 18) rfl ?_); refine goesL_ (some 79) rfl rfl Tryd.func18 (by kernel_rfl) rfl #[.string t628] rfl (by (try simp only [List.map_toArray, List.map_cons, List.map_nil]); first | done | rfl | (simp only [List.length_drop, List.length_take]; rfl)) ?_; (with_reducible refine (impl_RecoverLog.calls kj9 t628 t645 t646 t647 t648 t649 _ A47.out ?sideG).mono ?_); (case sideG => exact (gw_below HG.out (by repeat (first | (with_reducible first | exact HB.out | apply below_alloc | apply pw_below_drewN | apply below_drew1 | refine below_set ?_ GE627.out | refine below_set ?_ GE638.out | refine below_set ?_ GE644.out) | exact HB.out)))); rintro e w49 ⟨rfl, hb⟩; refine ⟨_, rfl, ?_⟩; have n0_ := Aside0.mk (blk_below (g := gb627) (o := .cells #[.string t625, .string t626] 27 (0, 0)) BK627.out hb); have n1_ := Aside0.mk (blk_below (g := gb638) (o := .cells #[.string t633, .string t634, .int .i64 t635] 31 (0, 0)) BK638.out hb); have n2_ := Aside0.mk (blk_below (g := gb644) (o := .cells #[.string t639, .string t640, .int .i64 t641] 31 (0, 0)) BK644.out hb); have n3_ := Aside0.mk (below_step (by repeat (first | (with_reducible first | exact HB.out | apply below_alloc | apply pw_below_drewN | apply below_drew1 | refine below_set ?_ GE627.out | refine below_set ?_ GE638.out | refine below_set ?_ GE644.out) | exact HB.out)) hb); clear BK627; clear BK638; clear BK644; clear HB; have BK627 := n0_; have BK638 := n1_; have BK644 := n2_; have HB := n3_; clear n0_ n1_ n2_ n3_; (try clear hb); (try clear hb2); (try clear hk); (try clear hi)) | ((with_reducible refine gate_dst (N := 16) rfl ?_); refine box_event ?hg (N := 16) ?hd (cs := #[.string (⟨#[]⟩ : ByteArray), .string (⟨#[]⟩ : ByteArray), .int .i64 0]) (t := 31) ?hr ?_; (case hd => rfl); (case hg => rfl); (case hr => first | (go_simp; done) | (go_simp; rfl)); intro gb650 hg w50 hbox hb; have n0_ := Aside0.mk (blk_below (g := gb627) (o := .cells #[.string t625, .string t626] 27 (0, 0)) BK627.out hb); have n1_ := Aside0.mk (blk_below (g := gb638) (o := .cells #[.string t633, .string t634, .int .i64 t635] 31 (0, 0)) BK638.out hb); have n2_ := Aside0.mk (blk_below (g := gb644) (o := .cells #[.string t639, .string t640, .int .i64 t641] 31 (0, 0)) BK644.out hb); have n3_ := Aside0.mk (below_step (by repeat (first | (with_reducible first | exact HB.out | apply below_alloc | apply pw_below_drewN | apply below_drew1 | refine below_set ?_ GE627.out | refine below_set ?_ GE638.out | refine below_set ?_ GE644.out) | exact HB.out)) hb); have n4_ := Aside0.mk (hbox); have n5_ := Aside0.mk ((by rw [hg]; exact (below_size (by repeat (first | (with_reducible first | exact HB.out | apply below_alloc | apply pw_below_drewN | apply below_drew1 | refine below_set ?_ GE627.out | refine below_set ?_ GE638.out | refine below_set ?_ GE644.out) | exact HB.out))) : w.heap.size ≤ gb650)); have n6_ := Aside0.mk ((by rw [hg]; exact (below_size (by repeat (first | (with_reducible first | exact HB.out | apply below_alloc | apply pw_below_drewN | apply below_drew1 | refine below_set ?_ GE627.out | refine below_set ?_ GE638.out | refine below_set ?_ GE644.out) | exact HB.out))) : w.heap.size ≤ gb650)); have n7_ := Aside0.mk ((by rw [hg]; exact Nat.ne_of_lt (blk_lt (g := gb627) (o := .cells #[.string t625, .string t626] 27 (0, 0)) BK627.out) : gb627 ≠ gb650)); have n8_ := Aside0.mk ((by rw [hg]; exact Nat.ne_of_gt (blk_lt (g := gb627) (o := .cells #[.string t625, .string t626] 27 (0, 0)) BK627.out) : gb650 ≠ gb627)); have n9_ := Aside0.mk ((by rw [hg]; exact Nat.ne_of_lt (blk_lt (g := gb638) (o := .cells #[.string t633, .string t634, .int .i64 t635] 31 (0, 0)) BK638.out) : gb638 ≠ gb650)); have n10_ := Aside0.mk ((by rw [hg]; exact Nat.ne_of_gt (blk_lt (g := gb638) (o := .cells #[.string t633, .string t634, .int .i64 t635] 31 (0, 0)) BK638.out) : gb650 ≠ gb638)); have n11_ := Aside0.mk ((by rw [hg]; exact Nat.ne_of_lt (blk_lt (g := gb644) (o := .cells #[.string t639, .string t640, .int .i64 t641] 31 (0, 0)) BK644.out) : gb644 ≠ gb650)); have n12_ := Aside0.mk ((by rw [hg]; exact Nat.ne_of_gt (blk_lt (g := gb644) (o := .cells #[.string t639, .string t640, .int .i64 t641] 31 (0, 0)) BK644.out) : gb650 ≠ gb644)); clear BK627; clear BK638; clear BK644; clear HB; have BK627 := n0_; have BK638 := n1_; have BK644 := n2_; have HB := n3_; have BK650 := n4_; have GW650 := n5_; have GE650 := n6_; have NB627_650 := n7_; have NB650_627 := n8_; have NB638_650 := n9_; have NB650_638 := n10_; have NB644_650 := n11_; have NB650_644 := n12_; clear n0_ n1_ n2_ n3_ n4_ n5_ n6_ n7_ n8_ n9_ n10_ n11_ n12_; clear hb hbox hg; have hnb51 := NB650_627.out; have hnc51 := NB627_650.out; have hnb52 := NB650_638.out; have hnc52 := NB638_650.out; have hnb53 := NB650_644.out; have hnc53 := NB644_650.out; have hcz54_0 : w50.cell? ⟨gb650, 0, none⟩ = some (.string (⟨#[]⟩ : ByteArray)) := (blk_cell BK650.out 0).trans rfl; have hcz54_1 : w50.cell? ⟨gb650, 1, none⟩ = some (.string (⟨#[]⟩ : ByteArray)) := (blk_cell BK650.out 1).trans rfl; have hcz54_2 : w50.cell? ⟨gb650, 2, none⟩ = some (.int .i64 0) := (blk_cell BK650.out 2).trans rfl; have hfz54_0 := blk_frozen BK650.out 0; have hfz54_1 := blk_frozen BK650.out 1; have hfz54_2 := blk_frozen BK650.out 2))
            (try simp only [Act.put, List.setIfInBounds_toArray, List.set_cons_zero, List.set_cons_succ])
            go_cut [102] (fun v102 wc => ∃ (kq : Nat) (x102_47 : Bool), v102 = .bool x102_47 ∧ Aside0 (laws_FnLogLines.j1 kq t628 t629 t637 x102_47 t633 t634 t635 = some r) ∧ Aside0 (kq ≤ kj9) ∧ Aside0 (wc.heap[gb627]? = some (.cells #[.string t625, .string t626] 27 (0, 0))) ∧ Aside0 (wc.heap[gb638]? = some (.cells #[.string t633, .string t634, .int .i64 t635] 31 (0, 0))) ∧ Aside0 (wc.heap[gb644]? = some (.cells #[.string t639, .string t640, .int .i64 t641] 31 (0, 0))) ∧ Aside0 (wc.heap[gb650]? = some (.cells #[.string t645, .string t646, .int .i64 t647] 31 (0, 0))) ∧ Aside0 (Below w.heap.size w wc))
            case first =>
              as_aux_lemma =>
                have H := HC48.out
                clear HC48
                by_cases c55 : t629 = true
                · subst c55
                  have H1 : (if ((decide (t648 > 0)) != (t624 == 0)) = true then (laws_FnLogLines.j1 kj9 t628 true t637 true t633 t634 t635) else (if t624 = 0 then (laws_FnLogLines.j1 kj9 t628 true t637 (t647 != 1) t633 t634 t635) else (laws_FnLogLines.j1 kj9 t628 true t637 false t633 t634 t635))) = some r := by rw [if_pos rfl] at H; exact H
                  clear H
                  have H := H1
                  clear H1
                  by_cases c56 : ((decide (t648 > 0)) != (t624 == 0)) = true
                  · rw [if_pos c56] at H
                    have c56b0 : ((decide (t648 > 0)) != (t624 == 0)) = true := c56
                    (try (have c56b1 : decide ((decide (t648 > 0)) = (t624 == 0)) = false := by simpa using c56))
                    (try (have c56b2 : ((decide (t648 > 0)) == (t624 == 0)) = false := by simpa using c56))
                    (try (have c56b3 : ¬ ((decide (t648 > 0)) = (t624 == 0)) := by simpa using c56))
                    clear c56
                    (first | rw [c56b0] | (simp only [i64_w, i32_w]; rw [c56b0]) | skip)
                    have H' := Aside0.mk H
                    clear H
                    go_wp2
                    go_meet
                    case rel => exact ⟨_, (true), (by first | rfl | (simp; done) | (simp [*]; done)), H', ⟨by have := HJ9.out; first | omega | exact Nat.le_refl _⟩, ⟨by (with_reducible repeat (first | refine blk_drewN ?_ _ | refine blk_drew ?_ | refine blk_alloc ?_ _)); refine blk_far ?_ NB627_650.out _; (with_reducible repeat (first | refine blk_drewN ?_ _ | refine blk_drew ?_ | refine blk_alloc ?_ _)); refine blk_far ?_ NB627_650.out _; (with_reducible repeat (first | refine blk_drewN ?_ _ | refine blk_drew ?_ | refine blk_alloc ?_ _)); refine blk_far ?_ NB627_650.out _; (with_reducible repeat (first | refine blk_drewN ?_ _ | refine blk_drew ?_ | refine blk_alloc ?_ _)); exact BK627.out⟩, ⟨by (with_reducible repeat (first | refine blk_drewN ?_ _ | refine blk_drew ?_ | refine blk_alloc ?_ _)); refine blk_far ?_ NB638_650.out _; (with_reducible repeat (first | refine blk_drewN ?_ _ | refine blk_drew ?_ | refine blk_alloc ?_ _)); refine blk_far ?_ NB638_650.out _; (with_reducible repeat (first | refine blk_drewN ?_ _ | refine blk_drew ?_ | refine blk_alloc ?_ _)); refine blk_far ?_ NB638_650.out _; (with_reducible repeat (first | refine blk_drewN ?_ _ | refine blk_drew ?_ | refine blk_alloc ?_ _)); exact BK638.out⟩, ⟨by (with_reducible repeat (first | refine blk_drewN ?_ _ | refine blk_drew ?_ | refine blk_alloc ?_ _)); refine blk_far ?_ NB644_650.out _; (with_reducible repeat (first | refine blk_drewN ?_ _ | refine blk_drew ?_ | refine blk_alloc ?_ _)); refine blk_far ?_ NB644_650.out _; (with_reducible repeat (first | refine blk_drewN ?_ _ | refine blk_drew ?_ | refine blk_alloc ?_ _)); refine blk_far ?_ NB644_650.out _; (with_reducible repeat (first | refine blk_drewN ?_ _ | refine blk_drew ?_ | refine blk_alloc ?_ _)); exact BK644.out⟩, ⟨by (with_reducible repeat (first | refine blk_drewN ?_ _ | refine blk_drew ?_ | refine blk_alloc ?_ _)); refine blk_put (cs := #[.string t645, .string t646, .int .i64 0]) ?_ 2 _ rfl; (with_reducible repeat (first | refine blk_drewN ?_ _ | refine blk_drew ?_ | refine blk_alloc ?_ _)); refine blk_put (cs := #[.string t645, .string (⟨#[]⟩ : ByteArray), .int .i64 0]) ?_ 1 _ rfl; (with_reducible repeat (first | refine blk_drewN ?_ _ | refine blk_drew ?_ | refine blk_alloc ?_ _)); refine blk_put (cs := #[.string (⟨#[]⟩ : ByteArray), .string (⟨#[]⟩ : ByteArray), .int .i64 0]) ?_ 0 _ rfl; (with_reducible repeat (first | refine blk_drewN ?_ _ | refine blk_drew ?_ | refine blk_alloc ?_ _)); exact BK650.out⟩, ⟨by repeat (first | (with_reducible first | exact HB.out | apply below_alloc | apply pw_below_drewN | apply below_drew1 | refine below_set ?_ GE627.out | refine below_set ?_ GE638.out | refine below_set ?_ GE644.out | refine below_set ?_ GE650.out) | exact HB.out)⟩⟩
                  · rw [if_neg c56] at H
                    have c56b0 : ((decide (t648 > 0)) != (t624 == 0)) = false := by simpa using c56
                    (try (have c56b1 : decide ((decide (t648 > 0)) = (t624 == 0)) = true := by simpa using c56))
                    (try (have c56b2 : ((decide (t648 > 0)) == (t624 == 0)) = true := by simpa using c56))
                    clear c56
                    (first | rw [c56b0] | (simp only [i64_w, i32_w]; rw [c56b0]) | skip)
                    by_cases c57 : t624 = 0
                    · rw [if_pos c57] at H
                      have c57b0 : (t624 == 0) = true := beq_iff_eq.mpr c57
                      have c57b1 : (t624 != 0) = false := bne_eq_false_iff_eq.mpr c57
                      have hg_ : 0 < t648 := by have h_ := c56b0; rw [c57b0] at h_; simpa using h_
                      have hg0_ : decide (0 < t648) = true := decide_eq_true (by omega)
                      have hg1_ : decide (t648 > 0) = true := decide_eq_true (by omega)
                      have hg2_ : decide (t648 ≤ 0) = false := decide_eq_false (by omega)
                      clear c57
                      have H' := Aside0.mk H
                      clear H
                      have hnb58 := NB650_627.out
                      have hnc58 := NB627_650.out
                      have hnb59 := NB650_638.out
                      have hnc59 := NB638_650.out
                      have hnb60 := NB650_644.out
                      have hnc60 := NB644_650.out
                      have hcz61_0 : w50.cell? ⟨gb650, 0, none⟩ = some (.string (⟨#[]⟩ : ByteArray)) := (blk_cell BK650.out 0).trans rfl
                      have hcz61_1 : w50.cell? ⟨gb650, 1, none⟩ = some (.string (⟨#[]⟩ : ByteArray)) := (blk_cell BK650.out 1).trans rfl
                      have hcz61_2 : w50.cell? ⟨gb650, 2, none⟩ = some (.int .i64 0) := (blk_cell BK650.out 2).trans rfl
                      have hfz61_0 := blk_frozen BK650.out 0
                      have hfz61_1 := blk_frozen BK650.out 1
                      have hfz61_2 := blk_frozen BK650.out 2
                      go_wp2
                      go_meet
                      case rel => exact ⟨_, ((t647 != 1)), (by first | rfl | (simp; done) | (simp [*]; done)), H', ⟨by have := HJ9.out; first | omega | exact Nat.le_refl _⟩, ⟨by (with_reducible repeat (first | refine blk_drewN ?_ _ | refine blk_drew ?_ | refine blk_alloc ?_ _)); refine blk_far ?_ NB627_650.out _; (with_reducible repeat (first | refine blk_drewN ?_ _ | refine blk_drew ?_ | refine blk_alloc ?_ _)); refine blk_far ?_ NB627_650.out _; (with_reducible repeat (first | refine blk_drewN ?_ _ | refine blk_drew ?_ | refine blk_alloc ?_ _)); refine blk_far ?_ NB627_650.out _; (with_reducible repeat (first | refine blk_drewN ?_ _ | refine blk_drew ?_ | refine blk_alloc ?_ _)); exact BK627.out⟩, ⟨by (with_reducible repeat (first | refine blk_drewN ?_ _ | refine blk_drew ?_ | refine blk_alloc ?_ _)); refine blk_far ?_ NB638_650.out _; (with_reducible repeat (first | refine blk_drewN ?_ _ | refine blk_drew ?_ | refine blk_alloc ?_ _)); refine blk_far ?_ NB638_650.out _; (with_reducible repeat (first | refine blk_drewN ?_ _ | refine blk_drew ?_ | refine blk_alloc ?_ _)); refine blk_far ?_ NB638_650.out _; (with_reducible repeat (first | refine blk_drewN ?_ _ | refine blk_drew ?_ | refine blk_alloc ?_ _)); exact BK638.out⟩, ⟨by (with_reducible repeat (first | refine blk_drewN ?_ _ | refine blk_drew ?_ | refine blk_alloc ?_ _)); refine blk_far ?_ NB644_650.out _; (with_reducible repeat (first | refine blk_drewN ?_ _ | refine blk_drew ?_ | refine blk_alloc ?_ _)); refine blk_far ?_ NB644_650.out _; (with_reducible repeat (first | refine blk_drewN ?_ _ | refine blk_drew ?_ | refine blk_alloc ?_ _)); refine blk_far ?_ NB644_650.out _; (with_reducible repeat (first | refine blk_drewN ?_ _ | refine blk_drew ?_ | refine blk_alloc ?_ _)); exact BK644.out⟩, ⟨by (with_reducible repeat (first | refine blk_drewN ?_ _ | refine blk_drew ?_ | refine blk_alloc ?_ _)); refine blk_put (cs := #[.string t645, .string t646, .int .i64 0]) ?_ 2 _ rfl; (with_reducible repeat (first | refine blk_drewN ?_ _ | refine blk_drew ?_ | refine blk_alloc ?_ _)); refine blk_put (cs := #[.string t645, .string (⟨#[]⟩ : ByteArray), .int .i64 0]) ?_ 1 _ rfl; (with_reducible repeat (first | refine blk_drewN ?_ _ | refine blk_drew ?_ | refine blk_alloc ?_ _)); refine blk_put (cs := #[.string (⟨#[]⟩ : ByteArray), .string (⟨#[]⟩ : ByteArray), .int .i64 0]) ?_ 0 _ rfl; (with_reducible repeat (first | refine blk_drewN ?_ _ | refine blk_drew ?_ | refine blk_alloc ?_ _)); exact BK650.out⟩, ⟨by repeat (first | (with_reducible first | exact HB.out | apply below_alloc | apply pw_below_drewN | apply below_drew1 | refine below_set ?_ GE627.out | refine below_set ?_ GE638.out | refine below_set ?_ GE644.out | refine below_set ?_ GE650.out) | exact HB.out)⟩⟩
                    · rw [if_neg c57] at H
                      have c57b0 : (t624 == 0) = false := beq_eq_false_iff_ne.mpr c57
                      have c57b1 : (t624 != 0) = true := bne_iff_ne.mpr c57
                      have hg_ : t648 ≤ 0 := by have h_ := c56b0; rw [c57b0] at h_; simpa using h_
                      have hg0_ : decide (0 < t648) = false := decide_eq_false (by omega)
                      have hg1_ : decide (t648 > 0) = false := decide_eq_false (by omega)
                      have hg2_ : decide (t648 ≤ 0) = true := decide_eq_true (by omega)
                      have H' := Aside0.mk H
                      clear H
                      go_wp2
                      go_meet
                      case rel => exact ⟨_, (false), (by first | rfl | (simp; done) | (simp [*]; done)), H', ⟨by have := HJ9.out; first | omega | exact Nat.le_refl _⟩, ⟨by (with_reducible repeat (first | refine blk_drewN ?_ _ | refine blk_drew ?_ | refine blk_alloc ?_ _)); refine blk_far ?_ NB627_650.out _; (with_reducible repeat (first | refine blk_drewN ?_ _ | refine blk_drew ?_ | refine blk_alloc ?_ _)); refine blk_far ?_ NB627_650.out _; (with_reducible repeat (first | refine blk_drewN ?_ _ | refine blk_drew ?_ | refine blk_alloc ?_ _)); refine blk_far ?_ NB627_650.out _; (with_reducible repeat (first | refine blk_drewN ?_ _ | refine blk_drew ?_ | refine blk_alloc ?_ _)); exact BK627.out⟩, ⟨by (with_reducible repeat (first | refine blk_drewN ?_ _ | refine blk_drew ?_ | refine blk_alloc ?_ _)); refine blk_far ?_ NB638_650.out _; (with_reducible repeat (first | refine blk_drewN ?_ _ | refine blk_drew ?_ | refine blk_alloc ?_ _)); refine blk_far ?_ NB638_650.out _; (with_reducible repeat (first | refine blk_drewN ?_ _ | refine blk_drew ?_ | refine blk_alloc ?_ _)); refine blk_far ?_ NB638_650.out _; (with_reducible repeat (first | refine blk_drewN ?_ _ | refine blk_drew ?_ | refine blk_alloc ?_ _)); exact BK638.out⟩, ⟨by (with_reducible repeat (first | refine blk_drewN ?_ _ | refine blk_drew ?_ | refine blk_alloc ?_ _)); refine blk_far ?_ NB644_650.out _; (with_reducible repeat (first | refine blk_drewN ?_ _ | refine blk_drew ?_ | refine blk_alloc ?_ _)); refine blk_far ?_ NB644_650.out _; (with_reducible repeat (first | refine blk_drewN ?_ _ | refine blk_drew ?_ | refine blk_alloc ?_ _)); refine blk_far ?_ NB644_650.out _; (with_reducible repeat (first | refine blk_drewN ?_ _ | refine blk_drew ?_ | refine blk_alloc ?_ _)); exact BK644.out⟩, ⟨by (with_reducible repeat (first | refine blk_drewN ?_ _ | refine blk_drew ?_ | refine blk_alloc ?_ _)); refine blk_put (cs := #[.string t645, .string t646, .int .i64 0]) ?_ 2 _ rfl; (with_reducible repeat (first | refine blk_drewN ?_ _ | refine blk_drew ?_ | refine blk_alloc ?_ _)); refine blk_put (cs := #[.string t645, .string (⟨#[]⟩ : ByteArray), .int .i64 0]) ?_ 1 _ rfl; (with_reducible repeat (first | refine blk_drewN ?_ _ | refine blk_drew ?_ | refine blk_alloc ?_ _)); refine blk_put (cs := #[.string (⟨#[]⟩ : ByteArray), .string (⟨#[]⟩ : ByteArray), .int .i64 0]) ?_ 0 _ rfl; (with_reducible repeat (first | refine blk_drewN ?_ _ | refine blk_drew ?_ | refine blk_alloc ?_ _)); exact BK650.out⟩, ⟨by repeat (first | (with_reducible first | exact HB.out | apply below_alloc | apply pw_below_drewN | apply below_drew1 | refine below_set ?_ GE627.out | refine below_set ?_ GE638.out | refine below_set ?_ GE644.out | refine below_set ?_ GE650.out) | exact HB.out)⟩⟩
                · replace c55 := Bool.eq_false_iff.mpr c55
                  subst c55
                  have H1 : (laws_FnLogLines.j1 kj9 t628 false t637 false t633 t634 t635) = some r := by rw [if_neg (show ¬ (false = true) by decide)] at H; exact H
                  clear H
                  have H := H1
                  clear H1
                  have H' := Aside0.mk H
                  clear H
                  go_wp2
                  go_meet
                  case rel => exact ⟨_, (false), (by first | rfl | (simp; done) | (simp [*]; done)), H', ⟨by have := HJ9.out; first | omega | exact Nat.le_refl _⟩, ⟨by (with_reducible repeat (first | refine blk_drewN ?_ _ | refine blk_drew ?_ | refine blk_alloc ?_ _)); refine blk_far ?_ NB627_650.out _; (with_reducible repeat (first | refine blk_drewN ?_ _ | refine blk_drew ?_ | refine blk_alloc ?_ _)); refine blk_far ?_ NB627_650.out _; (with_reducible repeat (first | refine blk_drewN ?_ _ | refine blk_drew ?_ | refine blk_alloc ?_ _)); refine blk_far ?_ NB627_650.out _; (with_reducible repeat (first | refine blk_drewN ?_ _ | refine blk_drew ?_ | refine blk_alloc ?_ _)); exact BK627.out⟩, ⟨by (with_reducible repeat (first | refine blk_drewN ?_ _ | refine blk_drew ?_ | refine blk_alloc ?_ _)); refine blk_far ?_ NB638_650.out _; (with_reducible repeat (first | refine blk_drewN ?_ _ | refine blk_drew ?_ | refine blk_alloc ?_ _)); refine blk_far ?_ NB638_650.out _; (with_reducible repeat (first | refine blk_drewN ?_ _ | refine blk_drew ?_ | refine blk_alloc ?_ _)); refine blk_far ?_ NB638_650.out _; (with_reducible repeat (first | refine blk_drewN ?_ _ | refine blk_drew ?_ | refine blk_alloc ?_ _)); exact BK638.out⟩, ⟨by (with_reducible repeat (first | refine blk_drewN ?_ _ | refine blk_drew ?_ | refine blk_alloc ?_ _)); refine blk_far ?_ NB644_650.out _; (with_reducible repeat (first | refine blk_drewN ?_ _ | refine blk_drew ?_ | refine blk_alloc ?_ _)); refine blk_far ?_ NB644_650.out _; (with_reducible repeat (first | refine blk_drewN ?_ _ | refine blk_drew ?_ | refine blk_alloc ?_ _)); refine blk_far ?_ NB644_650.out _; (with_reducible repeat (first | refine blk_drewN ?_ _ | refine blk_drew ?_ | refine blk_alloc ?_ _)); exact BK644.out⟩, ⟨by (with_reducible repeat (first | refine blk_drewN ?_ _ | refine blk_drew ?_ | refine blk_alloc ?_ _)); refine blk_put (cs := #[.string t645, .string t646, .int .i64 0]) ?_ 2 _ rfl; (with_reducible repeat (first | refine blk_drewN ?_ _ | refine blk_drew ?_ | refine blk_alloc ?_ _)); refine blk_put (cs := #[.string t645, .string (⟨#[]⟩ : ByteArray), .int .i64 0]) ?_ 1 _ rfl; (with_reducible repeat (first | refine blk_drewN ?_ _ | refine blk_drew ?_ | refine blk_alloc ?_ _)); refine blk_put (cs := #[.string (⟨#[]⟩ : ByteArray), .string (⟨#[]⟩ : ByteArray), .int .i64 0]) ?_ 0 _ rfl; (with_reducible repeat (first | refine blk_drewN ?_ _ | refine blk_drew ?_ | refine blk_alloc ?_ _)); exact BK650.out⟩, ⟨by repeat (first | (with_reducible first | exact HB.out | apply below_alloc | apply pw_below_drewN | apply below_drew1 | refine below_set ?_ GE627.out | refine below_set ?_ GE638.out | refine below_set ?_ GE644.out | refine below_set ?_ GE650.out) | exact HB.out)⟩⟩
            case rest =>
              as_aux_lemma =>
                clear HC48
                try clear c1
                try clear c2
                try clear p2
                try clear c3
                try clear c4
                try clear c5
                try clear c6
                try clear c11
                try clear c14
                try clear c16
                try clear c17
                try clear c18
                try clear c20
                try clear c24
                try clear c25
                try clear c27
                try clear c27b0
                try clear c27b1
                try clear c28
                try clear c28b0
                try clear c28b1
                try clear c28b2
                try clear c29
                try clear c29b0
                try clear c30
                try clear c31
                try clear c33
                try clear c35
                try clear c35b0
                try clear c35b1
                try clear c36
                try clear c37
                try clear c39
                try clear c40
                try clear c41
                try clear c42
                try clear c44
                try clear c46
                try clear c51
                try clear c52
                try clear c53
                try clear c55
                try clear c56
                try clear c56b0
                try clear c56b1
                try clear c56b2
                try clear c57
                try clear c57b0
                try clear c57b1
                try clear c58
                try clear c59
                try clear c60
                try clear hcz13_0
                try clear hcz13_1
                try clear hcz15_0
                try clear hcz15_1
                try clear hcz21_0
                try clear hcz21_1
                try clear hcz21_2
                try clear hcz26_0
                try clear hcz26_1
                try clear hcz26_2
                try clear hcz32_0
                try clear hcz32_1
                try clear hcz32_2
                try clear hcz34_0
                try clear hcz34_1
                try clear hcz34_2
                try clear hcz38_0
                try clear hcz38_1
                try clear hcz38_2
                try clear hcz40_0
                try clear hcz40_1
                try clear hcz40_2
                try clear hcz43_0
                try clear hcz43_1
                try clear hcz43_2
                try clear hcz45_0
                try clear hcz45_1
                try clear hcz45_2
                try clear hcz54_0
                try clear hcz54_1
                try clear hcz54_2
                try clear hcz61_0
                try clear hcz61_1
                try clear hcz61_2
                try clear hfz13_0
                try clear hfz13_1
                try clear hfz15_0
                try clear hfz15_1
                try clear hfz21_0
                try clear hfz21_1
                try clear hfz21_2
                try clear hfz26_0
                try clear hfz26_1
                try clear hfz26_2
                try clear hfz32_0
                try clear hfz32_1
                try clear hfz32_2
                try clear hfz34_0
                try clear hfz34_1
                try clear hfz34_2
                try clear hfz38_0
                try clear hfz38_1
                try clear hfz38_2
                try clear hfz40_0
                try clear hfz40_1
                try clear hfz40_2
                try clear hfz43_0
                try clear hfz43_1
                try clear hfz43_2
                try clear hfz45_0
                try clear hfz45_1
                try clear hfz45_2
                try clear hfz54_0
                try clear hfz54_1
                try clear hfz54_2
                try clear hfz61_0
                try clear hfz61_1
                try clear hfz61_2
                try clear p2
                obtain ⟨kq, x102_47, rfl, HA, HJ47, BK627, BK638, BK644, BK650, HB⟩ := hcut
                cases kq with
                | zero => exact absurd HA.out (by simp [laws_FnLogLines.j1])
                | succ kj47 =>
                  have H := HA.out
                  clear HA
                  simp only [laws_FnLogLines.j1] at H
                  by_cases c62 : x102_47 = true
                  · subst c62
                    have H1 : (some false) = some r := by rw [if_pos rfl] at H; exact H
                    exact absurd ((Option.some.inj H1).trans hrt_) (by decide)
                  · replace c62 := Bool.eq_false_iff.mpr c62
                    subst c62
                    have H1 : ((impl_SyncLog.f kj47 t633 t634 t635).bind fun bt651 => (if t637 = true then (if bt651.2.2.2 = true then (if (bt651.1.toList == t633.toList && (bt651.2.1.toList == t634.toList && (bt651.2.2.1 == t635))) = true then ((impl_IsValidLog.f kj47 t633 t634 t635).bind fun t656 => (if t656 = true then (if t629 = true then (some true) else (some (t628.toList == ([] : List UInt8)))) else (some false))) else (some false)) else (some false)) else (some true))) = some r := by rw [if_neg (show ¬ (false = true) by decide)] at H; exact H
                    clear H
                    have H := H1
                    clear H1
                    replace H := Option.bind_eq_some_iff.mp H
                    obtain ⟨⟨t651, t652, t653, t654⟩, A630, H⟩ := H
                    replace H : (if t637 = true then (if t654 = true then (if (t651.toList == t633.toList && (t652.toList == t634.toList && (t653 == t635))) = true then ((impl_IsValidLog.f kj47 t633 t634 t635).bind fun t656 => (if t656 = true then (if t629 = true then (some true) else (some (t628.toList == ([] : List UInt8)))) else (some false))) else (some false)) else (some false)) else (some true)) = some r := H
                    have A63 := Aside0.mk A630
                    clear A630
                    by_cases c64 : t637 = true
                    · subst c64
                      have H1 : (if t654 = true then (if (t651.toList == t633.toList && (t652.toList == t634.toList && (t653 == t635))) = true then ((impl_IsValidLog.f kj47 t633 t634 t635).bind fun t656 => (if t656 = true then (if t629 = true then (some true) else (some (t628.toList == ([] : List UInt8)))) else (some false))) else (some false)) else (some false)) = some r := by rw [if_pos rfl] at H; exact H
                      clear H
                      have H := H1
                      clear H1
                      by_cases c65 : t654 = true
                      · subst c65
                        have H1 : (if (t651.toList == t633.toList && (t652.toList == t634.toList && (t653 == t635))) = true then ((impl_IsValidLog.f kj47 t633 t634 t635).bind fun t656 => (if t656 = true then (if t629 = true then (some true) else (some (t628.toList == ([] : List UInt8)))) else (some false))) else (some false)) = some r := by rw [if_pos rfl] at H; exact H
                        clear H
                        have H := H1
                        clear H1
                        by_cases c66 : (t651.toList == t633.toList && (t652.toList == t634.toList && (t653 == t635))) = true
                        · rw [if_pos c66] at H
                          have c66b0 : (t651.toList == t633.toList && (t652.toList == t634.toList && (t653 == t635))) = true := c66
                          (try (have c66b1 : decide (t651.toList = t633.toList && (t652.toList == t634.toList && (t653 == t635))) = true := by simpa using c66))
                          (try (have c66b2 : (t651.toList == t633.toList && (t652.toList == t634.toList && (t653 == t635))) = true := by simpa using c66))
                          clear c66
                          replace H := Option.bind_eq_some_iff.mp H
                          obtain ⟨t656, A670, H⟩ := H
                          replace H : (if t656 = true then (if t629 = true then (some true) else (some (t628.toList == ([] : List UInt8)))) else (some false)) = some r := H
                          have A67 := Aside0.mk A670
                          clear A670
                          by_cases c68 : t656 = true
                          · subst c68
                            have H1 : (if t629 = true then (some true) else (some (t628.toList == ([] : List UInt8)))) = some r := by rw [if_pos rfl] at H; exact H
                            clear H
                            have H := H1
                            clear H1
                            by_cases c69 : t629 = true
                            · subst c69
                              have H1 : (some true) = some r := by rw [if_pos rfl] at H; exact H
                              clear H
                              have H := H1
                              clear H1
                              obtain rfl := Option.some.inj H
                              have hnb70 := NB638_627.out
                              have hnc70 := NB627_638.out
                              have hnb71 := NB638_644.out
                              have hnc71 := NB644_638.out
                              have hnb72 := NB638_650.out
                              have hnc72 := NB650_638.out
                              have hcz73_0 : wc.cell? ⟨gb638, 0, none⟩ = some (.string t633) := (blk_cell BK638.out 0).trans rfl
                              have hcz73_1 : wc.cell? ⟨gb638, 1, none⟩ = some (.string t634) := (blk_cell BK638.out 1).trans rfl
                              have hcz73_2 : wc.cell? ⟨gb638, 2, none⟩ = some (.int .i64 t635) := (blk_cell BK638.out 2).trans rfl
                              have hfz73_0 := blk_frozen BK638.out 0
                              have hfz73_1 := blk_frozen BK638.out 1
                              have hfz73_2 := blk_frozen BK638.out 2
                              go_wp2_with (first | ((with_reducible refine gate_callee (f := 27) rfl ?_); refine goesL_ (some 105) rfl rfl Tryd.func27 (by kernel_rfl) rfl #[.agg #[.string t633, .string t634, .int .i64 t635]] rfl (by (try simp only [List.map_toArray, List.map_cons, List.map_nil]); first | done | rfl | (simp only [List.length_drop, List.length_take]; rfl)) ?_; (with_reducible refine (impl_SyncLog.calls kj47 t633 t634 t635 t651 t652 t653 true _ A63.out ?sideG).mono ?_); (case sideG => exact (gw_below HG.out (by repeat (first | (with_reducible first | exact HB.out | apply below_alloc | apply pw_below_drewN | apply below_drew1 | refine below_set ?_ GE627.out | refine below_set ?_ GE638.out | refine below_set ?_ GE644.out | refine below_set ?_ GE650.out) | exact HB.out)))); rintro e w74 ⟨rfl, hb⟩; refine ⟨_, rfl, ?_⟩; have n0_ := Aside0.mk (blk_below (g := gb627) (o := .cells #[.string t625, .string t626] 27 (0, 0)) BK627.out hb); have n1_ := Aside0.mk (blk_below (g := gb638) (o := .cells #[.string t633, .string t634, .int .i64 t635] 31 (0, 0)) BK638.out hb); have n2_ := Aside0.mk (blk_below (g := gb644) (o := .cells #[.string t639, .string t640, .int .i64 t641] 31 (0, 0)) BK644.out hb); have n3_ := Aside0.mk (blk_below (g := gb650) (o := .cells #[.string t645, .string t646, .int .i64 t647] 31 (0, 0)) BK650.out hb); have n4_ := Aside0.mk (below_step (by repeat (first | (with_reducible first | exact HB.out | apply below_alloc | apply pw_below_drewN | apply below_drew1 | refine below_set ?_ GE627.out | refine below_set ?_ GE638.out | refine below_set ?_ GE644.out | refine below_set ?_ GE650.out) | exact HB.out)) hb); clear BK627; clear BK638; clear BK644; clear BK650; clear HB; have BK627 := n0_; have BK638 := n1_; have BK644 := n2_; have BK650 := n3_; have HB := n4_; clear n0_ n1_ n2_ n3_ n4_; (try clear hb); (try clear hb2); (try clear hk); (try clear hi)) | ((with_reducible refine gate_dst (N := 19) rfl ?_); refine box_event ?hg (N := 19) ?hd (cs := #[.string (⟨#[]⟩ : ByteArray), .string (⟨#[]⟩ : ByteArray), .int .i64 0]) (t := 31) ?hr ?_; (case hd => rfl); (case hg => rfl); (case hr => first | (go_simp; done) | (go_simp; rfl)); intro gb655 hg w75 hbox hb; have n0_ := Aside0.mk (blk_below (g := gb627) (o := .cells #[.string t625, .string t626] 27 (0, 0)) BK627.out hb); have n1_ := Aside0.mk (blk_below (g := gb638) (o := .cells #[.string t633, .string t634, .int .i64 t635] 31 (0, 0)) BK638.out hb); have n2_ := Aside0.mk (blk_below (g := gb644) (o := .cells #[.string t639, .string t640, .int .i64 t641] 31 (0, 0)) BK644.out hb); have n3_ := Aside0.mk (blk_below (g := gb650) (o := .cells #[.string t645, .string t646, .int .i64 t647] 31 (0, 0)) BK650.out hb); have n4_ := Aside0.mk (below_step (by repeat (first | (with_reducible first | exact HB.out | apply below_alloc | apply pw_below_drewN | apply below_drew1 | refine below_set ?_ GE627.out | refine below_set ?_ GE638.out | refine below_set ?_ GE644.out | refine below_set ?_ GE650.out) | exact HB.out)) hb); have n5_ := Aside0.mk (hbox); have n6_ := Aside0.mk ((by rw [hg]; exact (below_size (by repeat (first | (with_reducible first | exact HB.out | apply below_alloc | apply pw_below_drewN | apply below_drew1 | refine below_set ?_ GE627.out | refine below_set ?_ GE638.out | refine below_set ?_ GE644.out | refine below_set ?_ GE650.out) | exact HB.out))) : w.heap.size ≤ gb655)); have n7_ := Aside0.mk ((by rw [hg]; exact (below_size (by repeat (first | (with_reducible first | exact HB.out | apply below_alloc | apply pw_below_drewN | apply below_drew1 | refine below_set ?_ GE627.out | refine below_set ?_ GE638.out | refine below_set ?_ GE644.out | refine below_set ?_ GE650.out) | exact HB.out))) : w.heap.size ≤ gb655)); have n8_ := Aside0.mk ((by rw [hg]; exact Nat.ne_of_lt (blk_lt (g := gb627) (o := .cells #[.string t625, .string t626] 27 (0, 0)) BK627.out) : gb627 ≠ gb655)); have n9_ := Aside0.mk ((by rw [hg]; exact Nat.ne_of_gt (blk_lt (g := gb627) (o := .cells #[.string t625, .string t626] 27 (0, 0)) BK627.out) : gb655 ≠ gb627)); have n10_ := Aside0.mk ((by rw [hg]; exact Nat.ne_of_lt (blk_lt (g := gb638) (o := .cells #[.string t633, .string t634, .int .i64 t635] 31 (0, 0)) BK638.out) : gb638 ≠ gb655)); have n11_ := Aside0.mk ((by rw [hg]; exact Nat.ne_of_gt (blk_lt (g := gb638) (o := .cells #[.string t633, .string t634, .int .i64 t635] 31 (0, 0)) BK638.out) : gb655 ≠ gb638)); have n12_ := Aside0.mk ((by rw [hg]; exact Nat.ne_of_lt (blk_lt (g := gb644) (o := .cells #[.string t639, .string t640, .int .i64 t641] 31 (0, 0)) BK644.out) : gb644 ≠ gb655)); have n13_ := Aside0.mk ((by rw [hg]; exact Nat.ne_of_gt (blk_lt (g := gb644) (o := .cells #[.string t639, .string t640, .int .i64 t641] 31 (0, 0)) BK644.out) : gb655 ≠ gb644)); have n14_ := Aside0.mk ((by rw [hg]; exact Nat.ne_of_lt (blk_lt (g := gb650) (o := .cells #[.string t645, .string t646, .int .i64 t647] 31 (0, 0)) BK650.out) : gb650 ≠ gb655)); have n15_ := Aside0.mk ((by rw [hg]; exact Nat.ne_of_gt (blk_lt (g := gb650) (o := .cells #[.string t645, .string t646, .int .i64 t647] 31 (0, 0)) BK650.out) : gb655 ≠ gb650)); clear BK627; clear BK638; clear BK644; clear BK650; clear HB; have BK627 := n0_; have BK638 := n1_; have BK644 := n2_; have BK650 := n3_; have HB := n4_; have BK655 := n5_; have GW655 := n6_; have GE655 := n7_; have NB627_655 := n8_; have NB655_627 := n9_; have NB638_655 := n10_; have NB655_638 := n11_; have NB644_655 := n12_; have NB655_644 := n13_; have NB650_655 := n14_; have NB655_650 := n15_; clear n0_ n1_ n2_ n3_ n4_ n5_ n6_ n7_ n8_ n9_ n10_ n11_ n12_ n13_ n14_ n15_; clear hb hbox hg; have hnb76 := NB655_627.out; have hnc76 := NB627_655.out; have hnb77 := NB655_638.out; have hnc77 := NB638_655.out; have hnb78 := NB655_644.out; have hnc78 := NB644_655.out; have hnb79 := NB655_650.out; have hnc79 := NB650_655.out; have hcz80_0 : w75.cell? ⟨gb655, 0, none⟩ = some (.string (⟨#[]⟩ : ByteArray)) := (blk_cell BK655.out 0).trans rfl; have hcz80_1 : w75.cell? ⟨gb655, 1, none⟩ = some (.string (⟨#[]⟩ : ByteArray)) := (blk_cell BK655.out 1).trans rfl; have hcz80_2 : w75.cell? ⟨gb655, 2, none⟩ = some (.int .i64 0) := (blk_cell BK655.out 2).trans rfl; have hfz80_0 := blk_frozen BK655.out 0; have hfz80_1 := blk_frozen BK655.out 1; have hfz80_2 := blk_frozen BK655.out 2; have hcz81_0 : w75.cell? ⟨gb638, 0, none⟩ = some (.string t633) := (blk_cell BK638.out 0).trans rfl; have hcz81_1 : w75.cell? ⟨gb638, 1, none⟩ = some (.string t634) := (blk_cell BK638.out 1).trans rfl; have hcz81_2 : w75.cell? ⟨gb638, 2, none⟩ = some (.int .i64 t635) := (blk_cell BK638.out 2).trans rfl; have hfz81_0 := blk_frozen BK638.out 0; have hfz81_1 := blk_frozen BK638.out 1; have hfz81_2 := blk_frozen BK638.out 2) | (go_at_call 23; (with_reducible refine (impl_IsValidLog.calls kj47 t633 t634 t635 true _ A67.out ?sideG).mono ?_); (case sideG => exact (gw_below HG.out (by repeat (first | (with_reducible first | exact HB.out | apply below_alloc | apply pw_below_drewN | apply below_drew1 | refine below_set ?_ GE627.out | refine below_set ?_ GE638.out | refine below_set ?_ GE644.out | refine below_set ?_ GE650.out | refine below_set ?_ GE655.out) | exact HB.out)))); rintro e w82 ⟨rfl, hb⟩; have n0_ := Aside0.mk (blk_below (g := gb627) (o := .cells #[.string t625, .string t626] 27 (0, 0)) (by (with_reducible repeat (first | refine blk_drewN ?_ _ | refine blk_drew ?_ | refine blk_alloc ?_ _)); refine blk_far ?_ NB627_655.out _; (with_reducible repeat (first | refine blk_drewN ?_ _ | refine blk_drew ?_ | refine blk_alloc ?_ _)); refine blk_far ?_ NB627_655.out _; (with_reducible repeat (first | refine blk_drewN ?_ _ | refine blk_drew ?_ | refine blk_alloc ?_ _)); refine blk_far ?_ NB627_655.out _; (with_reducible repeat (first | refine blk_drewN ?_ _ | refine blk_drew ?_ | refine blk_alloc ?_ _)); exact BK627.out) hb); have n1_ := Aside0.mk (blk_below (g := gb638) (o := .cells #[.string t633, .string t634, .int .i64 t635] 31 (0, 0)) (by (with_reducible repeat (first | refine blk_drewN ?_ _ | refine blk_drew ?_ | refine blk_alloc ?_ _)); refine blk_far ?_ NB638_655.out _; (with_reducible repeat (first | refine blk_drewN ?_ _ | refine blk_drew ?_ | refine blk_alloc ?_ _)); refine blk_far ?_ NB638_655.out _; (with_reducible repeat (first | refine blk_drewN ?_ _ | refine blk_drew ?_ | refine blk_alloc ?_ _)); refine blk_far ?_ NB638_655.out _; (with_reducible repeat (first | refine blk_drewN ?_ _ | refine blk_drew ?_ | refine blk_alloc ?_ _)); exact BK638.out) hb); have n2_ := Aside0.mk (blk_below (g := gb644) (o := .cells #[.string t639, .string t640, .int .i64 t641] 31 (0, 0)) (by (with_reducible repeat (first | refine blk_drewN ?_ _ | refine blk_drew ?_ | refine blk_alloc ?_ _)); refine blk_far ?_ NB644_655.out _; (with_reducible repeat (first | refine blk_drewN ?_ _ | refine blk_drew ?_ | refine blk_alloc ?_ _)); refine blk_far ?_ NB644_655.out _; (with_reducible repeat (first | refine blk_drewN ?_ _ | refine blk_drew ?_ | refine blk_alloc ?_ _)); refine blk_far ?_ NB644_655.out _; (with_reducible repeat (first | refine blk_drewN ?_ _ | refine blk_drew ?_ | refine blk_alloc ?_ _)); exact BK644.out) hb); have n3_ := Aside0.mk (blk_below (g := gb650) (o := .cells #[.string t645, .string t646, .int .i64 t647] 31 (0, 0)) (by (with_reducible repeat (first | refine blk_drewN ?_ _ | refine blk_drew ?_ | refine blk_alloc ?_ _)); refine blk_far ?_ NB650_655.out _; (with_reducible repeat (first | refine blk_drewN ?_ _ | refine blk_drew ?_ | refine blk_alloc ?_ _)); refine blk_far ?_ NB650_655.out _; (with_reducible repeat (first | refine blk_drewN ?_ _ | refine blk_drew ?_ | refine blk_alloc ?_ _)); refine blk_far ?_ NB650_655.out _; (with_reducible repeat (first | refine blk_drewN ?_ _ | refine blk_drew ?_ | refine blk_alloc ?_ _)); exact BK650.out) hb); have n4_ := Aside0.mk (blk_below (g := gb655) (o := .cells #[.string t651, .string t652, .int .i64 t653] 31 (0, 0)) (by (with_reducible repeat (first | refine blk_drewN ?_ _ | refine blk_drew ?_ | refine blk_alloc ?_ _)); refine blk_put (cs := #[.string t651, .string t652, .int .i64 0]) ?_ 2 _ rfl; (with_reducible repeat (first | refine blk_drewN ?_ _ | refine blk_drew ?_ | refine blk_alloc ?_ _)); refine blk_put (cs := #[.string t651, .string (⟨#[]⟩ : ByteArray), .int .i64 0]) ?_ 1 _ rfl; (with_reducible repeat (first | refine blk_drewN ?_ _ | refine blk_drew ?_ | refine blk_alloc ?_ _)); refine blk_put (cs := #[.string (⟨#[]⟩ : ByteArray), .string (⟨#[]⟩ : ByteArray), .int .i64 0]) ?_ 0 _ rfl; (with_reducible repeat (first | refine blk_drewN ?_ _ | refine blk_drew ?_ | refine blk_alloc ?_ _)); exact BK655.out) hb); have n5_ := Aside0.mk (below_step (by repeat (first | (with_reducible first | exact HB.out | apply below_alloc | apply pw_below_drewN | apply below_drew1 | refine below_set ?_ GE627.out | refine below_set ?_ GE638.out | refine below_set ?_ GE644.out | refine below_set ?_ GE650.out | refine below_set ?_ GE655.out) | exact HB.out)) hb); clear BK627; clear BK638; clear BK644; clear BK650; clear BK655; clear HB; have BK627 := n0_; have BK638 := n1_; have BK644 := n2_; have BK650 := n3_; have BK655 := n4_; have HB := n5_; clear n0_ n1_ n2_ n3_ n4_ n5_; (try clear hb); (try clear hb2); (try clear hk); (try clear hi)))
                              go_ret
                              exact ⟨by first | rfl | (simp [errW_none, errW_some] <;> rfl) | (simp [*, errW_none, errW_some] <;> rfl), by repeat (first | (with_reducible first | exact HB.out | apply below_alloc | apply pw_below_drewN | apply below_drew1 | refine below_set ?_ GE627.out | refine below_set ?_ GE638.out | refine below_set ?_ GE644.out | refine below_set ?_ GE650.out | refine below_set ?_ GE655.out) | exact HB.out)⟩
                            · replace c69 := Bool.eq_false_iff.mpr c69
                              subst c69
                              have H1 : (some (t628.toList == ([] : List UInt8))) = some r := by rw [if_neg (show ¬ (false = true) by decide)] at H; exact H
                              clear H
                              have H := H1
                              clear H1
                              obtain rfl := Option.some.inj H
                              have hnb83 := NB638_627.out
                              have hnc83 := NB627_638.out
                              have hnb84 := NB638_644.out
                              have hnc84 := NB644_638.out
                              have hnb85 := NB638_650.out
                              have hnc85 := NB650_638.out
                              have hcz86_0 : wc.cell? ⟨gb638, 0, none⟩ = some (.string t633) := (blk_cell BK638.out 0).trans rfl
                              have hcz86_1 : wc.cell? ⟨gb638, 1, none⟩ = some (.string t634) := (blk_cell BK638.out 1).trans rfl
                              have hcz86_2 : wc.cell? ⟨gb638, 2, none⟩ = some (.int .i64 t635) := (blk_cell BK638.out 2).trans rfl
                              have hfz86_0 := blk_frozen BK638.out 0
                              have hfz86_1 := blk_frozen BK638.out 1
                              have hfz86_2 := blk_frozen BK638.out 2
                              go_wp2_with (first | ((with_reducible refine gate_callee (f := 27) rfl ?_); refine goesL_ (some 105) rfl rfl Tryd.func27 (by kernel_rfl) rfl #[.agg #[.string t633, .string t634, .int .i64 t635]] rfl (by (try simp only [List.map_toArray, List.map_cons, List.map_nil]); first | done | rfl | (simp only [List.length_drop, List.length_take]; rfl)) ?_; (with_reducible refine (impl_SyncLog.calls kj47 t633 t634 t635 t651 t652 t653 true _ A63.out ?sideG).mono ?_); (case sideG => exact (gw_below HG.out (by repeat (first | (with_reducible first | exact HB.out | apply below_alloc | apply pw_below_drewN | apply below_drew1 | refine below_set ?_ GE627.out | refine below_set ?_ GE638.out | refine below_set ?_ GE644.out | refine below_set ?_ GE650.out) | exact HB.out)))); rintro e w87 ⟨rfl, hb⟩; refine ⟨_, rfl, ?_⟩; have n0_ := Aside0.mk (blk_below (g := gb627) (o := .cells #[.string t625, .string t626] 27 (0, 0)) BK627.out hb); have n1_ := Aside0.mk (blk_below (g := gb638) (o := .cells #[.string t633, .string t634, .int .i64 t635] 31 (0, 0)) BK638.out hb); have n2_ := Aside0.mk (blk_below (g := gb644) (o := .cells #[.string t639, .string t640, .int .i64 t641] 31 (0, 0)) BK644.out hb); have n3_ := Aside0.mk (blk_below (g := gb650) (o := .cells #[.string t645, .string t646, .int .i64 t647] 31 (0, 0)) BK650.out hb); have n4_ := Aside0.mk (below_step (by repeat (first | (with_reducible first | exact HB.out | apply below_alloc | apply pw_below_drewN | apply below_drew1 | refine below_set ?_ GE627.out | refine below_set ?_ GE638.out | refine below_set ?_ GE644.out | refine below_set ?_ GE650.out) | exact HB.out)) hb); clear BK627; clear BK638; clear BK644; clear BK650; clear HB; have BK627 := n0_; have BK638 := n1_; have BK644 := n2_; have BK650 := n3_; have HB := n4_; clear n0_ n1_ n2_ n3_ n4_; (try clear hb); (try clear hb2); (try clear hk); (try clear hi)) | ((with_reducible refine gate_dst (N := 19) rfl ?_); refine box_event ?hg (N := 19) ?hd (cs := #[.string (⟨#[]⟩ : ByteArray), .string (⟨#[]⟩ : ByteArray), .int .i64 0]) (t := 31) ?hr ?_; (case hd => rfl); (case hg => rfl); (case hr => first | (go_simp; done) | (go_simp; rfl)); intro gb655 hg w88 hbox hb; have n0_ := Aside0.mk (blk_below (g := gb627) (o := .cells #[.string t625, .string t626] 27 (0, 0)) BK627.out hb); have n1_ := Aside0.mk (blk_below (g := gb638) (o := .cells #[.string t633, .string t634, .int .i64 t635] 31 (0, 0)) BK638.out hb); have n2_ := Aside0.mk (blk_below (g := gb644) (o := .cells #[.string t639, .string t640, .int .i64 t641] 31 (0, 0)) BK644.out hb); have n3_ := Aside0.mk (blk_below (g := gb650) (o := .cells #[.string t645, .string t646, .int .i64 t647] 31 (0, 0)) BK650.out hb); have n4_ := Aside0.mk (below_step (by repeat (first | (with_reducible first | exact HB.out | apply below_alloc | apply pw_below_drewN | apply below_drew1 | refine below_set ?_ GE627.out | refine below_set ?_ GE638.out | refine below_set ?_ GE644.out | refine below_set ?_ GE650.out) | exact HB.out)) hb); have n5_ := Aside0.mk (hbox); have n6_ := Aside0.mk ((by rw [hg]; exact (below_size (by repeat (first | (with_reducible first | exact HB.out | apply below_alloc | apply pw_below_drewN | apply below_drew1 | refine below_set ?_ GE627.out | refine below_set ?_ GE638.out | refine below_set ?_ GE644.out | refine below_set ?_ GE650.out) | exact HB.out))) : w.heap.size ≤ gb655)); have n7_ := Aside0.mk ((by rw [hg]; exact (below_size (by repeat (first | (with_reducible first | exact HB.out | apply below_alloc | apply pw_below_drewN | apply below_drew1 | refine below_set ?_ GE627.out | refine below_set ?_ GE638.out | refine below_set ?_ GE644.out | refine below_set ?_ GE650.out) | exact HB.out))) : w.heap.size ≤ gb655)); have n8_ := Aside0.mk ((by rw [hg]; exact Nat.ne_of_lt (blk_lt (g := gb627) (o := .cells #[.string t625, .string t626] 27 (0, 0)) BK627.out) : gb627 ≠ gb655)); have n9_ := Aside0.mk ((by rw [hg]; exact Nat.ne_of_gt (blk_lt (g := gb627) (o := .cells #[.string t625, .string t626] 27 (0, 0)) BK627.out) : gb655 ≠ gb627)); have n10_ := Aside0.mk ((by rw [hg]; exact Nat.ne_of_lt (blk_lt (g := gb638) (o := .cells #[.string t633, .string t634, .int .i64 t635] 31 (0, 0)) BK638.out) : gb638 ≠ gb655)); have n11_ := Aside0.mk ((by rw [hg]; exact Nat.ne_of_gt (blk_lt (g := gb638) (o := .cells #[.string t633, .string t634, .int .i64 t635] 31 (0, 0)) BK638.out) : gb655 ≠ gb638)); have n12_ := Aside0.mk ((by rw [hg]; exact Nat.ne_of_lt (blk_lt (g := gb644) (o := .cells #[.string t639, .string t640, .int .i64 t641] 31 (0, 0)) BK644.out) : gb644 ≠ gb655)); have n13_ := Aside0.mk ((by rw [hg]; exact Nat.ne_of_gt (blk_lt (g := gb644) (o := .cells #[.string t639, .string t640, .int .i64 t641] 31 (0, 0)) BK644.out) : gb655 ≠ gb644)); have n14_ := Aside0.mk ((by rw [hg]; exact Nat.ne_of_lt (blk_lt (g := gb650) (o := .cells #[.string t645, .string t646, .int .i64 t647] 31 (0, 0)) BK650.out) : gb650 ≠ gb655)); have n15_ := Aside0.mk ((by rw [hg]; exact Nat.ne_of_gt (blk_lt (g := gb650) (o := .cells #[.string t645, .string t646, .int .i64 t647] 31 (0, 0)) BK650.out) : gb655 ≠ gb650)); clear BK627; clear BK638; clear BK644; clear BK650; clear HB; have BK627 := n0_; have BK638 := n1_; have BK644 := n2_; have BK650 := n3_; have HB := n4_; have BK655 := n5_; have GW655 := n6_; have GE655 := n7_; have NB627_655 := n8_; have NB655_627 := n9_; have NB638_655 := n10_; have NB655_638 := n11_; have NB644_655 := n12_; have NB655_644 := n13_; have NB650_655 := n14_; have NB655_650 := n15_; clear n0_ n1_ n2_ n3_ n4_ n5_ n6_ n7_ n8_ n9_ n10_ n11_ n12_ n13_ n14_ n15_; clear hb hbox hg; have hnb89 := NB655_627.out; have hnc89 := NB627_655.out; have hnb90 := NB655_638.out; have hnc90 := NB638_655.out; have hnb91 := NB655_644.out; have hnc91 := NB644_655.out; have hnb92 := NB655_650.out; have hnc92 := NB650_655.out; have hcz93_0 : w88.cell? ⟨gb655, 0, none⟩ = some (.string (⟨#[]⟩ : ByteArray)) := (blk_cell BK655.out 0).trans rfl; have hcz93_1 : w88.cell? ⟨gb655, 1, none⟩ = some (.string (⟨#[]⟩ : ByteArray)) := (blk_cell BK655.out 1).trans rfl; have hcz93_2 : w88.cell? ⟨gb655, 2, none⟩ = some (.int .i64 0) := (blk_cell BK655.out 2).trans rfl; have hfz93_0 := blk_frozen BK655.out 0; have hfz93_1 := blk_frozen BK655.out 1; have hfz93_2 := blk_frozen BK655.out 2; have hcz94_0 : w88.cell? ⟨gb638, 0, none⟩ = some (.string t633) := (blk_cell BK638.out 0).trans rfl; have hcz94_1 : w88.cell? ⟨gb638, 1, none⟩ = some (.string t634) := (blk_cell BK638.out 1).trans rfl; have hcz94_2 : w88.cell? ⟨gb638, 2, none⟩ = some (.int .i64 t635) := (blk_cell BK638.out 2).trans rfl; have hfz94_0 := blk_frozen BK638.out 0; have hfz94_1 := blk_frozen BK638.out 1; have hfz94_2 := blk_frozen BK638.out 2) | (go_at_call 23; (with_reducible refine (impl_IsValidLog.calls kj47 t633 t634 t635 true _ A67.out ?sideG).mono ?_); (case sideG => exact (gw_below HG.out (by repeat (first | (with_reducible first | exact HB.out | apply below_alloc | apply pw_below_drewN | apply below_drew1 | refine below_set ?_ GE627.out | refine below_set ?_ GE638.out | refine below_set ?_ GE644.out | refine below_set ?_ GE650.out | refine below_set ?_ GE655.out) | exact HB.out)))); rintro e w95 ⟨rfl, hb⟩; have n0_ := Aside0.mk (blk_below (g := gb627) (o := .cells #[.string t625, .string t626] 27 (0, 0)) (by (with_reducible repeat (first | refine blk_drewN ?_ _ | refine blk_drew ?_ | refine blk_alloc ?_ _)); refine blk_far ?_ NB627_655.out _; (with_reducible repeat (first | refine blk_drewN ?_ _ | refine blk_drew ?_ | refine blk_alloc ?_ _)); refine blk_far ?_ NB627_655.out _; (with_reducible repeat (first | refine blk_drewN ?_ _ | refine blk_drew ?_ | refine blk_alloc ?_ _)); refine blk_far ?_ NB627_655.out _; (with_reducible repeat (first | refine blk_drewN ?_ _ | refine blk_drew ?_ | refine blk_alloc ?_ _)); exact BK627.out) hb); have n1_ := Aside0.mk (blk_below (g := gb638) (o := .cells #[.string t633, .string t634, .int .i64 t635] 31 (0, 0)) (by (with_reducible repeat (first | refine blk_drewN ?_ _ | refine blk_drew ?_ | refine blk_alloc ?_ _)); refine blk_far ?_ NB638_655.out _; (with_reducible repeat (first | refine blk_drewN ?_ _ | refine blk_drew ?_ | refine blk_alloc ?_ _)); refine blk_far ?_ NB638_655.out _; (with_reducible repeat (first | refine blk_drewN ?_ _ | refine blk_drew ?_ | refine blk_alloc ?_ _)); refine blk_far ?_ NB638_655.out _; (with_reducible repeat (first | refine blk_drewN ?_ _ | refine blk_drew ?_ | refine blk_alloc ?_ _)); exact BK638.out) hb); have n2_ := Aside0.mk (blk_below (g := gb644) (o := .cells #[.string t639, .string t640, .int .i64 t641] 31 (0, 0)) (by (with_reducible repeat (first | refine blk_drewN ?_ _ | refine blk_drew ?_ | refine blk_alloc ?_ _)); refine blk_far ?_ NB644_655.out _; (with_reducible repeat (first | refine blk_drewN ?_ _ | refine blk_drew ?_ | refine blk_alloc ?_ _)); refine blk_far ?_ NB644_655.out _; (with_reducible repeat (first | refine blk_drewN ?_ _ | refine blk_drew ?_ | refine blk_alloc ?_ _)); refine blk_far ?_ NB644_655.out _; (with_reducible repeat (first | refine blk_drewN ?_ _ | refine blk_drew ?_ | refine blk_alloc ?_ _)); exact BK644.out) hb); have n3_ := Aside0.mk (blk_below (g := gb650) (o := .cells #[.string t645, .string t646, .int .i64 t647] 31 (0, 0)) (by (with_reducible repeat (first | refine blk_drewN ?_ _ | refine blk_drew ?_ | refine blk_alloc ?_ _)); refine blk_far ?_ NB650_655.out _; (with_reducible repeat (first | refine blk_drewN ?_ _ | refine blk_drew ?_ | refine blk_alloc ?_ _)); refine blk_far ?_ NB650_655.out _; (with_reducible repeat (first | refine blk_drewN ?_ _ | refine blk_drew ?_ | refine blk_alloc ?_ _)); refine blk_far ?_ NB650_655.out _; (with_reducible repeat (first | refine blk_drewN ?_ _ | refine blk_drew ?_ | refine blk_alloc ?_ _)); exact BK650.out) hb); have n4_ := Aside0.mk (blk_below (g := gb655) (o := .cells #[.string t651, .string t652, .int .i64 t653] 31 (0, 0)) (by (with_reducible repeat (first | refine blk_drewN ?_ _ | refine blk_drew ?_ | refine blk_alloc ?_ _)); refine blk_put (cs := #[.string t651, .string t652, .int .i64 0]) ?_ 2 _ rfl; (with_reducible repeat (first | refine blk_drewN ?_ _ | refine blk_drew ?_ | refine blk_alloc ?_ _)); refine blk_put (cs := #[.string t651, .string (⟨#[]⟩ : ByteArray), .int .i64 0]) ?_ 1 _ rfl; (with_reducible repeat (first | refine blk_drewN ?_ _ | refine blk_drew ?_ | refine blk_alloc ?_ _)); refine blk_put (cs := #[.string (⟨#[]⟩ : ByteArray), .string (⟨#[]⟩ : ByteArray), .int .i64 0]) ?_ 0 _ rfl; (with_reducible repeat (first | refine blk_drewN ?_ _ | refine blk_drew ?_ | refine blk_alloc ?_ _)); exact BK655.out) hb); have n5_ := Aside0.mk (below_step (by repeat (first | (with_reducible first | exact HB.out | apply below_alloc | apply pw_below_drewN | apply below_drew1 | refine below_set ?_ GE627.out | refine below_set ?_ GE638.out | refine below_set ?_ GE644.out | refine below_set ?_ GE650.out | refine below_set ?_ GE655.out) | exact HB.out)) hb); clear BK627; clear BK638; clear BK644; clear BK650; clear BK655; clear HB; have BK627 := n0_; have BK638 := n1_; have BK644 := n2_; have BK650 := n3_; have BK655 := n4_; have HB := n5_; clear n0_ n1_ n2_ n3_ n4_ n5_; (try clear hb); (try clear hb2); (try clear hk); (try clear hi)))
                              go_ret
                              exact ⟨by first | rfl | (simp [errW_none, errW_some] <;> rfl) | (simp [*, errW_none, errW_some] <;> rfl), by repeat (first | (with_reducible first | exact HB.out | apply below_alloc | apply pw_below_drewN | apply below_drew1 | refine below_set ?_ GE627.out | refine below_set ?_ GE638.out | refine below_set ?_ GE644.out | refine below_set ?_ GE650.out | refine below_set ?_ GE655.out) | exact HB.out)⟩
                          · replace c68 := Bool.eq_false_iff.mpr c68
                            subst c68
                            have H1 : (some false) = some r := by rw [if_neg (show ¬ (false = true) by decide)] at H; exact H
                            exact absurd ((Option.some.inj H1).trans hrt_) (by decide)
                        · rw [if_neg c66] at H
                          have c66b0 : (t651.toList == t633.toList && (t652.toList == t634.toList && (t653 == t635))) = false := by simpa using c66
                          (try (have c66b1 : decide (t651.toList = t633.toList && (t652.toList == t634.toList && (t653 == t635))) = false := by simpa using c66))
                          (try (have c66b2 : (t651.toList == t633.toList && (t652.toList == t634.toList && (t653 == t635))) = false := by simpa using c66))
                          (try (have c66b3 : ¬ (t651.toList = t633.toList && (t652.toList == t634.toList && (t653 == t635))) := by simpa using c66))
                          clear c66
                          exact absurd ((Option.some.inj H).trans hrt_) (by decide)
                      · replace c65 := Bool.eq_false_iff.mpr c65
                        subst c65
                        have H1 : (some false) = some r := by rw [if_neg (show ¬ (false = true) by decide)] at H; exact H
                        exact absurd ((Option.some.inj H1).trans hrt_) (by decide)
                    · replace c64 := Bool.eq_false_iff.mpr c64
                      subst c64
                      have H1 : (some true) = some r := by rw [if_neg (show ¬ (false = true) by decide)] at H; exact H
                      clear H
                      have H := H1
                      clear H1
                      obtain rfl := Option.some.inj H
                      have hnb132 := NB638_627.out
                      have hnc132 := NB627_638.out
                      have hnb133 := NB638_644.out
                      have hnc133 := NB644_638.out
                      have hnb134 := NB638_650.out
                      have hnc134 := NB650_638.out
                      have hcz135_0 : wc.cell? ⟨gb638, 0, none⟩ = some (.string t633) := (blk_cell BK638.out 0).trans rfl
                      have hcz135_1 : wc.cell? ⟨gb638, 1, none⟩ = some (.string t634) := (blk_cell BK638.out 1).trans rfl
                      have hcz135_2 : wc.cell? ⟨gb638, 2, none⟩ = some (.int .i64 t635) := (blk_cell BK638.out 2).trans rfl
                      have hfz135_0 := blk_frozen BK638.out 0
                      have hfz135_1 := blk_frozen BK638.out 1
                      have hfz135_2 := blk_frozen BK638.out 2
                      go_wp2_with (first | ((with_reducible refine gate_callee (f := 27) rfl ?_); refine goesL_ (some 105) rfl rfl Tryd.func27 (by kernel_rfl) rfl #[.agg #[.string t633, .string t634, .int .i64 t635]] rfl (by (try simp only [List.map_toArray, List.map_cons, List.map_nil]); first | done | rfl | (simp only [List.length_drop, List.length_take]; rfl)) ?_; (with_reducible refine (impl_SyncLog.calls kj47 t633 t634 t635 t651 t652 t653 t654 _ A63.out ?sideG).mono ?_); (case sideG => exact (gw_below HG.out (by repeat (first | (with_reducible first | exact HB.out | apply below_alloc | apply pw_below_drewN | apply below_drew1 | refine below_set ?_ GE627.out | refine below_set ?_ GE638.out | refine below_set ?_ GE644.out | refine below_set ?_ GE650.out) | exact HB.out)))); rintro e w136 ⟨rfl, hb⟩; refine ⟨_, rfl, ?_⟩; have n0_ := Aside0.mk (blk_below (g := gb627) (o := .cells #[.string t625, .string t626] 27 (0, 0)) BK627.out hb); have n1_ := Aside0.mk (blk_below (g := gb638) (o := .cells #[.string t633, .string t634, .int .i64 t635] 31 (0, 0)) BK638.out hb); have n2_ := Aside0.mk (blk_below (g := gb644) (o := .cells #[.string t639, .string t640, .int .i64 t641] 31 (0, 0)) BK644.out hb); have n3_ := Aside0.mk (blk_below (g := gb650) (o := .cells #[.string t645, .string t646, .int .i64 t647] 31 (0, 0)) BK650.out hb); have n4_ := Aside0.mk (below_step (by repeat (first | (with_reducible first | exact HB.out | apply below_alloc | apply pw_below_drewN | apply below_drew1 | refine below_set ?_ GE627.out | refine below_set ?_ GE638.out | refine below_set ?_ GE644.out | refine below_set ?_ GE650.out) | exact HB.out)) hb); clear BK627; clear BK638; clear BK644; clear BK650; clear HB; have BK627 := n0_; have BK638 := n1_; have BK644 := n2_; have BK650 := n3_; have HB := n4_; clear n0_ n1_ n2_ n3_ n4_; (try clear hb); (try clear hb2); (try clear hk); (try clear hi)) | ((with_reducible refine gate_dst (N := 19) rfl ?_); refine box_event ?hg (N := 19) ?hd (cs := #[.string (⟨#[]⟩ : ByteArray), .string (⟨#[]⟩ : ByteArray), .int .i64 0]) (t := 31) ?hr ?_; (case hd => rfl); (case hg => rfl); (case hr => first | (go_simp; done) | (go_simp; rfl)); intro gb655 hg w137 hbox hb; have n0_ := Aside0.mk (blk_below (g := gb627) (o := .cells #[.string t625, .string t626] 27 (0, 0)) BK627.out hb); have n1_ := Aside0.mk (blk_below (g := gb638) (o := .cells #[.string t633, .string t634, .int .i64 t635] 31 (0, 0)) BK638.out hb); have n2_ := Aside0.mk (blk_below (g := gb644) (o := .cells #[.string t639, .string t640, .int .i64 t641] 31 (0, 0)) BK644.out hb); have n3_ := Aside0.mk (blk_below (g := gb650) (o := .cells #[.string t645, .string t646, .int .i64 t647] 31 (0, 0)) BK650.out hb); have n4_ := Aside0.mk (below_step (by repeat (first | (with_reducible first | exact HB.out | apply below_alloc | apply pw_below_drewN | apply below_drew1 | refine below_set ?_ GE627.out | refine below_set ?_ GE638.out | refine below_set ?_ GE644.out | refine below_set ?_ GE650.out) | exact HB.out)) hb); have n5_ := Aside0.mk (hbox); have n6_ := Aside0.mk ((by rw [hg]; exact (below_size (by repeat (first | (with_reducible first | exact HB.out | apply below_alloc | apply pw_below_drewN | apply below_drew1 | refine below_set ?_ GE627.out | refine below_set ?_ GE638.out | refine below_set ?_ GE644.out | refine below_set ?_ GE650.out) | exact HB.out))) : w.heap.size ≤ gb655)); have n7_ := Aside0.mk ((by rw [hg]; exact (below_size (by repeat (first | (with_reducible first | exact HB.out | apply below_alloc | apply pw_below_drewN | apply below_drew1 | refine below_set ?_ GE627.out | refine below_set ?_ GE638.out | refine below_set ?_ GE644.out | refine below_set ?_ GE650.out) | exact HB.out))) : w.heap.size ≤ gb655)); have n8_ := Aside0.mk ((by rw [hg]; exact Nat.ne_of_lt (blk_lt (g := gb627) (o := .cells #[.string t625, .string t626] 27 (0, 0)) BK627.out) : gb627 ≠ gb655)); have n9_ := Aside0.mk ((by rw [hg]; exact Nat.ne_of_gt (blk_lt (g := gb627) (o := .cells #[.string t625, .string t626] 27 (0, 0)) BK627.out) : gb655 ≠ gb627)); have n10_ := Aside0.mk ((by rw [hg]; exact Nat.ne_of_lt (blk_lt (g := gb638) (o := .cells #[.string t633, .string t634, .int .i64 t635] 31 (0, 0)) BK638.out) : gb638 ≠ gb655)); have n11_ := Aside0.mk ((by rw [hg]; exact Nat.ne_of_gt (blk_lt (g := gb638) (o := .cells #[.string t633, .string t634, .int .i64 t635] 31 (0, 0)) BK638.out) : gb655 ≠ gb638)); have n12_ := Aside0.mk ((by rw [hg]; exact Nat.ne_of_lt (blk_lt (g := gb644) (o := .cells #[.string t639, .string t640, .int .i64 t641] 31 (0, 0)) BK644.out) : gb644 ≠ gb655)); have n13_ := Aside0.mk ((by rw [hg]; exact Nat.ne_of_gt (blk_lt (g := gb644) (o := .cells #[.string t639, .string t640, .int .i64 t641] 31 (0, 0)) BK644.out) : gb655 ≠ gb644)); have n14_ := Aside0.mk ((by rw [hg]; exact Nat.ne_of_lt (blk_lt (g := gb650) (o := .cells #[.string t645, .string t646, .int .i64 t647] 31 (0, 0)) BK650.out) : gb650 ≠ gb655)); have n15_ := Aside0.mk ((by rw [hg]; exact Nat.ne_of_gt (blk_lt (g := gb650) (o := .cells #[.string t645, .string t646, .int .i64 t647] 31 (0, 0)) BK650.out) : gb655 ≠ gb650)); clear BK627; clear BK638; clear BK644; clear BK650; clear HB; have BK627 := n0_; have BK638 := n1_; have BK644 := n2_; have BK650 := n3_; have HB := n4_; have BK655 := n5_; have GW655 := n6_; have GE655 := n7_; have NB627_655 := n8_; have NB655_627 := n9_; have NB638_655 := n10_; have NB655_638 := n11_; have NB644_655 := n12_; have NB655_644 := n13_; have NB650_655 := n14_; have NB655_650 := n15_; clear n0_ n1_ n2_ n3_ n4_ n5_ n6_ n7_ n8_ n9_ n10_ n11_ n12_ n13_ n14_ n15_; clear hb hbox hg; have hnb138 := NB655_627.out; have hnc138 := NB627_655.out; have hnb139 := NB655_638.out; have hnc139 := NB638_655.out; have hnb140 := NB655_644.out; have hnc140 := NB644_655.out; have hnb141 := NB655_650.out; have hnc141 := NB650_655.out; have hcz142_0 : w137.cell? ⟨gb655, 0, none⟩ = some (.string (⟨#[]⟩ : ByteArray)) := (blk_cell BK655.out 0).trans rfl; have hcz142_1 : w137.cell? ⟨gb655, 1, none⟩ = some (.string (⟨#[]⟩ : ByteArray)) := (blk_cell BK655.out 1).trans rfl; have hcz142_2 : w137.cell? ⟨gb655, 2, none⟩ = some (.int .i64 0) := (blk_cell BK655.out 2).trans rfl; have hfz142_0 := blk_frozen BK655.out 0; have hfz142_1 := blk_frozen BK655.out 1; have hfz142_2 := blk_frozen BK655.out 2))
                      go_ret
                      exact ⟨by first | rfl | (simp [errW_none, errW_some] <;> rfl) | (simp [*, errW_none, errW_some] <;> rfl), by repeat (first | (with_reducible first | exact HB.out | apply below_alloc | apply pw_below_drewN | apply below_drew1 | refine below_set ?_ GE627.out | refine below_set ?_ GE638.out | refine below_set ?_ GE644.out | refine below_set ?_ GE650.out | refine below_set ?_ GE655.out) | exact HB.out)⟩

end Go.Proofs.YtdpopkpoogmboaaDoor.P
