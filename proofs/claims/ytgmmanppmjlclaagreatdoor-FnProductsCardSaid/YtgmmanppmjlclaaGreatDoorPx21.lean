-- Made by pp.py of this session out of the kit's print and of contracts proved by hand; Lean checks it.
import Derived.Test.YtgmmanppmjlclaaGreatDoorMc
import Derived.Test.YtgmmanppmjlclaaGreatDoorPx0
import Derived.Test.YtgmmanppmjlclaaGreatDoorPx14
import Derived.Test.YtgmmanppmjlclaaGreatDoorPx20
import Derived.Test.YtgmmanppmjlclaaGreatDoorPx26
namespace Go.Proofs.YtgmmanppmjlclaaGreatDoor.P
open Go.RowKit Go.Proofs.YtgmmanppmjlclaaGreatDoorW.PrintWords Go.Proofs.YtgmmanppmjlclaaGreatDoorW.PrintLast Go.Proofs.YtgmmanppmjlclaaGreatDoorW.PrintMore
attribute [local go_sem] max2_int min2_int max_two min_two max_three min_three max_four min_four   -- for this text's walks alone
set_option linter.unusedVariables false
set_option linter.unusedSimpArgs false

/-! ### impl_ArchiveText: function 14 -/
def impl_ArchiveText.f (k : Nat) (l0 : List (S26)) : Option (ByteArray × Bool) := (impl_IsValidArchive.f k l0).bind fun t339 => (if t339 = true then ((impl_archiveText.f l0).bind fun t340 => (some (t340, true))) else (some ((⟨#[]⟩ : ByteArray), false)))
theorem impl_ArchiveText.calls.L1 {P : Prop} (h : P := by
 simp only [Option.some.injEq, Prod.mk.injEq] at H
 obtain ⟨rfl, rfl⟩ := H
 go_enter Tryz.func14, Tryz.ntmps14
 go_wp2_with (first | ((with_reducible refine gc_ 12 rfl ?_); refine goesL_ (some 5) rfl rfl Tryz.func12 kr_ rfl #[.slice A0 l0.length c0] rfl mc47 ?_; (with_reducible refine (impl_IsValidArchive.calls k _ _ l0 _ _ ?side1 ?side2 A2.out).mono ?_); (case side1 => exact mc43); (case side2 => exact HC0.out); rintro e w5 ⟨rfl, hb⟩; refine ⟨_, rfl, ?_⟩; replace HB := A_ (below_step mc53 hb); (try clear hb)) | ((with_reducible refine gc_ 35 rfl ?_); refine goesL_ (some 8) rfl rfl Tryz.func35 kr_ rfl #[.slice A0 l0.length c0] rfl mc47 ?_; (with_reducible refine (impl_archiveText.calls _ _ l0 _ _ ?side1 ?side2 A4.out ?sideG).mono ?_); (case sideG => exact (gw_below HG.out mc53)); (case side1 => exact mc31); (case side2 => exact HC0.out); rintro e w6 ⟨rfl, hb⟩; refine ⟨_, rfl, ?_⟩; replace HB := A_ (below_step mc53 hb); (try clear hb)))
 go_ret2
 exact ⟨mc76, mc53⟩) : P := h
set_option maxHeartbeats 8000000 in
set_option maxRecDepth 100000 in
theorem impl_ArchiveText.calls (k : Nat) (A0 : Option Addr) (c0 : Nat) (l0 : List (S26)) (r1 : ByteArray) (r2 : Bool) (w : World) (hr0 : Kd.C k26 w A0 l0.length l0) (hc0 : l0.length ≤ c0) (h : impl_ArchiveText.f k l0 = some (r1, r2)) (hG_ : GW w) :
    Calls Tryz.prog 14 #[.slice A0 l0.length c0] w fun e w' => e = .returned (.tuple #[.string r1, .bool r2]) ∧ Below w.heap.size w w' := by
  have HG := A_ hG_
  clear hG_
  have HR0 := A_ hr0
  have HC0 := A_ hc0
  clear hr0 hc0
  have HB := A_ (Below.refl w.heap.size w)
  have H : ((impl_IsValidArchive.f k l0).bind fun t339 => (if t339 = true then ((impl_archiveText.f l0).bind fun t340 => (some (t340, true))) else (some ((⟨#[]⟩ : ByteArray), false)))) = some (r1, r2) := h
  clear h
  obtain ⟨t339, A20, H⟩ := oB_ H
  have A2 := A_ A20
  clear A20
  by_cases c3 : t339 = true
  ·
   subst c3
   rw [if_pos rfl] at H
   obtain ⟨t340, A40, H⟩ := oB_ H
   have A4 := A_ A40
   clear A40
   exact impl_ArchiveText.calls.L1
  ·
   replace c3 := Bool.eq_false_iff.mpr c3
   subst c3
   rw [if_neg (show ¬ (false = true) by decide)] at H
   exact impl_ArchiveText.calls.L1
end Go.Proofs.YtgmmanppmjlclaaGreatDoor.P
