-- Made by pp.py of this session out of the kit's print and of contracts proved by hand; Lean checks it.
import Derived.Test.YtlnlabndaikbnaaGreatDoorMc
import Derived.Test.YtlnlabndaikbnaaGreatDoorPx0
import Derived.Test.YtlnlabndaikbnaaGreatDoorPx17
import Derived.Test.YtlnlabndaikbnaaGreatDoorPx18
namespace Go.Proofs.YtlnlabndaikbnaaGreatDoor.P
open Go.RowKit Go.Proofs.YtlnlabndaikbnaaGreatDoorW.PrintWords Go.Proofs.YtlnlabndaikbnaaGreatDoorW.PrintLast Go.Proofs.YtlnlabndaikbnaaGreatDoorW.PrintMore
attribute [local go_sem] max2_int min2_int max_two min_two max_three min_three max_four min_four   -- for this text's walks alone
set_option linter.unusedVariables false
set_option linter.unusedSimpArgs false

/-! ### strings_Index: function 165 -/
def strings_Index.f (a0 : ByteArray) (a1 : ByteArray) : Option (Int) := (stringslite_Index.f a0 a1).bind fun t255 => (some t255)
set_option maxHeartbeats 8000000 in
set_option maxRecDepth 100000 in
theorem strings_Index.calls (a0 : ByteArray) (a1 : ByteArray) (r : Int) (w : World) (h : strings_Index.f a0 a1 = some r) :
  Calls Tryz.prog 165 #[.string a0, .string a1] w fun e w' => e = .returned (.int .i64 r) ∧ Drawn0 w w' := by
 have H : ((stringslite_Index.f a0 a1).bind fun t255 => (some t255)) = some r := h
 clear h
 obtain ⟨t255, A30, H⟩ := oB_ H
 have A3 := A_ A30
 clear A30
 obtain rfl := Option.some.inj H
 go_enter Tryz.func165, Tryz.ntmps165
 go_wp2_with (first | ((with_reducible refine gc_ 207 rfl ?_); refine goesL_ (some 7) rfl rfl Tryz.func207 kr_ rfl #[.string a0, .string a1] rfl mc86 ?_; (with_reducible refine (stringslite_Index.calls a0 a1 t255 _ A3.out).mono ?_); rintro e w' ⟨rfl, ⟨nd, rfl⟩⟩; refine ⟨_, rfl, ?_⟩))
 go_ret
 exact ⟨mc141, mc137⟩

/-! ### strings_Contains: function 208 -/
def strings_Contains.f (a0 : ByteArray) (a1 : ByteArray) : Option (Bool) := (strings_Index.f a0 a1).bind fun t256 => (some (decide (t256 ≥ 0)))
set_option maxHeartbeats 8000000 in
set_option maxRecDepth 100000 in
theorem strings_Contains.calls (a0 : ByteArray) (a1 : ByteArray) (r : Bool) (w : World) (h : strings_Contains.f a0 a1 = some r) :
  Calls Tryz.prog 208 #[.string a0, .string a1] w fun e w' => e = .returned (.bool r) ∧ Drawn0 w w' := by
 have H : ((strings_Index.f a0 a1).bind fun t256 => (some (decide (t256 ≥ 0)))) = some r := h
 clear h
 obtain ⟨t256, A30, H⟩ := oB_ H
 have A3 := A_ A30
 clear A30
 obtain rfl := Option.some.inj H
 go_enter Tryz.func208, Tryz.ntmps208
 go_wp2_with (first | ((with_reducible refine gc_ 165 rfl ?_); refine goesL_ (some 7) rfl rfl Tryz.func165 kr_ rfl #[.string a0, .string a1] rfl mc86 ?_; (with_reducible refine (strings_Index.calls a0 a1 t256 _ A3.out).mono ?_); rintro e w' ⟨rfl, ⟨nd, rfl⟩⟩; refine ⟨_, rfl, ?_⟩))
 go_ret
 exact ⟨mc141, mc137⟩

/-! ### impl_checksum: function 209 -/
def impl_checksum.l0 : Nat → ByteArray → Int → Int → Option (Int)
 | 0, _, _, _ => none
 | k + 1, x0, x3, x4 => if x4 < (x0.size : Int) then (if 0 ≤ x4 then (impl_checksum.l0 k x0 (Int.tmod (wrap64 ((wrap64 ((wrap64 (41 * x3)) + (wrap64 (bt x0 x4)))) + 1)) 999979) (wrap64 (x4 + 1))) else (none)) else (some x3)
def impl_checksum.f (k : Nat) (a0 : ByteArray) : Option (Int) := impl_checksum.l0 k a0 7 0
set_option maxHeartbeats 8000000 in
set_option maxRecDepth 100000 in
theorem impl_checksum.calls (k : Nat) (a0 : ByteArray) (r : Int) (w : World) (h : impl_checksum.f k a0 = some r) :
  Calls Tryz.prog 209 #[.string a0] w fun e w' => e = .returned (.int .i64 r) ∧ Drawn0 w w' := by
 have H : (impl_checksum.l0 k a0 7 0) = some r := h
 clear h
 have H' := A_ H
 clear H
 go_enter Tryz.func209, Tryz.ntmps209
 go_wp2
 go_loopg [3, 4] k (fun kq v3 v4 w' => ∃ (x3_1 : Int) (x4_1 : Int), v3 = .int .i64 x3_1 ∧ v4 = .int .i64 x4_1 ∧ Aside0 (impl_checksum.l0 kq a0 x3_1 x4_1 = some r) ∧ Aside0 (kq ≤ k) ∧ Drawn0 w w')
 case atStart => exact ⟨(7), (0), mc141, mc141, H', ⟨Nat.le_refl _⟩, mc137⟩
 case round =>
  clear H'
  obtain ⟨x3_1, x4_1, rfl, rfl, HA, HK1, ⟨m1, rfl⟩⟩ := hrel
  cases gk with
  | zero => exact absurd HA.out (by simp [impl_checksum.l0])
  | succ k1 =>
   have H := HA.out
   clear HA
   simp only [impl_checksum.l0] at H
   by_cases c2 : x4_1 < (a0.size : Int)
   ·
    rw [if_pos c2] at H
    have c2b0 : decide (x4_1 < (a0.size : Int)) = true := decide_eq_true c2
    clear c2
    by_cases c3 : 0 ≤ x4_1
    ·
     rw [if_pos c3] at H
     have c3b0 : decide (0 ≤ x4_1) = true := decide_eq_true c3
     clear c3
     have H' := A_ H
     clear H
     have p4 : 0 ≤ (x4_1 : Int) := of_decide_eq_true mc139
     have q4 : x4_1 < (a0.size : Int) := of_decide_eq_true mc139
     have hx4 := bt_at a0 x4_1
     replace p4 := eq_true p4
     replace q4 := eq_true q4
     go_wp2
     go_roundg k1
     case measure => have := HK1.out; omega
     case rel => exact ⟨(Int.tmod (wrap64 ((wrap64 ((wrap64 (41 * x3_1)) + (wrap64 (bt a0 x4_1)))) + 1)) 999979), (wrap64 (x4_1 + 1)), mc141, mc141, H', ⟨mc144⟩, mc137⟩
    ·
     rw [if_neg c3] at H
     exact absurd H (by simp)
   ·
    rw [if_neg c2] at H
    have c2b0 : decide (x4_1 < (a0.size : Int)) = false := decide_eq_false c2
    clear c2
    obtain rfl := Option.some.inj H
    go_wp2
    go_ret
    exact ⟨mc141, mc137⟩

/-! ### impl_AppendChecksum: function 166 -/
def impl_AppendChecksum.j0 : Nat → ByteArray → Bool → Option (ByteArray × Bool)
 | 0, _, _ => none
 | k + 1, x0, x11 => if x11 = true then (some ((⟨#[]⟩ : ByteArray), false)) else (if x0.size + 1 ≤ 9223372036854775807 then ((impl_checksum.f k x0).bind fun t258 => ((strconv_Itoa.f t258).bind fun t259 => (if (x0 ++ (⟨#[35]⟩ : ByteArray)).size + t259.size ≤ 9223372036854775807 then (if (((x0 ++ (⟨#[35]⟩ : ByteArray)) ++ t259).size : Int) > 4000 then (some ((⟨#[]⟩ : ByteArray), false)) else (some ((x0 ++ (⟨#[35]⟩ : ByteArray)) ++ t259, true))) else (none)))) else (none))
def impl_AppendChecksum.f (k : Nat) (a0 : ByteArray) : Option (ByteArray × Bool) := if (a0.size : Int) > 4000 then (impl_AppendChecksum.j0 k a0 true) else ((strings_Contains.f a0 (⟨#[35]⟩ : ByteArray)).bind fun t257 => (impl_AppendChecksum.j0 k a0 t257))
set_option maxHeartbeats 8000000 in
set_option maxRecDepth 100000 in
theorem impl_AppendChecksum.calls (k : Nat) (a0 : ByteArray) (r1 : ByteArray) (r2 : Bool) (w : World) (h : impl_AppendChecksum.f k a0 = some (r1, r2)) (hG_ : GW w) :
  Calls Tryz.prog 166 #[.string a0] w fun e w' => e = .returned (.tuple #[.string r1, .bool r2]) ∧ Below w.heap.size w w' := by
 have HG := A_ hG_
 clear hG_
 have HB := A_ (Below.refl w.heap.size w)
 have H : (if (a0.size : Int) > 4000 then (impl_AppendChecksum.j0 k a0 true) else ((strings_Contains.f a0 (⟨#[35]⟩ : ByteArray)).bind fun t257 => (impl_AppendChecksum.j0 k a0 t257))) = some (r1, r2) := h
 clear h
 have HC2 := A_ H
 clear H
 go_enter Tryz.func166, Tryz.ntmps166
 go_upto_region 1 with (fail)
 go_cut [11] (fun v11 wc => ∃ (kq : Nat) (x11_1 : Bool), v11 = .bool x11_1 ∧ Aside0 (impl_AppendChecksum.j0 kq a0 x11_1 = some (r1, r2)) ∧ Aside0 (kq ≤ k) ∧ Aside0 (Below w.heap.size w wc))
 case first =>
  have H := HC2.out
  clear HC2
  by_cases c3 : (a0.size : Int) > 4000
  ·
   rw [if_pos c3] at H
   have c3b0 : decide (4000 < (a0.size : Int)) = true := decide_eq_true c3
   have c3b1 : decide (4000 < a0.size) = true := decide_eq_true (by omega)
   clear c3
   (first | rw [c3b0] | (simp only [i64_w, i32_w]; rw [c3b0]) | skip)
   have H' := A_ H
   clear H
   go_wp2
   go_meet
   case rel => exact ⟨_, (true), mc141, H', ⟨by first | omega | exact Nat.le_refl _⟩, ⟨mc89⟩⟩
  ·
   rw [if_neg c3] at H
   have c3b0 : decide (4000 < (a0.size : Int)) = false := decide_eq_false c3
   have c3b1 : decide (4000 < a0.size) = false := decide_eq_false (by omega)
   clear c3
   (first | rw [c3b0] | (simp only [i64_w, i32_w]; rw [c3b0]) | skip)
   obtain ⟨t257, A40, H⟩ := oB_ H
   have A4 := A_ A40
   clear A40
   have H' := A_ H
   clear H
   go_wp2_with (first | (go_at_call 208; (with_reducible refine (strings_Contains.calls a0 (⟨#[35]⟩ : ByteArray) t257 _ A4.out).mono ?_); rintro e w' ⟨rfl, ⟨nd, rfl⟩⟩))
   go_meet
   case rel => exact ⟨_, (t257), mc141, H', ⟨by first | omega | exact Nat.le_refl _⟩, ⟨mc89⟩⟩
 case rest =>
  clear HC2
  try clear p2
  try clear c3b0
  try clear c3b1
  obtain ⟨kq, x11_1, rfl, HA, HJ1, HB⟩ := hcut
  cases kq with
  | zero => exact absurd HA.out (by simp [impl_AppendChecksum.j0])
  | succ kj1 =>
   have H := HA.out
   clear HA
   simp only [impl_AppendChecksum.j0] at H
   by_cases c5 : x11_1 = true
   ·
    subst c5
    rw [if_pos rfl] at H
    simp only [Option.some.injEq, Prod.mk.injEq] at H
    obtain ⟨rfl, rfl⟩ := H
    go_wp2
    go_ret2
    exact ⟨mc133, mc89⟩
   ·
    replace c5 := Bool.eq_false_iff.mpr c5
    subst c5
    rw [if_neg (show ¬ (false = true) by decide)] at H
    by_cases c6 : a0.size + 1 ≤ 9223372036854775807
    ·
     rw [if_pos c6] at H
     have c6b0 := eq_true c6
     have c6b1 : decide (a0.size + 1 ≤ 9223372036854775807) = true := decide_eq_true c6
     try have c6b2 : (9223372036854775807 < a0.size + 1) = False := eq_false (Nat.not_lt.2 c6)
     obtain ⟨t258, A70, H⟩ := oB_ H
     have A7 := A_ A70
     clear A70
     obtain ⟨t259, A80, H⟩ := oB_ H
     have A8 := A_ A80
     clear A80
     by_cases c9 : (a0 ++ (⟨#[35]⟩ : ByteArray)).size + t259.size ≤ 9223372036854775807
     ·
      rw [if_pos c9] at H
      have c9b0 := eq_true c9
      have c9b1 : decide ((a0 ++ (⟨#[35]⟩ : ByteArray)).size + t259.size ≤ 9223372036854775807) = true := decide_eq_true c9
      try have c9b1z : decide ((a0.size + 1) + t259.size ≤ 9223372036854775807) = true := by have h_ := c9b1; (try simp only [ByteArray.size_append] at h_); exact h_
      try have c9b2 : (9223372036854775807 < (a0 ++ (⟨#[35]⟩ : ByteArray)).size + t259.size) = False := eq_false (Nat.not_lt.2 c9)
      try have c9b2z : (9223372036854775807 < (a0.size + 1) + t259.size) = False := by have h_ := c9b2; (try simp only [ByteArray.size_append] at h_); exact h_
      by_cases c10 : (((a0 ++ (⟨#[35]⟩ : ByteArray)) ++ t259).size : Int) > 4000
      ·
       rw [if_pos c10] at H
       have c10b0 : decide (4000 < (((a0 ++ (⟨#[35]⟩ : ByteArray)) ++ t259).size : Int)) = true := decide_eq_true c10
       try have c10b0z : decide (4000 < (((a0.size + 1) + t259.size) : Int)) = true := by have h_ := c10b0; (try simp only [ByteArray.size_append] at h_); exact h_
       have c10b1 : decide (4000 < ((a0 ++ (⟨#[35]⟩ : ByteArray)) ++ t259).size) = true := decide_eq_true (by omega)
       try have c10b1z : decide (4000 < ((a0.size + 1) + t259.size)) = true := by have h_ := c10b1; (try simp only [ByteArray.size_append] at h_); exact h_
       clear c10
       simp only [Option.some.injEq, Prod.mk.injEq] at H
       obtain ⟨rfl, rfl⟩ := H
       go_wp2_with (first | ((with_reducible refine gc_ 209 rfl ?_); refine goesL_ (some 15) rfl rfl Tryz.func209 kr_ rfl #[.string a0] rfl mc86 ?_; (with_reducible refine (impl_checksum.calls kj1 a0 t258 _ A7.out).mono ?_); rintro e w' ⟨rfl, ⟨nd, rfl⟩⟩; refine ⟨_, rfl, ?_⟩) | ((with_reducible refine gc_ 48 rfl ?_); refine goesL_ (some 16) rfl rfl Tryz.func48 kr_ rfl #[.int .i64 t258] rfl mc86 ?_; (with_reducible refine (strconv_Itoa.calls t258 t259 _ A8.out ?sideG).mono ?_); (case sideG => exact (gw_below HG.out mc89)); rintro e w11 ⟨rfl, hb⟩; refine ⟨_, rfl, ?_⟩; replace HB := A_ (below_step mc89 hb); (try clear hb)))
       go_ret2
       exact ⟨mc133, mc89⟩
      ·
       rw [if_neg c10] at H
       have c10b0 : decide (4000 < (((a0 ++ (⟨#[35]⟩ : ByteArray)) ++ t259).size : Int)) = false := decide_eq_false c10
       try have c10b0z : decide (4000 < (((a0.size + 1) + t259.size) : Int)) = false := by have h_ := c10b0; (try simp only [ByteArray.size_append] at h_); exact h_
       have c10b1 : decide (4000 < ((a0 ++ (⟨#[35]⟩ : ByteArray)) ++ t259).size) = false := decide_eq_false (by omega)
       try have c10b1z : decide (4000 < ((a0.size + 1) + t259.size)) = false := by have h_ := c10b1; (try simp only [ByteArray.size_append] at h_); exact h_
       clear c10
       simp only [Option.some.injEq, Prod.mk.injEq] at H
       obtain ⟨rfl, rfl⟩ := H
       go_wp2_with (first | ((with_reducible refine gc_ 209 rfl ?_); refine goesL_ (some 15) rfl rfl Tryz.func209 kr_ rfl #[.string a0] rfl mc86 ?_; (with_reducible refine (impl_checksum.calls kj1 a0 t258 _ A7.out).mono ?_); rintro e w' ⟨rfl, ⟨nd, rfl⟩⟩; refine ⟨_, rfl, ?_⟩) | ((with_reducible refine gc_ 48 rfl ?_); refine goesL_ (some 16) rfl rfl Tryz.func48 kr_ rfl #[.int .i64 t258] rfl mc86 ?_; (with_reducible refine (strconv_Itoa.calls t258 t259 _ A8.out ?sideG).mono ?_); (case sideG => exact (gw_below HG.out mc89)); rintro e w12 ⟨rfl, hb⟩; refine ⟨_, rfl, ?_⟩; replace HB := A_ (below_step mc89 hb); (try clear hb)))
       go_ret2
       exact ⟨mc133, mc89⟩
     ·
      rw [if_neg c9] at H
      exact absurd H (by simp)
    ·
     rw [if_neg c6] at H
     exact absurd H (by simp)

/-! ### impl_encodeRecord: function 108 -/
def impl_encodeRecord.f (k : Nat) (a0 : Int) (a1_0 : ByteArray) (a1_1 : ByteArray) : Option (ByteArray) := (strconv_Itoa.f a0).bind fun t261 => (if t261.size + 1 ≤ 9223372036854775807 then (if (t261 ++ (⟨#[32]⟩ : ByteArray)).size + a1_0.size ≤ 9223372036854775807 then (if ((t261 ++ (⟨#[32]⟩ : ByteArray)) ++ a1_0).size + 1 ≤ 9223372036854775807 then (if (((t261 ++ (⟨#[32]⟩ : ByteArray)) ++ a1_0) ++ (⟨#[64]⟩ : ByteArray)).size + a1_1.size ≤ 9223372036854775807 then ((impl_AppendChecksum.f k ((((t261 ++ (⟨#[32]⟩ : ByteArray)) ++ a1_0) ++ (⟨#[64]⟩ : ByteArray)) ++ a1_1)).bind fun bt262 => (if bt262.1.size + 1 ≤ 9223372036854775807 then (some (bt262.1 ++ (⟨#[10]⟩ : ByteArray))) else (none))) else (none)) else (none)) else (none)) else (none))
def impl_encodeRecord.T1 : Bool × List (List Nat × List Nat) := (true, [([], []), ([0], [0]), ([1], [1]), ([], []), ([3], [3]), ([2, 4], [2, 4]), ([5], [5]), ([], []), ([7], [7]), ([6, 8], [6, 8]), ([9, 1], [9]), ([10], [10]), ([11], [11]), ([11], [11]), ([12, 10, 0, 1, 2, 3, 4, 5, 6, 7, 8, 9, 10, 11, 12], [12]), ([13, 14, 0, 1, 2, 3, 4, 5, 6, 7, 8, 9, 10, 11, 12, 13, 14], [13])])
def impl_encodeRecord.B1 : List Nat := [0, 1, 3, 0, 8, 31, 63, 0, 128, 511, 1023, 2047, 4095, 4095, 8191, 32767]
theorem impl_encodeRecord.tab1 : rtab .any (opsOf Tryz.f108 1) = impl_encodeRecord.T1 := by kernel_rfl
theorem impl_encodeRecord.bits1 : waitsOk impl_encodeRecord.T1.2 impl_encodeRecord.B1 = true := by kernel_rfl
set_option maxHeartbeats 8000000 in
set_option maxRecDepth 100000 in
theorem impl_encodeRecord.calls (k : Nat) (a0 : Int) (a1_0 : ByteArray) (a1_1 : ByteArray) (r : ByteArray) (w : World) (h : impl_encodeRecord.f k a0 a1_0 a1_1 = some r) (hG_ : GW w) :
  Calls Tryz.prog 108 #[.int .i64 a0, .agg #[.string a1_0, .string a1_1]] w fun e w' => e = .returned (.string r) ∧ Below w.heap.size w w' := by
 have HG := A_ hG_
 clear hG_
 have hu62 := Tryz.underlying62
 have HB := A_ (Below.refl w.heap.size w)
 have H : ((strconv_Itoa.f a0).bind fun t261 => (if t261.size + 1 ≤ 9223372036854775807 then (if (t261 ++ (⟨#[32]⟩ : ByteArray)).size + a1_0.size ≤ 9223372036854775807 then (if ((t261 ++ (⟨#[32]⟩ : ByteArray)) ++ a1_0).size + 1 ≤ 9223372036854775807 then (if (((t261 ++ (⟨#[32]⟩ : ByteArray)) ++ a1_0) ++ (⟨#[64]⟩ : ByteArray)).size + a1_1.size ≤ 9223372036854775807 then ((impl_AppendChecksum.f k ((((t261 ++ (⟨#[32]⟩ : ByteArray)) ++ a1_0) ++ (⟨#[64]⟩ : ByteArray)) ++ a1_1)).bind fun bt262 => (if bt262.1.size + 1 ≤ 9223372036854775807 then (some (bt262.1 ++ (⟨#[10]⟩ : ByteArray))) else (none))) else (none)) else (none)) else (none)) else (none))) = some r := h
 clear h
 obtain ⟨t261, A30, H⟩ := oB_ H
 have A3 := A_ A30
 clear A30
 by_cases c4 : t261.size + 1 ≤ 9223372036854775807
 ·
  rw [if_pos c4] at H
  have c4b0 := eq_true c4
  have c4b1 : decide (t261.size + 1 ≤ 9223372036854775807) = true := decide_eq_true c4
  try have c4b2 : (9223372036854775807 < t261.size + 1) = False := eq_false (Nat.not_lt.2 c4)
  by_cases c5 : (t261 ++ (⟨#[32]⟩ : ByteArray)).size + a1_0.size ≤ 9223372036854775807
  ·
   rw [if_pos c5] at H
   have c5b0 := eq_true c5
   have c5b1 : decide ((t261 ++ (⟨#[32]⟩ : ByteArray)).size + a1_0.size ≤ 9223372036854775807) = true := decide_eq_true c5
   try have c5b1z : decide ((t261.size + 1) + a1_0.size ≤ 9223372036854775807) = true := by have h_ := c5b1; (try simp only [ByteArray.size_append] at h_); exact h_
   try have c5b2 : (9223372036854775807 < (t261 ++ (⟨#[32]⟩ : ByteArray)).size + a1_0.size) = False := eq_false (Nat.not_lt.2 c5)
   try have c5b2z : (9223372036854775807 < (t261.size + 1) + a1_0.size) = False := by have h_ := c5b2; (try simp only [ByteArray.size_append] at h_); exact h_
   by_cases c6 : ((t261 ++ (⟨#[32]⟩ : ByteArray)) ++ a1_0).size + 1 ≤ 9223372036854775807
   ·
    rw [if_pos c6] at H
    have c6b0 := eq_true c6
    have c6b1 : decide (((t261 ++ (⟨#[32]⟩ : ByteArray)) ++ a1_0).size + 1 ≤ 9223372036854775807) = true := decide_eq_true c6
    try have c6b1z : decide (((t261.size + 1) + a1_0.size) + 1 ≤ 9223372036854775807) = true := by have h_ := c6b1; (try simp only [ByteArray.size_append] at h_); exact h_
    try have c6b2 : (9223372036854775807 < ((t261 ++ (⟨#[32]⟩ : ByteArray)) ++ a1_0).size + 1) = False := eq_false (Nat.not_lt.2 c6)
    try have c6b2z : (9223372036854775807 < ((t261.size + 1) + a1_0.size) + 1) = False := by have h_ := c6b2; (try simp only [ByteArray.size_append] at h_); exact h_
    by_cases c7 : (((t261 ++ (⟨#[32]⟩ : ByteArray)) ++ a1_0) ++ (⟨#[64]⟩ : ByteArray)).size + a1_1.size ≤ 9223372036854775807
    ·
     rw [if_pos c7] at H
     have c7b0 := eq_true c7
     have c7b1 : decide ((((t261 ++ (⟨#[32]⟩ : ByteArray)) ++ a1_0) ++ (⟨#[64]⟩ : ByteArray)).size + a1_1.size ≤ 9223372036854775807) = true := decide_eq_true c7
     try have c7b1z : decide ((((t261.size + 1) + a1_0.size) + 1) + a1_1.size ≤ 9223372036854775807) = true := by have h_ := c7b1; (try simp only [ByteArray.size_append] at h_); exact h_
     try have c7b2 : (9223372036854775807 < (((t261 ++ (⟨#[32]⟩ : ByteArray)) ++ a1_0) ++ (⟨#[64]⟩ : ByteArray)).size + a1_1.size) = False := eq_false (Nat.not_lt.2 c7)
     try have c7b2z : (9223372036854775807 < (((t261.size + 1) + a1_0.size) + 1) + a1_1.size) = False := by have h_ := c7b2; (try simp only [ByteArray.size_append] at h_); exact h_
     obtain ⟨⟨t262, t263⟩, A80, H⟩ := oB_ H
     have A8 := A_ A80
     clear A80
     by_cases c9 : t262.size + 1 ≤ 9223372036854775807
     ·
      rw [if_pos c9] at H
      have c9b0 := eq_true c9
      have c9b1 : decide (t262.size + 1 ≤ 9223372036854775807) = true := decide_eq_true c9
      try have c9b2 : (9223372036854775807 < t262.size + 1) = False := eq_false (Nat.not_lt.2 c9)
      obtain rfl := Option.some.inj H
      go_enter Tryz.func108, Tryz.ntmps108
      try go_wp2_with (first | ((with_reducible refine gd_ 3 rfl ?_); refine box_event rfl (N := 3) rfl (cs := #[.string a1_0, .string a1_1]) (t := 62) mc142 ?_; intro gb260 hg w10 hbox hb; have BK260 := A_ (hbox); have GW260 := A_ ((mc45 : w.heap.size ≤ gb260)); have GE260 := A_ ((mc45 : w.heap.size ≤ gb260)); replace HB := A_ (below_step mc89 hb); clear hb hbox hg))
      replace BK260 := A_ (blk_drew BK260.out)
      replace HB := A_ (below_drew1 HB.out)
      refine start_ (n := 16) (S := fun w' => w'.cell? ⟨gb260, 0, none⟩ = some (.string a1_0) ∧ w'.cell? ⟨gb260, 1, none⟩ = some (.string a1_1)) (ds := []) #[false, false, false, false, false, false, false, false, false, false, false, false, false, false, false, false] kr_ rfl rfl ⟨bc_ BK260 0 rfl, bc_ BK260 1 rfl⟩ (fun hHeld => ?_); refine with_tabW impl_encodeRecord.tab1 impl_encodeRecord.bits1 (fun HT_ HW_ => ?_)
      generalize w10.drew = w11 at BK260 HB hHeld ⊢
      refine pure_ (i := 0) (N := some 8) #[true, false, false, false, false, false, false, false, false, false, false, false, false, false, false, false] rfl rfl (any_of HT_.out kr_) (fun _ _ _ h => h) (Or.inl ⟨by rfl, mc143⟩) mc122 ?_
      refine pure_ (i := 3) (N := some 11) #[true, false, false, true, false, false, false, false, false, false, false, false, false, false, false, false] rfl rfl (any_of HT_.out kr_) (fun _ _ _ h => h) (Or.inl ⟨by rfl, mc143⟩) mc122 ?_
      refine pure_ (i := 7) (N := some 15) #[true, false, false, true, false, false, false, true, false, false, false, false, false, false, false, false] rfl rfl (any_of HT_.out kr_) (fun _ _ _ h => h) (Or.inl ⟨by rfl, mc143⟩) mc122 ?_
      refine take_ (i := 4) (N := some 12) #[true, false, false, true, true, false, false, true, false, false, false, false, false, false, false, false] rfl rfl (take_ofW HT_.out HW_.out kr_) (fun _ _ _ h => h) (Or.inl ⟨by rfl, mc140⟩) hHeld mc122 ?_
      refine take_ (i := 8) (N := some 16) #[true, false, false, true, true, false, false, true, true, false, false, false, false, false, false, false] rfl rfl (take_ofW HT_.out HW_.out kr_) (fun _ _ _ h => h) (Or.inl ⟨by rfl, mc140⟩) hHeld mc122 ?_
      refine one_ (i := 1) (N := some 9) #[true, true, false, true, true, false, false, true, true, false, false, false, false, false, false, false] rfl rfl (one_of HT_.out kr_) (by decide) (fun K hK => ?_)
      refine goes_ Tryz.func48 kr_ rfl #[.int .i64 a0] (by rfl) rfl rfl mc86 ?_
      with_reducible refine (strconv_Itoa.calls a0 t261 _ A3.out ?sideG).mono ?_
      case sideG => exact (gw_below HG.out mc61)
      rintro e w12 ⟨rfl, hb⟩
      refine ⟨_, rfl, ?_⟩
      replace BK260 := A_ (blk_below (by (with_reducible repeat (first | refine blk_drewN ?_ _ | refine blk_drew ?_ | refine blk_alloc ?_ _)); exact BK260.out) hb)
      replace HB := A_ (below_step mc61 hb)
      (try clear hb)
      refine hK.out _ _ ⟨bc_ BK260 0 rfl, bc_ BK260 1 rfl⟩ (fun hHeld => ?_)
      clear hK K
      refine norm_ (by show Act.put _ (some 9) _ = _; simp only [Act.put, List.setIfInBounds_toArray, List.set_cons_zero, List.set_cons_succ, i64_w, i32_w]; rfl) ?_
      refine pure_ (i := 2) (N := some 10) #[true, true, true, true, true, false, false, true, true, false, false, false, false, false, false, false] rfl rfl (any_of HT_.out kr_) (fun _ _ _ h => h) (Or.inl ⟨by rfl, mc143⟩) mc122 ?_
      refine pure_ (i := 5) (N := some 13) #[true, true, true, true, true, true, false, true, true, false, false, false, false, false, false, false] rfl rfl (any_of HT_.out kr_) (fun _ _ _ h => h) (Or.inl ⟨by rfl, mc143⟩) mc122 ?_
      refine pure_ (i := 6) (N := some 14) #[true, true, true, true, true, true, true, true, true, false, false, false, false, false, false, false] rfl rfl (any_of HT_.out kr_) (fun _ _ _ h => h) (Or.inl ⟨by rfl, mc143⟩) mc122 ?_
      refine pure_ (i := 9) (N := some 17) #[true, true, true, true, true, true, true, true, true, true, false, false, false, false, false, false] rfl rfl (any_of HT_.out kr_) (fun _ _ _ h => h) (Or.inl ⟨by rfl, mc143⟩) mc122 ?_
      refine one_ (i := 10) (N := some 18) #[true, true, true, true, true, true, true, true, true, true, true, false, false, false, false, false] rfl rfl (one_of HT_.out kr_) (by decide) (fun K hK => ?_)
      refine goes_ Tryz.func166 kr_ rfl #[.string ((((t261 ++ (⟨#[32]⟩ : ByteArray)) ++ a1_0) ++ (⟨#[64]⟩ : ByteArray)) ++ a1_1)] (by rfl) rfl rfl mc86 ?_
      with_reducible refine (impl_AppendChecksum.calls k ((((t261 ++ (⟨#[32]⟩ : ByteArray)) ++ a1_0) ++ (⟨#[64]⟩ : ByteArray)) ++ a1_1) t262 t263 _ A8.out ?sideG).mono ?_
      case sideG => exact (gw_below HG.out mc61)
      rintro e w13 ⟨rfl, hb⟩
      refine ⟨_, rfl, ?_⟩
      replace BK260 := A_ (blk_below (by (with_reducible repeat (first | refine blk_drewN ?_ _ | refine blk_drew ?_ | refine blk_alloc ?_ _)); exact BK260.out) hb)
      replace HB := A_ (below_step mc61 hb)
      (try clear hb)
      refine hK.out _ _ ⟨bc_ BK260 0 rfl, bc_ BK260 1 rfl⟩ (fun hHeld => ?_)
      clear hK K
      refine norm_ mc87 ?_
      refine pure_ (i := 11) (N := some 7) #[true, true, true, true, true, true, true, true, true, true, true, true, false, false, false, false] rfl rfl (any_of HT_.out kr_) (fun _ _ _ h => h) (Or.inl ⟨by rfl, mc143⟩) mc122 ?_
      refine pure_ (i := 12) (N := some 19) #[true, true, true, true, true, true, true, true, true, true, true, true, true, false, false, false] rfl rfl (any_of HT_.out kr_) (fun _ _ _ h => h) (Or.inl ⟨by rfl, mc143⟩) mc122 ?_
      refine pure_ (i := 13) (N := some 20) #[true, true, true, true, true, true, true, true, true, true, true, true, true, true, false, false] rfl rfl (any_of HT_.out kr_) (fun _ _ _ h => h) (Or.inl ⟨by rfl, mc143⟩) mc122 ?_
      refine pure_ (i := 14) (N := some 5) #[true, true, true, true, true, true, true, true, true, true, true, true, true, true, true, false] rfl rfl (any_of HT_.out kr_) (fun _ _ _ h => h) (Or.inl ⟨by rfl, mc143⟩) mc122 ?_
      refine pure_ (i := 15) (N := some 6) #[true, true, true, true, true, true, true, true, true, true, true, true, true, true, true, true] rfl rfl (any_of HT_.out kr_) (fun _ _ _ h => h) (Or.inl ⟨by rfl, mc143⟩) mc122 ?_
      refine done_ (done_of HT_.out kr_) ?_
      try go_wp2
      go_ret
      exact ⟨mc133, by repeat (first | (with_reducible first | exact HB.out | apply below_alloc | apply pw_below_drewN | apply below_drew1 | refine below_set ?_ GE260.out) | exact HB.out)⟩
     ·
      rw [if_neg c9] at H
      exact absurd H (by simp)
    ·
     rw [if_neg c7] at H
     exact absurd H (by simp)
   ·
    rw [if_neg c6] at H
    exact absurd H (by simp)
  ·
   rw [if_neg c5] at H
   exact absurd H (by simp)
 ·
  rw [if_neg c4] at H
  exact absurd H (by simp)

/-! ### stringslite_Cut: function 170 -/
def stringslite_Cut.f (a0 : ByteArray) (a1 : ByteArray) : Option (ByteArray × ByteArray × Bool) := (stringslite_Index.f a0 a1).bind fun t264 => (if t264 ≥ 0 then (if 0 ≤ t264 then (if t264 ≤ (a0.size : Int) then (if 0 ≤ (wrap64 (t264 + (a1.size : Int))) then (if (wrap64 (t264 + (a1.size : Int))) ≤ (a0.size : Int) then (some (a0.extract 0 (t264 : Int).toNat, a0.extract ((wrap64 (t264 + (a1.size : Int))) : Int).toNat a0.size, true)) else (none)) else (none)) else (none)) else (none)) else (some (a0, (⟨#[]⟩ : ByteArray), false)))
set_option maxHeartbeats 8000000 in
set_option maxRecDepth 100000 in
theorem stringslite_Cut.calls (a0 : ByteArray) (a1 : ByteArray) (r1 : ByteArray) (r2 : ByteArray) (r3 : Bool) (w : World) (h : stringslite_Cut.f a0 a1 = some (r1, r2, r3)) :
  Calls Tryz.prog 170 #[.string a0, .string a1] w fun e w' => e = .returned (.tuple #[.string r1, .string r2, .bool r3]) ∧ Drawn0 w w' := by
 have H : ((stringslite_Index.f a0 a1).bind fun t264 => (if t264 ≥ 0 then (if 0 ≤ t264 then (if t264 ≤ (a0.size : Int) then (if 0 ≤ (wrap64 (t264 + (a1.size : Int))) then (if (wrap64 (t264 + (a1.size : Int))) ≤ (a0.size : Int) then (some (a0.extract 0 (t264 : Int).toNat, a0.extract ((wrap64 (t264 + (a1.size : Int))) : Int).toNat a0.size, true)) else (none)) else (none)) else (none)) else (none)) else (some (a0, (⟨#[]⟩ : ByteArray), false)))) = some (r1, r2, r3) := h
 clear h
 obtain ⟨t264, A30, H⟩ := oB_ H
 have A3 := A_ A30
 clear A30
 by_cases c4 : t264 ≥ 0
 ·
  rw [if_pos c4] at H
  have c4b0 : decide (0 ≤ t264) = true := decide_eq_true c4
  clear c4
  by_cases c5 : 0 ≤ t264
  ·
   rw [if_pos c5] at H
   have c5b0 := eq_true c5
   have c5b1 : decide (0 ≤ t264) = true := decide_eq_true c5
   clear c5
   by_cases c6 : t264 ≤ (a0.size : Int)
   ·
    rw [if_pos c6] at H
    have c6b0 := eq_true c6
    have c6b1 : decide (t264 ≤ (a0.size : Int)) = true := decide_eq_true c6
    clear c6
    obtain ⟨ji7, hji7⟩ : ∃ j_ : Int, (wrap64 (t264 + (a1.size : Int))) = j_ := ⟨_, rfl⟩
    replace H : (if 0 ≤ (ji7) then (if (ji7) ≤ (a0.size : Int) then (some (a0.extract 0 (t264 : Int).toNat, a0.extract ((ji7) : Int).toNat a0.size, true)) else (none)) else (none)) = some (r1, r2, r3) := by first | (rw [hji7] at H; exact H) | (simp only [hji7] at H ⊢; exact H)
    (try rw [hji7] at A3)
    have hji7w : (IntKind.i64.wrap (t264 + (a1.size : Int))) = ji7 := (i64_w _).trans hji7
    by_cases c8 : 0 ≤ (ji7)
    ·
     rw [if_pos c8] at H
     have c8b0 := eq_true c8
     have c8b1 : decide (0 ≤ (ji7)) = true := decide_eq_true c8
     clear c8
     by_cases c9 : (ji7) ≤ (a0.size : Int)
     ·
      rw [if_pos c9] at H
      have c9b0 := eq_true c9
      have c9b1 : decide ((ji7) ≤ (a0.size : Int)) = true := decide_eq_true c9
      clear c9
      simp only [Option.some.injEq, Prod.mk.injEq] at H
      obtain ⟨rfl, rfl, rfl⟩ := H
      go_enter Tryz.func170, Tryz.ntmps170
      go_wp2_with (first | (go_at_call 207; (with_reducible refine (stringslite_Index.calls a0 a1 t264 _ A3.out).mono ?_); rintro e w' ⟨rfl, ⟨nd, rfl⟩⟩; (try first | exact ⟨rfl, _, World.drewN_drewN _ _ _⟩ | exact ⟨rfl, _, Eq.trans (World.drewN_drewN _ _ _) (congrArg (World.drewN _) (Nat.add_assoc _ _ _))⟩)))
      repeat (go_quiet (first | (go_at_call 207; (with_reducible refine (stringslite_Index.calls a0 a1 t264 _ A3.out).mono ?_); rintro e w' ⟨rfl, ⟨nd, rfl⟩⟩; (try first | exact ⟨rfl, _, World.drewN_drewN _ _ _⟩ | exact ⟨rfl, _, Eq.trans (World.drewN_drewN _ _ _) (congrArg (World.drewN _) (Nat.add_assoc _ _ _))⟩))); try go_wp2_with (first | (go_at_call 207; (with_reducible refine (stringslite_Index.calls a0 a1 t264 _ A3.out).mono ?_); rintro e w' ⟨rfl, ⟨nd, rfl⟩⟩; (try first | exact ⟨rfl, _, World.drewN_drewN _ _ _⟩ | exact ⟨rfl, _, Eq.trans (World.drewN_drewN _ _ _) (congrArg (World.drewN _) (Nat.add_assoc _ _ _))⟩))))
      go_ret3
      exact ⟨by first | rfl | (simp; done) | (simp only [← hji7] <;> (first | rfl | simp)) | (simp [*]; done), mc137⟩
     ·
      rw [if_neg c9] at H
      exact absurd H (by simp)
    ·
     rw [if_neg c8] at H
     exact absurd H (by simp)
   ·
    rw [if_neg c6] at H
    exact absurd H (by simp)
  ·
   rw [if_neg c5] at H
   exact absurd H (by simp)
 ·
  rw [if_neg c4] at H
  have c4b0 : decide (0 ≤ t264) = false := decide_eq_false c4
  clear c4
  simp only [Option.some.injEq, Prod.mk.injEq] at H
  obtain ⟨rfl, rfl, rfl⟩ := H
  go_enter Tryz.func170, Tryz.ntmps170
  go_wp2_with (first | (go_at_call 207; (with_reducible refine (stringslite_Index.calls a0 a1 t264 _ A3.out).mono ?_); rintro e w' ⟨rfl, ⟨nd, rfl⟩⟩; (try first | exact ⟨rfl, _, World.drewN_drewN _ _ _⟩ | exact ⟨rfl, _, Eq.trans (World.drewN_drewN _ _ _) (congrArg (World.drewN _) (Nat.add_assoc _ _ _))⟩)))
  repeat (go_quiet (first | (go_at_call 207; (with_reducible refine (stringslite_Index.calls a0 a1 t264 _ A3.out).mono ?_); rintro e w' ⟨rfl, ⟨nd, rfl⟩⟩; (try first | exact ⟨rfl, _, World.drewN_drewN _ _ _⟩ | exact ⟨rfl, _, Eq.trans (World.drewN_drewN _ _ _) (congrArg (World.drewN _) (Nat.add_assoc _ _ _))⟩))); try go_wp2_with (first | (go_at_call 207; (with_reducible refine (stringslite_Index.calls a0 a1 t264 _ A3.out).mono ?_); rintro e w' ⟨rfl, ⟨nd, rfl⟩⟩; (try first | exact ⟨rfl, _, World.drewN_drewN _ _ _⟩ | exact ⟨rfl, _, Eq.trans (World.drewN_drewN _ _ _) (congrArg (World.drewN _) (Nat.add_assoc _ _ _))⟩))))
  go_ret3
  exact ⟨mc141, mc137⟩

/-! ### strings_Cut: function 118 -/
def strings_Cut.f (a0 : ByteArray) (a1 : ByteArray) : Option (ByteArray × ByteArray × Bool) := (stringslite_Cut.f a0 a1).bind fun bt265 => (some (bt265.1, bt265.2.1, bt265.2.2))
set_option maxHeartbeats 8000000 in
set_option maxRecDepth 100000 in
theorem strings_Cut.calls (a0 : ByteArray) (a1 : ByteArray) (r1 : ByteArray) (r2 : ByteArray) (r3 : Bool) (w : World) (h : strings_Cut.f a0 a1 = some (r1, r2, r3)) :
  Calls Tryz.prog 118 #[.string a0, .string a1] w fun e w' => e = .returned (.tuple #[.string r1, .string r2, .bool r3]) ∧ Drawn0 w w' := by
 have H : ((stringslite_Cut.f a0 a1).bind fun bt265 => (some (bt265.1, bt265.2.1, bt265.2.2))) = some (r1, r2, r3) := h
 clear h
 obtain ⟨⟨t265, t266, t267⟩, A30, H⟩ := oB_ H
 have A3 := A_ A30
 clear A30
 simp only [Option.some.injEq, Prod.mk.injEq] at H
 obtain ⟨rfl, rfl, rfl⟩ := H
 go_enter Tryz.func118, Tryz.ntmps118
 go_wp2_with (first | ((with_reducible refine gc_ 170 rfl ?_); refine goesL_ (some 9) rfl rfl Tryz.func170 kr_ rfl #[.string a0, .string a1] rfl mc86 ?_; (with_reducible refine (stringslite_Cut.calls a0 a1 t265 t266 t267 _ A3.out).mono ?_); rintro e w' ⟨rfl, ⟨nd, rfl⟩⟩; refine ⟨_, rfl, ?_⟩))
 go_ret3
 exact ⟨mc141, mc137⟩

/-! ### impl_VerifyChecksum: function 119 -/
def impl_VerifyChecksum.f (k : Nat) (a0 : ByteArray) : Option (ByteArray × Bool) := (strings_Cut.f a0 (⟨#[35]⟩ : ByteArray)).bind fun bt268 => ((impl_AppendChecksum.f k bt268.1).bind fun bt271 => (if bt268.2.2 = true then (if bt271.2 = true then (if bt271.1.toList = a0.toList then (some (bt268.1, true)) else (some ((⟨#[]⟩ : ByteArray), false))) else (some ((⟨#[]⟩ : ByteArray), false))) else (some ((⟨#[]⟩ : ByteArray), false))))
set_option maxHeartbeats 8000000 in
set_option maxRecDepth 100000 in
theorem impl_VerifyChecksum.calls (k : Nat) (a0 : ByteArray) (r1 : ByteArray) (r2 : Bool) (w : World) (h : impl_VerifyChecksum.f k a0 = some (r1, r2)) (hG_ : GW w) :
  Calls Tryz.prog 119 #[.string a0] w fun e w' => e = .returned (.tuple #[.string r1, .bool r2]) ∧ Below w.heap.size w w' := by
 have HG := A_ hG_
 clear hG_
 have HB := A_ (Below.refl w.heap.size w)
 have H : ((strings_Cut.f a0 (⟨#[35]⟩ : ByteArray)).bind fun bt268 => ((impl_AppendChecksum.f k bt268.1).bind fun bt271 => (if bt268.2.2 = true then (if bt271.2 = true then (if bt271.1.toList = a0.toList then (some (bt268.1, true)) else (some ((⟨#[]⟩ : ByteArray), false))) else (some ((⟨#[]⟩ : ByteArray), false))) else (some ((⟨#[]⟩ : ByteArray), false))))) = some (r1, r2) := h
 clear h
 obtain ⟨⟨t268, t269, t270⟩, A20, H⟩ := oB_ H
 have A2 := A_ A20
 clear A20
 obtain ⟨⟨t271, t272⟩, A30, H⟩ := oB_ H
 have A3 := A_ A30
 clear A30
 by_cases c4 : t270 = true
 ·
  subst c4
  rw [if_pos rfl] at H
  by_cases c5 : t272 = true
  ·
   subst c5
   rw [if_pos rfl] at H
   by_cases c6 : t271.toList = a0.toList
   ·
    rw [if_pos c6] at H
    have c6b0 : (t271.toList == a0.toList) = true := beq_iff_eq.mpr c6
    have c6b1 : (t271.toList != a0.toList) = false := bne_eq_false_iff_eq.mpr c6
    clear c6
    simp only [Option.some.injEq, Prod.mk.injEq] at H
    obtain ⟨rfl, rfl⟩ := H
    go_enter Tryz.func119, Tryz.ntmps119
    go_wp2_with (first | ((with_reducible refine gc_ 118 rfl ?_); refine goesL_ (some 11) rfl rfl Tryz.func118 kr_ rfl #[.string a0, .string (⟨#[35]⟩ : ByteArray)] rfl mc86 ?_; (with_reducible refine (strings_Cut.calls a0 (⟨#[35]⟩ : ByteArray) t268 t269 true _ A2.out).mono ?_); rintro e w' ⟨rfl, ⟨nd, rfl⟩⟩; refine ⟨_, rfl, ?_⟩) | ((with_reducible refine gc_ 166 rfl ?_); refine goesL_ (some 17) rfl rfl Tryz.func166 kr_ rfl #[.string t268] rfl mc86 ?_; (with_reducible refine (impl_AppendChecksum.calls k t268 t271 true _ A3.out ?sideG).mono ?_); (case sideG => exact (gw_below HG.out mc89)); rintro e w7 ⟨rfl, hb⟩; refine ⟨_, rfl, ?_⟩; replace HB := A_ (below_step mc89 hb); (try clear hb)))
    go_ret2
    exact ⟨mc133, mc89⟩
   ·
    rw [if_neg c6] at H
    have c6b0 : (t271.toList == a0.toList) = false := beq_eq_false_iff_ne.mpr c6
    have c6b1 : (t271.toList != a0.toList) = true := bne_iff_ne.mpr c6
    simp only [Option.some.injEq, Prod.mk.injEq] at H
    obtain ⟨rfl, rfl⟩ := H
    go_enter Tryz.func119, Tryz.ntmps119
    go_wp2_with (first | ((with_reducible refine gc_ 118 rfl ?_); refine goesL_ (some 11) rfl rfl Tryz.func118 kr_ rfl #[.string a0, .string (⟨#[35]⟩ : ByteArray)] rfl mc86 ?_; (with_reducible refine (strings_Cut.calls a0 (⟨#[35]⟩ : ByteArray) t268 t269 true _ A2.out).mono ?_); rintro e w' ⟨rfl, ⟨nd, rfl⟩⟩; refine ⟨_, rfl, ?_⟩) | ((with_reducible refine gc_ 166 rfl ?_); refine goesL_ (some 17) rfl rfl Tryz.func166 kr_ rfl #[.string t268] rfl mc86 ?_; (with_reducible refine (impl_AppendChecksum.calls k t268 t271 true _ A3.out ?sideG).mono ?_); (case sideG => exact (gw_below HG.out mc89)); rintro e w8 ⟨rfl, hb⟩; refine ⟨_, rfl, ?_⟩; replace HB := A_ (below_step mc89 hb); (try clear hb)))
    go_ret2
    exact ⟨mc133, mc89⟩
  ·
   replace c5 := Bool.eq_false_iff.mpr c5
   subst c5
   rw [if_neg (show ¬ (false = true) by decide)] at H
   simp only [Option.some.injEq, Prod.mk.injEq] at H
   obtain ⟨rfl, rfl⟩ := H
   go_enter Tryz.func119, Tryz.ntmps119
   go_wp2_with (first | ((with_reducible refine gc_ 118 rfl ?_); refine goesL_ (some 11) rfl rfl Tryz.func118 kr_ rfl #[.string a0, .string (⟨#[35]⟩ : ByteArray)] rfl mc86 ?_; (with_reducible refine (strings_Cut.calls a0 (⟨#[35]⟩ : ByteArray) t268 t269 true _ A2.out).mono ?_); rintro e w' ⟨rfl, ⟨nd, rfl⟩⟩; refine ⟨_, rfl, ?_⟩) | ((with_reducible refine gc_ 166 rfl ?_); refine goesL_ (some 17) rfl rfl Tryz.func166 kr_ rfl #[.string t268] rfl mc86 ?_; (with_reducible refine (impl_AppendChecksum.calls k t268 t271 false _ A3.out ?sideG).mono ?_); (case sideG => exact (gw_below HG.out mc89)); rintro e w9 ⟨rfl, hb⟩; refine ⟨_, rfl, ?_⟩; replace HB := A_ (below_step mc89 hb); (try clear hb)))
   go_ret2
   exact ⟨mc133, mc89⟩
 ·
  replace c4 := Bool.eq_false_iff.mpr c4
  subst c4
  rw [if_neg (show ¬ (false = true) by decide)] at H
  simp only [Option.some.injEq, Prod.mk.injEq] at H
  obtain ⟨rfl, rfl⟩ := H
  go_enter Tryz.func119, Tryz.ntmps119
  go_wp2_with (first | ((with_reducible refine gc_ 118 rfl ?_); refine goesL_ (some 11) rfl rfl Tryz.func118 kr_ rfl #[.string a0, .string (⟨#[35]⟩ : ByteArray)] rfl mc86 ?_; (with_reducible refine (strings_Cut.calls a0 (⟨#[35]⟩ : ByteArray) t268 t269 false _ A2.out).mono ?_); rintro e w' ⟨rfl, ⟨nd, rfl⟩⟩; refine ⟨_, rfl, ?_⟩) | ((with_reducible refine gc_ 166 rfl ?_); refine goesL_ (some 17) rfl rfl Tryz.func166 kr_ rfl #[.string t268] rfl mc86 ?_; (with_reducible refine (impl_AppendChecksum.calls k t268 t271 t272 _ A3.out ?sideG).mono ?_); (case sideG => exact (gw_below HG.out mc89)); rintro e w10 ⟨rfl, hb⟩; refine ⟨_, rfl, ?_⟩; replace HB := A_ (below_step mc89 hb); (try clear hb)))
  go_ret2
  exact ⟨mc133, mc89⟩

end Go.Proofs.YtlnlabndaikbnaaGreatDoor.P
