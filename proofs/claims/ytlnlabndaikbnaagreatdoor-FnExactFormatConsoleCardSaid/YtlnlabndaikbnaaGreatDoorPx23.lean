-- Made by pp.py of this session out of the kit's print and of contracts proved by hand; Lean checks it.
import Derived.Test.YtlnlabndaikbnaaGreatDoorMc
import Derived.Test.YtlnlabndaikbnaaGreatDoorPx0
import Derived.Test.YtlnlabndaikbnaaGreatDoorPx1
import Derived.Test.YtlnlabndaikbnaaGreatDoorPx17
import Derived.Test.YtlnlabndaikbnaaGreatDoorPx21
import Derived.Test.YtlnlabndaikbnaaGreatDoorPx22
namespace Go.Proofs.YtlnlabndaikbnaaGreatDoor.P
open Go.RowKit Go.Proofs.YtlnlabndaikbnaaGreatDoorW.PrintWords Go.Proofs.YtlnlabndaikbnaaGreatDoorW.PrintLast Go.Proofs.YtlnlabndaikbnaaGreatDoorW.PrintMore
attribute [local go_sem] max2_int min2_int max_two min_two max_three min_three max_four min_four   -- for this text's walks alone
set_option linter.unusedVariables false
set_option linter.unusedSimpArgs false

/-! ### impl_joinInts: function 83 -/
def impl_joinInts.l0 : Nat → ByteArray → List ByteArray → List Int → Int → Int → Option (ByteArray)
 | 0, _, _, _, _, _ => none
 | k + 1, x1, x5, x11, x12, x13 => if x13 < x12 then (if 0 ≤ x13 then (if x13 < (x11.length : Int) then ((strconv_Itoa.f (rd x11 x13)).bind fun t306 => (if x13 < (x5.length : Int) then (impl_joinInts.l0 k x1 (x5.set (x13 : Int).toNat t306) x11 x12 (wrap64 (x13 + 1))) else (none))) else (none)) else (none)) else ((strings_Join.f x5 x1).bind fun bt308 => (some bt308.1))
def impl_joinInts.f (k : Nat) (l0 : List Int) (a1 : ByteArray) : Option (ByteArray) := if 0 ≤ (l0.length : Int) then (if ((l0.length : Int) : Int).toNat ≤ 17592186044416 then (impl_joinInts.l0 k a1 (List.replicate ((l0.length : Int) : Int).toNat (⟨#[]⟩ : ByteArray)) l0 (l0.length : Int) 0) else (none)) else (none)
set_option maxHeartbeats 8000000 in
set_option maxRecDepth 100000 in
theorem impl_joinInts.calls (k : Nat) (A0 : Option Addr) (c0 : Nat) (l0 : List Int) (a1 : ByteArray) (r : ByteArray) (w : World) (hr0 : Kd.C (Kd.int .i64) w A0 l0.length l0) (hc0 : l0.length ≤ c0) (h : impl_joinInts.f k l0 a1 = some r) (hG_ : GW w) :
  Calls Tryz.prog 83 #[.slice A0 l0.length c0, .string a1] w fun e w' => e = .returned (.string r) ∧ Below w.heap.size w w' := by
 have HG := A_ hG_
 clear hG_
 have HR0 := A_ hr0
 have HC0 := A_ hc0
 clear hr0 hc0
 have HB := A_ (Below.refl w.heap.size w)
 have H : (if 0 ≤ (l0.length : Int) then (if ((l0.length : Int) : Int).toNat ≤ 17592186044416 then (impl_joinInts.l0 k a1 (List.replicate ((l0.length : Int) : Int).toNat (⟨#[]⟩ : ByteArray)) l0 (l0.length : Int) 0) else (none)) else (none)) = some r := h
 clear h
 by_cases c3 : 0 ≤ (l0.length : Int)
 ·
  rw [if_pos c3] at H
  have c3b0 := eq_true c3
  have c3b1 : decide (0 ≤ (l0.length : Int)) = true := decide_eq_true c3
  clear c3
  by_cases c4 : ((l0.length : Int) : Int).toNat ≤ 17592186044416
  ·
   rw [if_pos c4] at H
   have c4b0 := eq_true c4
   have c4b1 : decide (((l0.length : Int) : Int).toNat ≤ 17592186044416) = true := decide_eq_true c4
   clear c4
   obtain ⟨y302, hy302⟩ : ∃ y_ : List ByteArray, y_ = (List.replicate ((l0.length : Int) : Int).toNat (⟨#[]⟩ : ByteArray)) := ⟨_, rfl⟩
   replace H : (impl_joinInts.l0 k a1 y302 l0 (l0.length : Int) 0) = some r := by first | (rw [hy302]; with_reducible exact H) | (have H2_ := (Option.bind_some _ _).symm.trans H; rw [hy302]; with_reducible exact H2_) | (have H2_ := (Option.bind_some _ _).symm.trans H; with_reducible exact H2_) | with_reducible exact H | (rw [hy302]; exact H) | exact H
   have Ny302 := A_ hy302
   clear hy302
   have H' := A_ H
   clear H
   go_enter Tryz.func83, Tryz.ntmps83
   go_wp2_with (first | ((with_reducible refine gd_ 10 rfl ?_); refine Kd.R_make Kd.string _ 9 rfl (N := 10) rfl 49 _ _ rfl (l0.length : Int) rfl rfl Tryz.underlying49 (.string ⟨#[]⟩) 16 info9 rfl (by decide) (by omega) (⟨#[]⟩ : ByteArray) (ok := fun _ => True) (okp := fun _ => True) rfl (fun _ hk => hk) trivial (of_decide_eq_true mc139) (Nat.le_trans (Nat.mul_le_mul_right _ (of_decide_eq_true mc139 : (l0.length : Int).toNat ≤ 17592186044416)) (by omega)) (Below.refl _ _) (Nat.le_refl _) ?_; intro v303 w5 ho6 hb hg_ hnew_; clear hg_ hnew_; (first | rw [← Ny302.out] at ho6 | (simp only [Int.reduceToNat] at ho6; rw [← Ny302.out] at ho6)); have HO304 := A_ (Kd.R_lower ho6 (below_size mc89)); replace HB := A_ (below_step mc89 hb); clear hb ho6))
   go_loopg [13] k (fun kq v13 w' => ∃ (x5_1 : List ByteArray) (x13_1 : Int), v13 = .int .i64 x13_1 ∧ Aside0 (impl_joinInts.l0 kq a1 x5_1 l0 (l0.length : Int) x13_1 = some r) ∧ Aside0 (kq ≤ k) ∧ Aside0 (Kd.R Kd.string 9 w' w.heap.size (fun _ => True) v303 x5_1) ∧ Aside0 (Below w.heap.size w w'))
   case atStart => exact ⟨(y302), (0), mc141, H', ⟨Nat.le_refl _⟩, ⟨by (with_reducible repeat (first | apply Kd.R_alloc | apply Kd.R_drewN | apply Kd.R_drew)); exact HO304.out⟩, ⟨mc89⟩⟩
   case round =>
    clear H'
    try clear p2
    try clear c3b0
    try clear c3b1
    try clear c4b0
    try clear c4b1
    obtain ⟨x5_1, x13_1, rfl, HA, HK1, HO_5, HB⟩ := hrel
    cases gk with
    | zero => exact absurd HA.out (by simp [impl_joinInts.l0])
    | succ k1 =>
     have H := HA.out
     clear HA
     simp only [impl_joinInts.l0] at H
     by_cases c7 : x13_1 < (l0.length : Int)
     ·
      rw [if_pos c7] at H
      have c7b0 : decide (x13_1 < (l0.length : Int)) = true := decide_eq_true c7
      clear c7
      by_cases c8 : 0 ≤ x13_1
      ·
       rw [if_pos c8] at H
       have c8b0 : decide (0 ≤ x13_1) = true := decide_eq_true c8
       clear c8
       by_cases c9 : x13_1 < (l0.length : Int)
       ·
        rw [if_pos c9] at H
        have c9b0 : decide (x13_1 < (l0.length : Int)) = true := decide_eq_true c9
        clear c9
        obtain ⟨t306, A100, H⟩ := oB_ H
        have A10 := A_ A100
        clear A100
        by_cases c11 : x13_1 < (x5_1.length : Int)
        ·
         rw [if_pos c11] at H
         have c11b0 : decide (x13_1 < (x5_1.length : Int)) = true := decide_eq_true c11
         clear c11
         obtain ⟨y307, hy307⟩ : ∃ y_ : List ByteArray, y_ = (x5_1.set (x13_1 : Int).toNat t306) := ⟨_, rfl⟩
         replace H : (impl_joinInts.l0 k1 a1 y307 l0 (l0.length : Int) (wrap64 (x13_1 + 1))) = some r := by first | (rw [hy307]; with_reducible exact H) | (have H2_ := (Option.bind_some _ _).symm.trans H; rw [hy307]; with_reducible exact H2_) | (have H2_ := (Option.bind_some _ _).symm.trans H; with_reducible exact H2_) | with_reducible exact H | (rw [hy307]; exact H) | exact H
         have Ny307 := A_ hy307
         clear hy307
         have H' := A_ H
         clear H
         have p305 : 0 ≤ (x13_1 : Int) := of_decide_eq_true mc139
         have q305 : x13_1 < (l0.length : Int) := of_decide_eq_true mc139
         obtain ⟨ad305, e305, hx305_0⟩ := Kd.at_int HR0.out x13_1 p305 q305
         cases e305
         replace hx305_0 := (HB.out.cell (World.block_lt_of_cell? w _ hx305_0)).trans hx305_0
         replace p305 := eq_true p305
         replace q305 := eq_true q305
         go_wp2_with (first | ((with_reducible refine gc_ 48 rfl ?_); refine goesL_ (some 21) rfl rfl Tryz.func48 kr_ rfl #[.int .i64 (rd l0 x13_1)] rfl mc86 ?_; (with_reducible refine (strconv_Itoa.calls (rd l0 x13_1) t306 _ A10.out ?sideG).mono ?_); (case sideG => exact (gw_below HG.out mc89)); rintro e w13 ⟨rfl, hb⟩; refine ⟨_, rfl, ?_⟩; replace HO_5 := A_ (Kd.R_below mc130 hb); replace HB := A_ (below_step mc89 hb); (try clear hb); have p12 : 0 ≤ (x13_1 : Int) := of_decide_eq_true mc139; have q12 : (x13_1 : Int) < ((x5_1.length : Int) : Int) := of_decide_eq_true mc139; obtain ⟨go12, co12, eo12, gb12, gl12, cl12, HG12⟩ := Kd.R_form HO_5.out (by omega); (first | cases eo12 | (injection eo12 with ea_ en_ ec_; (first | subst ea_ | (injection ea_ with ea_; subst ea_)); subst ec_; clear en_)); have GB12 := A_ gb12; have GG12 := A_ HG12; clear gb12 gl12 HG12; obtain ⟨hx12_0, hf12_0⟩ := Kd.R_celln (⟨#[]⟩ : ByteArray) HO_5.out (x13_1 : Int) p12 q12; replace p12 := eq_true p12; replace q12 := eq_true q12; obtain ⟨hy14_, hz14_⟩ := Kd.R_celln (⟨#[]⟩ : ByteArray) HO_5.out (x13_1 : Int) (of_decide_eq_true mc139) (of_decide_eq_true mc139); have HP14 := Kd.R_putg HO_5.out (x13_1 : Int) t306) | ((with_reducible refine gate_store (t := 9) (p := 22) rfl ?_); refine store_event (t := 9) (p := 22) (v := ?vo_w15) (w1 := (w13.setCell ⟨go12, (x13_1 : Int).toNat, none⟩ (.string t306))) ?hg ?ho ?hn ?hr ?_; (case ho => rfl); (case hg => rfl); (case hn => rfl); (case hr => exact mc142); intro w15 hw; have hg : w13.grownBy w15 (some go12) := (by rw [hw]; exact HP14.2); have hp_ : Kd.R Kd.string 9 w15 w.heap.size (fun _ => True) (.slice (some ⟨go12, 0, none⟩) x5_1.length co12) y307 := (by rw [hw, Ny307.out]; exact HP14.1); clear HP14; replace HO_5 := A_ (hp_); replace HB := A_ ((by rw [hw]; exact below_set (HB.out) GB12.out : Below w.heap.size w w15)); clear hg hw hp_))
         go_roundg k1
         case measure => have := HK1.out; omega
         case rel => exact ⟨(y307), (wrap64 (x13_1 + 1)), mc141, H', ⟨mc144⟩, ⟨mc130⟩, ⟨mc89⟩⟩
        ·
         rw [if_neg c11] at H
         exact absurd H (by simp)
       ·
        rw [if_neg c9] at H
        exact absurd H (by simp)
      ·
       rw [if_neg c8] at H
       exact absurd H (by simp)
     ·
      rw [if_neg c7] at H
      have c7b0 : decide (x13_1 < (l0.length : Int)) = false := decide_eq_false c7
      clear c7
      obtain ⟨⟨t308, t309⟩, A160, H⟩ := oB_ H
      have A16 := A_ A160
      clear A160
      obtain rfl := Option.some.inj H
      obtain ⟨Ao17, co17, eo17⟩ := Kd.R_slice HO_5.out
      subst eo17
      go_wp2_with (first | ((with_reducible refine gc_ 129 rfl ?_); refine goesL_ (some 26) rfl rfl Tryz.func129 kr_ rfl #[.slice Ao17 x5_1.length co17, .string a1] rfl mc86 ?_; (with_reducible refine (strings_Join.calls (fun k_ => some k_ = (.slice Ao17 x5_1.length co17 : Value).ownBlock) (.slice Ao17 x5_1.length co17) x5_1 a1 t308 t309 w _ ?side1 ?side2 A16.out).mono ?_); (case side1 => repeat (first | (with_reducible first | exact HB.out | apply below_alloc | apply pw_below_drewN | apply below_drew1) | exact HB.out)); (case side2 => exact Kd.R_tight rfl HO_5.out); rintro e w18 ⟨rfl, hy0, hb, hkp⟩; refine ⟨_, rfl, ?_⟩; replace HO_5 := A_ (Kd.R_reok rfl hy0 (fun k_ e_ => HO_5.out.1 k_ e_)); replace HB := A_ (hb); (try clear hb); (try clear hkp); (try clear hy0)))
      go_ret
      exact ⟨mc133, mc89⟩
  ·
   rw [if_neg c4] at H
   exact absurd H (by simp)
 ·
  rw [if_neg c3] at H
  exact absurd H (by simp)

/-! ### impl_warningLine: function 47 -/
def impl_warningLine_v.f (k : Nat) (a0_0 : Int) (a0_1 : Int) (a0_2 : Int) (a0_3 : Int) (a0_4 : Int) (a0_5 : Int) (l1 : List ByteArray) (l2 : List ByteArray) : Option (ByteArray) := (strconv_Itoa.f a0_0).bind fun t311 => (if t311.size + 2 ≤ 9223372036854775807 then (if 0 ≤ a0_2 then (if a0_2 < (l1.length : Int) then ((strings_ToLower.f (rdOf ByteArray.empty l1 a0_2)).bind fun t313 => (if (t311 ++ (⟨#[58, 32]⟩ : ByteArray)).size + t313.size ≤ 9223372036854775807 then (if ((t311 ++ (⟨#[58, 32]⟩ : ByteArray)) ++ t313).size + 1 ≤ 9223372036854775807 then (if 0 ≤ a0_1 then (if a0_1 < (l2.length : Int) then (if (((t311 ++ (⟨#[58, 32]⟩ : ByteArray)) ++ t313) ++ (⟨#[32]⟩ : ByteArray)).size + (rdOf ByteArray.empty l2 a0_1).size ≤ 9223372036854775807 then (if ((((t311 ++ (⟨#[58, 32]⟩ : ByteArray)) ++ t313) ++ (⟨#[32]⟩ : ByteArray)) ++ (rdOf ByteArray.empty l2 a0_1)).size + 7 ≤ 9223372036854775807 then ((strconv_Itoa.f a0_3).bind fun t315 => (if (((((t311 ++ (⟨#[58, 32]⟩ : ByteArray)) ++ t313) ++ (⟨#[32]⟩ : ByteArray)) ++ (rdOf ByteArray.empty l2 a0_1)) ++ (⟨#[44, 32, 97, 114, 101, 97, 32]⟩ : ByteArray)).size + t315.size ≤ 9223372036854775807 then (if ((((((t311 ++ (⟨#[58, 32]⟩ : ByteArray)) ++ t313) ++ (⟨#[32]⟩ : ByteArray)) ++ (rdOf ByteArray.empty l2 a0_1)) ++ (⟨#[44, 32, 97, 114, 101, 97, 32]⟩ : ByteArray)) ++ t315).size + 8 ≤ 9223372036854775807 then ((impl_joinInts.f k (([a0_4, a0_5] : List Int)) (⟨#[45]⟩ : ByteArray)).bind fun t319 => (if (((((((t311 ++ (⟨#[58, 32]⟩ : ByteArray)) ++ t313) ++ (⟨#[32]⟩ : ByteArray)) ++ (rdOf ByteArray.empty l2 a0_1)) ++ (⟨#[44, 32, 97, 114, 101, 97, 32]⟩ : ByteArray)) ++ t315) ++ (⟨#[44, 32, 104, 111, 117, 114, 115, 32]⟩ : ByteArray)).size + t319.size ≤ 9223372036854775807 then (some ((((((((t311 ++ (⟨#[58, 32]⟩ : ByteArray)) ++ t313) ++ (⟨#[32]⟩ : ByteArray)) ++ (rdOf ByteArray.empty l2 a0_1)) ++ (⟨#[44, 32, 97, 114, 101, 97, 32]⟩ : ByteArray)) ++ t315) ++ (⟨#[44, 32, 104, 111, 117, 114, 115, 32]⟩ : ByteArray)) ++ t319)) else (none))) else (none)) else (none))) else (none)) else (none)) else (none)) else (none)) else (none)) else (none))) else (none)) else (none)) else (none))
def impl_warningLine_v.T1 : Bool × List (List Nat × List Nat) := (true, [([], []), ([0], [0]), ([1], [1]), ([2], [2]), ([], []), ([4], [4]), ([5], [5]), ([6], [6]), ([7, 2], [7]), ([3, 8], [3, 8]), ([9], [9]), ([], []), ([11], [11]), ([12], [12]), ([13], [13]), ([10, 14], [10, 14]), ([15], [15]), ([], []), ([17], [17]), ([18, 8], [18]), ([16, 19], [16, 19]), ([20], [20]), ([], []), ([22], [22]), ([], []), ([24], [24]), ([23, 25], [23, 25]), ([26, 19], [26]), ([21, 27], [21, 27]), ([28, 27, 0, 1, 2, 3, 4, 5, 6, 7, 8, 9, 10, 11, 12, 13, 14, 15, 16, 17, 18, 19, 20, 21, 22, 23, 24, 25, 26, 27, 28], [28])])
def impl_warningLine_v.B1 : List Nat := [0, 1, 3, 7, 0, 16, 48, 112, 247, 511, 1023, 0, 2048, 6144, 14336, 32767, 65535, 0, 131072, 393719, 1048575, 2097151, 0, 4194304, 0, 16777216, 62914560, 130941431, 268435455, 536870911]
theorem impl_warningLine_v.tab1 : rtab .any (opsOf Tryz.f47 1) = impl_warningLine_v.T1 := by kernel_rfl
theorem impl_warningLine_v.bits1 : waitsOk impl_warningLine_v.T1.2 impl_warningLine_v.B1 = true := by kernel_rfl
set_option maxHeartbeats 8000000 in
set_option maxRecDepth 100000 in
theorem impl_warningLine_v.calls (k : Nat) (a0_0 : Int) (a0_1 : Int) (a0_2 : Int) (a0_3 : Int) (a0_4 : Int) (a0_5 : Int) (A1 : Option Addr) (c1 : Nat) (l1 : List ByteArray) (A2 : Option Addr) (c2 : Nat) (l2 : List ByteArray) (r : ByteArray) (w : World) (hA2_ : A2 = some ⟨1, 0, none⟩) (hL2_ : l2.length = 6) (hA1_ : A1 = some ⟨0, 0, none⟩) (hL1_ : l1.length = 4) (hr1 : Kd.C Kd.string w A1 l1.length l1) (hc1 : l1.length ≤ c1) (hr2 : Kd.C Kd.string w A2 l2.length l2) (hc2 : l2.length ≤ c2) (h : impl_warningLine_v.f k a0_0 a0_1 a0_2 a0_3 a0_4 a0_5 l1 l2 = some r) (hG_ : GW w) :
  Calls Tryz.prog 47 #[.agg #[.int .i64 a0_0, .int .i64 a0_1, .int .i64 a0_2, .int .i64 a0_3, .int .i64 a0_4, .int .i64 a0_5]] w fun e w' => e = .returned (.string r) ∧ Below w.heap.size w w' := by
 have HA2 := A_ hA2_
 have HL2 := A_ hL2_
 clear hA2_ hL2_
 have HA1 := A_ hA1_
 have HL1 := A_ hL1_
 clear hA1_ hL1_
 have HG := A_ hG_
 clear hG_
 have hu73 := Tryz.underlying73
 have HR1 := A_ hr1
 have HC1 := A_ hc1
 clear hr1 hc1
 have HR2 := A_ hr2
 have HC2 := A_ hc2
 clear hr2 hc2
 have HB := A_ (Below.refl w.heap.size w)
 have H : ((strconv_Itoa.f a0_0).bind fun t311 => (if t311.size + 2 ≤ 9223372036854775807 then (if 0 ≤ a0_2 then (if a0_2 < (l1.length : Int) then ((strings_ToLower.f (rdOf ByteArray.empty l1 a0_2)).bind fun t313 => (if (t311 ++ (⟨#[58, 32]⟩ : ByteArray)).size + t313.size ≤ 9223372036854775807 then (if ((t311 ++ (⟨#[58, 32]⟩ : ByteArray)) ++ t313).size + 1 ≤ 9223372036854775807 then (if 0 ≤ a0_1 then (if a0_1 < (l2.length : Int) then (if (((t311 ++ (⟨#[58, 32]⟩ : ByteArray)) ++ t313) ++ (⟨#[32]⟩ : ByteArray)).size + (rdOf ByteArray.empty l2 a0_1).size ≤ 9223372036854775807 then (if ((((t311 ++ (⟨#[58, 32]⟩ : ByteArray)) ++ t313) ++ (⟨#[32]⟩ : ByteArray)) ++ (rdOf ByteArray.empty l2 a0_1)).size + 7 ≤ 9223372036854775807 then ((strconv_Itoa.f a0_3).bind fun t315 => (if (((((t311 ++ (⟨#[58, 32]⟩ : ByteArray)) ++ t313) ++ (⟨#[32]⟩ : ByteArray)) ++ (rdOf ByteArray.empty l2 a0_1)) ++ (⟨#[44, 32, 97, 114, 101, 97, 32]⟩ : ByteArray)).size + t315.size ≤ 9223372036854775807 then (if ((((((t311 ++ (⟨#[58, 32]⟩ : ByteArray)) ++ t313) ++ (⟨#[32]⟩ : ByteArray)) ++ (rdOf ByteArray.empty l2 a0_1)) ++ (⟨#[44, 32, 97, 114, 101, 97, 32]⟩ : ByteArray)) ++ t315).size + 8 ≤ 9223372036854775807 then ((impl_joinInts.f k (([a0_4, a0_5] : List Int)) (⟨#[45]⟩ : ByteArray)).bind fun t319 => (if (((((((t311 ++ (⟨#[58, 32]⟩ : ByteArray)) ++ t313) ++ (⟨#[32]⟩ : ByteArray)) ++ (rdOf ByteArray.empty l2 a0_1)) ++ (⟨#[44, 32, 97, 114, 101, 97, 32]⟩ : ByteArray)) ++ t315) ++ (⟨#[44, 32, 104, 111, 117, 114, 115, 32]⟩ : ByteArray)).size + t319.size ≤ 9223372036854775807 then (some ((((((((t311 ++ (⟨#[58, 32]⟩ : ByteArray)) ++ t313) ++ (⟨#[32]⟩ : ByteArray)) ++ (rdOf ByteArray.empty l2 a0_1)) ++ (⟨#[44, 32, 97, 114, 101, 97, 32]⟩ : ByteArray)) ++ t315) ++ (⟨#[44, 32, 104, 111, 117, 114, 115, 32]⟩ : ByteArray)) ++ t319)) else (none))) else (none)) else (none))) else (none)) else (none)) else (none)) else (none)) else (none)) else (none))) else (none)) else (none)) else (none))) = some r := h
 clear h
 obtain ⟨t311, A40, H⟩ := oB_ H
 have A4 := A_ A40
 clear A40
 by_cases c5 : t311.size + 2 ≤ 9223372036854775807
 ·
  rw [if_pos c5] at H
  have c5b0 := eq_true c5
  have c5b1 : decide (t311.size + 2 ≤ 9223372036854775807) = true := decide_eq_true c5
  try have c5b2 : (9223372036854775807 < t311.size + 2) = False := eq_false (Nat.not_lt.2 c5)
  by_cases c6 : 0 ≤ a0_2
  ·
   rw [if_pos c6] at H
   have c6b0 : decide (0 ≤ a0_2) = true := decide_eq_true c6
   clear c6
   by_cases c7 : a0_2 < (l1.length : Int)
   ·
    rw [if_pos c7] at H
    have c7b0 : decide (a0_2 < (l1.length : Int)) = true := decide_eq_true c7
    clear c7
    obtain ⟨t313, A80, H⟩ := oB_ H
    have A8 := A_ A80
    clear A80
    by_cases c9 : (t311 ++ (⟨#[58, 32]⟩ : ByteArray)).size + t313.size ≤ 9223372036854775807
    ·
     rw [if_pos c9] at H
     have c9b0 := eq_true c9
     have c9b1 : decide ((t311 ++ (⟨#[58, 32]⟩ : ByteArray)).size + t313.size ≤ 9223372036854775807) = true := decide_eq_true c9
     try have c9b1z : decide ((t311.size + 2) + t313.size ≤ 9223372036854775807) = true := by have h_ := c9b1; (try simp only [ByteArray.size_append] at h_); exact h_
     try have c9b2 : (9223372036854775807 < (t311 ++ (⟨#[58, 32]⟩ : ByteArray)).size + t313.size) = False := eq_false (Nat.not_lt.2 c9)
     try have c9b2z : (9223372036854775807 < (t311.size + 2) + t313.size) = False := by have h_ := c9b2; (try simp only [ByteArray.size_append] at h_); exact h_
     by_cases c10 : ((t311 ++ (⟨#[58, 32]⟩ : ByteArray)) ++ t313).size + 1 ≤ 9223372036854775807
     ·
      rw [if_pos c10] at H
      have c10b0 := eq_true c10
      have c10b1 : decide (((t311 ++ (⟨#[58, 32]⟩ : ByteArray)) ++ t313).size + 1 ≤ 9223372036854775807) = true := decide_eq_true c10
      try have c10b1z : decide (((t311.size + 2) + t313.size) + 1 ≤ 9223372036854775807) = true := by have h_ := c10b1; (try simp only [ByteArray.size_append] at h_); exact h_
      try have c10b2 : (9223372036854775807 < ((t311 ++ (⟨#[58, 32]⟩ : ByteArray)) ++ t313).size + 1) = False := eq_false (Nat.not_lt.2 c10)
      try have c10b2z : (9223372036854775807 < ((t311.size + 2) + t313.size) + 1) = False := by have h_ := c10b2; (try simp only [ByteArray.size_append] at h_); exact h_
      by_cases c11 : 0 ≤ a0_1
      ·
       rw [if_pos c11] at H
       have c11b0 : decide (0 ≤ a0_1) = true := decide_eq_true c11
       clear c11
       by_cases c12 : a0_1 < (l2.length : Int)
       ·
        rw [if_pos c12] at H
        have c12b0 : decide (a0_1 < (l2.length : Int)) = true := decide_eq_true c12
        clear c12
        by_cases c13 : (((t311 ++ (⟨#[58, 32]⟩ : ByteArray)) ++ t313) ++ (⟨#[32]⟩ : ByteArray)).size + (rdOf ByteArray.empty l2 a0_1).size ≤ 9223372036854775807
        ·
         rw [if_pos c13] at H
         have c13b0 := eq_true c13
         have c13b1 : decide ((((t311 ++ (⟨#[58, 32]⟩ : ByteArray)) ++ t313) ++ (⟨#[32]⟩ : ByteArray)).size + (rdOf ByteArray.empty l2 a0_1).size ≤ 9223372036854775807) = true := decide_eq_true c13
         try have c13b1z : decide ((((t311.size + 2) + t313.size) + 1) + (rdOf ByteArray.empty l2 a0_1).size ≤ 9223372036854775807) = true := by have h_ := c13b1; (try simp only [ByteArray.size_append] at h_); exact h_
         try have c13b2 : (9223372036854775807 < (((t311 ++ (⟨#[58, 32]⟩ : ByteArray)) ++ t313) ++ (⟨#[32]⟩ : ByteArray)).size + (rdOf ByteArray.empty l2 a0_1).size) = False := eq_false (Nat.not_lt.2 c13)
         try have c13b2z : (9223372036854775807 < (((t311.size + 2) + t313.size) + 1) + (rdOf ByteArray.empty l2 a0_1).size) = False := by have h_ := c13b2; (try simp only [ByteArray.size_append] at h_); exact h_
         by_cases c14 : ((((t311 ++ (⟨#[58, 32]⟩ : ByteArray)) ++ t313) ++ (⟨#[32]⟩ : ByteArray)) ++ (rdOf ByteArray.empty l2 a0_1)).size + 7 ≤ 9223372036854775807
         ·
          rw [if_pos c14] at H
          have c14b0 := eq_true c14
          have c14b1 : decide (((((t311 ++ (⟨#[58, 32]⟩ : ByteArray)) ++ t313) ++ (⟨#[32]⟩ : ByteArray)) ++ (rdOf ByteArray.empty l2 a0_1)).size + 7 ≤ 9223372036854775807) = true := decide_eq_true c14
          try have c14b1z : decide (((((t311.size + 2) + t313.size) + 1) + (rdOf ByteArray.empty l2 a0_1).size) + 7 ≤ 9223372036854775807) = true := by have h_ := c14b1; (try simp only [ByteArray.size_append] at h_); exact h_
          try have c14b2 : (9223372036854775807 < ((((t311 ++ (⟨#[58, 32]⟩ : ByteArray)) ++ t313) ++ (⟨#[32]⟩ : ByteArray)) ++ (rdOf ByteArray.empty l2 a0_1)).size + 7) = False := eq_false (Nat.not_lt.2 c14)
          try have c14b2z : (9223372036854775807 < ((((t311.size + 2) + t313.size) + 1) + (rdOf ByteArray.empty l2 a0_1).size) + 7) = False := by have h_ := c14b2; (try simp only [ByteArray.size_append] at h_); exact h_
          obtain ⟨t315, A150, H⟩ := oB_ H
          have A15 := A_ A150
          clear A150
          by_cases c16 : (((((t311 ++ (⟨#[58, 32]⟩ : ByteArray)) ++ t313) ++ (⟨#[32]⟩ : ByteArray)) ++ (rdOf ByteArray.empty l2 a0_1)) ++ (⟨#[44, 32, 97, 114, 101, 97, 32]⟩ : ByteArray)).size + t315.size ≤ 9223372036854775807
          ·
           rw [if_pos c16] at H
           have c16b0 := eq_true c16
           have c16b1 : decide ((((((t311 ++ (⟨#[58, 32]⟩ : ByteArray)) ++ t313) ++ (⟨#[32]⟩ : ByteArray)) ++ (rdOf ByteArray.empty l2 a0_1)) ++ (⟨#[44, 32, 97, 114, 101, 97, 32]⟩ : ByteArray)).size + t315.size ≤ 9223372036854775807) = true := decide_eq_true c16
           try have c16b1z : decide ((((((t311.size + 2) + t313.size) + 1) + (rdOf ByteArray.empty l2 a0_1).size) + 7) + t315.size ≤ 9223372036854775807) = true := by have h_ := c16b1; (try simp only [ByteArray.size_append] at h_); exact h_
           try have c16b2 : (9223372036854775807 < (((((t311 ++ (⟨#[58, 32]⟩ : ByteArray)) ++ t313) ++ (⟨#[32]⟩ : ByteArray)) ++ (rdOf ByteArray.empty l2 a0_1)) ++ (⟨#[44, 32, 97, 114, 101, 97, 32]⟩ : ByteArray)).size + t315.size) = False := eq_false (Nat.not_lt.2 c16)
           try have c16b2z : (9223372036854775807 < (((((t311.size + 2) + t313.size) + 1) + (rdOf ByteArray.empty l2 a0_1).size) + 7) + t315.size) = False := by have h_ := c16b2; (try simp only [ByteArray.size_append] at h_); exact h_
           by_cases c17 : ((((((t311 ++ (⟨#[58, 32]⟩ : ByteArray)) ++ t313) ++ (⟨#[32]⟩ : ByteArray)) ++ (rdOf ByteArray.empty l2 a0_1)) ++ (⟨#[44, 32, 97, 114, 101, 97, 32]⟩ : ByteArray)) ++ t315).size + 8 ≤ 9223372036854775807
           ·
            rw [if_pos c17] at H
            have c17b0 := eq_true c17
            have c17b1 : decide (((((((t311 ++ (⟨#[58, 32]⟩ : ByteArray)) ++ t313) ++ (⟨#[32]⟩ : ByteArray)) ++ (rdOf ByteArray.empty l2 a0_1)) ++ (⟨#[44, 32, 97, 114, 101, 97, 32]⟩ : ByteArray)) ++ t315).size + 8 ≤ 9223372036854775807) = true := decide_eq_true c17
            try have c17b1z : decide (((((((t311.size + 2) + t313.size) + 1) + (rdOf ByteArray.empty l2 a0_1).size) + 7) + t315.size) + 8 ≤ 9223372036854775807) = true := by have h_ := c17b1; (try simp only [ByteArray.size_append] at h_); exact h_
            try have c17b2 : (9223372036854775807 < ((((((t311 ++ (⟨#[58, 32]⟩ : ByteArray)) ++ t313) ++ (⟨#[32]⟩ : ByteArray)) ++ (rdOf ByteArray.empty l2 a0_1)) ++ (⟨#[44, 32, 97, 114, 101, 97, 32]⟩ : ByteArray)) ++ t315).size + 8) = False := eq_false (Nat.not_lt.2 c17)
            try have c17b2z : (9223372036854775807 < ((((((t311.size + 2) + t313.size) + 1) + (rdOf ByteArray.empty l2 a0_1).size) + 7) + t315.size) + 8) = False := by have h_ := c17b2; (try simp only [ByteArray.size_append] at h_); exact h_
            obtain ⟨y316, hy316⟩ : ∃ y_ : List Int, y_ = (([a0_4, a0_5] : List Int)) := ⟨_, rfl⟩
            replace H : ((impl_joinInts.f k y316 (⟨#[45]⟩ : ByteArray)).bind fun t319 => (if (((((((t311 ++ (⟨#[58, 32]⟩ : ByteArray)) ++ t313) ++ (⟨#[32]⟩ : ByteArray)) ++ (rdOf ByteArray.empty l2 a0_1)) ++ (⟨#[44, 32, 97, 114, 101, 97, 32]⟩ : ByteArray)) ++ t315) ++ (⟨#[44, 32, 104, 111, 117, 114, 115, 32]⟩ : ByteArray)).size + t319.size ≤ 9223372036854775807 then (some ((((((((t311 ++ (⟨#[58, 32]⟩ : ByteArray)) ++ t313) ++ (⟨#[32]⟩ : ByteArray)) ++ (rdOf ByteArray.empty l2 a0_1)) ++ (⟨#[44, 32, 97, 114, 101, 97, 32]⟩ : ByteArray)) ++ t315) ++ (⟨#[44, 32, 104, 111, 117, 114, 115, 32]⟩ : ByteArray)) ++ t319)) else (none))) = some r := by first | (rw [hy316]; with_reducible exact H) | (have H2_ := (Option.bind_some _ _).symm.trans H; rw [hy316]; with_reducible exact H2_) | (have H2_ := (Option.bind_some _ _).symm.trans H; with_reducible exact H2_) | with_reducible exact H | (rw [hy316]; exact H) | exact H
            have Ny316 := A_ hy316
            clear hy316
            obtain ⟨t319, A180, H⟩ := oB_ H
            have A18 := A_ A180
            clear A180
            by_cases c19 : (((((((t311 ++ (⟨#[58, 32]⟩ : ByteArray)) ++ t313) ++ (⟨#[32]⟩ : ByteArray)) ++ (rdOf ByteArray.empty l2 a0_1)) ++ (⟨#[44, 32, 97, 114, 101, 97, 32]⟩ : ByteArray)) ++ t315) ++ (⟨#[44, 32, 104, 111, 117, 114, 115, 32]⟩ : ByteArray)).size + t319.size ≤ 9223372036854775807
            ·
             rw [if_pos c19] at H
             have c19b0 := eq_true c19
             have c19b1 : decide ((((((((t311 ++ (⟨#[58, 32]⟩ : ByteArray)) ++ t313) ++ (⟨#[32]⟩ : ByteArray)) ++ (rdOf ByteArray.empty l2 a0_1)) ++ (⟨#[44, 32, 97, 114, 101, 97, 32]⟩ : ByteArray)) ++ t315) ++ (⟨#[44, 32, 104, 111, 117, 114, 115, 32]⟩ : ByteArray)).size + t319.size ≤ 9223372036854775807) = true := decide_eq_true c19
             try have c19b1z : decide ((((((((t311.size + 2) + t313.size) + 1) + (rdOf ByteArray.empty l2 a0_1).size) + 7) + t315.size) + 8) + t319.size ≤ 9223372036854775807) = true := by have h_ := c19b1; (try simp only [ByteArray.size_append] at h_); exact h_
             try have c19b2 : (9223372036854775807 < (((((((t311 ++ (⟨#[58, 32]⟩ : ByteArray)) ++ t313) ++ (⟨#[32]⟩ : ByteArray)) ++ (rdOf ByteArray.empty l2 a0_1)) ++ (⟨#[44, 32, 97, 114, 101, 97, 32]⟩ : ByteArray)) ++ t315) ++ (⟨#[44, 32, 104, 111, 117, 114, 115, 32]⟩ : ByteArray)).size + t319.size) = False := eq_false (Nat.not_lt.2 c19)
             try have c19b2z : (9223372036854775807 < (((((((t311.size + 2) + t313.size) + 1) + (rdOf ByteArray.empty l2 a0_1).size) + 7) + t315.size) + 8) + t319.size) = False := by have h_ := c19b2; (try simp only [ByteArray.size_append] at h_); exact h_
             obtain rfl := Option.some.inj H
             go_enter Tryz.func47, Tryz.ntmps47
             try go_wp2_with (first | ((with_reducible refine gd_ 1 rfl ?_); refine box_event rfl (N := 1) rfl (cs := #[.int .i64 a0_0, .int .i64 a0_1, .int .i64 a0_2, .int .i64 a0_3, .int .i64 a0_4, .int .i64 a0_5]) (t := 73) mc142 ?_; intro gb310 hg w20 hbox hb; have BK310 := A_ (hbox); have GW310 := A_ ((mc45 : w.heap.size ≤ gb310)); have GE310 := A_ ((mc45 : w.heap.size ≤ gb310)); replace HB := A_ (below_step mc89 hb); clear hb hbox hg))
             replace BK310 := A_ (blk_drew BK310.out)
             replace HB := A_ (below_drew1 HB.out)
             have p312 : 0 ≤ (a0_2 : Int) := of_decide_eq_true mc139
             have q312 : a0_2 < (l1.length : Int) := of_decide_eq_true mc139
             obtain ⟨ad312, e312, hx312_0⟩ := Kd.at_string HR1.out a0_2 p312 q312
             obtain rfl : ad312 = ⟨0, 0, none⟩ := (Option.some.inj (HA1.out.symm.trans e312)).symm
             rw [add_plain] at hx312_0
             have qg312 : (a0_2 < (4 : Int)) = True := eq_true (by have := HL1.out; omega)
             have hw312_0 := hx312_0
             clear e312
             replace hx312_0 := (HB.out.cell (World.block_lt_of_cell? w _ hx312_0)).trans hx312_0
             replace p312 := eq_true p312
             replace q312 := eq_true q312
             have p314 : 0 ≤ (a0_1 : Int) := of_decide_eq_true mc139
             have q314 : a0_1 < (l2.length : Int) := of_decide_eq_true mc139
             obtain ⟨ad314, e314, hx314_0⟩ := Kd.at_string HR2.out a0_1 p314 q314
             obtain rfl : ad314 = ⟨1, 0, none⟩ := (Option.some.inj (HA2.out.symm.trans e314)).symm
             rw [add_plain] at hx314_0
             have qg314 : (a0_1 < (6 : Int)) = True := eq_true (by have := HL2.out; omega)
             have hw314_0 := hx314_0
             clear e314
             replace hx314_0 := (HB.out.cell (World.block_lt_of_cell? w _ hx314_0)).trans hx314_0
             replace p314 := eq_true p314
             replace q314 := eq_true q314
             refine start_ (n := 30) (S := fun w' => True) (ds := []) #[false, false, false, false, false, false, false, false, false, false, false, false, false, false, false, false, false, false, false, false, false, false, false, false, false, false, false, false, false, false] kr_ rfl rfl trivial (fun hHeld => ?_); refine with_tabW impl_warningLine_v.tab1 impl_warningLine_v.bits1 (fun HT_ HW_ => ?_)
             generalize w20.drew = w21 at BK310 HB hx312_0 hx314_0 hHeld ⊢
             refine pure_ (i := 0) (N := some 3) #[true, false, false, false, false, false, false, false, false, false, false, false, false, false, false, false, false, false, false, false, false, false, false, false, false, false, false, false, false, false] rfl rfl (any_of HT_.out kr_) (fun _ _ _ h => h) (Or.inl ⟨by rfl, mc143⟩) mc122 ?_
             refine pure_ (i := 4) (N := some 7) #[true, false, false, false, true, false, false, false, false, false, false, false, false, false, false, false, false, false, false, false, false, false, false, false, false, false, false, false, false, false] rfl rfl (any_of HT_.out kr_) (fun _ _ _ h => h) (Or.inl ⟨by rfl, mc143⟩) mc122 ?_
             refine pure_ (i := 11) (N := some 14) #[true, false, false, false, true, false, false, false, false, false, false, true, false, false, false, false, false, false, false, false, false, false, false, false, false, false, false, false, false, false] rfl rfl (any_of HT_.out kr_) (fun _ _ _ h => h) (Or.inl ⟨by rfl, mc143⟩) mc122 ?_
             refine pure_ (i := 17) (N := some 20) #[true, false, false, false, true, false, false, false, false, false, false, true, false, false, false, false, false, true, false, false, false, false, false, false, false, false, false, false, false, false] rfl rfl (any_of HT_.out kr_) (fun _ _ _ h => h) (Or.inl ⟨by rfl, mc143⟩) mc122 ?_
             refine pure_ (i := 22) (N := some 25) #[true, false, false, false, true, false, false, false, false, false, false, true, false, false, false, false, false, true, false, false, false, false, true, false, false, false, false, false, false, false] rfl rfl (any_of HT_.out kr_) (fun _ _ _ h => h) (Or.inl ⟨by rfl, mc143⟩) mc122 ?_
             refine pure_ (i := 24) (N := some 27) #[true, false, false, false, true, false, false, false, false, false, false, true, false, false, false, false, false, true, false, false, false, false, true, false, true, false, false, false, false, false] rfl rfl (any_of HT_.out kr_) (fun _ _ _ h => h) (Or.inl ⟨by rfl, mc143⟩) mc122 ?_
             refine inv_at [1, 2, 3, 5, 6, 7, 8, 9, 10, 12, 13, 14, 15, 16, 18, 19, 20, 21, 23, 25, 26, 27, 28, 29] (fun a0_ b a w' => ∃ (v317 : Value), a = putSel a0_ b [(1, 4, .int .i64 a0_0), (2, 5, .string t311), (3, 6, .string (t311 ++ (⟨#[58, 32]⟩ : ByteArray))), (5, 8, .int .i64 a0_2), (6, 9, .pointer (some ⟨0, (a0_2).toNat, none⟩)), (7, 10, .string (rdOf ByteArray.empty l1 a0_2)), (8, 11, .string t313), (9, 12, .string ((t311 ++ (⟨#[58, 32]⟩ : ByteArray)) ++ t313)), (10, 13, .string (((t311 ++ (⟨#[58, 32]⟩ : ByteArray)) ++ t313) ++ (⟨#[32]⟩ : ByteArray))), (12, 15, .int .i64 a0_1), (13, 16, .pointer (some ⟨1, (a0_1).toNat, none⟩)), (14, 17, .string (rdOf ByteArray.empty l2 a0_1)), (15, 18, .string ((((t311 ++ (⟨#[58, 32]⟩ : ByteArray)) ++ t313) ++ (⟨#[32]⟩ : ByteArray)) ++ (rdOf ByteArray.empty l2 a0_1))), (16, 19, .string (((((t311 ++ (⟨#[58, 32]⟩ : ByteArray)) ++ t313) ++ (⟨#[32]⟩ : ByteArray)) ++ (rdOf ByteArray.empty l2 a0_1)) ++ (⟨#[44, 32, 97, 114, 101, 97, 32]⟩ : ByteArray))), (18, 21, .int .i64 a0_3), (19, 22, .string t315), (20, 23, .string ((((((t311 ++ (⟨#[58, 32]⟩ : ByteArray)) ++ t313) ++ (⟨#[32]⟩ : ByteArray)) ++ (rdOf ByteArray.empty l2 a0_1)) ++ (⟨#[44, 32, 97, 114, 101, 97, 32]⟩ : ByteArray)) ++ t315)), (21, 24, .string (((((((t311 ++ (⟨#[58, 32]⟩ : ByteArray)) ++ t313) ++ (⟨#[32]⟩ : ByteArray)) ++ (rdOf ByteArray.empty l2 a0_1)) ++ (⟨#[44, 32, 97, 114, 101, 97, 32]⟩ : ByteArray)) ++ t315) ++ (⟨#[44, 32, 104, 111, 117, 114, 115, 32]⟩ : ByteArray))), (23, 26, .int .i64 a0_4), (25, 28, .int .i64 a0_5), (26, 29, v317), (27, 30, .string t319), (28, 31, .string ((((((((t311 ++ (⟨#[58, 32]⟩ : ByteArray)) ++ t313) ++ (⟨#[32]⟩ : ByteArray)) ++ (rdOf ByteArray.empty l2 a0_1)) ++ (⟨#[44, 32, 97, 114, 101, 97, 32]⟩ : ByteArray)) ++ t315) ++ (⟨#[44, 32, 104, 111, 117, 114, 115, 32]⟩ : ByteArray)) ++ t319)), (29, 2, .string ((((((((t311 ++ (⟨#[58, 32]⟩ : ByteArray)) ++ t313) ++ (⟨#[32]⟩ : ByteArray)) ++ (rdOf ByteArray.empty l2 a0_1)) ++ (⟨#[44, 32, 97, 114, 101, 97, 32]⟩ : ByteArray)) ++ t315) ++ (⟨#[44, 32, 104, 111, 117, 114, 115, 32]⟩ : ByteArray)) ++ t319))] ∧ (w'.heap[gb310]? = some (.cells #[.int .i64 a0_0, .int .i64 a0_1, .int .i64 a0_2, .int .i64 a0_3, .int .i64 a0_4, .int .i64 a0_5] 73 (0, 0))) ∧ (Below w.heap.size w w') ∧ (b 26 = true → Kd.R (Kd.int .i64) 3 w' w.heap.size (fun _ => True) v317 y316)) HT_.out HW_.out kr_ kr_ ?_ ?_ ?_
             ·
              exact ⟨.bool false, by simp only [putSel, Bool.false_eq_true, if_false], BK310.out, HB.out, fun h_ => absurd h_ (by decide)⟩
             ·
              skip
              clear BK310 HB
              refine steps_cons ?_ ?_
              ·
               rintro b a w' ⟨v317, ha, Q_BK310, Q_HB, Q_HO318⟩ hb_ hon hoff
               refine ⟨_, rfl, fun K hK => ?_⟩
               have e3 : a.tmps[3]? = some (.pointer (some ⟨gb310, 0, none⟩)) := by rw [ha]; exact (putSel_off rfl).trans rfl
               replace ha := A_ ha
               have BK310 := A_ Q_BK310
               have HB := A_ Q_HB
               have hc0_ : w'.cell? ⟨gb310, 0, none⟩ = some (.int .i64 a0_0) := bc_ BK310 0 rfl
               have hc1_ : w'.cell? ⟨gb310, 1, none⟩ = some (.int .i64 a0_1) := bc_ BK310 1 rfl
               have hc2_ : w'.cell? ⟨gb310, 2, none⟩ = some (.int .i64 a0_2) := bc_ BK310 2 rfl
               have hc3_ : w'.cell? ⟨gb310, 3, none⟩ = some (.int .i64 a0_3) := bc_ BK310 3 rfl
               have hc4_ : w'.cell? ⟨gb310, 4, none⟩ = some (.int .i64 a0_4) := bc_ BK310 4 rfl
               have hc5_ : w'.cell? ⟨gb310, 5, none⟩ = some (.int .i64 a0_5) := bc_ BK310 5 rfl
               refine value_ (w1 := w') (v := .int .i64 a0_0) (by rfl) rfl ?_ ?_
               ·
                go_simp
                (try simp only [i64_w])
                try rfl
               refine hK.out _ _ ⟨v317, (by rw [ha.out]; exact putSel_upk 0 hb_ rfl rfl rfl), Q_BK310, Q_HB, Q_HO318⟩
              refine steps_cons ?_ ?_
              ·
               rintro b a w' ⟨v317, ha, Q_BK310, Q_HB, Q_HO318⟩ hb_ hon hoff
               refine ⟨_, rfl, fun K hK => ?_⟩
               have e4 : a.tmps[4]? = some (.int .i64 a0_0) := by rw [ha]; exact putSel_on (e := (1, 4, .int .i64 a0_0)) 0 rfl rfl (hon 1 kr_) rfl
               replace ha := A_ ha
               have BK310 := A_ Q_BK310
               have HB := A_ Q_HB
               refine goes_ Tryz.func48 kr_ rfl #[.int .i64 a0_0] (by rfl) rfl rfl mc13 ?_
               with_reducible refine (strconv_Itoa.calls a0_0 t311 _ A4.out ?sideG).mono ?_
               case sideG => exact (gw_below HG.out mc65)
               rintro e w22 ⟨rfl, hb⟩
               refine ⟨_, rfl, ?_⟩
               have n0_ := A_ (blk_below mc112 hb)
               have n1_ := A_ (below_step mc65 hb)
               have z_HO318 := fun (h0_ : b 26 = true) => (show Kd.R (Kd.int .i64) 3 w22 w.heap.size (fun _ => True) v317 y316 from by first | exact (Kd.R_below mc120 hb) | exact Kd.R_mono (Kd.R_below mc120 hb) (fun _ h_ => by first | trivial | exact h_ | exact h_.1))
               clear BK310
               clear HB
               have BK310 := n0_
               have HB := n1_
               clear n0_ n1_
               (try clear hb)
               refine hK.out _ _ ⟨v317, (by rw [ha.out]; exact putSel_upk 1 hb_ rfl rfl rfl), mc112, mc65, z_HO318⟩
              refine steps_cons ?_ ?_
              ·
               rintro b a w' ⟨v317, ha, Q_BK310, Q_HB, Q_HO318⟩ hb_ hon hoff
               refine ⟨_, rfl, fun K hK => ?_⟩
               have e5 : a.tmps[5]? = some (.string t311) := by rw [ha]; exact putSel_on (e := (2, 5, .string t311)) 1 rfl rfl (hon 2 kr_) rfl
               replace ha := A_ ha
               have BK310 := A_ Q_BK310
               have HB := A_ Q_HB
               refine value_ (w1 := w') (v := .string (t311 ++ (⟨#[58, 32]⟩ : ByteArray))) (by rfl) rfl ?_ ?_
               ·
                go_simp
                (try simp only [i64_w])
                try rfl
               refine hK.out _ _ ⟨v317, (by rw [ha.out]; exact putSel_upk 2 hb_ rfl rfl rfl), Q_BK310, Q_HB, Q_HO318⟩
              refine steps_cons ?_ ?_
              ·
               rintro b a w' ⟨v317, ha, Q_BK310, Q_HB, Q_HO318⟩ hb_ hon hoff
               refine ⟨_, rfl, fun K hK => ?_⟩
               have e7 : a.tmps[7]? = some (.pointer (some ⟨gb310, 2, none⟩)) := by rw [ha]; exact (putSel_off rfl).trans rfl
               replace ha := A_ ha
               have BK310 := A_ Q_BK310
               have HB := A_ Q_HB
               have hc0_ : w'.cell? ⟨gb310, 0, none⟩ = some (.int .i64 a0_0) := bc_ BK310 0 rfl
               have hc1_ : w'.cell? ⟨gb310, 1, none⟩ = some (.int .i64 a0_1) := bc_ BK310 1 rfl
               have hc2_ : w'.cell? ⟨gb310, 2, none⟩ = some (.int .i64 a0_2) := bc_ BK310 2 rfl
               have hc3_ : w'.cell? ⟨gb310, 3, none⟩ = some (.int .i64 a0_3) := bc_ BK310 3 rfl
               have hc4_ : w'.cell? ⟨gb310, 4, none⟩ = some (.int .i64 a0_4) := bc_ BK310 4 rfl
               have hc5_ : w'.cell? ⟨gb310, 5, none⟩ = some (.int .i64 a0_5) := bc_ BK310 5 rfl
               refine value_ (w1 := w') (v := .int .i64 a0_2) (by rfl) rfl ?_ ?_
               ·
                go_simp
                (try simp only [i64_w])
                try rfl
               refine hK.out _ _ ⟨v317, (by rw [ha.out]; exact putSel_upk 3 hb_ rfl rfl rfl), Q_BK310, Q_HB, Q_HO318⟩
              refine steps_cons ?_ ?_
              ·
               rintro b a w' ⟨v317, ha, Q_BK310, Q_HB, Q_HO318⟩ hb_ hon hoff
               refine ⟨_, rfl, fun K hK => ?_⟩
               have e8 : a.tmps[8]? = some (.int .i64 a0_2) := by rw [ha]; exact putSel_on (e := (5, 8, .int .i64 a0_2)) 3 rfl rfl (hon 5 kr_) rfl
               replace ha := A_ ha
               have BK310 := A_ Q_BK310
               have HB := A_ Q_HB
               have hs0_ : w'.cell? ⟨0, (a0_2).toNat, none⟩ = some (.string (rdOf ByteArray.empty l1 a0_2)) := ((HB.out.cell (World.block_lt_of_cell? w _ hw312_0)).trans hw312_0)
               refine value_ (w1 := w') (v := .pointer (some ⟨0, (a0_2).toNat, none⟩)) (by rfl) rfl ?_ ?_
               ·
                go_simp
                (try simp only [i64_w])
                try rfl
               refine hK.out _ _ ⟨v317, (by rw [ha.out]; exact putSel_upk 4 hb_ rfl rfl rfl), Q_BK310, Q_HB, Q_HO318⟩
              refine steps_cons ?_ ?_
              ·
               rintro b a w' ⟨v317, ha, Q_BK310, Q_HB, Q_HO318⟩ hb_ hon hoff
               refine ⟨_, rfl, fun K hK => ?_⟩
               have e9 : a.tmps[9]? = some (.pointer (some ⟨0, (a0_2).toNat, none⟩)) := by rw [ha]; exact putSel_on (e := (6, 9, .pointer (some ⟨0, (a0_2).toNat, none⟩))) 4 rfl rfl (hon 6 kr_) rfl
               replace ha := A_ ha
               have BK310 := A_ Q_BK310
               have HB := A_ Q_HB
               have hs0_ : w'.cell? ⟨0, (a0_2).toNat, none⟩ = some (.string (rdOf ByteArray.empty l1 a0_2)) := ((HB.out.cell (World.block_lt_of_cell? w _ hw312_0)).trans hw312_0)
               refine value_ (w1 := w') (v := .string (rdOf ByteArray.empty l1 a0_2)) (by rfl) rfl ?_ ?_
               ·
                go_simp
                (try simp only [i64_w])
                try rfl
               refine hK.out _ _ ⟨v317, (by rw [ha.out]; exact putSel_upk 5 hb_ rfl rfl rfl), Q_BK310, Q_HB, Q_HO318⟩
              refine steps_cons ?_ ?_
              ·
               rintro b a w' ⟨v317, ha, Q_BK310, Q_HB, Q_HO318⟩ hb_ hon hoff
               refine ⟨_, rfl, fun K hK => ?_⟩
               have e10 : a.tmps[10]? = some (.string (rdOf ByteArray.empty l1 a0_2)) := by rw [ha]; exact putSel_on (e := (7, 10, .string (rdOf ByteArray.empty l1 a0_2))) 5 rfl rfl (hon 7 kr_) rfl
               replace ha := A_ ha
               have BK310 := A_ Q_BK310
               have HB := A_ Q_HB
               refine goes_ Tryz.func82 kr_ rfl #[.string (rdOf ByteArray.empty l1 a0_2)] (by rfl) rfl rfl (by first | (simp only [List.map_toArray, List.map_cons, List.map_nil, Act.eval, Array.getD_eq_getD_getElem?, Option.getD_some, e10]; done) | (simp only [List.map_toArray, List.map_cons, List.map_nil, Act.eval, Array.getD_eq_getD_getElem?, Option.getD_some, e10]; rfl)) ?_
               with_reducible refine (strings_ToLower.calls (rdOf ByteArray.empty l1 a0_2) t313 _ A8.out).mono ?_
               rintro e w24 ⟨rfl, hb⟩
               refine ⟨_, rfl, ?_⟩
               have n0_ := A_ (blk_below mc112 hb)
               have n1_ := A_ (below_step mc65 hb)
               have z_HO318 := fun (h0_ : b 26 = true) => (show Kd.R (Kd.int .i64) 3 w24 w.heap.size (fun _ => True) v317 y316 from by first | exact (Kd.R_below mc120 hb) | exact Kd.R_mono (Kd.R_below mc120 hb) (fun _ h_ => by first | trivial | exact h_ | exact h_.1))
               clear BK310
               clear HB
               have BK310 := n0_
               have HB := n1_
               clear n0_ n1_
               (try clear hb)
               refine hK.out _ _ ⟨v317, (by rw [ha.out]; exact putSel_upk 6 hb_ rfl rfl rfl), mc112, mc65, z_HO318⟩
              refine steps_cons ?_ ?_
              ·
               rintro b a w' ⟨v317, ha, Q_BK310, Q_HB, Q_HO318⟩ hb_ hon hoff
               refine ⟨_, rfl, fun K hK => ?_⟩
               have e6 : a.tmps[6]? = some (.string (t311 ++ (⟨#[58, 32]⟩ : ByteArray))) := by rw [ha]; exact putSel_on (e := (3, 6, .string (t311 ++ (⟨#[58, 32]⟩ : ByteArray)))) 2 rfl rfl (hon 3 kr_) rfl
               have e11 : a.tmps[11]? = some (.string t313) := by rw [ha]; exact putSel_on (e := (8, 11, .string t313)) 6 rfl rfl (hon 8 kr_) rfl
               replace ha := A_ ha
               have BK310 := A_ Q_BK310
               have HB := A_ Q_HB
               refine value_ (w1 := w') (v := .string ((t311 ++ (⟨#[58, 32]⟩ : ByteArray)) ++ t313)) (by rfl) rfl ?_ ?_
               ·
                go_simp
                (try simp only [i64_w])
                try rfl
               refine hK.out _ _ ⟨v317, (by rw [ha.out]; exact putSel_upk 7 hb_ rfl rfl rfl), Q_BK310, Q_HB, Q_HO318⟩
              refine steps_cons ?_ ?_
              ·
               rintro b a w' ⟨v317, ha, Q_BK310, Q_HB, Q_HO318⟩ hb_ hon hoff
               refine ⟨_, rfl, fun K hK => ?_⟩
               have e12 : a.tmps[12]? = some (.string ((t311 ++ (⟨#[58, 32]⟩ : ByteArray)) ++ t313)) := by rw [ha]; exact putSel_on (e := (9, 12, .string ((t311 ++ (⟨#[58, 32]⟩ : ByteArray)) ++ t313))) 7 rfl rfl (hon 9 kr_) rfl
               replace ha := A_ ha
               have BK310 := A_ Q_BK310
               have HB := A_ Q_HB
               refine value_ (w1 := w') (v := .string (((t311 ++ (⟨#[58, 32]⟩ : ByteArray)) ++ t313) ++ (⟨#[32]⟩ : ByteArray))) (by rfl) rfl ?_ ?_
               ·
                go_simp
                (try simp only [i64_w])
                try rfl
               refine hK.out _ _ ⟨v317, (by rw [ha.out]; exact putSel_upk 8 hb_ rfl rfl rfl), Q_BK310, Q_HB, Q_HO318⟩
              refine steps_cons ?_ ?_
              ·
               rintro b a w' ⟨v317, ha, Q_BK310, Q_HB, Q_HO318⟩ hb_ hon hoff
               refine ⟨_, rfl, fun K hK => ?_⟩
               have e14 : a.tmps[14]? = some (.pointer (some ⟨gb310, 1, none⟩)) := by rw [ha]; exact (putSel_off rfl).trans rfl
               replace ha := A_ ha
               have BK310 := A_ Q_BK310
               have HB := A_ Q_HB
               have hc0_ : w'.cell? ⟨gb310, 0, none⟩ = some (.int .i64 a0_0) := bc_ BK310 0 rfl
               have hc1_ : w'.cell? ⟨gb310, 1, none⟩ = some (.int .i64 a0_1) := bc_ BK310 1 rfl
               have hc2_ : w'.cell? ⟨gb310, 2, none⟩ = some (.int .i64 a0_2) := bc_ BK310 2 rfl
               have hc3_ : w'.cell? ⟨gb310, 3, none⟩ = some (.int .i64 a0_3) := bc_ BK310 3 rfl
               have hc4_ : w'.cell? ⟨gb310, 4, none⟩ = some (.int .i64 a0_4) := bc_ BK310 4 rfl
               have hc5_ : w'.cell? ⟨gb310, 5, none⟩ = some (.int .i64 a0_5) := bc_ BK310 5 rfl
               refine value_ (w1 := w') (v := .int .i64 a0_1) (by rfl) rfl ?_ ?_
               ·
                go_simp
                (try simp only [i64_w])
                try rfl
               refine hK.out _ _ ⟨v317, (by rw [ha.out]; exact putSel_upk 9 hb_ rfl rfl rfl), Q_BK310, Q_HB, Q_HO318⟩
              refine steps_cons ?_ ?_
              ·
               rintro b a w' ⟨v317, ha, Q_BK310, Q_HB, Q_HO318⟩ hb_ hon hoff
               refine ⟨_, rfl, fun K hK => ?_⟩
               have e15 : a.tmps[15]? = some (.int .i64 a0_1) := by rw [ha]; exact putSel_on (e := (12, 15, .int .i64 a0_1)) 9 rfl rfl (hon 12 kr_) rfl
               replace ha := A_ ha
               have BK310 := A_ Q_BK310
               have HB := A_ Q_HB
               have hs1_ : w'.cell? ⟨1, (a0_1).toNat, none⟩ = some (.string (rdOf ByteArray.empty l2 a0_1)) := ((HB.out.cell (World.block_lt_of_cell? w _ hw314_0)).trans hw314_0)
               refine value_ (w1 := w') (v := .pointer (some ⟨1, (a0_1).toNat, none⟩)) (by rfl) rfl ?_ ?_
               ·
                go_simp
                (try simp only [i64_w])
                try rfl
               refine hK.out _ _ ⟨v317, (by rw [ha.out]; exact putSel_upk 10 hb_ rfl rfl rfl), Q_BK310, Q_HB, Q_HO318⟩
              refine steps_cons ?_ ?_
              ·
               rintro b a w' ⟨v317, ha, Q_BK310, Q_HB, Q_HO318⟩ hb_ hon hoff
               refine ⟨_, rfl, fun K hK => ?_⟩
               have e16 : a.tmps[16]? = some (.pointer (some ⟨1, (a0_1).toNat, none⟩)) := by rw [ha]; exact putSel_on (e := (13, 16, .pointer (some ⟨1, (a0_1).toNat, none⟩))) 10 rfl rfl (hon 13 kr_) rfl
               replace ha := A_ ha
               have BK310 := A_ Q_BK310
               have HB := A_ Q_HB
               have hs1_ : w'.cell? ⟨1, (a0_1).toNat, none⟩ = some (.string (rdOf ByteArray.empty l2 a0_1)) := ((HB.out.cell (World.block_lt_of_cell? w _ hw314_0)).trans hw314_0)
               refine value_ (w1 := w') (v := .string (rdOf ByteArray.empty l2 a0_1)) (by rfl) rfl ?_ ?_
               ·
                go_simp
                (try simp only [i64_w])
                try rfl
               refine hK.out _ _ ⟨v317, (by rw [ha.out]; exact putSel_upk 11 hb_ rfl rfl rfl), Q_BK310, Q_HB, Q_HO318⟩
              refine steps_cons ?_ ?_
              ·
               rintro b a w' ⟨v317, ha, Q_BK310, Q_HB, Q_HO318⟩ hb_ hon hoff
               refine ⟨_, rfl, fun K hK => ?_⟩
               have e13 : a.tmps[13]? = some (.string (((t311 ++ (⟨#[58, 32]⟩ : ByteArray)) ++ t313) ++ (⟨#[32]⟩ : ByteArray))) := by rw [ha]; exact putSel_on (e := (10, 13, .string (((t311 ++ (⟨#[58, 32]⟩ : ByteArray)) ++ t313) ++ (⟨#[32]⟩ : ByteArray)))) 8 rfl rfl (hon 10 kr_) rfl
               have e17 : a.tmps[17]? = some (.string (rdOf ByteArray.empty l2 a0_1)) := by rw [ha]; exact putSel_on (e := (14, 17, .string (rdOf ByteArray.empty l2 a0_1))) 11 rfl rfl (hon 14 kr_) rfl
               replace ha := A_ ha
               have BK310 := A_ Q_BK310
               have HB := A_ Q_HB
               refine value_ (w1 := w') (v := .string ((((t311 ++ (⟨#[58, 32]⟩ : ByteArray)) ++ t313) ++ (⟨#[32]⟩ : ByteArray)) ++ (rdOf ByteArray.empty l2 a0_1))) (by rfl) rfl ?_ ?_
               ·
                go_simp
                (try simp only [i64_w])
                try rfl
               refine hK.out _ _ ⟨v317, (by rw [ha.out]; exact putSel_upk 12 hb_ rfl rfl rfl), Q_BK310, Q_HB, Q_HO318⟩
              refine steps_cons ?_ ?_
              ·
               rintro b a w' ⟨v317, ha, Q_BK310, Q_HB, Q_HO318⟩ hb_ hon hoff
               refine ⟨_, rfl, fun K hK => ?_⟩
               have e18 : a.tmps[18]? = some (.string ((((t311 ++ (⟨#[58, 32]⟩ : ByteArray)) ++ t313) ++ (⟨#[32]⟩ : ByteArray)) ++ (rdOf ByteArray.empty l2 a0_1))) := by rw [ha]; exact putSel_on (e := (15, 18, .string ((((t311 ++ (⟨#[58, 32]⟩ : ByteArray)) ++ t313) ++ (⟨#[32]⟩ : ByteArray)) ++ (rdOf ByteArray.empty l2 a0_1)))) 12 rfl rfl (hon 15 kr_) rfl
               replace ha := A_ ha
               have BK310 := A_ Q_BK310
               have HB := A_ Q_HB
               refine value_ (w1 := w') (v := .string (((((t311 ++ (⟨#[58, 32]⟩ : ByteArray)) ++ t313) ++ (⟨#[32]⟩ : ByteArray)) ++ (rdOf ByteArray.empty l2 a0_1)) ++ (⟨#[44, 32, 97, 114, 101, 97, 32]⟩ : ByteArray))) (by rfl) rfl ?_ ?_
               ·
                go_simp
                (try simp only [i64_w])
                try rfl
               refine hK.out _ _ ⟨v317, (by rw [ha.out]; exact putSel_upk 13 hb_ rfl rfl rfl), Q_BK310, Q_HB, Q_HO318⟩
              refine steps_cons ?_ ?_
              ·
               rintro b a w' ⟨v317, ha, Q_BK310, Q_HB, Q_HO318⟩ hb_ hon hoff
               refine ⟨_, rfl, fun K hK => ?_⟩
               have e20 : a.tmps[20]? = some (.pointer (some ⟨gb310, 3, none⟩)) := by rw [ha]; exact (putSel_off rfl).trans rfl
               replace ha := A_ ha
               have BK310 := A_ Q_BK310
               have HB := A_ Q_HB
               have hc0_ : w'.cell? ⟨gb310, 0, none⟩ = some (.int .i64 a0_0) := bc_ BK310 0 rfl
               have hc1_ : w'.cell? ⟨gb310, 1, none⟩ = some (.int .i64 a0_1) := bc_ BK310 1 rfl
               have hc2_ : w'.cell? ⟨gb310, 2, none⟩ = some (.int .i64 a0_2) := bc_ BK310 2 rfl
               have hc3_ : w'.cell? ⟨gb310, 3, none⟩ = some (.int .i64 a0_3) := bc_ BK310 3 rfl
               have hc4_ : w'.cell? ⟨gb310, 4, none⟩ = some (.int .i64 a0_4) := bc_ BK310 4 rfl
               have hc5_ : w'.cell? ⟨gb310, 5, none⟩ = some (.int .i64 a0_5) := bc_ BK310 5 rfl
               refine value_ (w1 := w') (v := .int .i64 a0_3) (by rfl) rfl ?_ ?_
               ·
                go_simp
                (try simp only [i64_w])
                try rfl
               refine hK.out _ _ ⟨v317, (by rw [ha.out]; exact putSel_upk 14 hb_ rfl rfl rfl), Q_BK310, Q_HB, Q_HO318⟩
              refine steps_cons ?_ ?_
              ·
               rintro b a w' ⟨v317, ha, Q_BK310, Q_HB, Q_HO318⟩ hb_ hon hoff
               refine ⟨_, rfl, fun K hK => ?_⟩
               have e21 : a.tmps[21]? = some (.int .i64 a0_3) := by rw [ha]; exact putSel_on (e := (18, 21, .int .i64 a0_3)) 14 rfl rfl (hon 18 kr_) rfl
               replace ha := A_ ha
               have BK310 := A_ Q_BK310
               have HB := A_ Q_HB
               refine goes_ Tryz.func48 kr_ rfl #[.int .i64 a0_3] (by rfl) rfl rfl (by first | (simp only [List.map_toArray, List.map_cons, List.map_nil, Act.eval, Array.getD_eq_getD_getElem?, Option.getD_some, e21]; done) | (simp only [List.map_toArray, List.map_cons, List.map_nil, Act.eval, Array.getD_eq_getD_getElem?, Option.getD_some, e21]; rfl)) ?_
               with_reducible refine (strconv_Itoa.calls a0_3 t315 _ A15.out ?sideG).mono ?_
               case sideG => exact (gw_below HG.out mc65)
               rintro e w25 ⟨rfl, hb⟩
               refine ⟨_, rfl, ?_⟩
               have n0_ := A_ (blk_below mc112 hb)
               have n1_ := A_ (below_step mc65 hb)
               have z_HO318 := fun (h0_ : b 26 = true) => (show Kd.R (Kd.int .i64) 3 w25 w.heap.size (fun _ => True) v317 y316 from by first | exact (Kd.R_below mc120 hb) | exact Kd.R_mono (Kd.R_below mc120 hb) (fun _ h_ => by first | trivial | exact h_ | exact h_.1))
               clear BK310
               clear HB
               have BK310 := n0_
               have HB := n1_
               clear n0_ n1_
               (try clear hb)
               refine hK.out _ _ ⟨v317, (by rw [ha.out]; exact putSel_upk 15 hb_ rfl rfl rfl), mc112, mc65, z_HO318⟩
              refine steps_cons ?_ ?_
              ·
               rintro b a w' ⟨v317, ha, Q_BK310, Q_HB, Q_HO318⟩ hb_ hon hoff
               refine ⟨_, rfl, fun K hK => ?_⟩
               have e19 : a.tmps[19]? = some (.string (((((t311 ++ (⟨#[58, 32]⟩ : ByteArray)) ++ t313) ++ (⟨#[32]⟩ : ByteArray)) ++ (rdOf ByteArray.empty l2 a0_1)) ++ (⟨#[44, 32, 97, 114, 101, 97, 32]⟩ : ByteArray))) := by rw [ha]; exact putSel_on (e := (16, 19, .string (((((t311 ++ (⟨#[58, 32]⟩ : ByteArray)) ++ t313) ++ (⟨#[32]⟩ : ByteArray)) ++ (rdOf ByteArray.empty l2 a0_1)) ++ (⟨#[44, 32, 97, 114, 101, 97, 32]⟩ : ByteArray)))) 13 rfl rfl (hon 16 kr_) rfl
               have e22 : a.tmps[22]? = some (.string t315) := by rw [ha]; exact putSel_on (e := (19, 22, .string t315)) 15 rfl rfl (hon 19 kr_) rfl
               replace ha := A_ ha
               have BK310 := A_ Q_BK310
               have HB := A_ Q_HB
               refine value_ (w1 := w') (v := .string ((((((t311 ++ (⟨#[58, 32]⟩ : ByteArray)) ++ t313) ++ (⟨#[32]⟩ : ByteArray)) ++ (rdOf ByteArray.empty l2 a0_1)) ++ (⟨#[44, 32, 97, 114, 101, 97, 32]⟩ : ByteArray)) ++ t315)) (by rfl) rfl ?_ ?_
               ·
                go_simp
                (try simp only [i64_w])
                try rfl
               refine hK.out _ _ ⟨v317, (by rw [ha.out]; exact putSel_upk 16 hb_ rfl rfl rfl), Q_BK310, Q_HB, Q_HO318⟩
              refine steps_cons ?_ ?_
              ·
               rintro b a w' ⟨v317, ha, Q_BK310, Q_HB, Q_HO318⟩ hb_ hon hoff
               refine ⟨_, rfl, fun K hK => ?_⟩
               have e23 : a.tmps[23]? = some (.string ((((((t311 ++ (⟨#[58, 32]⟩ : ByteArray)) ++ t313) ++ (⟨#[32]⟩ : ByteArray)) ++ (rdOf ByteArray.empty l2 a0_1)) ++ (⟨#[44, 32, 97, 114, 101, 97, 32]⟩ : ByteArray)) ++ t315)) := by rw [ha]; exact putSel_on (e := (20, 23, .string ((((((t311 ++ (⟨#[58, 32]⟩ : ByteArray)) ++ t313) ++ (⟨#[32]⟩ : ByteArray)) ++ (rdOf ByteArray.empty l2 a0_1)) ++ (⟨#[44, 32, 97, 114, 101, 97, 32]⟩ : ByteArray)) ++ t315))) 16 rfl rfl (hon 20 kr_) rfl
               replace ha := A_ ha
               have BK310 := A_ Q_BK310
               have HB := A_ Q_HB
               refine value_ (w1 := w') (v := .string (((((((t311 ++ (⟨#[58, 32]⟩ : ByteArray)) ++ t313) ++ (⟨#[32]⟩ : ByteArray)) ++ (rdOf ByteArray.empty l2 a0_1)) ++ (⟨#[44, 32, 97, 114, 101, 97, 32]⟩ : ByteArray)) ++ t315) ++ (⟨#[44, 32, 104, 111, 117, 114, 115, 32]⟩ : ByteArray))) (by rfl) rfl ?_ ?_
               ·
                go_simp
                (try simp only [i64_w])
                try rfl
               refine hK.out _ _ ⟨v317, (by rw [ha.out]; exact putSel_upk 17 hb_ rfl rfl rfl), Q_BK310, Q_HB, Q_HO318⟩
              refine steps_cons ?_ ?_
              ·
               rintro b a w' ⟨v317, ha, Q_BK310, Q_HB, Q_HO318⟩ hb_ hon hoff
               refine ⟨_, rfl, fun K hK => ?_⟩
               have e25 : a.tmps[25]? = some (.pointer (some ⟨gb310, 4, none⟩)) := by rw [ha]; exact (putSel_off rfl).trans rfl
               replace ha := A_ ha
               have BK310 := A_ Q_BK310
               have HB := A_ Q_HB
               have hc0_ : w'.cell? ⟨gb310, 0, none⟩ = some (.int .i64 a0_0) := bc_ BK310 0 rfl
               have hc1_ : w'.cell? ⟨gb310, 1, none⟩ = some (.int .i64 a0_1) := bc_ BK310 1 rfl
               have hc2_ : w'.cell? ⟨gb310, 2, none⟩ = some (.int .i64 a0_2) := bc_ BK310 2 rfl
               have hc3_ : w'.cell? ⟨gb310, 3, none⟩ = some (.int .i64 a0_3) := bc_ BK310 3 rfl
               have hc4_ : w'.cell? ⟨gb310, 4, none⟩ = some (.int .i64 a0_4) := bc_ BK310 4 rfl
               have hc5_ : w'.cell? ⟨gb310, 5, none⟩ = some (.int .i64 a0_5) := bc_ BK310 5 rfl
               refine value_ (w1 := w') (v := .int .i64 a0_4) (by rfl) rfl ?_ ?_
               ·
                go_simp
                (try simp only [i64_w])
                try rfl
               refine hK.out _ _ ⟨v317, (by rw [ha.out]; exact putSel_upk 18 hb_ rfl rfl rfl), Q_BK310, Q_HB, fun h0_ => absurd ((hoff 26 kr_).symm.trans h0_) (by decide)⟩
              refine steps_cons ?_ ?_
              ·
               rintro b a w' ⟨v317, ha, Q_BK310, Q_HB, Q_HO318⟩ hb_ hon hoff
               refine ⟨_, rfl, fun K hK => ?_⟩
               have e27 : a.tmps[27]? = some (.pointer (some ⟨gb310, 5, none⟩)) := by rw [ha]; exact (putSel_off rfl).trans rfl
               replace ha := A_ ha
               have BK310 := A_ Q_BK310
               have HB := A_ Q_HB
               have hc0_ : w'.cell? ⟨gb310, 0, none⟩ = some (.int .i64 a0_0) := bc_ BK310 0 rfl
               have hc1_ : w'.cell? ⟨gb310, 1, none⟩ = some (.int .i64 a0_1) := bc_ BK310 1 rfl
               have hc2_ : w'.cell? ⟨gb310, 2, none⟩ = some (.int .i64 a0_2) := bc_ BK310 2 rfl
               have hc3_ : w'.cell? ⟨gb310, 3, none⟩ = some (.int .i64 a0_3) := bc_ BK310 3 rfl
               have hc4_ : w'.cell? ⟨gb310, 4, none⟩ = some (.int .i64 a0_4) := bc_ BK310 4 rfl
               have hc5_ : w'.cell? ⟨gb310, 5, none⟩ = some (.int .i64 a0_5) := bc_ BK310 5 rfl
               refine value_ (w1 := w') (v := .int .i64 a0_5) (by rfl) rfl ?_ ?_
               ·
                go_simp
                (try simp only [i64_w])
                try rfl
               refine hK.out _ _ ⟨v317, (by rw [ha.out]; exact putSel_upk 19 hb_ rfl rfl rfl), Q_BK310, Q_HB, fun h0_ => absurd ((hoff 26 kr_).symm.trans h0_) (by decide)⟩
              refine steps_cons ?_ ?_
              ·
               rintro b a w' ⟨v317, ha, Q_BK310, Q_HB, Q_HO318⟩ hb_ hon hoff
               refine ⟨_, rfl, fun K hK => ?_⟩
               have e26 : a.tmps[26]? = some (.int .i64 a0_4) := by rw [ha]; exact putSel_on (e := (23, 26, .int .i64 a0_4)) 18 rfl rfl (hon 23 kr_) rfl
               have e28 : a.tmps[28]? = some (.int .i64 a0_5) := by rw [ha]; exact putSel_on (e := (25, 28, .int .i64 a0_5)) 19 rfl rfl (hon 25 kr_) rfl
               replace ha := A_ ha
               have BK310 := A_ Q_BK310
               have HB := A_ Q_HB
               refine Kd.R_lit_step (Kd.int .i64) _ 3 ?hg (N := 29) ?hd (xs := ([a0_4, a0_5] : List Int)) (inner := [.int .i64 a0_4, .int .i64 a0_5]) (ok := fun _ => True) (okp := fun _ => True) ?hr ?hp (fun _ hk => hk) trivial (Below.refl _ _) (Nat.le_refl _) (by simp) ?_; (case hd => rfl); (case hg => rfl); (case hr => exact mc142); (case hp => exact (Reps.one (show Kd.M (Kd.int .i64) _ _ _ a0_4 [.int .i64 a0_4] from rfl) (Reps.one (show Kd.M (Kd.int .i64) _ _ _ a0_5 [.int .i64 a0_5] from rfl) (Reps.none _ _))))
               intro v317 w22 ho23 hb hg_ hnew_
               clear hg_ hnew_
               (first | rw [← Ny316.out] at ho23 | (simp only [Int.reduceToNat] at ho23; rw [← Ny316.out] at ho23))
               have HO318 := A_ (Kd.R_lower ho23 (below_size mc65))
               replace BK310 := A_ (blk_below mc112 hb)
               replace HB := A_ (below_step mc65 hb)
               clear hb ho23
               refine hK.out _ _ ⟨v317, (by rw [ha.out]; exact putSel_upk 20 hb_ rfl rfl rfl), mc112, mc65, fun _ => mc128⟩
              refine steps_cons ?_ ?_
              ·
               rintro b a w' ⟨v317, ha, Q_BK310, Q_HB, Q_HO318⟩ hb_ hon hoff
               refine ⟨_, rfl, fun K hK => ?_⟩
               have e29 : a.tmps[29]? = some (v317) := by rw [ha]; exact putSel_on (e := (26, 29, v317)) 20 rfl rfl (hon 26 kr_) rfl
               replace ha := A_ ha
               have BK310 := A_ Q_BK310
               have HB := A_ Q_HB
               have HO318 := A_ (Q_HO318 (hon 26 kr_))
               obtain ⟨Ao28, co28, eo28⟩ := Kd.R_slice HO318.out
               (first | subst eo28 | (injection eo28 with f1_ f2_ f3_; have f4_ := f1_.symm; have f5_ := f3_.symm; clear f1_ f2_ f3_; subst f4_; subst f5_))
               refine goes_ Tryz.func83 kr_ rfl #[.slice Ao28 y316.length co28, .string (⟨#[45]⟩ : ByteArray)] (by rfl) rfl rfl (by first | (simp only [List.map_toArray, List.map_cons, List.map_nil, Act.eval, Array.getD_eq_getD_getElem?, Option.getD_some, e29]; done) | (simp only [List.map_toArray, List.map_cons, List.map_nil, Act.eval, Array.getD_eq_getD_getElem?, Option.getD_some, e29]; rfl)) ?_
               with_reducible refine (impl_joinInts.calls k _ _ y316 (⟨#[45]⟩ : ByteArray) t319 _ ?side1 ?side2 A18.out ?sideG).mono ?_
               case sideG => exact (gw_below HG.out mc65)
               (case side1 => repeat (first | exact (Kd.R_reads' HO318.out).2.2 | (with_reducible refine Kd.C_alloc ?_ _) | (with_reducible refine Kd.C_drewN ?_ _) | (with_reducible refine Kd.C_drew ?_)))
               (case side2 => exact (Kd.R_reads' HO318.out).2.1)
               rintro e w29 ⟨rfl, hb⟩
               refine ⟨_, rfl, ?_⟩
               replace HO318 := A_ (Kd.R_below mc128 hb)
               replace BK310 := A_ (blk_below mc112 hb)
               replace HB := A_ (below_step mc65 hb)
               (try clear hb)
               refine hK.out _ _ ⟨.slice Ao28 y316.length co28, (by rw [ha.out]; exact putSel_upk 21 hb_ rfl rfl rfl), mc112, mc65, fun _ => mc128⟩
              refine steps_cons ?_ ?_
              ·
               rintro b a w' ⟨v317, ha, Q_BK310, Q_HB, Q_HO318⟩ hb_ hon hoff
               refine ⟨_, rfl, fun K hK => ?_⟩
               have e24 : a.tmps[24]? = some (.string (((((((t311 ++ (⟨#[58, 32]⟩ : ByteArray)) ++ t313) ++ (⟨#[32]⟩ : ByteArray)) ++ (rdOf ByteArray.empty l2 a0_1)) ++ (⟨#[44, 32, 97, 114, 101, 97, 32]⟩ : ByteArray)) ++ t315) ++ (⟨#[44, 32, 104, 111, 117, 114, 115, 32]⟩ : ByteArray))) := by rw [ha]; exact putSel_on (e := (21, 24, .string (((((((t311 ++ (⟨#[58, 32]⟩ : ByteArray)) ++ t313) ++ (⟨#[32]⟩ : ByteArray)) ++ (rdOf ByteArray.empty l2 a0_1)) ++ (⟨#[44, 32, 97, 114, 101, 97, 32]⟩ : ByteArray)) ++ t315) ++ (⟨#[44, 32, 104, 111, 117, 114, 115, 32]⟩ : ByteArray)))) 17 rfl rfl (hon 21 kr_) rfl
               have e30 : a.tmps[30]? = some (.string t319) := by rw [ha]; exact putSel_on (e := (27, 30, .string t319)) 21 rfl rfl (hon 27 kr_) rfl
               replace ha := A_ ha
               have BK310 := A_ Q_BK310
               have HB := A_ Q_HB
               have HO318 := A_ (Q_HO318 (hon 26 kr_))
               refine value_ (w1 := w') (v := .string ((((((((t311 ++ (⟨#[58, 32]⟩ : ByteArray)) ++ t313) ++ (⟨#[32]⟩ : ByteArray)) ++ (rdOf ByteArray.empty l2 a0_1)) ++ (⟨#[44, 32, 97, 114, 101, 97, 32]⟩ : ByteArray)) ++ t315) ++ (⟨#[44, 32, 104, 111, 117, 114, 115, 32]⟩ : ByteArray)) ++ t319)) (by rfl) rfl ?_ ?_
               ·
                go_simp
                (try simp only [i64_w])
                try rfl
               refine hK.out _ _ ⟨v317, (by rw [ha.out]; exact putSel_upk 22 hb_ rfl rfl rfl), Q_BK310, Q_HB, Q_HO318⟩
              refine steps_cons ?_ ?_
              ·
               rintro b a w' ⟨v317, ha, Q_BK310, Q_HB, Q_HO318⟩ hb_ hon hoff
               refine ⟨_, rfl, fun K hK => ?_⟩
               have e31 : a.tmps[31]? = some (.string ((((((((t311 ++ (⟨#[58, 32]⟩ : ByteArray)) ++ t313) ++ (⟨#[32]⟩ : ByteArray)) ++ (rdOf ByteArray.empty l2 a0_1)) ++ (⟨#[44, 32, 97, 114, 101, 97, 32]⟩ : ByteArray)) ++ t315) ++ (⟨#[44, 32, 104, 111, 117, 114, 115, 32]⟩ : ByteArray)) ++ t319)) := by rw [ha]; exact putSel_on (e := (28, 31, .string ((((((((t311 ++ (⟨#[58, 32]⟩ : ByteArray)) ++ t313) ++ (⟨#[32]⟩ : ByteArray)) ++ (rdOf ByteArray.empty l2 a0_1)) ++ (⟨#[44, 32, 97, 114, 101, 97, 32]⟩ : ByteArray)) ++ t315) ++ (⟨#[44, 32, 104, 111, 117, 114, 115, 32]⟩ : ByteArray)) ++ t319))) 22 rfl rfl (hon 28 kr_) rfl
               replace ha := A_ ha
               have BK310 := A_ Q_BK310
               have HB := A_ Q_HB
               have HO318 := A_ (Q_HO318 (hon 26 kr_))
               refine value_ (w1 := w') (v := .string ((((((((t311 ++ (⟨#[58, 32]⟩ : ByteArray)) ++ t313) ++ (⟨#[32]⟩ : ByteArray)) ++ (rdOf ByteArray.empty l2 a0_1)) ++ (⟨#[44, 32, 97, 114, 101, 97, 32]⟩ : ByteArray)) ++ t315) ++ (⟨#[44, 32, 104, 111, 117, 114, 115, 32]⟩ : ByteArray)) ++ t319)) (by rfl) rfl ?_ ?_
               ·
                go_simp
                (try simp only [i64_w])
                try rfl
               refine hK.out _ _ ⟨v317, (by rw [ha.out]; exact putSel_upk 23 hb_ rfl rfl rfl), Q_BK310, Q_HB, Q_HO318⟩
              exact steps_nil
             rintro b a w29 hall ⟨v317, ha, Q_BK310, Q_HB, Q_HO318⟩
             clear BK310 HB
             have hb1_ := hall 1 kr_
             have hb2_ := hall 2 kr_
             have hb3_ := hall 3 kr_
             have hb5_ := hall 5 kr_
             have hb6_ := hall 6 kr_
             have hb7_ := hall 7 kr_
             have hb8_ := hall 8 kr_
             have hb9_ := hall 9 kr_
             have hb10_ := hall 10 kr_
             have hb12_ := hall 12 kr_
             have hb13_ := hall 13 kr_
             have hb14_ := hall 14 kr_
             have hb15_ := hall 15 kr_
             have hb16_ := hall 16 kr_
             have hb18_ := hall 18 kr_
             have hb19_ := hall 19 kr_
             have hb20_ := hall 20 kr_
             have hb21_ := hall 21 kr_
             have hb23_ := hall 23 kr_
             have hb25_ := hall 25 kr_
             have hb26_ := hall 26 kr_
             have hb27_ := hall 27 kr_
             have hb28_ := hall 28 kr_
             have hb29_ := hall 29 kr_
             subst ha
             simp only [putSel, hb1_, hb2_, hb3_, hb5_, hb6_, hb7_, hb8_, hb9_, hb10_, hb12_, hb13_, hb14_, hb15_, hb16_, hb18_, hb19_, hb20_, hb21_, hb23_, hb25_, hb26_, hb27_, hb28_, hb29_, if_true, Act.put, List.setIfInBounds_toArray, List.set_cons_zero, List.set_cons_succ]
             have BK310 := A_ Q_BK310
             clear Q_BK310
             have HB := A_ Q_HB
             clear Q_HB
             have HO318 := A_ (Q_HO318 hb26_)
             clear Q_HO318
             clear hall hb1_ hb2_ hb3_ hb5_ hb6_ hb7_ hb8_ hb9_ hb10_ hb12_ hb13_ hb14_ hb15_ hb16_ hb18_ hb19_ hb20_ hb21_ hb23_ hb25_ hb26_ hb27_ hb28_ hb29_
             try go_wp2
             go_ret
             exact ⟨mc133, by repeat (first | (with_reducible first | exact HB.out | apply below_alloc | apply pw_below_drewN | apply below_drew1 | refine below_set ?_ GE310.out) | exact HB.out)⟩
            ·
             rw [if_neg c19] at H
             exact absurd H (by simp)
           ·
            rw [if_neg c17] at H
            exact absurd H (by simp)
          ·
           rw [if_neg c16] at H
           exact absurd H (by simp)
         ·
          rw [if_neg c14] at H
          exact absurd H (by simp)
        ·
         rw [if_neg c13] at H
         exact absurd H (by simp)
       ·
        rw [if_neg c12] at H
        exact absurd H (by simp)
      ·
       rw [if_neg c11] at H
       exact absurd H (by simp)
     ·
      rw [if_neg c10] at H
      exact absurd H (by simp)
    ·
     rw [if_neg c9] at H
     exact absurd H (by simp)
   ·
    rw [if_neg c7] at H
    exact absurd H (by simp)
  ·
   rw [if_neg c6] at H
   exact absurd H (by simp)
 ·
  rw [if_neg c5] at H
  exact absurd H (by simp)
def impl_warningLine.f (k : Nat) (a0_0 : Int) (a0_1 : Int) (a0_2 : Int) (a0_3 : Int) (a0_4 : Int) (a0_5 : Int) : Option (ByteArray) := impl_warningLine_v.f k a0_0 a0_1 a0_2 a0_3 a0_4 a0_5 levelL topicL
theorem impl_warningLine.calls (k : Nat) (a0_0 : Int) (a0_1 : Int) (a0_2 : Int) (a0_3 : Int) (a0_4 : Int) (a0_5 : Int) (r : ByteArray) (w : World) (h : impl_warningLine.f k a0_0 a0_1 a0_2 a0_3 a0_4 a0_5 = some r) (hG_ : GW w) :
 Calls Tryz.prog 47 #[.agg #[.int .i64 a0_0, .int .i64 a0_1, .int .i64 a0_2, .int .i64 a0_3, .int .i64 a0_4, .int .i64 a0_5]] w fun e w' => e = .returned (.string r) ∧ Below w.heap.size w w' := impl_warningLine_v.calls k a0_0 a0_1 a0_2 a0_3 a0_4 a0_5 (some ⟨0, 0, none⟩) 4 levelL (some ⟨1, 0, none⟩) 6 topicL r w rfl rfl rfl rfl (gwx_level (gw_x hG_)) (Nat.le_refl _) (gwx_topic (gw_x hG_)) (Nat.le_refl _) h hG_

end Go.Proofs.YtlnlabndaikbnaaGreatDoor.P
