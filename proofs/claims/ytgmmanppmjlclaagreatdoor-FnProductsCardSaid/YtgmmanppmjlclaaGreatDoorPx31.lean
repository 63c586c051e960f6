-- Made by pp.py of this session out of the kit's print and of contracts proved by hand; Lean checks it.
import Derived.Test.YtgmmanppmjlclaaGreatDoorMc
import Derived.Test.YtgmmanppmjlclaaGreatDoorPx0
import Derived.Test.YtgmmanppmjlclaaGreatDoorPx3
import Derived.Test.YtgmmanppmjlclaaGreatDoorPx4
namespace Go.Proofs.YtgmmanppmjlclaaGreatDoor.P
open Go.RowKit Go.Proofs.YtgmmanppmjlclaaGreatDoorW.PrintWords Go.Proofs.YtgmmanppmjlclaaGreatDoorW.PrintLast Go.Proofs.YtgmmanppmjlclaaGreatDoorW.PrintMore
attribute [local go_sem] max2_int min2_int max_two min_two max_three min_three max_four min_four   -- for this text's walks alone
set_option linter.unusedVariables false
set_option linter.unusedSimpArgs false

/-! ### spec_VersionsOf: function 20 -/
mutual
def spec_VersionsOf.j0 : Nat → List (S26) → ByteArray → List Int → Bool → Option (List Int × Bool)
  | 0, _, _, _, _ => none
  | k + 1, x0, x1, x6, x16 => if x16 = true then (some (x6, false)) else (spec_VersionsOf.l0 k x0 x1 x6 0)
def spec_VersionsOf.l0 : Nat → List (S26) → ByteArray → List Int → Int → Option (List Int × Bool)
  | 0, _, _, _, _ => none
  | k + 1, x0, x1, x6, x7 => if x7 < (x0.length : Int) then (if 0 ≤ x7 then (if ((rd_T26 x0 x7).f0).toList = x1.toList then (if x6.length < 17592186044416 then (spec_VersionsOf.l0 k x0 x1 (x6 ++ [(rd_T26 x0 x7).f1]) (wrap64 (x7 + 1))) else (none)) else (spec_VersionsOf.l0 k x0 x1 x6 (wrap64 (x7 + 1)))) else (none)) else (some (x6, true))
end
def spec_VersionsOf.f (k : Nat) (l0 : List (S26)) (a1 : ByteArray) : Option (List Int × Bool) := (some (([] : List Int) : List Int)).bind fun y438 => ((spec_l26Good.f k l0).bind fun t441 => (if t441 = true then ((spec_l26Name.f k a1).bind fun t442 => (spec_VersionsOf.j0 k l0 a1 y438 (!t442))) else (spec_VersionsOf.j0 k l0 a1 y438 true)))
theorem spec_VersionsOf.calls.L1 {P : Prop} (h : P := by
 have H' := A_ H
 clear H
 first
 | go_wp2_with (first | ((with_reducible refine gc_ 29 rfl ?_); refine goesL_ (some 10) rfl rfl Tryz.func29 kr_ rfl #[.slice A0 l0.length c0] rfl mc47 ?_; (with_reducible refine (spec_l26Good.calls k _ _ l0 _ _ ?side1 ?side2 A6.out).mono ?_); (case side1 => exact mc31); (case side2 => exact HC0.out); rintro e w9 ⟨rfl, hb⟩; refine ⟨_, rfl, ?_⟩; replace HO440 := A_ (Kd.R_below (by (with_reducible repeat (first | apply Kd.R_alloc | apply Kd.R_drewN | apply Kd.R_drew)); exact HO440.out) hb); replace HB := A_ (below_step mc53 hb); (try clear hb)) | (go_at_call 47; (with_reducible refine (spec_l26Name.calls k a1 _ _ A8.out).mono ?_); rintro e w' ⟨rfl, ⟨nd, rfl⟩⟩))
   go_meet
   first
   | case rel => exact ⟨_, (!t442), mc82, H', ⟨mc85⟩, ⟨by (with_reducible repeat (first | apply Kd.R_alloc | apply Kd.R_drewN | apply Kd.R_drew)); exact HO440.out⟩, ⟨mc53⟩⟩
   | case rel => exact ⟨_, (true), mc82, H', ⟨mc85⟩, ⟨by (with_reducible repeat (first | apply Kd.R_alloc | apply Kd.R_drewN | apply Kd.R_drew)); exact HO440.out⟩, ⟨mc53⟩⟩
 | have p443 : 0 ≤ (x7_2 : Int) := of_decide_eq_true mc81
   have q443 : x7_2 < (l0.length : Int) := of_decide_eq_true mc81
   obtain ⟨ad443, e443, hx443_0, hx443_1, hx443_2⟩ := at_T26 HR0.out x7_2 p443 q443
   cases e443
   replace hx443_0 := (HB.out.cell (World.block_lt_of_cell? w _ hx443_0)).trans hx443_0
   replace hx443_1 := (HB.out.cell (World.block_lt_of_cell? w _ hx443_1)).trans hx443_1
   replace hx443_2 := (HB.out.cell (World.block_lt_of_cell? w _ hx443_2)).trans hx443_2
   replace p443 := eq_true p443
   replace q443 := eq_true q443
   go_wp2
   go_roundg k2
   case measure => have := HJ2.out; have := HK2.out; omega
   case rel => exact ⟨(x6_2), (wrap64 (x7_2 + 1)), mc82, H', ⟨by have := HJ2.out; have := HK2.out; omega⟩, ⟨mc72⟩, ⟨mc53⟩⟩) : P := h
theorem spec_VersionsOf.calls.L2 {P : Prop} (h : P := by
 simp only [Option.some.injEq, Prod.mk.injEq] at H
 obtain ⟨rfl, rfl⟩ := H
 go_wp2
 go_ret2
 exact ⟨_, mc76, mc72, mc53⟩) : P := h
set_option maxHeartbeats 8000000 in
set_option maxRecDepth 100000 in
theorem spec_VersionsOf.calls (k : Nat) (A0 : Option Addr) (c0 : Nat) (l0 : List (S26)) (a1 : ByteArray) (r1 : List Int) (r2 : Bool) (w : World) (hr0 : Kd.C k26 w A0 l0.length l0) (hc0 : l0.length ≤ c0) (h : spec_VersionsOf.f k l0 a1 = some (r1, r2)) :
    Calls Tryz.prog 20 #[.slice A0 l0.length c0, .string a1] w fun e w' => ∃ v0_ : Value, e = .returned (.tuple #[v0_, .bool r2]) ∧ Kd.R (Kd.int .i64) 3 w' w.heap.size (fun _ => True) v0_ r1 ∧ Below w.heap.size w w' := by
  have HR0 := A_ hr0
  have HC0 := A_ hc0
  clear hr0 hc0
  have HB := A_ (Below.refl w.heap.size w)
  have H : ((some (([] : List Int) : List Int)).bind fun y438 => ((spec_l26Good.f k l0).bind fun t441 => (if t441 = true then ((spec_l26Name.f k a1).bind fun t442 => (spec_VersionsOf.j0 k l0 a1 y438 (!t442))) else (spec_VersionsOf.j0 k l0 a1 y438 true)))) = some (r1, r2) := h
  clear h
  obtain ⟨y438, hy438⟩ : ∃ y_ : List Int, y_ = (([] : List Int)) := ⟨_, rfl⟩
  replace H : ((spec_l26Good.f k l0).bind fun t441 => (if t441 = true then ((spec_l26Name.f k a1).bind fun t442 => (spec_VersionsOf.j0 k l0 a1 y438 (!t442))) else (spec_VersionsOf.j0 k l0 a1 y438 true))) = some (r1, r2) := by first | (rw [hy438]; with_reducible exact H) | (have H2_ := (Option.bind_some _ _).symm.trans H; rw [hy438]; with_reducible exact H2_) | (have H2_ := (Option.bind_some _ _).symm.trans H; with_reducible exact H2_) | with_reducible exact H | (rw [hy438]; exact H) | exact H
  have Ny438 := A_ hy438
  clear hy438
  have HC3 := A_ H
  clear H
  go_enter Tryz.func20, Tryz.ntmps20
  go_upto_region 2 with (first | ((with_reducible refine gd_ 8 rfl ?_); refine Kd.R_lit (Kd.int .i64) _ 3 ?hg (N := 8) ?hd (xs := ([] : List Int)) (inner := []) (ok := fun _ => True) (okp := fun _ => True) ?hr ?hp (fun _ hk => hk) trivial (Below.refl _ _) (Nat.le_refl _) (by simp) ?_; (case hd => rfl); (case hg => rfl); (case hr => exact mc83); (case hp => exact (Reps.none _ _)); intro v439 w4 ho5 hb hg_ hnew_; clear hg_ hnew_; (first | rw [← Ny438.out] at ho5 | (simp only [Int.reduceToNat] at ho5; rw [← Ny438.out] at ho5)); have HO440 := A_ (Kd.R_lower ho5 (below_size mc53)); replace HB := A_ (below_step mc53 hb); clear hb ho5))
  (try simp only [Act.put, List.setIfInBounds_toArray, List.set_cons_zero, List.set_cons_succ])
  go_cut [16] (fun v16 wc => ∃ (kq : Nat) (x16_2 : Bool), v16 = .bool x16_2 ∧ Aside0 (spec_VersionsOf.j0 kq l0 a1 y438 x16_2 = some (r1, r2)) ∧ Aside0 (kq ≤ k) ∧ Aside0 (Kd.R (Kd.int .i64) 3 wc w.heap.size (fun _ => True) v439 y438) ∧ Aside0 (Below w.heap.size w wc))
  case first =>
   have H := HC3.out
   clear HC3
   obtain ⟨t441, A60, H⟩ := oB_ H
   have A6 := A_ A60
   clear A60
   by_cases c7 : t441 = true
   ·
    subst c7
    rw [if_pos rfl] at H
    obtain ⟨t442, A80, H⟩ := oB_ H
    have A8 := A_ A80
    clear A80
    exact spec_VersionsOf.calls.L1
   ·
    replace c7 := Bool.eq_false_iff.mpr c7
    subst c7
    rw [if_neg (show ¬ (false = true) by decide)] at H
    exact spec_VersionsOf.calls.L1
  case rest =>
   clear HC3
   try clear p2
   obtain ⟨kq, x16_2, rfl, HA, HJ2, HO_6, HB⟩ := hcut
   cases kq with
   | zero => exact absurd HA.out (by simp [spec_VersionsOf.j0])
   | succ kj2 =>
    have H := HA.out
    clear HA
    simp only [spec_VersionsOf.j0] at H
    by_cases c11 : x16_2 = true
    ·
     subst c11
     rw [if_pos rfl] at H
     exact spec_VersionsOf.calls.L2
    ·
     replace c11 := Bool.eq_false_iff.mpr c11
     subst c11
     rw [if_neg (show ¬ (false = true) by decide)] at H
     have H' := A_ H
     clear H
     go_wp2
     go_loopg [6, 7] kj2 (fun kq v6 v7 w' => ∃ (x6_2 : List Int) (x7_2 : Int), v7 = .int .i64 x7_2 ∧ Aside0 (spec_VersionsOf.l0 kq l0 a1 x6_2 x7_2 = some (r1, r2)) ∧ Aside0 (kq ≤ kj2) ∧ Aside0 (Kd.R (Kd.int .i64) 3 w' w.heap.size (fun _ => True) v6 x6_2) ∧ Aside0 (Below w.heap.size w w'))
     case atStart => exact ⟨(y438), (0), mc82, H', ⟨Nat.le_refl _⟩, ⟨mc72⟩, ⟨mc53⟩⟩
     case round =>
      clear H'
      try clear p2
      try clear p2
      obtain ⟨x6_2, x7_2, rfl, HA, HK2, HO_6, HB⟩ := hrel
      cases gk with
      | zero => exact absurd HA.out (by simp [spec_VersionsOf.l0])
      | succ k2 =>
       have H := HA.out
       clear HA
       simp only [spec_VersionsOf.l0] at H
       by_cases c12 : x7_2 < (l0.length : Int)
       ·
        rw [if_pos c12] at H
        have c12b0 : decide (x7_2 < (l0.length : Int)) = true := decide_eq_true c12
        clear c12
        by_cases c13 : 0 ≤ x7_2
        ·
         rw [if_pos c13] at H
         have c13b0 : decide (0 ≤ x7_2) = true := decide_eq_true c13
         clear c13
         by_cases c14 : ((rd_T26 l0 x7_2).f0).toList = a1.toList
         ·
          rw [if_pos c14] at H
          have c14b0 : (((rd_T26 l0 x7_2).f0).toList == a1.toList) = true := beq_iff_eq.mpr c14
          have c14b1 : (((rd_T26 l0 x7_2).f0).toList != a1.toList) = false := bne_eq_false_iff_eq.mpr c14
          clear c14
          by_cases c15 : x6_2.length < 17592186044416
          ·
           rw [if_pos c15] at H
           have LMc15 := A_ c15
           clear c15
           obtain ⟨y445, hy445⟩ : ∃ y_ : List Int, y_ = (x6_2 ++ [(rd_T26 l0 x7_2).f1]) := ⟨_, rfl⟩
           replace H : (spec_VersionsOf.l0 k2 l0 a1 y445 (wrap64 (x7_2 + 1))) = some (r1, r2) := by first | (rw [hy445]; with_reducible exact H) | (have H2_ := (Option.bind_some _ _).symm.trans H; rw [hy445]; with_reducible exact H2_) | (have H2_ := (Option.bind_some _ _).symm.trans H; with_reducible exact H2_) | with_reducible exact H | (rw [hy445]; exact H) | exact H
           have Ny445 := A_ hy445
           clear hy445
           have H' := A_ H
           clear H
           have p443 : 0 ≤ (x7_2 : Int) := of_decide_eq_true mc81
           have q443 : x7_2 < (l0.length : Int) := of_decide_eq_true mc81
           obtain ⟨ad443, e443, hx443_0, hx443_1, hx443_2⟩ := at_T26 HR0.out x7_2 p443 q443
           cases e443
           replace hx443_0 := (HB.out.cell (World.block_lt_of_cell? w _ hx443_0)).trans hx443_0
           replace hx443_1 := (HB.out.cell (World.block_lt_of_cell? w _ hx443_1)).trans hx443_1
           replace hx443_2 := (HB.out.cell (World.block_lt_of_cell? w _ hx443_2)).trans hx443_2
           replace p443 := eq_true p443
           replace q443 := eq_true q443
           have p444 : 0 ≤ (x7_2 : Int) := of_decide_eq_true mc81
           have q444 : x7_2 < (l0.length : Int) := of_decide_eq_true mc81
           obtain ⟨ad444, e444, hx444_0, hx444_1, hx444_2⟩ := at_T26 HR0.out x7_2 p444 q444
           obtain rfl : ad443 = ad444 := (by injection e444)
           replace hx444_0 := (HB.out.cell (World.block_lt_of_cell? w _ hx444_0)).trans hx444_0
           replace hx444_1 := (HB.out.cell (World.block_lt_of_cell? w _ hx444_1)).trans hx444_1
           replace hx444_2 := (HB.out.cell (World.block_lt_of_cell? w _ hx444_2)).trans hx444_2
           replace p444 := eq_true p444
           replace q444 := eq_true q444
           go_wp2_with (first | ((with_reducible refine gate_builtin (b := .append) (xs := #[.tmp 31, .tmp 37]) rfl ?_); at_builtin; refine Kd.R_append (Kd.int .i64) (w0 := w) w.heap.size rfl (.tmp 31) (.tmp 37) 34 3 (.int .i64 0) 8 rfl Tryz.underlying34 info3 rfl (by decide) (by omega) u6 x6_2 ((rd_T26 l0 x7_2).f1) [.int .i64 ((rd_T26 l0 x7_2).f1)] (fun _ => True) (fun _ => False) rfl rfl ?aP (fun _ hk => hk.elim) ?aF ?aO ?aB ?aS ?aL ?_; (case aP => exact rfl); (case aB => exact mc53); (case aF => exact (fun _ _ => trivial)); (case aO => exact mc72); (case aS => exact (below_size mc53)); (case aL => have := LMc15.out; omega); intro v446 w16 ho hb hg hat; rw [← Ny445.out] at ho; replace HB := A_ (hb); have HO447 := A_ (ho); clear HO_6; clear ho hb hg hat))
           go_roundg k2
           case measure => have := HJ2.out; have := HK2.out; omega
           case rel => exact ⟨(y445), (wrap64 (x7_2 + 1)), mc82, H', ⟨by have := HJ2.out; have := HK2.out; omega⟩, ⟨by (with_reducible repeat (first | apply Kd.R_alloc | apply Kd.R_drewN | apply Kd.R_drew)); exact HO447.out⟩, ⟨mc53⟩⟩
          ·
           rw [if_neg c15] at H
           exact absurd H (by simp)
         ·
          rw [if_neg c14] at H
          have c14b0 : (((rd_T26 l0 x7_2).f0).toList == a1.toList) = false := beq_eq_false_iff_ne.mpr c14
          have c14b1 : (((rd_T26 l0 x7_2).f0).toList != a1.toList) = true := bne_iff_ne.mpr c14
          exact spec_VersionsOf.calls.L1
        ·
         rw [if_neg c13] at H
         exact absurd H (by simp)
       ·
        rw [if_neg c12] at H
        have c12b0 : decide (x7_2 < (l0.length : Int)) = false := decide_eq_false c12
        clear c12
        exact spec_VersionsOf.calls.L2
/-! ### laws_rInts: function 21 -/
def laws_rInts.l0 : Nat → List Int → List Int → Int → Option (Bool)
  | 0, _, _, _ => none
  | k + 1, x0, x1, x5 => if x5 < (x0.length : Int) then (if 0 ≤ x5 then (if x5 < (x1.length : Int) then (if (rd x0 x5) = (rd x1 x5) then (laws_rInts.l0 k x0 x1 (wrap64 (x5 + 1))) else (some false)) else (none)) else (none)) else (some true)
def laws_rInts.f (k : Nat) (l0 : List Int) (l1 : List Int) : Option (Bool) := if (l0.length : Int) = (l1.length : Int) then (laws_rInts.l0 k l0 l1 0) else (some false)
set_option maxHeartbeats 8000000 in
set_option maxRecDepth 100000 in
theorem laws_rInts.calls (k : Nat) (A0 : Option Addr) (c0 : Nat) (l0 : List Int) (A1 : Option Addr) (c1 : Nat) (l1 : List Int) (r : Bool) (w : World) (hr0 : Kd.C (Kd.int .i64) w A0 l0.length l0) (hc0 : l0.length ≤ c0) (hr1 : Kd.C (Kd.int .i64) w A1 l1.length l1) (hc1 : l1.length ≤ c1) (h : laws_rInts.f k l0 l1 = some r) :
    Calls Tryz.prog 21 #[.slice A0 l0.length c0, .slice A1 l1.length c1] w fun e w' => e = .returned (.bool r) ∧ Drawn0 w w' := by
  have HR0 := A_ hr0
  have HC0 := A_ hc0
  clear hr0 hc0
  have HR1 := A_ hr1
  have HC1 := A_ hc1
  clear hr1 hc1
  have H : (if (l0.length : Int) = (l1.length : Int) then (laws_rInts.l0 k l0 l1 0) else (some false)) = some r := h
  clear h
  by_cases c3 : (l0.length : Int) = (l1.length : Int)
  · rw [if_pos c3] at H
    have c3b0 : ((l0.length : Int) == (l1.length : Int)) = true := beq_iff_eq.mpr c3
    have c3b1 : ((l0.length : Int) != (l1.length : Int)) = false := bne_eq_false_iff_eq.mpr c3
    have c3b2 : (l0.length == l1.length) = true := by first | simpa using c3 | (simp at c3 ⊢; omega)
    clear c3
    have H' := A_ H
    clear H
    go_enter Tryz.func21, Tryz.ntmps21
    go_wp2
    repeat (go_quiet (fail); try go_wp2)
    go_loopg [5] k (fun kq v5 w' => ∃ (x5_1 : Int), v5 = .int .i64 x5_1 ∧ Aside0 (laws_rInts.l0 kq l0 l1 x5_1 = some r) ∧ Aside0 (kq ≤ k) ∧ Drawn0 w w')
    case atStart => exact ⟨(0), mc82, H', ⟨Nat.le_refl _⟩, mc80⟩
    case round =>
      clear H'
      try clear p2
      try clear c3b0
      try clear c3b1
      try clear c3b2
      obtain ⟨x5_1, rfl, HA, HK1, ⟨m1, rfl⟩⟩ := hrel
      cases gk with
      | zero => exact absurd HA.out (by simp [laws_rInts.l0])
      | succ k1 =>
        have H := HA.out
        clear HA
        simp only [laws_rInts.l0] at H
        by_cases c4 : x5_1 < (l0.length : Int)
        · rw [if_pos c4] at H
          have c4b0 : decide (x5_1 < (l0.length : Int)) = true := decide_eq_true c4
          clear c4
          by_cases c5 : 0 ≤ x5_1
          · rw [if_pos c5] at H
            have c5b0 : decide (0 ≤ x5_1) = true := decide_eq_true c5
            clear c5
            by_cases c6 : x5_1 < (l1.length : Int)
            · rw [if_pos c6] at H
              have c6b0 : decide (x5_1 < (l1.length : Int)) = true := decide_eq_true c6
              clear c6
              by_cases c7 : (rd l0 x5_1) = (rd l1 x5_1)
              · rw [if_pos c7] at H
                have c7b0 : ((rd l0 x5_1) == (rd l1 x5_1)) = true := beq_iff_eq.mpr c7
                have c7b1 : ((rd l0 x5_1) != (rd l1 x5_1)) = false := bne_eq_false_iff_eq.mpr c7
                clear c7
                have H' := A_ H
                clear H
                have p448 : 0 ≤ (x5_1 : Int) := of_decide_eq_true mc81
                have q448 : x5_1 < (l0.length : Int) := of_decide_eq_true mc81
                obtain ⟨ad448, e448, hx448_0⟩ := Kd.at_int HR0.out x5_1 p448 q448
                cases e448
                replace p448 := eq_true p448
                replace q448 := eq_true q448
                have p449 : 0 ≤ (x5_1 : Int) := of_decide_eq_true mc81
                have q449 : x5_1 < (l1.length : Int) := of_decide_eq_true mc81
                obtain ⟨ad449, e449, hx449_0⟩ := Kd.at_int HR1.out x5_1 p449 q449
                cases e449
                replace p449 := eq_true p449
                replace q449 := eq_true q449
                go_wp2
                repeat (go_quiet (fail); try go_wp2)
                go_roundg k1
                case measure => have := HK1.out; omega
                case rel => exact ⟨(wrap64 (x5_1 + 1)), mc82, H', ⟨mc86⟩, mc80⟩
              · rw [if_neg c7] at H
                have c7b0 : ((rd l0 x5_1) == (rd l1 x5_1)) = false := beq_eq_false_iff_ne.mpr c7
                have c7b1 : ((rd l0 x5_1) != (rd l1 x5_1)) = true := bne_iff_ne.mpr c7
                obtain rfl := Option.some.inj H
                have p448 : 0 ≤ (x5_1 : Int) := of_decide_eq_true mc81
                have q448 : x5_1 < (l0.length : Int) := of_decide_eq_true mc81
                obtain ⟨ad448, e448, hx448_0⟩ := Kd.at_int HR0.out x5_1 p448 q448
                cases e448
                replace p448 := eq_true p448
                replace q448 := eq_true q448
                have p449 : 0 ≤ (x5_1 : Int) := of_decide_eq_true mc81
                have q449 : x5_1 < (l1.length : Int) := of_decide_eq_true mc81
                obtain ⟨ad449, e449, hx449_0⟩ := Kd.at_int HR1.out x5_1 p449 q449
                cases e449
                replace p449 := eq_true p449
                replace q449 := eq_true q449
                go_wp2
                repeat (go_quiet (fail); try go_wp2)
                go_ret
                exact ⟨mc82, mc80⟩
            · rw [if_neg c6] at H
              exact absurd H (by simp)
          · rw [if_neg c5] at H
            exact absurd H (by simp)
        · rw [if_neg c4] at H
          have c4b0 : decide (x5_1 < (l0.length : Int)) = false := decide_eq_false c4
          clear c4
          obtain rfl := Option.some.inj H
          go_wp2
          repeat (go_quiet (fail); try go_wp2)
          go_ret
          exact ⟨mc82, mc80⟩
  · rw [if_neg c3] at H
    have c3b0 : ((l0.length : Int) == (l1.length : Int)) = false := beq_eq_false_iff_ne.mpr c3
    have c3b1 : ((l0.length : Int) != (l1.length : Int)) = true := bne_iff_ne.mpr c3
    have c3b2 : (l0.length == l1.length) = false := by first | simpa using c3 | (simp at c3 ⊢; omega)
    obtain rfl := Option.some.inj H
    go_enter Tryz.func21, Tryz.ntmps21
    go_wp2
    repeat (go_quiet (fail); try go_wp2)
    go_ret
    exact ⟨mc82, mc80⟩

end Go.Proofs.YtgmmanppmjlclaaGreatDoor.P
