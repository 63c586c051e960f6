-- Made by pp.py of this session out of the kit's print and of contracts proved by hand; Lean checks it.
import Derived.Test.YtlnlabndaikbnaaGreatDoorMc
import Derived.Test.YtlnlabndaikbnaaGreatDoorPx0
import Derived.Test.YtlnlabndaikbnaaGreatDoorPx3
import Derived.Test.YtlnlabndaikbnaaGreatDoorPx4
import Derived.Test.YtlnlabndaikbnaaGreatDoorPx5
namespace Go.Proofs.YtlnlabndaikbnaaGreatDoor.P
open Go.RowKit Go.Proofs.YtlnlabndaikbnaaGreatDoorW.PrintWords Go.Proofs.YtlnlabndaikbnaaGreatDoorW.PrintLast Go.Proofs.YtlnlabndaikbnaaGreatDoorW.PrintMore
attribute [local go_sem] max2_int min2_int max_two min_two max_three min_three max_four min_four   -- for this text's walks alone
set_option linter.unusedVariables false
set_option linter.unusedSimpArgs false

/-! ### spec_l27Read: function 131 -/
def spec_l27Read.j0 : Nat → ByteArray → Int → ByteArray → ByteArray → Bool → Option (ByteArray × ByteArray × Bool)
 | 0, _, _, _, _, _ => none
 | k + 1, x0, x1, x6, x7, x30 => if x30 = true then (some ((⟨#[]⟩ : ByteArray), (⟨#[]⟩ : ByteArray), false)) else (if 0 ≤ (x6.size : Int) then (if (x6.size : Int) ≤ (x7.size : Int) then ((spec_l1Split.f k (x7.extract ((x6.size : Int) : Int).toNat x7.size) 64).bind fun t130 => (if 0 < (t130.length : Int) then (if ((rdOf ByteArray.empty t130 0).size : Int) = ((x7.extract ((x6.size : Int) : Int).toNat x7.size).size : Int) then (some ((⟨#[]⟩ : ByteArray), (⟨#[]⟩ : ByteArray), false)) else (if 0 ≤ (wrap64 (((rdOf ByteArray.empty t130 0).size : Int) + 1)) then (if (wrap64 (((rdOf ByteArray.empty t130 0).size : Int) + 1)) ≤ ((x7.extract ((x6.size : Int) : Int).toNat x7.size).size : Int) then ((spec_l27Good.f k (rdOf ByteArray.empty t130 0) ((x7.extract ((x6.size : Int) : Int).toNat x7.size).extract ((wrap64 (((rdOf ByteArray.empty t130 0).size : Int) + 1)) : Int).toNat (x7.extract ((x6.size : Int) : Int).toNat x7.size).size)).bind fun t135 => (if t135 = true then ((spec_l27Line.f k x1 (rdOf ByteArray.empty t130 0) ((x7.extract ((x6.size : Int) : Int).toNat x7.size).extract ((wrap64 (((rdOf ByteArray.empty t130 0).size : Int) + 1)) : Int).toNat (x7.extract ((x6.size : Int) : Int).toNat x7.size).size)).bind fun t136 => (if x0.size + 1 ≤ 9223372036854775807 then (some (rdOf ByteArray.empty t130 0, (x7.extract ((x6.size : Int) : Int).toNat x7.size).extract ((wrap64 (((rdOf ByteArray.empty t130 0).size : Int) + 1)) : Int).toNat (x7.extract ((x6.size : Int) : Int).toNat x7.size).size, (t136.toList == (x0 ++ (⟨#[10]⟩ : ByteArray)).toList))) else (none))) else (some (rdOf ByteArray.empty t130 0, (x7.extract ((x6.size : Int) : Int).toNat x7.size).extract ((wrap64 (((rdOf ByteArray.empty t130 0).size : Int) + 1)) : Int).toNat (x7.extract ((x6.size : Int) : Int).toNat x7.size).size, false)))) else (none)) else (none))) else (none))) else (none)) else (none))
def spec_l27Read.f (k : Nat) (a0 : ByteArray) (a1 : Int) : Option (ByteArray × ByteArray × Bool) := (spec_l1Num.f a1).bind fun t125 => (if t125.size + 1 ≤ 9223372036854775807 then ((spec_l1Split.f k a0 35).bind fun t126 => (if 0 < (t126.length : Int) then (if ((rdOf ByteArray.empty t126 0).size : Int) < ((t125 ++ (⟨#[32]⟩ : ByteArray)).size : Int) then (spec_l27Read.j0 k a0 a1 (t125 ++ (⟨#[32]⟩ : ByteArray)) (rdOf ByteArray.empty t126 0) true) else (if 0 ≤ ((t125 ++ (⟨#[32]⟩ : ByteArray)).size : Int) then (if ((t125 ++ (⟨#[32]⟩ : ByteArray)).size : Int) ≤ ((rdOf ByteArray.empty t126 0).size : Int) then (spec_l27Read.j0 k a0 a1 (t125 ++ (⟨#[32]⟩ : ByteArray)) (rdOf ByteArray.empty t126 0) (((rdOf ByteArray.empty t126 0).extract 0 (((t125 ++ (⟨#[32]⟩ : ByteArray)).size : Int) : Int).toNat).toList != (t125 ++ (⟨#[32]⟩ : ByteArray)).toList)) else (none)) else (none))) else (none))) else (none))
def spec_l27Read.T10 : Bool × List (List Nat × List Nat) := (true, [([], []), ([], []), ([1], [1]), ([2, 2], [2]), ([3], [3]), ([3], [3]), ([4, 5, 3, 3], [3, 4, 5]), ([3], [3]), ([7, 3], [3, 7]), ([6, 8, 3], [3, 6, 8]), ([3, 9], [3, 9]), ([0, 6, 0], [0]), ([10, 11, 0, 1, 2, 3, 4, 5, 6, 7, 8, 9, 10, 11], [10])])
def spec_l27Read.B10 : List Nat := [0, 0, 2, 6, 14, 14, 62, 14, 142, 510, 1022, 127, 4095]
theorem spec_l27Read.tab10 : rtab .any (opsOf Tryz.f131 10) = spec_l27Read.T10 := by kernel_rfl
theorem spec_l27Read.bits10 : waitsOk spec_l27Read.T10.2 spec_l27Read.B10 = true := by kernel_rfl
set_option maxHeartbeats 8000000 in
set_option maxRecDepth 100000 in
theorem spec_l27Read.calls (k : Nat) (a0 : ByteArray) (a1 : Int) (r1 : ByteArray) (r2 : ByteArray) (r3 : Bool) (w : World) (h : spec_l27Read.f k a0 a1 = some (r1, r2, r3)) :
  Calls Tryz.prog 131 #[.string a0, .int .i64 a1] w fun e w' => e = .returned (.tuple #[.agg #[.string r1, .string r2], .bool r3]) ∧ Below w.heap.size w w' := by
 have hu62 := Tryz.underlying62
 have HB := A_ (Below.refl w.heap.size w)
 have H : ((spec_l1Num.f a1).bind fun t125 => (if t125.size + 1 ≤ 9223372036854775807 then ((spec_l1Split.f k a0 35).bind fun t126 => (if 0 < (t126.length : Int) then (if ((rdOf ByteArray.empty t126 0).size : Int) < ((t125 ++ (⟨#[32]⟩ : ByteArray)).size : Int) then (spec_l27Read.j0 k a0 a1 (t125 ++ (⟨#[32]⟩ : ByteArray)) (rdOf ByteArray.empty t126 0) true) else (if 0 ≤ ((t125 ++ (⟨#[32]⟩ : ByteArray)).size : Int) then (if ((t125 ++ (⟨#[32]⟩ : ByteArray)).size : Int) ≤ ((rdOf ByteArray.empty t126 0).size : Int) then (spec_l27Read.j0 k a0 a1 (t125 ++ (⟨#[32]⟩ : ByteArray)) (rdOf ByteArray.empty t126 0) (((rdOf ByteArray.empty t126 0).extract 0 (((t125 ++ (⟨#[32]⟩ : ByteArray)).size : Int) : Int).toNat).toList != (t125 ++ (⟨#[32]⟩ : ByteArray)).toList)) else (none)) else (none))) else (none))) else (none))) = some (r1, r2, r3) := h
 clear h
 obtain ⟨t125, A30, H⟩ := oB_ H
 have A3 := A_ A30
 clear A30
 by_cases c4 : t125.size + 1 ≤ 9223372036854775807
 ·
  rw [if_pos c4] at H
  have c4b0 := eq_true c4
  have c4b1 : decide (t125.size + 1 ≤ 9223372036854775807) = true := decide_eq_true c4
  try have c4b2 : (9223372036854775807 < t125.size + 1) = False := eq_false (Nat.not_lt.2 c4)
  obtain ⟨L125, hL125⟩ : ∃ L_ : ByteArray, (t125 ++ (⟨#[32]⟩ : ByteArray)) = L_ := ⟨_, rfl⟩
  rw [hL125] at H
  obtain ⟨t126, A50, H⟩ := oB_ H
  have A5 := A_ A50
  clear A50
  by_cases c6 : 0 < (t126.length : Int)
  ·
   rw [if_pos c6] at H
   have c6b0 : decide (0 < (t126.length : Int)) = true := decide_eq_true c6
   have c6b1 : decide (0 < t126.length) = true := decide_eq_true (by omega)
   clear c6
   have HC7 := A_ H
   clear H
   go_enter Tryz.func131, Tryz.ntmps131
   go_upto_region 3 with (first | ((with_reducible refine gd_ 4 rfl ?_); (try (refine gate_guard (by rfl) ?_; dsimp only)); refine box_event rfl (N := 4) rfl (cs := #[.string (⟨#[]⟩ : ByteArray), .string (⟨#[]⟩ : ByteArray)]) (t := 62) mc142 ?_; intro gb124 hg w8 hbox hb; have BK124 := A_ (hbox); have GW124 := A_ ((mc45 : w.heap.size ≤ gb124)); have GE124 := A_ ((mc45 : w.heap.size ≤ gb124)); replace HB := A_ (below_step mc89 hb); clear hb hbox hg) | ((with_reducible refine gc_ 46 rfl ?_); refine goesL_ (some 12) rfl rfl Tryz.func46 kr_ rfl #[.int .i64 a1] rfl mc86 ?_; (with_reducible refine (spec_l1Num.calls a1 t125 _ A3.out).mono ?_); rintro e w' ⟨rfl, ⟨nd, rfl⟩⟩; refine ⟨_, rfl, ?_⟩) | ((with_reducible refine gc_ 65 rfl ?_); refine goesL_ (some 15) rfl rfl Tryz.func65 kr_ rfl #[.string a0, .int .u8 35] rfl mc86 ?_; (with_reducible refine (spec_l1Split.calls k a0 35 t126 _ A5.out).mono ?_); rintro e w9 ⟨v127, rfl, ho0, hb⟩; refine ⟨_, rfl, ?_⟩; have HO128 := A_ (Kd.R_lower ho0 (below_size mc47)); replace BK124 := A_ (blk_below mc92 hb); replace HB := A_ (below_step mc47 hb); (try clear hb); (try clear ho0); obtain ⟨Ao10, co10, eo10⟩ := Kd.R_slice HO128.out; subst eo10; have p129 : 0 ≤ (0 : Int) := (by omega); have q129 : 0 < (t126.length : Int) := of_decide_eq_true mc139; obtain ⟨ad129, e129, hx129_0⟩ := Kd.at_string (Kd.R_reads' HO128.out).2.2 0 p129 q129; cases e129; have qi129 : (0 < t126.length) = True := eq_true (by omega); (try rw [show ((0 : Int)).toNat = 0 from rfl] at hx129_0); (try rw [Addr.add_zero'] at hx129_0); replace p129 := eq_true p129; replace q129 := eq_true q129))
   (try simp only [Act.put, List.setIfInBounds_toArray, List.set_cons_zero, List.set_cons_succ])
   go_cut [30] (fun v30 wc => ∃ (kq : Nat) (x30_6 : Bool), v30 = .bool x30_6 ∧ Aside0 (spec_l27Read.j0 kq a0 a1 L125 (rdOf ByteArray.empty t126 0) x30_6 = some (r1, r2, r3)) ∧ Aside0 (kq ≤ k) ∧ Aside0 (wc.heap[gb124]? = some (.cells #[.string (⟨#[]⟩ : ByteArray), .string (⟨#[]⟩ : ByteArray)] 62 (0, 0))) ∧ Aside0 (Below w.heap.size w wc))
   case first =>
    have H := HC7.out
    clear HC7
    by_cases c11 : ((rdOf ByteArray.empty t126 0).size : Int) < (L125.size : Int)
    ·
     rw [if_pos c11] at H
     have c11b0 : decide (((rdOf ByteArray.empty t126 0).size : Int) < (L125.size : Int)) = true := decide_eq_true c11
     have c11b1 : decide ((rdOf ByteArray.empty t126 0).size < L125.size) = true := decide_eq_true (Int.ofNat_lt.mp c11)
     clear c11
     (first | rw [c11b0] | (simp only [i64_w, i32_w]; rw [c11b0]) | skip)
     have H' := A_ H
     clear H
     go_wp2
     go_meet
     case rel => exact ⟨_, (true), mc141, H', ⟨by first | omega | exact Nat.le_refl _⟩, ⟨mc92⟩, ⟨mc47⟩⟩
    ·
     rw [if_neg c11] at H
     have c11b0 : decide (((rdOf ByteArray.empty t126 0).size : Int) < (L125.size : Int)) = false := decide_eq_false c11
     have c11b1 : decide ((rdOf ByteArray.empty t126 0).size < L125.size) = false := decide_eq_false (fun h => c11 (Int.ofNat_lt.mpr h))
     clear c11
     (first | rw [c11b0] | (simp only [i64_w, i32_w]; rw [c11b0]) | skip)
     by_cases c12 : 0 ≤ (L125.size : Int)
     ·
      rw [if_pos c12] at H
      have c12b0 := eq_true c12
      have c12b1 : decide (0 ≤ (L125.size : Int)) = true := decide_eq_true c12
      by_cases c13 : (L125.size : Int) ≤ ((rdOf ByteArray.empty t126 0).size : Int)
      ·
       rw [if_pos c13] at H
       have c13b0 := eq_true c13
       have c13b1 : decide ((L125.size : Int) ≤ ((rdOf ByteArray.empty t126 0).size : Int)) = true := decide_eq_true c13
       have H' := A_ H
       clear H
       go_wp2
       go_meet
       case rel => exact ⟨_, ((((rdOf ByteArray.empty t126 0).extract 0 ((L125.size : Int) : Int).toNat).toList != L125.toList)), mc141, H', ⟨by first | omega | exact Nat.le_refl _⟩, ⟨mc92⟩, ⟨mc47⟩⟩
      ·
       rw [if_neg c13] at H
       exact absurd H (by simp)
     ·
      rw [if_neg c12] at H
      exact absurd H (by simp)
   case rest =>
    clear HC7
    try clear p1
    try clear q1
    try clear hx1
    try clear qi1
    try clear p2
    try clear c4b0
    try clear c4b1
    try clear c4b2
    try clear c6b0
    try clear c6b1
    try clear c11b0
    try clear c11b1
    try clear c12b0
    try clear c12b1
    try clear p12
    try clear q12
    try clear hx12
    try clear qi12
    try clear c13b0
    try clear c13b1
    try clear hx129_0
    try clear p129
    try clear q129
    obtain ⟨kq, x30_6, rfl, HA, HJ6, BK124, HB⟩ := hcut
    cases kq with
    | zero => exact absurd HA.out (by simp [spec_l27Read.j0])
    | succ kj6 =>
     have H := HA.out
     clear HA
     simp only [spec_l27Read.j0] at H
     by_cases c14 : x30_6 = true
     ·
      subst c14
      rw [if_pos rfl] at H
      simp only [Option.some.injEq, Prod.mk.injEq] at H
      obtain ⟨rfl, rfl, rfl⟩ := H
      have hcz15_0 : wc.cell? ⟨gb124, 0, none⟩ = some (.string (⟨#[]⟩ : ByteArray)) := bc_ BK124 0 rfl
      have hcz15_1 : wc.cell? ⟨gb124, 1, none⟩ = some (.string (⟨#[]⟩ : ByteArray)) := bc_ BK124 1 rfl
      have hfz15_0 := blk_frozen BK124.out 0
      have hfz15_1 := blk_frozen BK124.out 1
      go_wp2
      refine bodyPost_ret (results_ct rfl _ _ gb124 62 #[.string (⟨#[]⟩ : ByteArray), .string (⟨#[]⟩ : ByteArray)] (0, 0) _ rfl mc5 Tryz.underlying62 rfl kr_) rfl ?_
      exact ⟨mc133, mc47⟩
     ·
      replace c14 := Bool.eq_false_iff.mpr c14
      subst c14
      rw [if_neg (show ¬ (false = true) by decide)] at H
      by_cases c16 : 0 ≤ (L125.size : Int)
      ·
       rw [if_pos c16] at H
       have c16b0 := eq_true c16
       have c16b1 : decide (0 ≤ (L125.size : Int)) = true := decide_eq_true c16
       by_cases c17 : (L125.size : Int) ≤ ((rdOf ByteArray.empty t126 0).size : Int)
       ·
        rw [if_pos c17] at H
        obtain ⟨R17, hR17⟩ : ∃ R_ : ByteArray, ((rdOf ByteArray.empty t126 0).extract ((L125.size : Int) : Int).toNat (rdOf ByteArray.empty t126 0).size) = R_ := ⟨_, rfl⟩
        have hR17' : (rdOf ByteArray.empty t126 0).extract L125.size (rdOf ByteArray.empty t126 0).size = R17 := by rw [← hR17, Int.toNat_natCast]
        rw [hR17] at H
        have c17b0 := eq_true c17
        have c17b1 : decide ((L125.size : Int) ≤ ((rdOf ByteArray.empty t126 0).size : Int)) = true := decide_eq_true c17
        obtain ⟨t130, A180, H⟩ := oB_ H
        have A18 := A_ A180
        clear A180
        by_cases c19 : 0 < (t130.length : Int)
        ·
         rw [if_pos c19] at H
         have c19b0 : decide (0 < (t130.length : Int)) = true := decide_eq_true c19
         have c19b1 : decide (0 < t130.length) = true := decide_eq_true (by omega)
         clear c19
         by_cases c20 : ((rdOf ByteArray.empty t130 0).size : Int) = (R17.size : Int)
         ·
          rw [if_pos c20] at H
          have c20b0 : (((rdOf ByteArray.empty t130 0).size : Int) == (R17.size : Int)) = true := beq_iff_eq.mpr c20
          have c20b1 : (((rdOf ByteArray.empty t130 0).size : Int) != (R17.size : Int)) = false := bne_eq_false_iff_eq.mpr c20
          have c20b2 : ((rdOf ByteArray.empty t130 0).size == R17.size) = true := by first | simpa using c20 | (simp at c20 ⊢; omega)
          clear c20
          simp only [Option.some.injEq, Prod.mk.injEq] at H
          obtain ⟨rfl, rfl, rfl⟩ := H
          go_wp2_with (first | ((with_reducible refine gc_ 65 rfl ?_); refine goesL_ (some 37) rfl rfl Tryz.func65 kr_ rfl #[.string R17, .int .u8 64] rfl mc86 ?_; (with_reducible refine (spec_l1Split.calls kj6 R17 64 t130 _ A18.out).mono ?_); rintro e w21 ⟨v131, rfl, ho0, hb⟩; refine ⟨_, rfl, ?_⟩; have HO132 := A_ (Kd.R_lower ho0 (below_size mc47)); replace BK124 := A_ (blk_below mc92 hb); replace HB := A_ (below_step mc47 hb); (try clear hb); (try clear ho0); obtain ⟨Ao22, co22, eo22⟩ := Kd.R_slice HO132.out; subst eo22; have p133 : 0 ≤ (0 : Int) := (by omega); have q133 : 0 < (t130.length : Int) := of_decide_eq_true mc139; obtain ⟨ad133, e133, hx133_0⟩ := Kd.at_string (Kd.R_reads' HO132.out).2.2 0 p133 q133; cases e133; have qi133 : (0 < t130.length) = True := eq_true (by omega); (try rw [show ((0 : Int)).toNat = 0 from rfl] at hx133_0); (try rw [Addr.add_zero'] at hx133_0); replace p133 := eq_true p133; replace q133 := eq_true q133; have hcz23_0 : w21.cell? ⟨gb124, 0, none⟩ = some (.string (⟨#[]⟩ : ByteArray)) := bc_ BK124 0 rfl; have hcz23_1 : w21.cell? ⟨gb124, 1, none⟩ = some (.string (⟨#[]⟩ : ByteArray)) := bc_ BK124 1 rfl; have hfz23_0 := blk_frozen BK124.out 0; have hfz23_1 := blk_frozen BK124.out 1))
          refine bodyPost_ret (results_ct rfl _ _ gb124 62 #[.string (⟨#[]⟩ : ByteArray), .string (⟨#[]⟩ : ByteArray)] (0, 0) _ rfl mc5 Tryz.underlying62 rfl kr_) rfl ?_
          exact ⟨mc133, mc47⟩
         ·
          rw [if_neg c20] at H
          have c20b0 : (((rdOf ByteArray.empty t130 0).size : Int) == (R17.size : Int)) = false := beq_eq_false_iff_ne.mpr c20
          have c20b1 : (((rdOf ByteArray.empty t130 0).size : Int) != (R17.size : Int)) = true := bne_iff_ne.mpr c20
          have c20b2 : ((rdOf ByteArray.empty t130 0).size == R17.size) = false := by first | simpa using c20 | (simp at c20 ⊢; omega)
          obtain ⟨ji24, hji24⟩ : ∃ j_ : Int, (wrap64 (((rdOf ByteArray.empty t130 0).size : Int) + 1)) = j_ := ⟨_, rfl⟩
          replace H : (if 0 ≤ (ji24) then (if (ji24) ≤ (R17.size : Int) then ((spec_l27Good.f kj6 (rdOf ByteArray.empty t130 0) (R17.extract ((ji24) : Int).toNat R17.size)).bind fun t135 => (if t135 = true then ((spec_l27Line.f kj6 a1 (rdOf ByteArray.empty t130 0) (R17.extract ((ji24) : Int).toNat R17.size)).bind fun t136 => (if a0.size + 1 ≤ 9223372036854775807 then (some (rdOf ByteArray.empty t130 0, R17.extract ((ji24) : Int).toNat R17.size, (t136.toList == (a0 ++ (⟨#[10]⟩ : ByteArray)).toList))) else (none))) else (some (rdOf ByteArray.empty t130 0, R17.extract ((ji24) : Int).toNat R17.size, false)))) else (none)) else (none)) = some (r1, r2, r3) := by first | (rw [hji24] at H; exact H) | (simp only [hji24] at H ⊢; exact H)
          (try rw [hji24] at A18)
          have hji24w : (IntKind.i64.wrap (((rdOf ByteArray.empty t130 0).size : Int) + 1)) = ji24 := (i64_w _).trans hji24
          by_cases c25 : 0 ≤ (ji24)
          ·
           rw [if_pos c25] at H
           have c25b0 := eq_true c25
           have c25b1 : decide (0 ≤ (ji24)) = true := decide_eq_true c25
           clear c25
           by_cases c26 : (ji24) ≤ (R17.size : Int)
           ·
            rw [if_pos c26] at H
            have c26b0 := eq_true c26
            have c26b1 : decide ((ji24) ≤ (R17.size : Int)) = true := decide_eq_true c26
            obtain ⟨t135, A270, H⟩ := oB_ H
            have A27 := A_ A270
            clear A270
            by_cases c28 : t135 = true
            ·
             subst c28
             rw [if_pos rfl] at H
             obtain ⟨t136, A290, H⟩ := oB_ H
             have A29 := A_ A290
             clear A290
             by_cases c30 : a0.size + 1 ≤ 9223372036854775807
             ·
              rw [if_pos c30] at H
              have c30b0 := eq_true c30
              have c30b1 : decide (a0.size + 1 ≤ 9223372036854775807) = true := decide_eq_true c30
              try have c30b2 : (9223372036854775807 < a0.size + 1) = False := eq_false (Nat.not_lt.2 c30)
              simp only [Option.some.injEq, Prod.mk.injEq] at H
              obtain ⟨rfl, rfl, rfl⟩ := H
              try go_wp2_with (first | ((with_reducible refine gc_ 65 rfl ?_); refine goesL_ (some 37) rfl rfl Tryz.func65 kr_ rfl #[.string R17, .int .u8 64] rfl mc86 ?_; (with_reducible refine (spec_l1Split.calls kj6 R17 64 t130 _ A18.out).mono ?_); rintro e w31 ⟨v131, rfl, ho0, hb⟩; refine ⟨_, rfl, ?_⟩; have HO132 := A_ (Kd.R_lower ho0 (below_size mc47)); replace BK124 := A_ (blk_below mc92 hb); replace HB := A_ (below_step mc47 hb); (try clear hb); (try clear ho0); obtain ⟨Ao32, co32, eo32⟩ := Kd.R_slice HO132.out; subst eo32; have p133 : 0 ≤ (0 : Int) := (by omega); have q133 : 0 < (t130.length : Int) := of_decide_eq_true mc139; obtain ⟨ad133, e133, hx133_0⟩ := Kd.at_string (Kd.R_reads' HO132.out).2.2 0 p133 q133; cases e133; have qi133 : (0 < t130.length) = True := eq_true (by omega); (try rw [show ((0 : Int)).toNat = 0 from rfl] at hx133_0); (try rw [Addr.add_zero'] at hx133_0); replace p133 := eq_true p133; replace q133 := eq_true q133) | ((with_reducible refine gd_ 10 rfl ?_); (try (refine gate_guard (by rfl) ?_; dsimp only)); refine box_event rfl (N := 10) rfl (cs := #[.string (⟨#[]⟩ : ByteArray), .string (⟨#[]⟩ : ByteArray)]) (t := 62) mc142 ?_; intro gb134 hg w33 hbox hb; replace HO132 := A_ (Kd.R_below mc123 hb); have BK134 := A_ (hbox); have GW134 := A_ ((mc19 : w.heap.size ≤ gb134)); have GE134 := A_ ((mc19 : w.heap.size ≤ gb134)); replace HB := A_ (below_step mc47 hb); have NB124_134 := A_ ((by rw [hg]; exact Nat.ne_of_lt (blk_lt mc92) : gb124 ≠ gb134)); have NB134_124 := A_ ((by rw [hg]; exact Nat.ne_of_gt (blk_lt mc92) : gb134 ≠ gb124)); replace BK124 := A_ (blk_below mc92 hb); clear hb hbox hg; have hnb34 := NB134_124.out; have hnc34 := NB124_134.out; have hcz35_0 : w33.cell? ⟨gb134, 0, none⟩ = some (.string (⟨#[]⟩ : ByteArray)) := bc_ BK134 0 rfl; have hcz35_1 : w33.cell? ⟨gb134, 1, none⟩ = some (.string (⟨#[]⟩ : ByteArray)) := bc_ BK134 1 rfl; have hfz35_0 := blk_frozen BK134.out 0; have hfz35_1 := blk_frozen BK134.out 1))
              have n0_ : Aside0 (Kd.R Kd.string 9 ((w33.setCell ⟨gb134, 0, none⟩ (.string (rdOf ByteArray.empty t130 0))).setCell ⟨gb134, 1, none⟩ (.string (R17.extract ((ji24) : Int).toNat R17.size))) w.heap.size (fun _ => True) (.slice (some ad133) t130.length co32) t130) := ⟨mc10⟩
              have n1_ : Aside0 (((w33.setCell ⟨gb134, 0, none⟩ (.string (rdOf ByteArray.empty t130 0))).setCell ⟨gb134, 1, none⟩ (.string (R17.extract ((ji24) : Int).toNat R17.size))).heap[gb124]? = some (.cells #[.string (⟨#[]⟩ : ByteArray), .string (⟨#[]⟩ : ByteArray)] 62 (0, 0))) := ⟨mc9⟩
              have n2_ : Aside0 (((w33.setCell ⟨gb134, 0, none⟩ (.string (rdOf ByteArray.empty t130 0))).setCell ⟨gb134, 1, none⟩ (.string (R17.extract ((ji24) : Int).toNat R17.size))).heap[gb134]? = some (.cells #[.string (rdOf ByteArray.empty t130 0), .string (R17.extract ((ji24) : Int).toNat R17.size)] 62 (0, 0))) := ⟨mc4⟩
              have n3_ : Aside0 (Below w.heap.size w ((w33.setCell ⟨gb134, 0, none⟩ (.string (rdOf ByteArray.empty t130 0))).setCell ⟨gb134, 1, none⟩ (.string (R17.extract ((ji24) : Int).toNat R17.size)))) := ⟨mc30⟩
              (try clear HO132)
              (try clear BK124)
              (try clear BK134)
              (try clear HB)
              generalize ((w33.setCell ⟨gb134, 0, none⟩ (.string (rdOf ByteArray.empty t130 0))).setCell ⟨gb134, 1, none⟩ (.string (R17.extract ((ji24) : Int).toNat R17.size))) = w36 at n0_ n1_ n2_ n3_ ⊢
              have HO132 := n0_
              have BK124 := n1_
              have BK134 := n2_
              have HB := n3_
              clear n0_ n1_ n2_ n3_
              replace HO132 := A_ (Kd.R_drew HO132.out)
              replace BK124 := A_ (blk_drew BK124.out)
              replace BK134 := A_ (blk_drew BK134.out)
              replace HB := A_ (below_drew1 HB.out)
              refine start_ (n := 13) (S := fun w' => w'.cell? ⟨gb134, 0, none⟩ = some (.string (rdOf ByteArray.empty t130 0)) ∧ w'.cell? ⟨gb134, 1, none⟩ = some (.string (R17.extract ((ji24) : Int).toNat R17.size))) (ds := []) #[false, false, false, false, false, false, false, false, false, false, false, false, false] kr_ rfl rfl ⟨bc_ BK134 0 rfl, bc_ BK134 1 rfl⟩ (fun hHeld => ?_); refine with_tabW spec_l27Read.tab10 spec_l27Read.bits10 (fun HT_ HW_ => ?_)
              generalize w36.drew = w37 at HO132 BK124 BK134 HB hHeld ⊢
              refine take_ (i := 0) (N := some 53) #[true, false, false, false, false, false, false, false, false, false, false, false, false] rfl rfl (take_ofW HT_.out HW_.out kr_) (fun _ _ _ h => h) (Or.inl ⟨by rfl, mc140⟩) hHeld mc122 ?_
              refine take_ (i := 1) (N := some 54) #[true, true, false, false, false, false, false, false, false, false, false, false, false] rfl rfl (take_ofW HT_.out HW_.out kr_) (fun _ _ _ h => h) (Or.inl ⟨by rfl, mc140⟩) hHeld mc122 ?_
              refine one_ (i := 2) (N := some 55) #[true, true, true, false, false, false, false, false, false, false, false, false, false] rfl rfl (one_of HT_.out kr_) (by decide) (fun K hK => ?_)
              refine goes_ Tryz.func55 kr_ rfl #[.agg #[.string (rdOf ByteArray.empty t130 0), .string (R17.extract ((ji24) : Int).toNat R17.size)]] (by rfl) rfl rfl mc44 ?_
              with_reducible refine (spec_l27Good.calls kj6 (rdOf ByteArray.empty t130 0) (R17.extract ((ji24) : Int).toNat R17.size) true _ A27.out).mono ?_
              rintro e w38 ⟨rfl, hb⟩
              refine ⟨_, rfl, ?_⟩
              replace HO132 := A_ (Kd.R_below mc123 hb)
              replace BK124 := A_ (blk_below mc92 hb)
              replace BK134 := A_ (blk_below mc93 hb)
              replace HB := A_ (below_step mc30 hb)
              (try clear hb)
              refine hK.out _ _ ⟨bc_ BK134 0 rfl, bc_ BK134 1 rfl⟩ (fun hHeld => ?_)
              clear hK K
              refine norm_ (by show Act.put _ (some 55) _ = _; simp only [Act.put, List.setIfInBounds_toArray, List.set_cons_zero, List.set_cons_succ, i64_w, i32_w]; rfl) ?_
              refine pure_ (i := 3) (N := some 56) #[true, true, true, true, false, false, false, false, false, false, false, false, false] rfl rfl (any_of HT_.out kr_) (fun _ _ _ h => h) (Or.inl ⟨by rfl, mc143⟩) mc122 ?_
              refine pure_ (i := 4) (N := some 57) #[true, true, true, true, true, false, false, false, false, false, false, false, false] rfl rfl (any_of HT_.out kr_) (fun _ _ _ h => h) (Or.inl ⟨by rfl, mc143⟩) mc122 ?_
              refine pure_ (i := 7) (N := some 60) #[true, true, true, true, true, false, false, true, false, false, false, false, false] rfl rfl (any_of HT_.out kr_) (fun _ _ _ h => h) (Or.inl ⟨by rfl, mc143⟩) mc122 ?_
              refine pure_ (i := 8) (N := some 61) #[true, true, true, true, true, false, false, true, true, false, false, false, false] rfl rfl (any_of HT_.out kr_) (fun _ _ _ h => h) (Or.inl ⟨by rfl, mc143⟩) mc122 ?_
              refine take_ (i := 5) (N := some 58) #[true, true, true, true, true, true, false, true, true, false, false, false, false] rfl rfl (take_ofW HT_.out HW_.out kr_) (fun _ _ _ h => h) (Or.inl ⟨by rfl, mc140⟩) hHeld mc122 ?_
              refine one_ (i := 6) (N := some 59) #[true, true, true, true, true, true, true, true, true, false, false, false, false] rfl rfl (one_of HT_.out kr_) (by decide) (fun K hK => ?_)
              refine goes_ Tryz.func97 kr_ rfl #[.int .i64 a1, .agg #[.string (rdOf ByteArray.empty t130 0), .string (R17.extract ((ji24) : Int).toNat R17.size)]] (by rfl) rfl rfl mc44 ?_
              with_reducible refine (spec_l27Line.calls kj6 a1 (rdOf ByteArray.empty t130 0) (R17.extract ((ji24) : Int).toNat R17.size) t136 _ A29.out).mono ?_
              rintro e w39 ⟨rfl, hb⟩
              refine ⟨_, rfl, ?_⟩
              replace HO132 := A_ (Kd.R_below mc123 hb)
              replace BK124 := A_ (blk_below mc92 hb)
              replace BK134 := A_ (blk_below mc93 hb)
              replace HB := A_ (below_step mc30 hb)
              (try clear hb)
              refine hK.out _ _ ⟨bc_ BK134 0 rfl, bc_ BK134 1 rfl⟩ (fun hHeld => ?_)
              clear hK K
              refine norm_ (by show Act.put _ (some 59) _ = _; simp only [Act.put, List.setIfInBounds_toArray, List.set_cons_zero, List.set_cons_succ, i64_w, i32_w]; rfl) ?_
              refine pure_ (i := 9) (N := some 62) #[true, true, true, true, true, true, true, true, true, true, false, false, false] rfl rfl (any_of HT_.out kr_) (fun _ _ _ h => h) (Or.inl ⟨by rfl, mc143⟩) mc122 ?_
              refine pure_ (i := 10) (N := some 63) #[true, true, true, true, true, true, true, true, true, true, true, false, false] rfl rfl (any_of HT_.out kr_) (fun _ _ _ h => h) (Or.inl ⟨by rfl, mc143⟩) mc122 ?_
              refine one_ (i := 11) (N := none) #[true, true, true, true, true, true, true, true, true, true, true, true, false] rfl rfl (one_of HT_.out kr_) (by decide) (fun K hK => ?_)
              have hs40 : w39.cell? ⟨gb124, 0, none⟩ = some (.string (⟨#[]⟩ : ByteArray)) := bc_ BK124 0 rfl
              have hfs40 := blk_frozen BK124.out 0
              have hns40_1 := NB134_124.out
              have hms40_1 := NB124_134.out
              have hs41 : w39.cell? ⟨gb124, 1, none⟩ = some (.string (⟨#[]⟩ : ByteArray)) := bc_ BK124 1 rfl
              have hfs41 := blk_frozen BK124.out 1
              have hns41_1 := NB134_124.out
              have hms41_1 := NB124_134.out
              refine skip_ (w1 := ?_) (by rfl) rfl ?_ ?_
              rotate_left
              ·
               go_simp
               rfl
              refine hK.out _ _ ⟨((cell_far (p := ⟨gb124, _, none⟩) NB134_124.out _).trans (((cell_far (p := ⟨gb124, _, none⟩) NB134_124.out _).trans (hHeld.1)))), ((cell_far (p := ⟨gb124, _, none⟩) NB134_124.out _).trans (((cell_far (p := ⟨gb124, _, none⟩) NB134_124.out _).trans (hHeld.2))))⟩ (fun hHeld => ?_)
              clear hK K
              refine pure_ (i := 12) (N := some 5) #[true, true, true, true, true, true, true, true, true, true, true, true, true] rfl rfl (any_of HT_.out kr_) (fun _ _ _ h => h) (Or.inl ⟨by rfl, mc143⟩) mc122 ?_
              refine done_ (done_of HT_.out kr_) ?_
              try go_wp2
              refine bodyPost_ret (results_ct rfl _ _ gb124 62 #[.string (rdOf ByteArray.empty t130 0), .string (R17.extract ((ji24) : Int).toNat R17.size)] (0, 0) _ rfl mc3 Tryz.underlying62 rfl kr_) rfl ?_
              exact ⟨by first | rfl | (simp [errW_none, errW_some] <;> rfl) | (simp only [← hji24]; first | rfl | (simp [errW_none, errW_some] <;> rfl)) | (simp [*, errW_none, errW_some] <;> rfl), mc30⟩
             ·
              rw [if_neg c30] at H
              exact absurd H (by simp)
            ·
             replace c28 := Bool.eq_false_iff.mpr c28
             subst c28
             rw [if_neg (show ¬ (false = true) by decide)] at H
             simp only [Option.some.injEq, Prod.mk.injEq] at H
             obtain ⟨rfl, rfl, rfl⟩ := H
             try go_wp2_with (first | ((with_reducible refine gc_ 65 rfl ?_); refine goesL_ (some 37) rfl rfl Tryz.func65 kr_ rfl #[.string R17, .int .u8 64] rfl mc86 ?_; (with_reducible refine (spec_l1Split.calls kj6 R17 64 t130 _ A18.out).mono ?_); rintro e w42 ⟨v131, rfl, ho0, hb⟩; refine ⟨_, rfl, ?_⟩; have HO132 := A_ (Kd.R_lower ho0 (below_size mc47)); replace BK124 := A_ (blk_below mc92 hb); replace HB := A_ (below_step mc47 hb); (try clear hb); (try clear ho0); obtain ⟨Ao43, co43, eo43⟩ := Kd.R_slice HO132.out; subst eo43; have p133 : 0 ≤ (0 : Int) := (by omega); have q133 : 0 < (t130.length : Int) := of_decide_eq_true mc139; obtain ⟨ad133, e133, hx133_0⟩ := Kd.at_string (Kd.R_reads' HO132.out).2.2 0 p133 q133; cases e133; have qi133 : (0 < t130.length) = True := eq_true (by omega); (try rw [show ((0 : Int)).toNat = 0 from rfl] at hx133_0); (try rw [Addr.add_zero'] at hx133_0); replace p133 := eq_true p133; replace q133 := eq_true q133) | ((with_reducible refine gd_ 10 rfl ?_); (try (refine gate_guard (by rfl) ?_; dsimp only)); refine box_event rfl (N := 10) rfl (cs := #[.string (⟨#[]⟩ : ByteArray), .string (⟨#[]⟩ : ByteArray)]) (t := 62) mc142 ?_; intro gb134 hg w44 hbox hb; replace HO132 := A_ (Kd.R_below mc123 hb); have BK134 := A_ (hbox); have GW134 := A_ ((mc19 : w.heap.size ≤ gb134)); have GE134 := A_ ((mc19 : w.heap.size ≤ gb134)); replace HB := A_ (below_step mc47 hb); have NB124_134 := A_ ((by rw [hg]; exact Nat.ne_of_lt (blk_lt mc92) : gb124 ≠ gb134)); have NB134_124 := A_ ((by rw [hg]; exact Nat.ne_of_gt (blk_lt mc92) : gb134 ≠ gb124)); replace BK124 := A_ (blk_below mc92 hb); clear hb hbox hg; have hnb45 := NB134_124.out; have hnc45 := NB124_134.out; have hcz46_0 : w44.cell? ⟨gb134, 0, none⟩ = some (.string (⟨#[]⟩ : ByteArray)) := bc_ BK134 0 rfl; have hcz46_1 : w44.cell? ⟨gb134, 1, none⟩ = some (.string (⟨#[]⟩ : ByteArray)) := bc_ BK134 1 rfl; have hfz46_0 := blk_frozen BK134.out 0; have hfz46_1 := blk_frozen BK134.out 1))
             have n0_ : Aside0 (Kd.R Kd.string 9 ((w44.setCell ⟨gb134, 0, none⟩ (.string (rdOf ByteArray.empty t130 0))).setCell ⟨gb134, 1, none⟩ (.string (R17.extract ((ji24) : Int).toNat R17.size))) w.heap.size (fun _ => True) (.slice (some ad133) t130.length co43) t130) := ⟨mc10⟩
             have n1_ : Aside0 (((w44.setCell ⟨gb134, 0, none⟩ (.string (rdOf ByteArray.empty t130 0))).setCell ⟨gb134, 1, none⟩ (.string (R17.extract ((ji24) : Int).toNat R17.size))).heap[gb124]? = some (.cells #[.string (⟨#[]⟩ : ByteArray), .string (⟨#[]⟩ : ByteArray)] 62 (0, 0))) := ⟨mc9⟩
             have n2_ : Aside0 (((w44.setCell ⟨gb134, 0, none⟩ (.string (rdOf ByteArray.empty t130 0))).setCell ⟨gb134, 1, none⟩ (.string (R17.extract ((ji24) : Int).toNat R17.size))).heap[gb134]? = some (.cells #[.string (rdOf ByteArray.empty t130 0), .string (R17.extract ((ji24) : Int).toNat R17.size)] 62 (0, 0))) := ⟨mc4⟩
             have n3_ : Aside0 (Below w.heap.size w ((w44.setCell ⟨gb134, 0, none⟩ (.string (rdOf ByteArray.empty t130 0))).setCell ⟨gb134, 1, none⟩ (.string (R17.extract ((ji24) : Int).toNat R17.size)))) := ⟨mc30⟩
             (try clear HO132)
             (try clear BK124)
             (try clear BK134)
             (try clear HB)
             generalize ((w44.setCell ⟨gb134, 0, none⟩ (.string (rdOf ByteArray.empty t130 0))).setCell ⟨gb134, 1, none⟩ (.string (R17.extract ((ji24) : Int).toNat R17.size))) = w47 at n0_ n1_ n2_ n3_ ⊢
             have HO132 := n0_
             have BK124 := n1_
             have BK134 := n2_
             have HB := n3_
             clear n0_ n1_ n2_ n3_
             replace HO132 := A_ (Kd.R_drew HO132.out)
             replace BK124 := A_ (blk_drew BK124.out)
             replace BK134 := A_ (blk_drew BK134.out)
             replace HB := A_ (below_drew1 HB.out)
             refine start_ (n := 13) (S := fun w' => w'.cell? ⟨gb134, 0, none⟩ = some (.string (rdOf ByteArray.empty t130 0)) ∧ w'.cell? ⟨gb134, 1, none⟩ = some (.string (R17.extract ((ji24) : Int).toNat R17.size))) (ds := []) #[false, false, false, false, false, false, false, false, false, false, false, false, false] kr_ rfl rfl ⟨bc_ BK134 0 rfl, bc_ BK134 1 rfl⟩ (fun hHeld => ?_); refine with_tabW spec_l27Read.tab10 spec_l27Read.bits10 (fun HT_ HW_ => ?_)
             generalize w47.drew = w48 at HO132 BK124 BK134 HB hHeld ⊢
             refine take_ (i := 0) (N := some 53) #[true, false, false, false, false, false, false, false, false, false, false, false, false] rfl rfl (take_ofW HT_.out HW_.out kr_) (fun _ _ _ h => h) (Or.inl ⟨by rfl, mc140⟩) hHeld mc122 ?_
             refine take_ (i := 1) (N := some 54) #[true, true, false, false, false, false, false, false, false, false, false, false, false] rfl rfl (take_ofW HT_.out HW_.out kr_) (fun _ _ _ h => h) (Or.inl ⟨by rfl, mc140⟩) hHeld mc122 ?_
             refine one_ (i := 2) (N := some 55) #[true, true, true, false, false, false, false, false, false, false, false, false, false] rfl rfl (one_of HT_.out kr_) (by decide) (fun K hK => ?_)
             refine goes_ Tryz.func55 kr_ rfl #[.agg #[.string (rdOf ByteArray.empty t130 0), .string (R17.extract ((ji24) : Int).toNat R17.size)]] (by rfl) rfl rfl mc44 ?_
             with_reducible refine (spec_l27Good.calls kj6 (rdOf ByteArray.empty t130 0) (R17.extract ((ji24) : Int).toNat R17.size) false _ A27.out).mono ?_
             rintro e w49 ⟨rfl, hb⟩
             refine ⟨_, rfl, ?_⟩
             replace HO132 := A_ (Kd.R_below mc123 hb)
             replace BK124 := A_ (blk_below mc92 hb)
             replace BK134 := A_ (blk_below mc93 hb)
             replace HB := A_ (below_step mc30 hb)
             (try clear hb)
             refine hK.out _ _ ⟨bc_ BK134 0 rfl, bc_ BK134 1 rfl⟩ (fun hHeld => ?_)
             clear hK K
             refine norm_ (by show Act.put _ (some 55) _ = _; simp only [Act.put, List.setIfInBounds_toArray, List.set_cons_zero, List.set_cons_succ, i64_w, i32_w]; rfl) ?_
             refine pure_ (i := 3) (N := some 56) #[true, true, true, true, false, false, false, false, false, false, false, false, false] rfl rfl (any_of HT_.out kr_) (fun _ _ _ h => h) (Or.inl ⟨by rfl, mc143⟩) mc122 ?_
             refine pure_ (i := 4) (N := some 57) (v := undef) (a' := ?_) #[true, true, true, true, true, false, false, false, false, false, false, false, false] rfl rfl (any_of HT_.out kr_) (fun _ _ _ h => h) (Or.inr ⟨by rfl, rfl⟩) ?_ ?_
             rotate_left
             ·
              simp only [Act.put, List.setIfInBounds_toArray, List.set_cons_zero, List.set_cons_succ, i64_w, i32_w]
              rfl
             refine pure_ (i := 5) (N := some 58) (v := undef) (a' := ?_) #[true, true, true, true, true, true, false, false, false, false, false, false, false] rfl rfl (any_of HT_.out kr_) (fun _ _ _ h => h) (Or.inr ⟨by rfl, rfl⟩) ?_ ?_
             rotate_left
             ·
              simp only [Act.put, List.setIfInBounds_toArray, List.set_cons_zero, List.set_cons_succ, i64_w, i32_w]
              rfl
             refine pure_ (i := 6) (N := some 59) (v := undef) (a' := ?_) #[true, true, true, true, true, true, true, false, false, false, false, false, false] rfl rfl (any_of HT_.out kr_) (fun _ _ _ h => h) (Or.inr ⟨by rfl, rfl⟩) ?_ ?_
             rotate_left
             ·
              simp only [Act.put, List.setIfInBounds_toArray, List.set_cons_zero, List.set_cons_succ, i64_w, i32_w]
              rfl
             refine pure_ (i := 7) (N := some 60) (v := undef) (a' := ?_) #[true, true, true, true, true, true, true, true, false, false, false, false, false] rfl rfl (any_of HT_.out kr_) (fun _ _ _ h => h) (Or.inr ⟨by rfl, rfl⟩) ?_ ?_
             rotate_left
             ·
              simp only [Act.put, List.setIfInBounds_toArray, List.set_cons_zero, List.set_cons_succ, i64_w, i32_w]
              rfl
             refine pure_ (i := 8) (N := some 61) (v := undef) (a' := ?_) #[true, true, true, true, true, true, true, true, true, false, false, false, false] rfl rfl (any_of HT_.out kr_) (fun _ _ _ h => h) (Or.inr ⟨by rfl, rfl⟩) ?_ ?_
             rotate_left
             ·
              simp only [Act.put, List.setIfInBounds_toArray, List.set_cons_zero, List.set_cons_succ, i64_w, i32_w]
              rfl
             refine pure_ (i := 9) (N := some 62) (v := undef) (a' := ?_) #[true, true, true, true, true, true, true, true, true, true, false, false, false] rfl rfl (any_of HT_.out kr_) (fun _ _ _ h => h) (Or.inr ⟨by rfl, rfl⟩) ?_ ?_
             rotate_left
             ·
              simp only [Act.put, List.setIfInBounds_toArray, List.set_cons_zero, List.set_cons_succ, i64_w, i32_w]
              rfl
             refine pure_ (i := 10) (N := some 63) #[true, true, true, true, true, true, true, true, true, true, true, false, false] rfl rfl (any_of HT_.out kr_) (fun _ _ _ h => h) (Or.inl ⟨by rfl, mc143⟩) mc122 ?_
             refine one_ (i := 11) (N := none) #[true, true, true, true, true, true, true, true, true, true, true, true, false] rfl rfl (one_of HT_.out kr_) (by decide) (fun K hK => ?_)
             have hs50 : w49.cell? ⟨gb124, 0, none⟩ = some (.string (⟨#[]⟩ : ByteArray)) := bc_ BK124 0 rfl
             have hfs50 := blk_frozen BK124.out 0
             have hns50_1 := NB134_124.out
             have hms50_1 := NB124_134.out
             have hs51 : w49.cell? ⟨gb124, 1, none⟩ = some (.string (⟨#[]⟩ : ByteArray)) := bc_ BK124 1 rfl
             have hfs51 := blk_frozen BK124.out 1
             have hns51_1 := NB134_124.out
             have hms51_1 := NB124_134.out
             refine skip_ (w1 := ?_) (by rfl) rfl ?_ ?_
             rotate_left
             ·
              go_simp
              rfl
             refine hK.out _ _ ⟨((cell_far (p := ⟨gb124, _, none⟩) NB134_124.out _).trans (((cell_far (p := ⟨gb124, _, none⟩) NB134_124.out _).trans (hHeld.1)))), ((cell_far (p := ⟨gb124, _, none⟩) NB134_124.out _).trans (((cell_far (p := ⟨gb124, _, none⟩) NB134_124.out _).trans (hHeld.2))))⟩ (fun hHeld => ?_)
             clear hK K
             refine pure_ (i := 12) (N := some 5) #[true, true, true, true, true, true, true, true, true, true, true, true, true] rfl rfl (any_of HT_.out kr_) (fun _ _ _ h => h) (Or.inl ⟨by rfl, mc143⟩) mc122 ?_
             refine done_ (done_of HT_.out kr_) ?_
             try go_wp2
             refine bodyPost_ret (results_ct rfl _ _ gb124 62 #[.string (rdOf ByteArray.empty t130 0), .string (R17.extract ((ji24) : Int).toNat R17.size)] (0, 0) _ rfl mc3 Tryz.underlying62 rfl kr_) rfl ?_
             exact ⟨by first | rfl | (simp [errW_none, errW_some] <;> rfl) | (simp only [← hji24]; first | rfl | (simp [errW_none, errW_some] <;> rfl)) | (simp [*, errW_none, errW_some] <;> rfl), mc30⟩
           ·
            rw [if_neg c26] at H
            exact absurd H (by simp)
          ·
           rw [if_neg c25] at H
           exact absurd H (by simp)
        ·
         rw [if_neg c19] at H
         exact absurd H (by simp)
       ·
        rw [if_neg c17] at H
        exact absurd H (by simp)
      ·
       rw [if_neg c16] at H
       exact absurd H (by simp)
  ·
   rw [if_neg c6] at H
   exact absurd H (by simp)
 ·
  rw [if_neg c4] at H
  exact absurd H (by simp)

/-! ### spec_l27Open: function 85 -/
mutual
def spec_l27Open.l0 : Nat → ByteArray → List (S62) → Int → Option ((List (S62)) × Int)
 | 0, _, _, _ => none
 | k + 1, x0, x4, x5 => if x5 < (x0.size : Int) then (spec_l27Open.j1 k x0 x4 x5 (decide ((x4.length : Int) < 60))) else (spec_l27Open.j1 k x0 x4 x5 false)
def spec_l27Open.j1 : Nat → ByteArray → List (S62) → Int → Bool → Option ((List (S62)) × Int)
 | 0, _, _, _, _ => none
 | k + 1, x0, x4, x5, x18 => if x18 = true then (if 0 ≤ x5 then (if x5 ≤ (x0.size : Int) then ((spec_l1Split.f k (x0.extract (x5 : Int).toNat x0.size) 10).bind fun t140 => (if 0 < (t140.length : Int) then ((spec_l27Read.f k (rdOf ByteArray.empty t140 0) (x4.length : Int)).bind fun bt144 => (if (t140.length : Int) < 2 then (some (x4, x5)) else (if bt144.2.2 = true then (if x4.length < 4398046511104 then (spec_l27Open.l0 k x0 (x4 ++ [(⟨bt144.1, bt144.2.1⟩ : S62)]) (wrap64 ((wrap64 (x5 + ((rdOf ByteArray.empty t140 0).size : Int))) + 1))) else (none)) else (some (x4, x5))))) else (none))) else (none)) else (none)) else (some (x4, x5))
end
def spec_l27Open.f (k : Nat) (a0 : ByteArray) : Option ((List (S62)) × Int) := spec_l27Open.l0 k a0 (([] : List (S62))) 0
set_option maxHeartbeats 8000000 in
set_option maxRecDepth 100000 in
theorem spec_l27Open.calls (k : Nat) (a0 : ByteArray) (r1 : List (S62)) (r2 : Int) (w : World) (h : spec_l27Open.f k a0 = some (r1, r2)) :
  Calls Tryz.prog 85 #[.string a0] w fun e w' => ∃ v0_ : Value, e = .returned (.tuple #[v0_, .int .i64 r2]) ∧ Kd.R k62 62 w' w.heap.size (fun _ => True) v0_ r1 ∧ Below w.heap.size w w' := by
 have hu62 := Tryz.underlying62
 have HB := A_ (Below.refl w.heap.size w)
 have H : (spec_l27Open.l0 k a0 (([] : List (S62))) 0) = some (r1, r2) := h
 clear h
 obtain ⟨y137, hy137⟩ : ∃ y_ : List (S62), y_ = (([] : List (S62))) := ⟨_, rfl⟩
 replace H : (spec_l27Open.l0 k a0 y137 0) = some (r1, r2) := by first | (rw [hy137]; with_reducible exact H) | (have H2_ := (Option.bind_some _ _).symm.trans H; rw [hy137]; with_reducible exact H2_) | (have H2_ := (Option.bind_some _ _).symm.trans H; with_reducible exact H2_) | with_reducible exact H | (rw [hy137]; exact H) | exact H
 have Ny137 := A_ hy137
 clear hy137
 have H' := A_ H
 clear H
 go_enter Tryz.func85, Tryz.ntmps85
 go_wp2_with (first | ((with_reducible refine gd_ 9 rfl ?_); (try (refine gate_guard (by rfl) ?_; dsimp only)); refine Kd.R_lit k62 _ 62 ?hg (N := 9) ?hd (xs := ([] : List (S62))) (inner := []) (ok := fun _ => True) (okp := fun _ => True) ?hr ?hp (fun _ hk => hk) trivial (Below.refl _ _) (Nat.le_refl _) (by simp) ?_; (case hd => rfl); (case hg => rfl); (case hr => exact mc142); (case hp => exact (Reps.none _ _)); intro v138 w2 ho3 hb hg_ hnew_; clear hg_ hnew_; (first | rw [← Ny137.out] at ho3 | (simp only [Int.reduceToNat] at ho3; rw [← Ny137.out] at ho3)); have HO139 := A_ (Kd.R_lower ho3 (below_size mc89)); replace HB := A_ (below_step mc89 hb); clear hb ho3))
 go_loopg [4, 5] k (fun kq v4 v5 w' => ∃ (x4_1 : List (S62)) (x5_1 : Int), v5 = .int .i64 x5_1 ∧ Aside0 (spec_l27Open.l0 kq a0 x4_1 x5_1 = some (r1, r2)) ∧ Aside0 (kq ≤ k) ∧ Aside0 (Kd.R k62 62 w' w.heap.size (fun _ => True) v4 x4_1) ∧ Aside0 (Below w.heap.size w w'))
 case atStart => exact ⟨(y137), (0), mc141, H', ⟨Nat.le_refl _⟩, ⟨by (with_reducible repeat (first | apply Kd.R_alloc | apply Kd.R_drewN | apply Kd.R_drew)); exact HO139.out⟩, ⟨mc89⟩⟩
 case round =>
  clear H'
  try clear p2
  obtain ⟨x4_1, x5_1, rfl, HA, HK1, HO_4, HB⟩ := hrel
  cases gk with
  | zero => exact absurd HA.out (by simp [spec_l27Open.l0])
  | succ k1 =>
   have H := HA.out
   clear HA
   simp only [spec_l27Open.l0] at H
   have HC4 := A_ H
   clear H
   go_upto_region 3 with (fail)
   go_cut [18] (fun v18 wc => ∃ (kq : Nat) (x18_3 : Bool), v18 = .bool x18_3 ∧ Aside0 (spec_l27Open.j1 kq a0 x4_1 x5_1 x18_3 = some (r1, r2)) ∧ Aside0 (kq ≤ k1) ∧ Aside0 (Kd.R k62 62 wc w.heap.size (fun _ => True) u4 x4_1) ∧ Aside0 (Below w.heap.size w wc))
   case first =>
    have H := HC4.out
    clear HC4
    by_cases c5 : x5_1 < (a0.size : Int)
    ·
     rw [if_pos c5] at H
     have c5b0 : decide (x5_1 < (a0.size : Int)) = true := decide_eq_true c5
     clear c5
     (first | rw [c5b0] | (simp only [i64_w, i32_w]; rw [c5b0]) | skip)
     have H' := A_ H
     clear H
     obtain ⟨Ao6, co6, eo6⟩ := Kd.R_slice HO_4.out
     subst eo6
     go_wp2
     go_meet
     case rel => exact ⟨_, (decide ((x4_1.length : Int) < 60)), mc141, H', ⟨mc138⟩, ⟨mc131⟩, ⟨mc89⟩⟩
    ·
     rw [if_neg c5] at H
     have c5b0 : decide (x5_1 < (a0.size : Int)) = false := decide_eq_false c5
     clear c5
     (first | rw [c5b0] | (simp only [i64_w, i32_w]; rw [c5b0]) | skip)
     have H' := A_ H
     clear H
     go_wp2
     go_meet
     case rel => exact ⟨_, (false), mc141, H', ⟨mc138⟩, ⟨mc131⟩, ⟨mc89⟩⟩
   case rest =>
    clear HC4
    try clear p2
    try clear c5b0
    try clear p2
    obtain ⟨kq, x18_3, rfl, HA, HJ3, HO_4, HB⟩ := hcut
    cases kq with
    | zero => exact absurd HA.out (by simp [spec_l27Open.j1])
    | succ kj3 =>
     have H := HA.out
     clear HA
     simp only [spec_l27Open.j1] at H
     by_cases c7 : x18_3 = true
     ·
      subst c7
      rw [if_pos rfl] at H
      by_cases c8 : 0 ≤ x5_1
      ·
       rw [if_pos c8] at H
       have c8b0 := eq_true c8
       have c8b1 : decide (0 ≤ x5_1) = true := decide_eq_true c8
       clear c8
       by_cases c9 : x5_1 ≤ (a0.size : Int)
       ·
        rw [if_pos c9] at H
        have c9b0 := eq_true c9
        have c9b1 : decide (x5_1 ≤ (a0.size : Int)) = true := decide_eq_true c9
        clear c9
        obtain ⟨t140, A100, H⟩ := oB_ H
        have A10 := A_ A100
        clear A100
        by_cases c11 : 0 < (t140.length : Int)
        ·
         rw [if_pos c11] at H
         have c11b0 : decide (0 < (t140.length : Int)) = true := decide_eq_true c11
         have c11b1 : decide (0 < t140.length) = true := decide_eq_true (by omega)
         clear c11
         obtain ⟨⟨t144, t145, t146⟩, A120, H⟩ := oB_ H
         have A12 := A_ A120
         clear A120
         by_cases c13 : (t140.length : Int) < 2
         ·
          rw [if_pos c13] at H
          have c13b0 : decide ((t140.length : Int) < 2) = true := decide_eq_true c13
          have c13b1 : decide (t140.length < 2) = true := decide_eq_true (by omega)
          clear c13
          simp only [Option.some.injEq, Prod.mk.injEq] at H
          obtain ⟨rfl, rfl⟩ := H
          go_wp2_with (first | ((with_reducible refine gc_ 65 rfl ?_); refine goesL_ (some 22) rfl rfl Tryz.func65 kr_ rfl #[.string (a0.extract (x5_1 : Int).toNat a0.size), .int .u8 10] rfl mc86 ?_; (with_reducible refine (spec_l1Split.calls kj3 (a0.extract (x5_1 : Int).toNat a0.size) 10 t140 _ A10.out).mono ?_); rintro e w14 ⟨v141, rfl, ho0, hb⟩; refine ⟨_, rfl, ?_⟩; replace HO_4 := A_ (Kd.R_below mc131 hb); have HO142 := A_ (Kd.R_lower ho0 (below_size mc89)); replace HB := A_ (below_step mc89 hb); (try clear hb); (try clear ho0); obtain ⟨Ao15, co15, eo15⟩ := Kd.R_slice HO142.out; subst eo15; have p143 : 0 ≤ (0 : Int) := (by omega); have q143 : 0 < (t140.length : Int) := of_decide_eq_true mc139; obtain ⟨ad143, e143, hx143_0⟩ := Kd.at_string (Kd.R_reads' HO142.out).2.2 0 p143 q143; cases e143; have qi143 : (0 < t140.length) = True := eq_true (by omega); (try rw [show ((0 : Int)).toNat = 0 from rfl] at hx143_0); (try rw [Addr.add_zero'] at hx143_0); replace p143 := eq_true p143; replace q143 := eq_true q143; obtain ⟨Ao16, co16, eo16⟩ := Kd.R_slice HO_4.out; subst eo16) | ((with_reducible refine gc_ 131 rfl ?_); refine goesL_ (some 29) rfl rfl Tryz.func131 kr_ rfl #[.string (rdOf ByteArray.empty t140 0), .int .i64 (x4_1.length : Int)] rfl mc86 ?_; (with_reducible refine (spec_l27Read.calls kj3 (rdOf ByteArray.empty t140 0) (x4_1.length : Int) t144 t145 t146 _ A12.out).mono ?_); rintro e w17 ⟨rfl, hb⟩; refine ⟨_, rfl, ?_⟩; replace HO_4 := A_ (Kd.R_below mc131 hb); replace HO142 := A_ (Kd.R_below mc124 hb); replace HB := A_ (below_step mc89 hb); (try clear hb)) | ((with_reducible refine gd_ 7 rfl ?_); (try (refine gate_guard (by rfl) ?_; dsimp only)); refine box_event rfl (N := 7) rfl (cs := #[.string (⟨#[]⟩ : ByteArray), .string (⟨#[]⟩ : ByteArray)]) (t := 62) mc142 ?_; intro gb147 hg w18 hbox hb; replace HO_4 := A_ (Kd.R_below (Kd.R_elderB mc131 gb147 (Nat.le_of_eq hg.symm)) hb); replace HO142 := A_ (Kd.R_below mc124 hb); have BK147 := A_ (hbox); have GW147 := A_ ((mc45 : w.heap.size ≤ gb147)); have GE147 := A_ ((mc45 : w.heap.size ≤ gb147)); replace HB := A_ (below_step mc89 hb); clear hb hbox hg; have hcz19_0 : w18.cell? ⟨gb147, 0, none⟩ = some (.string (⟨#[]⟩ : ByteArray)) := bc_ BK147 0 rfl; have hcz19_1 : w18.cell? ⟨gb147, 1, none⟩ = some (.string (⟨#[]⟩ : ByteArray)) := bc_ BK147 1 rfl; have hfz19_0 := blk_frozen BK147.out 0; have hfz19_1 := blk_frozen BK147.out 1))
          go_ret2
          exact ⟨_, mc133, mc11, mc48⟩
         ·
          rw [if_neg c13] at H
          have c13b0 : decide ((t140.length : Int) < 2) = false := decide_eq_false c13
          have c13b1 : decide (t140.length < 2) = false := decide_eq_false (by omega)
          clear c13
          by_cases c20 : t146 = true
          ·
           subst c20
           rw [if_pos rfl] at H
           by_cases c21 : x4_1.length < 4398046511104
           ·
            rw [if_pos c21] at H
            have LMc21 := A_ c21
            clear c21
            obtain ⟨y148, hy148⟩ : ∃ y_ : List (S62), y_ = (x4_1 ++ [(⟨t144, t145⟩ : S62)]) := ⟨_, rfl⟩
            replace H : (spec_l27Open.l0 kj3 a0 y148 (wrap64 ((wrap64 (x5_1 + ((rdOf ByteArray.empty t140 0).size : Int))) + 1))) = some (r1, r2) := by first | (rw [hy148]; with_reducible exact H) | (have H2_ := (Option.bind_some _ _).symm.trans H; rw [hy148]; with_reducible exact H2_) | (have H2_ := (Option.bind_some _ _).symm.trans H; with_reducible exact H2_) | with_reducible exact H | (rw [hy148]; exact H) | exact H
            have Ny148 := A_ hy148
            clear hy148
            have H' := A_ H
            clear H
            go_wp2_with (first | ((with_reducible refine gc_ 65 rfl ?_); refine goesL_ (some 22) rfl rfl Tryz.func65 kr_ rfl #[.string (a0.extract (x5_1 : Int).toNat a0.size), .int .u8 10] rfl mc86 ?_; (with_reducible refine (spec_l1Split.calls kj3 (a0.extract (x5_1 : Int).toNat a0.size) 10 t140 _ A10.out).mono ?_); rintro e w22 ⟨v141, rfl, ho0, hb⟩; refine ⟨_, rfl, ?_⟩; replace HO_4 := A_ (Kd.R_below mc131 hb); have HO142 := A_ (Kd.R_lower ho0 (below_size mc89)); replace HB := A_ (below_step mc89 hb); (try clear hb); (try clear ho0); obtain ⟨Ao23, co23, eo23⟩ := Kd.R_slice HO142.out; subst eo23; have p143 : 0 ≤ (0 : Int) := (by omega); have q143 : 0 < (t140.length : Int) := of_decide_eq_true mc139; obtain ⟨ad143, e143, hx143_0⟩ := Kd.at_string (Kd.R_reads' HO142.out).2.2 0 p143 q143; cases e143; have qi143 : (0 < t140.length) = True := eq_true (by omega); (try rw [show ((0 : Int)).toNat = 0 from rfl] at hx143_0); (try rw [Addr.add_zero'] at hx143_0); replace p143 := eq_true p143; replace q143 := eq_true q143; obtain ⟨Ao24, co24, eo24⟩ := Kd.R_slice HO_4.out; subst eo24) | ((with_reducible refine gc_ 131 rfl ?_); refine goesL_ (some 29) rfl rfl Tryz.func131 kr_ rfl #[.string (rdOf ByteArray.empty t140 0), .int .i64 (x4_1.length : Int)] rfl mc86 ?_; (with_reducible refine (spec_l27Read.calls kj3 (rdOf ByteArray.empty t140 0) (x4_1.length : Int) t144 t145 true _ A12.out).mono ?_); rintro e w25 ⟨rfl, hb⟩; refine ⟨_, rfl, ?_⟩; replace HO_4 := A_ (Kd.R_below mc131 hb); replace HO142 := A_ (Kd.R_below mc124 hb); replace HB := A_ (below_step mc89 hb); (try clear hb)) | ((with_reducible refine gd_ 7 rfl ?_); (try (refine gate_guard (by rfl) ?_; dsimp only)); refine box_event rfl (N := 7) rfl (cs := #[.string (⟨#[]⟩ : ByteArray), .string (⟨#[]⟩ : ByteArray)]) (t := 62) mc142 ?_; intro gb147 hg w26 hbox hb; replace HO_4 := A_ (Kd.R_below (Kd.R_elderB mc131 gb147 (Nat.le_of_eq hg.symm)) hb); replace HO142 := A_ (Kd.R_below mc124 hb); have BK147 := A_ (hbox); have GW147 := A_ ((mc45 : w.heap.size ≤ gb147)); have GE147 := A_ ((mc45 : w.heap.size ≤ gb147)); replace HB := A_ (below_step mc89 hb); clear hb hbox hg; have hcz27_0 : w26.cell? ⟨gb147, 0, none⟩ = some (.string (⟨#[]⟩ : ByteArray)) := bc_ BK147 0 rfl; have hcz27_1 : w26.cell? ⟨gb147, 1, none⟩ = some (.string (⟨#[]⟩ : ByteArray)) := bc_ BK147 1 rfl; have hfz27_0 := blk_frozen BK147.out 0; have hfz27_1 := blk_frozen BK147.out 1) | ((with_reducible refine gate_builtin (b := .append) (xs := #[.tmp 39, .tmp 41]) rfl ?_); (try (refine gate_guard (by rfl) ?_; dsimp only)); at_builtin; refine Kd.R_append k62 (w0 := w) w.heap.size rfl (.tmp 39) (.tmp 41) 58 62 (.agg #[(.string ⟨#[]⟩), (.string ⟨#[]⟩)]) 32 rfl Tryz.underlying58 info62 rfl (by decide) (by omega) (.slice Ao24 x4_1.length co24) x4_1 (⟨t144, t145⟩ : S62) [.string t144, .string t145] (fun k_ => k_ ≠ gb147) (fun _ => False) rfl mc142 ?aP (fun _ hk => hk.elim) ?aF ?aO ?aB ?aS ?aL ?_; (case aP => exact k62_mkM _ _ _ (⟨t144, t145⟩ : S62)); (case aB => exact mc48); (case aF => exact (fun k_ hk => Kd.freshB (g := gb147) (o := .cells #[.string t144, .string t145] 62 (0, 0)) mc6 k_ hk)); (case aO => exact (by (with_reducible repeat (first | apply Kd.R_alloc | apply Kd.R_drewN | apply Kd.R_drew)); exact Kd.R_mono (Kd.R_far (p := ⟨gb147, 1, none⟩) (Kd.R_far (p := ⟨gb147, 0, none⟩) (Kd.R_mono HO_4.out (fun k_ hk => (⟨hk, hk.2⟩ : _ ∧ k_ ≠ gb147))) (fun _ hk => hk.2) (.string t144)) (fun _ hk => hk.2) (.string t145)) (fun _ hk => hk.1.2))); (case aS => exact (below_size mc48)); (case aL => have := LMc21.out; omega); intro v149 w28 ho hb hg hat; rw [← Ny148.out] at ho; replace HO142 := A_ (Kd.R_over' (by (with_reducible repeat (first | apply Kd.R_alloc | apply Kd.R_drewN | apply Kd.R_drew)); exact (Kd.R_mono (Kd.R_far (p := ⟨gb147, 1, none⟩) (Kd.R_far (p := ⟨gb147, 0, none⟩) (Kd.R_types HO142.out BK147.out (by decide)) (fun _ hk => hk.2) (.string t144)) (fun _ hk => hk.2) (.string t145)) (fun _ h_ => h_.1))) (Kd.R_typed (by (with_reducible repeat (first | apply Kd.R_alloc | apply Kd.R_drewN | apply Kd.R_drew)); exact (Kd.R_mono (Kd.R_far (p := ⟨gb147, 1, none⟩) (Kd.R_far (p := ⟨gb147, 0, none⟩) (Kd.R_mono HO_4.out (fun k_ hk => (⟨hk, hk.2⟩ : _ ∧ k_ ≠ gb147))) (fun _ hk => hk.2) (.string t144)) (fun _ hk => hk.2) (.string t145)) (fun _ h_ => h_.1)))) (by decide) hg); replace BK147 := A_ (blk_grown (g := gb147) (o := .cells #[.string t144, .string t145] 62 (0, 0)) mc6 hg (Kd.R_away HO_4.out (fun _ hk => hk.2))); replace HB := A_ (hb); have HO150 := A_ (ho); clear HO_4; clear ho hb hg hat; have p151 : 0 ≤ (0 : Int) := (by omega); have q151 : 0 < (t140.length : Int) := of_decide_eq_true mc139; obtain ⟨ad151, e151, hx151_0⟩ := Kd.at_string (Kd.R_reads' HO142.out).2.2 0 p151 q151; obtain rfl : ad143 = ad151 := (by injection e151); have qi151 : (0 < t140.length) = True := eq_true (by omega); (try rw [show ((0 : Int)).toNat = 0 from rfl] at hx151_0); (try rw [Addr.add_zero'] at hx151_0); replace p151 := eq_true p151; replace q151 := eq_true q151))
            go_roundg kj3
            case measure => have := HK1.out; have := HJ3.out; omega
            case rel => exact ⟨(y148), (wrap64 ((wrap64 (x5_1 + ((rdOf ByteArray.empty t140 0).size : Int))) + 1)), mc141, H', ⟨by have := HK1.out; have := HJ3.out; omega⟩, ⟨by (with_reducible repeat (first | apply Kd.R_alloc | apply Kd.R_drewN | apply Kd.R_drew)); exact Kd.R_mono HO150.out (fun _ hk => trivial)⟩, ⟨mc48⟩⟩
           ·
            rw [if_neg c21] at H
            exact absurd H (by simp)
          ·
           replace c20 := Bool.eq_false_iff.mpr c20
           subst c20
           rw [if_neg (show ¬ (false = true) by decide)] at H
           simp only [Option.some.injEq, Prod.mk.injEq] at H
           obtain ⟨rfl, rfl⟩ := H
           go_wp2_with (first | ((with_reducible refine gc_ 65 rfl ?_); refine goesL_ (some 22) rfl rfl Tryz.func65 kr_ rfl #[.string (a0.extract (x5_1 : Int).toNat a0.size), .int .u8 10] rfl mc86 ?_; (with_reducible refine (spec_l1Split.calls kj3 (a0.extract (x5_1 : Int).toNat a0.size) 10 t140 _ A10.out).mono ?_); rintro e w29 ⟨v141, rfl, ho0, hb⟩; refine ⟨_, rfl, ?_⟩; replace HO_4 := A_ (Kd.R_below mc131 hb); have HO142 := A_ (Kd.R_lower ho0 (below_size mc89)); replace HB := A_ (below_step mc89 hb); (try clear hb); (try clear ho0); obtain ⟨Ao30, co30, eo30⟩ := Kd.R_slice HO142.out; subst eo30; have p143 : 0 ≤ (0 : Int) := (by omega); have q143 : 0 < (t140.length : Int) := of_decide_eq_true mc139; obtain ⟨ad143, e143, hx143_0⟩ := Kd.at_string (Kd.R_reads' HO142.out).2.2 0 p143 q143; cases e143; have qi143 : (0 < t140.length) = True := eq_true (by omega); (try rw [show ((0 : Int)).toNat = 0 from rfl] at hx143_0); (try rw [Addr.add_zero'] at hx143_0); replace p143 := eq_true p143; replace q143 := eq_true q143; obtain ⟨Ao31, co31, eo31⟩ := Kd.R_slice HO_4.out; subst eo31) | ((with_reducible refine gc_ 131 rfl ?_); refine goesL_ (some 29) rfl rfl Tryz.func131 kr_ rfl #[.string (rdOf ByteArray.empty t140 0), .int .i64 (x4_1.length : Int)] rfl mc86 ?_; (with_reducible refine (spec_l27Read.calls kj3 (rdOf ByteArray.empty t140 0) (x4_1.length : Int) t144 t145 false _ A12.out).mono ?_); rintro e w32 ⟨rfl, hb⟩; refine ⟨_, rfl, ?_⟩; replace HO_4 := A_ (Kd.R_below mc131 hb); replace HO142 := A_ (Kd.R_below mc124 hb); replace HB := A_ (below_step mc89 hb); (try clear hb)) | ((with_reducible refine gd_ 7 rfl ?_); (try (refine gate_guard (by rfl) ?_; dsimp only)); refine box_event rfl (N := 7) rfl (cs := #[.string (⟨#[]⟩ : ByteArray), .string (⟨#[]⟩ : ByteArray)]) (t := 62) mc142 ?_; intro gb147 hg w33 hbox hb; replace HO_4 := A_ (Kd.R_below (Kd.R_elderB mc131 gb147 (Nat.le_of_eq hg.symm)) hb); replace HO142 := A_ (Kd.R_below mc124 hb); have BK147 := A_ (hbox); have GW147 := A_ ((mc45 : w.heap.size ≤ gb147)); have GE147 := A_ ((mc45 : w.heap.size ≤ gb147)); replace HB := A_ (below_step mc89 hb); clear hb hbox hg; have hcz34_0 : w33.cell? ⟨gb147, 0, none⟩ = some (.string (⟨#[]⟩ : ByteArray)) := bc_ BK147 0 rfl; have hcz34_1 : w33.cell? ⟨gb147, 1, none⟩ = some (.string (⟨#[]⟩ : ByteArray)) := bc_ BK147 1 rfl; have hfz34_0 := blk_frozen BK147.out 0; have hfz34_1 := blk_frozen BK147.out 1))
           go_ret2
           exact ⟨_, mc133, mc11, mc48⟩
        ·
         rw [if_neg c11] at H
         exact absurd H (by simp)
       ·
        rw [if_neg c9] at H
        exact absurd H (by simp)
      ·
       rw [if_neg c8] at H
       exact absurd H (by simp)
     ·
      replace c7 := Bool.eq_false_iff.mpr c7
      subst c7
      rw [if_neg (show ¬ (false = true) by decide)] at H
      simp only [Option.some.injEq, Prod.mk.injEq] at H
      obtain ⟨rfl, rfl⟩ := H
      go_wp2
      go_ret2
      exact ⟨_, mc133, mc131, mc89⟩

end Go.Proofs.YtlnlabndaikbnaaGreatDoor.P
