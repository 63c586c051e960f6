-- Made by pp.py of this session out of the kit's print and of contracts proved by hand; Lean checks it.
import Derived.Test.YtlnlabndaikbnaaGreatDoorMc
import Derived.Test.YtlnlabndaikbnaaGreatDoorPx0
import Derived.Test.YtlnlabndaikbnaaGreatDoorPx14
import Derived.Test.YtlnlabndaikbnaaGreatDoorPx16
import Derived.Test.YtlnlabndaikbnaaGreatDoorPx17
import Derived.Test.YtlnlabndaikbnaaGreatDoorPx19
namespace Go.Proofs.YtlnlabndaikbnaaGreatDoor.P
open Go.RowKit Go.Proofs.YtlnlabndaikbnaaGreatDoorW.PrintWords Go.Proofs.YtlnlabndaikbnaaGreatDoorW.PrintLast Go.Proofs.YtlnlabndaikbnaaGreatDoorW.PrintMore
attribute [local go_sem] max2_int min2_int max_two min_two max_three min_three max_four min_four   -- for this text's walks alone
set_option linter.unusedVariables false
set_option linter.unusedSimpArgs false

/-! ### impl_readRecords: function 75 -/
mutual
def impl_readRecords.l0 : Nat → ByteArray → List (S62) → Int → Option ((List (S62)) × Int)
 | 0, _, _, _ => none
 | k + 1, x0, x4, x5 => if (x4.length : Int) < 60 then (if 0 ≤ x5 then (if x5 ≤ (x0.size : Int) then ((strings_Cut.f (x0.extract (x5 : Int).toNat x0.size) (⟨#[10]⟩ : ByteArray)).bind fun bt273 => ((impl_VerifyChecksum.f k bt273.1).bind fun bt276 => (if bt273.2.2 = true then (impl_readRecords.j1 k x0 x4 x5 bt273.1 bt276.1 (!bt276.2)) else (impl_readRecords.j1 k x0 x4 x5 bt273.1 bt276.1 true)))) else (none)) else (none)) else (some (x4, x5))
def impl_readRecords.j1 : Nat → ByteArray → List (S62) → Int → ByteArray → ByteArray → Bool → Option ((List (S62)) × Int)
 | 0, _, _, _, _, _, _ => none
 | k + 1, x0, x4, x5, x6, x9, x39 => if x39 = true then (some (x4, x5)) else ((strings_Cut.f x9 (⟨#[32]⟩ : ByteArray)).bind fun bt278 => ((strings_Cut.f bt278.2.1 (⟨#[64]⟩ : ByteArray)).bind fun bt281 => ((impl_IsValidRecord.f k bt281.1 bt281.2.1).bind fun t285 => (if t285 = true then ((impl_encodeRecord.f k (x4.length : Int) bt281.1 bt281.2.1).bind fun t286 => (if x6.size + 1 ≤ 9223372036854775807 then (if t286.toList = (x6 ++ (⟨#[10]⟩ : ByteArray)).toList then (if x4.length < 4398046511104 then (impl_readRecords.l0 k x0 (x4 ++ [(⟨bt281.1, bt281.2.1⟩ : S62)]) (wrap64 (x5 + (wrap64 ((x6.size : Int) + 1))))) else (none)) else (some (x4, x5))) else (none))) else (some (x4, x5))))))
end
def impl_readRecords.f (k : Nat) (a0 : ByteArray) : Option ((List (S62)) × Int) := impl_readRecords.l0 k a0 ([] : List (S62)) 0
set_option maxHeartbeats 8000000 in
set_option maxRecDepth 100000 in
theorem impl_readRecords.calls (k : Nat) (a0 : ByteArray) (r1 : List (S62)) (r2 : Int) (w : World) (h : impl_readRecords.f k a0 = some (r1, r2)) (hG_ : GW w) :
  Calls Tryz.prog 75 #[.string a0] w fun e w' => ∃ v0_ : Value, e = .returned (.tuple #[v0_, .int .i64 r2]) ∧ Kd.R k62 62 w' w.heap.size (fun _ => True) v0_ r1 ∧ Below w.heap.size w w' := by
 have HG := A_ hG_
 clear hG_
 have hu62 := Tryz.underlying62
 have HB := A_ (Below.refl w.heap.size w)
 have H : (impl_readRecords.l0 k a0 ([] : List (S62)) 0) = some (r1, r2) := h
 clear h
 have H' := A_ H
 clear H
 go_enter Tryz.func75, Tryz.ntmps75
 go_wp2
 go_loopg [4, 5] k (fun kq v4 v5 w' => ∃ (x4_1 : List (S62)) (x5_1 : Int), v5 = .int .i64 x5_1 ∧ Aside0 (impl_readRecords.l0 kq a0 x4_1 x5_1 = some (r1, r2)) ∧ Aside0 (kq ≤ k) ∧ Aside0 (Kd.R k62 62 w' w.heap.size (fun _ => True) v4 x4_1) ∧ Aside0 (Below w.heap.size w w'))
 case atStart => exact ⟨(([] : List (S62))), (0), mc135, H', ⟨Nat.le_refl _⟩, ⟨by first | exact Kd.R_nil _ _ _ _ _ | exact Kd.N_nil _ _ _ _ _ | exact Kd.V_nil _ _ _ _ _ | exact Kd.Q_nil _ _ _ _ _ | exact Kd.S_nil _ _ _ _ _⟩, ⟨mc89⟩⟩
 case round =>
  clear H'
  obtain ⟨x4_1, x5_1, rfl, HA, HK1, HO_4, HB⟩ := hrel
  cases gk with
  | zero => exact absurd HA.out (by simp [impl_readRecords.l0])
  | succ k1 =>
   have H := HA.out
   clear HA
   simp only [impl_readRecords.l0] at H
   by_cases c2 : (x4_1.length : Int) < 60
   ·
    rw [if_pos c2] at H
    have c2b0 : decide ((x4_1.length : Int) < 60) = true := decide_eq_true c2
    have c2b1 : decide (x4_1.length < 60) = true := decide_eq_true (by omega)
    clear c2
    by_cases c3 : 0 ≤ x5_1
    ·
     rw [if_pos c3] at H
     have c3b0 := eq_true c3
     have c3b1 : decide (0 ≤ x5_1) = true := decide_eq_true c3
     clear c3
     by_cases c4 : x5_1 ≤ (a0.size : Int)
     ·
      rw [if_pos c4] at H
      have c4b0 := eq_true c4
      have c4b1 : decide (x5_1 ≤ (a0.size : Int)) = true := decide_eq_true c4
      clear c4
      obtain ⟨⟨t273, t274, t275⟩, A50, H⟩ := oB_ H
      have A5 := A_ A50
      clear A50
      obtain ⟨⟨t276, t277⟩, A60, H⟩ := oB_ H
      have A6 := A_ A60
      clear A60
      have HC7 := A_ H
      clear H
      obtain ⟨Ao8, co8, eo8⟩ := Kd.R_slice HO_4.out
      subst eo8
      go_upto_region 6 with (first | ((with_reducible refine gc_ 118 rfl ?_); refine goesL_ (some 25) rfl rfl Tryz.func118 kr_ rfl #[.string (a0.extract (x5_1 : Int).toNat a0.size), .string (⟨#[10]⟩ : ByteArray)] rfl mc86 ?_; (with_reducible refine (strings_Cut.calls (a0.extract (x5_1 : Int).toNat a0.size) (⟨#[10]⟩ : ByteArray) t273 t274 t275 _ A5.out).mono ?_); rintro e w' ⟨rfl, ⟨nd, rfl⟩⟩; refine ⟨_, rfl, ?_⟩) | ((with_reducible refine gc_ 119 rfl ?_); refine goesL_ (some 31) rfl rfl Tryz.func119 kr_ rfl #[.string t273] rfl mc86 ?_; (with_reducible refine (impl_VerifyChecksum.calls k1 t273 t276 t277 _ A6.out ?sideG).mono ?_); (case sideG => exact (gw_below HG.out mc89)); rintro e w9 ⟨rfl, hb⟩; refine ⟨_, rfl, ?_⟩; replace HO_4 := A_ (Kd.R_below mc131 hb); replace HB := A_ (below_step mc89 hb); (try clear hb)))
      (try simp only [Act.put, List.setIfInBounds_toArray, List.set_cons_zero, List.set_cons_succ])
      go_cut [39] (fun v39 wc => ∃ (kq : Nat) (x39_6 : Bool), v39 = .bool x39_6 ∧ Aside0 (impl_readRecords.j1 kq a0 x4_1 x5_1 t273 t276 x39_6 = some (r1, r2)) ∧ Aside0 (kq ≤ k1) ∧ Aside0 (Kd.R k62 62 wc w.heap.size (fun _ => True) (.slice Ao8 x4_1.length co8) x4_1) ∧ Aside0 (Below w.heap.size w wc))
      case first =>
       have H := HC7.out
       clear HC7
       by_cases c10 : t275 = true
       ·
        subst c10
        rw [if_pos rfl] at H
        have H' := A_ H
        clear H
        go_wp2
        go_meet
        case rel => exact ⟨_, (!t277), mc135, H', ⟨mc138⟩, ⟨mc131⟩, ⟨mc89⟩⟩
       ·
        replace c10 := Bool.eq_false_iff.mpr c10
        subst c10
        rw [if_neg (show ¬ (false = true) by decide)] at H
        have H' := A_ H
        clear H
        go_wp2
        go_meet
        case rel => exact ⟨_, (true), mc135, H', ⟨mc138⟩, ⟨mc131⟩, ⟨mc89⟩⟩
      case rest =>
       clear HC7
       try clear c2b0
       try clear c2b1
       try clear p2
       try clear c3b0
       try clear c3b1
       try clear c4b0
       try clear c4b1
       obtain ⟨kq, x39_6, rfl, HA, HJ6, HO_4, HB⟩ := hcut
       cases kq with
       | zero => exact absurd HA.out (by simp [impl_readRecords.j1])
       | succ kj6 =>
        have H := HA.out
        clear HA
        simp only [impl_readRecords.j1] at H
        by_cases c11 : x39_6 = true
        ·
         subst c11
         rw [if_pos rfl] at H
         simp only [Option.some.injEq, Prod.mk.injEq] at H
         obtain ⟨rfl, rfl⟩ := H
         go_wp2
         go_ret2
         exact ⟨_, mc133, mc131, mc89⟩
        ·
         replace c11 := Bool.eq_false_iff.mpr c11
         subst c11
         rw [if_neg (show ¬ (false = true) by decide)] at H
         obtain ⟨⟨t278, t279, t280⟩, A120, H⟩ := oB_ H
         have A12 := A_ A120
         clear A120
         obtain ⟨⟨t281, t282, t283⟩, A130, H⟩ := oB_ H
         have A13 := A_ A130
         clear A130
         obtain ⟨t285, A140, H⟩ := oB_ H
         have A14 := A_ A140
         clear A140
         by_cases c15 : t285 = true
         ·
          subst c15
          rw [if_pos rfl] at H
          obtain ⟨t286, A160, H⟩ := oB_ H
          have A16 := A_ A160
          clear A160
          by_cases c17 : t273.size + 1 ≤ 9223372036854775807
          ·
           rw [if_pos c17] at H
           have c17b0 := eq_true c17
           have c17b1 : decide (t273.size + 1 ≤ 9223372036854775807) = true := decide_eq_true c17
           try have c17b2 : (9223372036854775807 < t273.size + 1) = False := eq_false (Nat.not_lt.2 c17)
           by_cases c18 : t286.toList = (t273 ++ (⟨#[10]⟩ : ByteArray)).toList
           ·
            rw [if_pos c18] at H
            have c18b0 : (t286.toList == (t273 ++ (⟨#[10]⟩ : ByteArray)).toList) = true := beq_iff_eq.mpr c18
            have c18b1 : (t286.toList != (t273 ++ (⟨#[10]⟩ : ByteArray)).toList) = false := bne_eq_false_iff_eq.mpr c18
            clear c18
            by_cases c19 : x4_1.length < 4398046511104
            ·
             rw [if_pos c19] at H
             have LMc19 := A_ c19
             clear c19
             obtain ⟨y287, hy287⟩ : ∃ y_ : List (S62), y_ = (x4_1 ++ [(⟨t281, t282⟩ : S62)]) := ⟨_, rfl⟩
             replace H : (impl_readRecords.l0 kj6 a0 y287 (wrap64 (x5_1 + (wrap64 ((t273.size : Int) + 1))))) = some (r1, r2) := by first | (rw [hy287]; with_reducible exact H) | (have H2_ := (Option.bind_some _ _).symm.trans H; rw [hy287]; with_reducible exact H2_) | (have H2_ := (Option.bind_some _ _).symm.trans H; with_reducible exact H2_) | with_reducible exact H | (rw [hy287]; exact H) | exact H
             have Ny287 := A_ hy287
             clear hy287
             have H' := A_ H
             clear H
             go_wp2_with (first | ((with_reducible refine gc_ 118 rfl ?_); refine goesL_ (some 42) rfl rfl Tryz.func118 kr_ rfl #[.string t276, .string (⟨#[32]⟩ : ByteArray)] rfl mc86 ?_; (with_reducible refine (strings_Cut.calls t276 (⟨#[32]⟩ : ByteArray) t278 t279 t280 _ A12.out).mono ?_); rintro e w' ⟨rfl, ⟨nd, rfl⟩⟩; refine ⟨_, rfl, ?_⟩; (try (rw [drewN_self wc]; generalize hq_ : World.drewN wc _ = wc; have n0_ : Aside0 (Kd.R k62 62 wc w.heap.size (fun _ => True) (.slice Ao8 x4_1.length co8) x4_1) := ⟨mc90⟩; have n1_ : Aside0 (Below w.heap.size w wc) := ⟨mc85⟩; clear HO_4 HB hq_; have HO_4 := n0_; have HB := n1_; clear n0_ n1_))) | ((with_reducible refine gc_ 118 rfl ?_); refine goesL_ (some 48) rfl rfl Tryz.func118 kr_ rfl #[.string t279, .string (⟨#[64]⟩ : ByteArray)] rfl mc86 ?_; (with_reducible refine (strings_Cut.calls t279 (⟨#[64]⟩ : ByteArray) t281 t282 t283 _ A13.out).mono ?_); rintro e w' ⟨rfl, ⟨nd, rfl⟩⟩; refine ⟨_, rfl, ?_⟩; (try (rw [drewN_self wc]; generalize hq_ : World.drewN wc _ = wc; have n0_ : Aside0 (Kd.R k62 62 wc w.heap.size (fun _ => True) (.slice Ao8 x4_1.length co8) x4_1) := ⟨mc90⟩; have n1_ : Aside0 (Below w.heap.size w wc) := ⟨mc85⟩; clear HO_4 HB hq_; have HO_4 := n0_; have HB := n1_; clear n0_ n1_))) | ((with_reducible refine gd_ 17 rfl ?_); (try (refine gate_guard (by rfl) ?_; dsimp only)); refine box_event rfl (N := 17) rfl (cs := #[.string (⟨#[]⟩ : ByteArray), .string (⟨#[]⟩ : ByteArray)]) (t := 62) mc142 ?_; intro gb284 hg w20 hbox hb; replace HO_4 := A_ (Kd.R_below (Kd.R_elderB mc131 gb284 (Nat.le_of_eq hg.symm)) hb); have BK284 := A_ (hbox); have GW284 := A_ ((mc45 : w.heap.size ≤ gb284)); have GE284 := A_ ((mc45 : w.heap.size ≤ gb284)); replace HB := A_ (below_step mc89 hb); clear hb hbox hg; have hcz21_0 : w20.cell? ⟨gb284, 0, none⟩ = some (.string (⟨#[]⟩ : ByteArray)) := bc_ BK284 0 rfl; have hcz21_1 : w20.cell? ⟨gb284, 1, none⟩ = some (.string (⟨#[]⟩ : ByteArray)) := bc_ BK284 1 rfl; have hfz21_0 := blk_frozen BK284.out 0; have hfz21_1 := blk_frozen BK284.out 1) | ((with_reducible refine gc_ 107 rfl ?_); refine goesL_ (some 56) rfl rfl Tryz.func107 kr_ rfl #[.agg #[.string t281, .string t282]] rfl mc86 ?_; (with_reducible refine (impl_IsValidRecord.calls kj6 t281 t282 true _ A14.out).mono ?_); rintro e w22 ⟨rfl, hb⟩; refine ⟨_, rfl, ?_⟩; replace HO_4 := A_ (Kd.R_below mc12 hb); replace BK284 := A_ (blk_below (g := gb284) (o := .cells #[.string t281, .string t282] 62 (0, 0)) mc7 hb); replace HB := A_ (below_step mc62 hb); (try clear hb); have hcz23_0 : w22.cell? ⟨gb284, 0, none⟩ = some (.string t281) := bc_ BK284 0 rfl; have hcz23_1 : w22.cell? ⟨gb284, 1, none⟩ = some (.string t282) := bc_ BK284 1 rfl; have hfz23_0 := blk_frozen BK284.out 0; have hfz23_1 := blk_frozen BK284.out 1) | (go_at_call 108; (with_reducible refine (impl_encodeRecord.calls kj6 (x4_1.length : Int) t281 t282 t286 _ A16.out ?sideG).mono ?_); (case sideG => exact (gw_below HG.out mc62)); rintro e w24 ⟨rfl, hb⟩; replace HO_4 := A_ (Kd.R_below mc131 hb); replace BK284 := A_ (blk_below mc109 hb); replace HB := A_ (below_step mc62 hb); (try clear hb); have hcz25_0 : w24.cell? ⟨gb284, 0, none⟩ = some (.string t281) := bc_ BK284 0 rfl; have hcz25_1 : w24.cell? ⟨gb284, 1, none⟩ = some (.string t282) := bc_ BK284 1 rfl; have hfz25_0 := blk_frozen BK284.out 0; have hfz25_1 := blk_frozen BK284.out 1) | ((with_reducible refine gate_builtin (b := .append) (xs := #[.tmp 67, .tmp 69]) rfl ?_); (try (refine gate_guard (by rfl) ?_; dsimp only)); at_builtin; refine Kd.R_append k62 (w0 := w) w.heap.size rfl (.tmp 67) (.tmp 69) 58 62 (.agg #[(.string ⟨#[]⟩), (.string ⟨#[]⟩)]) 32 rfl Tryz.underlying58 info62 rfl (by decide) (by omega) (.slice Ao8 x4_1.length co8) x4_1 (⟨t281, t282⟩ : S62) [.string t281, .string t282] (fun k_ => k_ ≠ gb284) (fun _ => False) rfl rfl ?aP (fun _ hk => hk.elim) ?aF ?aO ?aB ?aS ?aL ?_; (case aP => exact k62_mkM _ _ _ (⟨t281, t282⟩ : S62)); (case aB => exact mc62); (case aF => exact (fun k_ hk => Kd.freshB (g := gb284) (o := .cells #[.string t281, .string t282] 62 (0, 0)) mc109 k_ hk)); (case aO => exact (by (with_reducible repeat (first | apply Kd.R_alloc | apply Kd.R_drewN | apply Kd.R_drew)); exact Kd.R_mono HO_4.out (fun _ hk => hk.2))); (case aS => exact (below_size mc62)); (case aL => have := LMc19.out; omega); intro v288 w26 ho hb hg hat; rw [← Ny287.out] at ho; replace BK284 := A_ (blk_grown (g := gb284) (o := .cells #[.string t281, .string t282] 62 (0, 0)) mc109 hg (Kd.R_away HO_4.out (fun _ hk => hk.2))); replace HB := A_ (hb); have HO289 := A_ (ho); clear HO_4; clear ho hb hg hat))
             go_roundg kj6
             case measure => have := HK1.out; have := HJ6.out; omega
             case rel => exact ⟨(y287), (wrap64 (x5_1 + (wrap64 ((t273.size : Int) + 1)))), mc135, H', ⟨by have := HK1.out; have := HJ6.out; omega⟩, ⟨by (with_reducible repeat (first | apply Kd.R_alloc | apply Kd.R_drewN | apply Kd.R_drew)); exact Kd.R_mono HO289.out (fun _ hk => trivial)⟩, ⟨mc62⟩⟩
            ·
             rw [if_neg c19] at H
             exact absurd H (by simp)
           ·
            rw [if_neg c18] at H
            have c18b0 : (t286.toList == (t273 ++ (⟨#[10]⟩ : ByteArray)).toList) = false := beq_eq_false_iff_ne.mpr c18
            have c18b1 : (t286.toList != (t273 ++ (⟨#[10]⟩ : ByteArray)).toList) = true := bne_iff_ne.mpr c18
            simp only [Option.some.injEq, Prod.mk.injEq] at H
            obtain ⟨rfl, rfl⟩ := H
            go_wp2_with (first | ((with_reducible refine gc_ 118 rfl ?_); refine goesL_ (some 42) rfl rfl Tryz.func118 kr_ rfl #[.string t276, .string (⟨#[32]⟩ : ByteArray)] rfl mc86 ?_; (with_reducible refine (strings_Cut.calls t276 (⟨#[32]⟩ : ByteArray) t278 t279 t280 _ A12.out).mono ?_); rintro e w' ⟨rfl, ⟨nd, rfl⟩⟩; refine ⟨_, rfl, ?_⟩; (try (rw [drewN_self wc]; generalize hq_ : World.drewN wc _ = wc; have n0_ : Aside0 (Kd.R k62 62 wc w.heap.size (fun _ => True) (.slice Ao8 x4_1.length co8) x4_1) := ⟨mc90⟩; have n1_ : Aside0 (Below w.heap.size w wc) := ⟨mc85⟩; clear HO_4 HB hq_; have HO_4 := n0_; have HB := n1_; clear n0_ n1_))) | ((with_reducible refine gc_ 118 rfl ?_); refine goesL_ (some 48) rfl rfl Tryz.func118 kr_ rfl #[.string t279, .string (⟨#[64]⟩ : ByteArray)] rfl mc86 ?_; (with_reducible refine (strings_Cut.calls t279 (⟨#[64]⟩ : ByteArray) t281 t282 t283 _ A13.out).mono ?_); rintro e w' ⟨rfl, ⟨nd, rfl⟩⟩; refine ⟨_, rfl, ?_⟩; (try (rw [drewN_self wc]; generalize hq_ : World.drewN wc _ = wc; have n0_ : Aside0 (Kd.R k62 62 wc w.heap.size (fun _ => True) (.slice Ao8 x4_1.length co8) x4_1) := ⟨mc90⟩; have n1_ : Aside0 (Below w.heap.size w wc) := ⟨mc85⟩; clear HO_4 HB hq_; have HO_4 := n0_; have HB := n1_; clear n0_ n1_))) | ((with_reducible refine gd_ 17 rfl ?_); (try (refine gate_guard (by rfl) ?_; dsimp only)); refine box_event rfl (N := 17) rfl (cs := #[.string (⟨#[]⟩ : ByteArray), .string (⟨#[]⟩ : ByteArray)]) (t := 62) mc142 ?_; intro gb284 hg w27 hbox hb; replace HO_4 := A_ (Kd.R_below (Kd.R_elderB mc131 gb284 (Nat.le_of_eq hg.symm)) hb); have BK284 := A_ (hbox); have GW284 := A_ ((mc45 : w.heap.size ≤ gb284)); have GE284 := A_ ((mc45 : w.heap.size ≤ gb284)); replace HB := A_ (below_step mc89 hb); clear hb hbox hg; have hcz28_0 : w27.cell? ⟨gb284, 0, none⟩ = some (.string (⟨#[]⟩ : ByteArray)) := bc_ BK284 0 rfl; have hcz28_1 : w27.cell? ⟨gb284, 1, none⟩ = some (.string (⟨#[]⟩ : ByteArray)) := bc_ BK284 1 rfl; have hfz28_0 := blk_frozen BK284.out 0; have hfz28_1 := blk_frozen BK284.out 1) | ((with_reducible refine gc_ 107 rfl ?_); refine goesL_ (some 56) rfl rfl Tryz.func107 kr_ rfl #[.agg #[.string t281, .string t282]] rfl mc86 ?_; (with_reducible refine (impl_IsValidRecord.calls kj6 t281 t282 true _ A14.out).mono ?_); rintro e w29 ⟨rfl, hb⟩; refine ⟨_, rfl, ?_⟩; replace HO_4 := A_ (Kd.R_below mc12 hb); replace BK284 := A_ (blk_below (g := gb284) (o := .cells #[.string t281, .string t282] 62 (0, 0)) mc7 hb); replace HB := A_ (below_step mc62 hb); (try clear hb); have hcz30_0 : w29.cell? ⟨gb284, 0, none⟩ = some (.string t281) := bc_ BK284 0 rfl; have hcz30_1 : w29.cell? ⟨gb284, 1, none⟩ = some (.string t282) := bc_ BK284 1 rfl; have hfz30_0 := blk_frozen BK284.out 0; have hfz30_1 := blk_frozen BK284.out 1) | (go_at_call 108; (with_reducible refine (impl_encodeRecord.calls kj6 (x4_1.length : Int) t281 t282 t286 _ A16.out ?sideG).mono ?_); (case sideG => exact (gw_below HG.out mc62)); rintro e w31 ⟨rfl, hb⟩; replace HO_4 := A_ (Kd.R_below mc131 hb); replace BK284 := A_ (blk_below mc109 hb); replace HB := A_ (below_step mc62 hb); (try clear hb)))
            go_ret2
            exact ⟨_, mc133, by (with_reducible repeat (first | apply Kd.R_alloc | apply Kd.R_drewN | apply Kd.R_drew)); exact Kd.R_mono HO_4.out (fun _ hk => trivial), mc62⟩
          ·
           rw [if_neg c17] at H
           exact absurd H (by simp)
         ·
          replace c15 := Bool.eq_false_iff.mpr c15
          subst c15
          rw [if_neg (show ¬ (false = true) by decide)] at H
          simp only [Option.some.injEq, Prod.mk.injEq] at H
          obtain ⟨rfl, rfl⟩ := H
          go_wp2_with (first | ((with_reducible refine gc_ 118 rfl ?_); refine goesL_ (some 42) rfl rfl Tryz.func118 kr_ rfl #[.string t276, .string (⟨#[32]⟩ : ByteArray)] rfl mc86 ?_; (with_reducible refine (strings_Cut.calls t276 (⟨#[32]⟩ : ByteArray) t278 t279 t280 _ A12.out).mono ?_); rintro e w' ⟨rfl, ⟨nd, rfl⟩⟩; refine ⟨_, rfl, ?_⟩; (try (rw [drewN_self wc]; generalize hq_ : World.drewN wc _ = wc; have n0_ : Aside0 (Kd.R k62 62 wc w.heap.size (fun _ => True) (.slice Ao8 x4_1.length co8) x4_1) := ⟨mc90⟩; have n1_ : Aside0 (Below w.heap.size w wc) := ⟨mc85⟩; clear HO_4 HB hq_; have HO_4 := n0_; have HB := n1_; clear n0_ n1_))) | ((with_reducible refine gc_ 118 rfl ?_); refine goesL_ (some 48) rfl rfl Tryz.func118 kr_ rfl #[.string t279, .string (⟨#[64]⟩ : ByteArray)] rfl mc86 ?_; (with_reducible refine (strings_Cut.calls t279 (⟨#[64]⟩ : ByteArray) t281 t282 t283 _ A13.out).mono ?_); rintro e w' ⟨rfl, ⟨nd, rfl⟩⟩; refine ⟨_, rfl, ?_⟩; (try (rw [drewN_self wc]; generalize hq_ : World.drewN wc _ = wc; have n0_ : Aside0 (Kd.R k62 62 wc w.heap.size (fun _ => True) (.slice Ao8 x4_1.length co8) x4_1) := ⟨mc90⟩; have n1_ : Aside0 (Below w.heap.size w wc) := ⟨mc85⟩; clear HO_4 HB hq_; have HO_4 := n0_; have HB := n1_; clear n0_ n1_))) | ((with_reducible refine gd_ 17 rfl ?_); (try (refine gate_guard (by rfl) ?_; dsimp only)); refine box_event rfl (N := 17) rfl (cs := #[.string (⟨#[]⟩ : ByteArray), .string (⟨#[]⟩ : ByteArray)]) (t := 62) mc142 ?_; intro gb284 hg w32 hbox hb; replace HO_4 := A_ (Kd.R_below (Kd.R_elderB mc131 gb284 (Nat.le_of_eq hg.symm)) hb); have BK284 := A_ (hbox); have GW284 := A_ ((mc45 : w.heap.size ≤ gb284)); have GE284 := A_ ((mc45 : w.heap.size ≤ gb284)); replace HB := A_ (below_step mc89 hb); clear hb hbox hg; have hcz33_0 : w32.cell? ⟨gb284, 0, none⟩ = some (.string (⟨#[]⟩ : ByteArray)) := bc_ BK284 0 rfl; have hcz33_1 : w32.cell? ⟨gb284, 1, none⟩ = some (.string (⟨#[]⟩ : ByteArray)) := bc_ BK284 1 rfl; have hfz33_0 := blk_frozen BK284.out 0; have hfz33_1 := blk_frozen BK284.out 1) | ((with_reducible refine gc_ 107 rfl ?_); refine goesL_ (some 56) rfl rfl Tryz.func107 kr_ rfl #[.agg #[.string t281, .string t282]] rfl mc86 ?_; (with_reducible refine (impl_IsValidRecord.calls kj6 t281 t282 false _ A14.out).mono ?_); rintro e w34 ⟨rfl, hb⟩; refine ⟨_, rfl, ?_⟩; replace HO_4 := A_ (Kd.R_below mc12 hb); replace BK284 := A_ (blk_below (g := gb284) (o := .cells #[.string t281, .string t282] 62 (0, 0)) mc7 hb); replace HB := A_ (below_step mc62 hb); (try clear hb)))
          go_ret2
          exact ⟨_, mc133, by (with_reducible repeat (first | apply Kd.R_alloc | apply Kd.R_drewN | apply Kd.R_drew)); exact Kd.R_mono HO_4.out (fun _ hk => trivial), mc62⟩
     ·
      rw [if_neg c4] at H
      exact absurd H (by simp)
    ·
     rw [if_neg c3] at H
     exact absurd H (by simp)
   ·
    rw [if_neg c2] at H
    have c2b0 : decide ((x4_1.length : Int) < 60) = false := decide_eq_false c2
    have c2b1 : decide (x4_1.length < 60) = false := decide_eq_false (by omega)
    clear c2
    simp only [Option.some.injEq, Prod.mk.injEq] at H
    obtain ⟨rfl, rfl⟩ := H
    obtain ⟨Ao35, co35, eo35⟩ := Kd.R_slice HO_4.out
    subst eo35
    go_wp2
    go_ret2
    exact ⟨_, mc133, mc131, mc89⟩

/-! ### impl_IsValidLog: function 74 -/
def impl_IsValidLog.f (k : Nat) (a0_0 : ByteArray) (a0_1 : ByteArray) (a0_2 : Int) : Option (Bool) := if a0_0.size + a0_1.size ≤ 9223372036854775807 then ((impl_readRecords.f k (a0_0 ++ a0_1)).bind fun bt291 => (if bt291.2 = (wrap64 ((a0_0.size : Int) + (a0_1.size : Int))) then (if a0_2 = (bt291.1.length : Int) then ((impl_readRecords.f k a0_0).bind fun bt295 => (some (bt295.2 == (a0_0.size : Int)))) else (some false)) else (some false))) else (none)
set_option maxHeartbeats 8000000 in
set_option maxRecDepth 100000 in
theorem impl_IsValidLog.calls (k : Nat) (a0_0 : ByteArray) (a0_1 : ByteArray) (a0_2 : Int) (r : Bool) (w : World) (h : impl_IsValidLog.f k a0_0 a0_1 a0_2 = some r) (hG_ : GW w) :
  Calls Tryz.prog 74 #[.agg #[.string a0_0, .string a0_1, .int .i64 a0_2]] w fun e w' => e = .returned (.bool r) ∧ Below w.heap.size w w' := by
 have HG := A_ hG_
 clear hG_
 have hu31 := Tryz.underlying31
 have HB := A_ (Below.refl w.heap.size w)
 have H : (if a0_0.size + a0_1.size ≤ 9223372036854775807 then ((impl_readRecords.f k (a0_0 ++ a0_1)).bind fun bt291 => (if bt291.2 = (wrap64 ((a0_0.size : Int) + (a0_1.size : Int))) then (if a0_2 = (bt291.1.length : Int) then ((impl_readRecords.f k a0_0).bind fun bt295 => (some (bt295.2 == (a0_0.size : Int)))) else (some false)) else (some false))) else (none)) = some r := h
 clear h
 by_cases c2 : a0_0.size + a0_1.size ≤ 9223372036854775807
 ·
  rw [if_pos c2] at H
  have c2b0 := eq_true c2
  have c2b1 : decide (a0_0.size + a0_1.size ≤ 9223372036854775807) = true := decide_eq_true c2
  try have c2b2 : (9223372036854775807 < a0_0.size + a0_1.size) = False := eq_false (Nat.not_lt.2 c2)
  have hwz_ : wrap64 ((a0_0.size : Int) + (a0_1.size : Int)) = (a0_0.size : Int) + (a0_1.size : Int) := by unfold wrap64; omega
  obtain ⟨⟨t291, t292⟩, A30, H⟩ := oB_ H
  have A3 := A_ A30
  clear A30
  by_cases c4 : t292 = (wrap64 ((a0_0.size : Int) + (a0_1.size : Int)))
  ·
   rw [if_pos c4] at H
   have c4b0 : (t292 == (wrap64 ((a0_0.size : Int) + (a0_1.size : Int)))) = true := beq_iff_eq.mpr c4
   try have c4b0w := by have h_ := c4b0; rw [hwz_] at h_; exact h_
   have c4b1 : (t292 != (wrap64 ((a0_0.size : Int) + (a0_1.size : Int)))) = false := bne_eq_false_iff_eq.mpr c4
   try have c4b1w := by have h_ := c4b1; rw [hwz_] at h_; exact h_
   clear c4
   by_cases c5 : a0_2 = (t291.length : Int)
   ·
    rw [if_pos c5] at H
    have c5b0 : (a0_2 == (t291.length : Int)) = true := beq_iff_eq.mpr c5
    have c5b1 : (a0_2 != (t291.length : Int)) = false := bne_eq_false_iff_eq.mpr c5
    clear c5
    obtain ⟨⟨t295, t296⟩, A60, H⟩ := oB_ H
    have A6 := A_ A60
    clear A60
    obtain rfl := Option.some.inj H
    go_enter Tryz.func74, Tryz.ntmps74
    go_wp2_with (first | ((with_reducible refine gd_ 1 rfl ?_); (try (refine gate_guard (by rfl) ?_; dsimp only)); refine box_event rfl (N := 1) rfl (cs := #[.string a0_0, .string a0_1, .int .i64 a0_2]) (t := 31) mc142 ?_; intro gb290 hg w7 hbox hb; have BK290 := A_ (hbox); have GW290 := A_ ((mc45 : w.heap.size ≤ gb290)); have GE290 := A_ ((mc45 : w.heap.size ≤ gb290)); replace HB := A_ (below_step mc89 hb); clear hb hbox hg; have hcz8_0 : w7.cell? ⟨gb290, 0, none⟩ = some (.string a0_0) := bc_ BK290 0 rfl; have hcz8_1 : w7.cell? ⟨gb290, 1, none⟩ = some (.string a0_1) := bc_ BK290 1 rfl; have hcz8_2 : w7.cell? ⟨gb290, 2, none⟩ = some (.int .i64 a0_2) := bc_ BK290 2 rfl; have hfz8_0 := blk_frozen BK290.out 0; have hfz8_1 := blk_frozen BK290.out 1; have hfz8_2 := blk_frozen BK290.out 2) | ((with_reducible refine gc_ 75 rfl ?_); refine goesL_ (some 13) rfl rfl Tryz.func75 kr_ rfl #[.string (a0_0 ++ a0_1)] rfl mc86 ?_; (with_reducible refine (impl_readRecords.calls k (a0_0 ++ a0_1) t291 t292 _ A3.out ?sideG).mono ?_); (case sideG => exact (gw_below HG.out mc63)); rintro e w9 ⟨v293, rfl, ho0, hb⟩; refine ⟨_, rfl, ?_⟩; have HO294 := A_ (Kd.R_lower ho0 (below_size mc63)); replace BK290 := A_ (blk_below mc110 hb); replace HB := A_ (below_step mc63 hb); (try clear hb); (try clear ho0); have hcz10_0 : w9.cell? ⟨gb290, 0, none⟩ = some (.string a0_0) := bc_ BK290 0 rfl; have hcz10_1 : w9.cell? ⟨gb290, 1, none⟩ = some (.string a0_1) := bc_ BK290 1 rfl; have hcz10_2 : w9.cell? ⟨gb290, 2, none⟩ = some (.int .i64 a0_2) := bc_ BK290 2 rfl; have hfz10_0 := blk_frozen BK290.out 0; have hfz10_1 := blk_frozen BK290.out 1; have hfz10_2 := blk_frozen BK290.out 2; obtain ⟨Ao11, co11, eo11⟩ := Kd.R_slice HO294.out; subst eo11) | ((with_reducible refine gc_ 75 rfl ?_); refine goesL_ (some 35) rfl rfl Tryz.func75 kr_ rfl #[.string a0_0] rfl mc86 ?_; (with_reducible refine (impl_readRecords.calls k a0_0 t295 t296 _ A6.out ?sideG).mono ?_); (case sideG => exact (gw_below HG.out mc63)); rintro e w12 ⟨v297, rfl, ho0, hb⟩; refine ⟨_, rfl, ?_⟩; have HO298 := A_ (Kd.R_lower (Kd.R_new' ho0 (Kd.R_lt (by (with_reducible repeat (first | apply Kd.R_alloc | apply Kd.R_drewN | apply Kd.R_drew)); exact HO294.out))) (below_size mc63)); replace HO294 := A_ (Kd.R_elder' (by (with_reducible repeat (first | apply Kd.R_alloc | apply Kd.R_drewN | apply Kd.R_drew)); exact HO294.out) (Kd.R_base ho0) hb); replace BK290 := A_ (blk_below mc110 hb); replace HB := A_ (below_step mc63 hb); (try clear hb); (try clear ho0); have hcz13_0 : w12.cell? ⟨gb290, 0, none⟩ = some (.string a0_0) := bc_ BK290 0 rfl; have hcz13_1 : w12.cell? ⟨gb290, 1, none⟩ = some (.string a0_1) := bc_ BK290 1 rfl; have hcz13_2 : w12.cell? ⟨gb290, 2, none⟩ = some (.int .i64 a0_2) := bc_ BK290 2 rfl; have hfz13_0 := blk_frozen BK290.out 0; have hfz13_1 := blk_frozen BK290.out 1; have hfz13_2 := blk_frozen BK290.out 2))
    go_ret
    exact ⟨mc133, mc63⟩
   ·
    rw [if_neg c5] at H
    have c5b0 : (a0_2 == (t291.length : Int)) = false := beq_eq_false_iff_ne.mpr c5
    have c5b1 : (a0_2 != (t291.length : Int)) = true := bne_iff_ne.mpr c5
    obtain rfl := Option.some.inj H
    go_enter Tryz.func74, Tryz.ntmps74
    go_wp2_with (first | ((with_reducible refine gd_ 1 rfl ?_); (try (refine gate_guard (by rfl) ?_; dsimp only)); refine box_event rfl (N := 1) rfl (cs := #[.string a0_0, .string a0_1, .int .i64 a0_2]) (t := 31) mc142 ?_; intro gb290 hg w14 hbox hb; have BK290 := A_ (hbox); have GW290 := A_ ((mc45 : w.heap.size ≤ gb290)); have GE290 := A_ ((mc45 : w.heap.size ≤ gb290)); replace HB := A_ (below_step mc89 hb); clear hb hbox hg; have hcz15_0 : w14.cell? ⟨gb290, 0, none⟩ = some (.string a0_0) := bc_ BK290 0 rfl; have hcz15_1 : w14.cell? ⟨gb290, 1, none⟩ = some (.string a0_1) := bc_ BK290 1 rfl; have hcz15_2 : w14.cell? ⟨gb290, 2, none⟩ = some (.int .i64 a0_2) := bc_ BK290 2 rfl; have hfz15_0 := blk_frozen BK290.out 0; have hfz15_1 := blk_frozen BK290.out 1; have hfz15_2 := blk_frozen BK290.out 2) | ((with_reducible refine gc_ 75 rfl ?_); refine goesL_ (some 13) rfl rfl Tryz.func75 kr_ rfl #[.string (a0_0 ++ a0_1)] rfl mc86 ?_; (with_reducible refine (impl_readRecords.calls k (a0_0 ++ a0_1) t291 t292 _ A3.out ?sideG).mono ?_); (case sideG => exact (gw_below HG.out mc63)); rintro e w16 ⟨v293, rfl, ho0, hb⟩; refine ⟨_, rfl, ?_⟩; have HO294 := A_ (Kd.R_lower ho0 (below_size mc63)); replace BK290 := A_ (blk_below mc110 hb); replace HB := A_ (below_step mc63 hb); (try clear hb); (try clear ho0); have hcz17_0 : w16.cell? ⟨gb290, 0, none⟩ = some (.string a0_0) := bc_ BK290 0 rfl; have hcz17_1 : w16.cell? ⟨gb290, 1, none⟩ = some (.string a0_1) := bc_ BK290 1 rfl; have hcz17_2 : w16.cell? ⟨gb290, 2, none⟩ = some (.int .i64 a0_2) := bc_ BK290 2 rfl; have hfz17_0 := blk_frozen BK290.out 0; have hfz17_1 := blk_frozen BK290.out 1; have hfz17_2 := blk_frozen BK290.out 2; obtain ⟨Ao18, co18, eo18⟩ := Kd.R_slice HO294.out; subst eo18))
    go_ret
    exact ⟨mc133, mc63⟩
  ·
   rw [if_neg c4] at H
   have c4b0 : (t292 == (wrap64 ((a0_0.size : Int) + (a0_1.size : Int)))) = false := beq_eq_false_iff_ne.mpr c4
   try have c4b0w := by have h_ := c4b0; rw [hwz_] at h_; exact h_
   have c4b1 : (t292 != (wrap64 ((a0_0.size : Int) + (a0_1.size : Int)))) = true := bne_iff_ne.mpr c4
   try have c4b1w := by have h_ := c4b1; rw [hwz_] at h_; exact h_
   obtain rfl := Option.some.inj H
   go_enter Tryz.func74, Tryz.ntmps74
   go_wp2_with (first | ((with_reducible refine gd_ 1 rfl ?_); (try (refine gate_guard (by rfl) ?_; dsimp only)); refine box_event rfl (N := 1) rfl (cs := #[.string a0_0, .string a0_1, .int .i64 a0_2]) (t := 31) mc142 ?_; intro gb290 hg w19 hbox hb; have BK290 := A_ (hbox); have GW290 := A_ ((mc45 : w.heap.size ≤ gb290)); have GE290 := A_ ((mc45 : w.heap.size ≤ gb290)); replace HB := A_ (below_step mc89 hb); clear hb hbox hg; have hcz20_0 : w19.cell? ⟨gb290, 0, none⟩ = some (.string a0_0) := bc_ BK290 0 rfl; have hcz20_1 : w19.cell? ⟨gb290, 1, none⟩ = some (.string a0_1) := bc_ BK290 1 rfl; have hcz20_2 : w19.cell? ⟨gb290, 2, none⟩ = some (.int .i64 a0_2) := bc_ BK290 2 rfl; have hfz20_0 := blk_frozen BK290.out 0; have hfz20_1 := blk_frozen BK290.out 1; have hfz20_2 := blk_frozen BK290.out 2) | ((with_reducible refine gc_ 75 rfl ?_); refine goesL_ (some 13) rfl rfl Tryz.func75 kr_ rfl #[.string (a0_0 ++ a0_1)] rfl mc86 ?_; (with_reducible refine (impl_readRecords.calls k (a0_0 ++ a0_1) t291 t292 _ A3.out ?sideG).mono ?_); (case sideG => exact (gw_below HG.out mc63)); rintro e w21 ⟨v293, rfl, ho0, hb⟩; refine ⟨_, rfl, ?_⟩; have HO294 := A_ (Kd.R_lower ho0 (below_size mc63)); replace BK290 := A_ (blk_below mc110 hb); replace HB := A_ (below_step mc63 hb); (try clear hb); (try clear ho0); have hcz22_0 : w21.cell? ⟨gb290, 0, none⟩ = some (.string a0_0) := bc_ BK290 0 rfl; have hcz22_1 : w21.cell? ⟨gb290, 1, none⟩ = some (.string a0_1) := bc_ BK290 1 rfl; have hcz22_2 : w21.cell? ⟨gb290, 2, none⟩ = some (.int .i64 a0_2) := bc_ BK290 2 rfl; have hfz22_0 := blk_frozen BK290.out 0; have hfz22_1 := blk_frozen BK290.out 1; have hfz22_2 := blk_frozen BK290.out 2))
   go_ret
   exact ⟨mc133, mc63⟩
 ·
  rw [if_neg c2] at H
  exact absurd H (by simp)

/-! ### impl_IsValidConsole: function 34 -/
def impl_IsValidConsole.f (k : Nat) (l0_0 : List (S73)) (a0_1 : ByteArray) (a0_2 : ByteArray) (a0_3 : Int) : Option (Bool) := (impl_IsConsistent.f k l0_0).bind fun t300 => (if t300 = true then ((impl_IsValidLog.f k a0_1 a0_2 a0_3).bind fun t301 => (some t301)) else (some false))
set_option maxHeartbeats 8000000 in
set_option maxRecDepth 100000 in
theorem impl_IsValidConsole.calls (k : Nat) (A0_0 : Option Addr) (c0_0 : Nat) (l0_0 : List (S73)) (a0_1 : ByteArray) (a0_2 : ByteArray) (a0_3 : Int) (r : Bool) (w : World) (hr0_0 : Kd.C k73 w A0_0 l0_0.length l0_0) (hc0_0 : l0_0.length ≤ c0_0) (h : impl_IsValidConsole.f k l0_0 a0_1 a0_2 a0_3 = some r) (hG_ : GW w) :
  Calls Tryz.prog 34 #[.agg #[.slice A0_0 l0_0.length c0_0, .string a0_1, .string a0_2, .int .i64 a0_3]] w fun e w' => e = .returned (.bool r) ∧ Below w.heap.size w w' := by
 have HG := A_ hG_
 clear hG_
 have hu33 := Tryz.underlying33
 have hu31 := Tryz.underlying31
 have HR0_0 := A_ hr0_0
 have HC0_0 := A_ hc0_0
 clear hr0_0 hc0_0
 have HB := A_ (Below.refl w.heap.size w)
 have H : ((impl_IsConsistent.f k l0_0).bind fun t300 => (if t300 = true then ((impl_IsValidLog.f k a0_1 a0_2 a0_3).bind fun t301 => (some t301)) else (some false))) = some r := h
 clear h
 obtain ⟨t300, A20, H⟩ := oB_ H
 have A2 := A_ A20
 clear A20
 by_cases c3 : t300 = true
 ·
  subst c3
  rw [if_pos rfl] at H
  obtain ⟨t301, A40, H⟩ := oB_ H
  have A4 := A_ A40
  clear A40
  obtain rfl := Option.some.inj H
  go_enter Tryz.func34, Tryz.ntmps34
  go_wp2_with (first | ((with_reducible refine gd_ 1 rfl ?_); refine box_event rfl (N := 1) rfl (cs := #[.slice A0_0 l0_0.length c0_0, .string a0_1, .string a0_2, .int .i64 a0_3]) (t := 33) mc142 ?_; intro gb299 hg w5 hbox hb; have BK299 := A_ (hbox); have GW299 := A_ ((mc45 : w.heap.size ≤ gb299)); have GE299 := A_ ((mc45 : w.heap.size ≤ gb299)); replace HB := A_ (below_step mc89 hb); clear hb hbox hg; have hcz6_0 : w5.cell? ⟨gb299, 0, none⟩ = some (.slice A0_0 l0_0.length c0_0) := bc_ BK299 0 rfl; have hcz6_1 : w5.cell? ⟨gb299, 1, none⟩ = some (.string a0_1) := bc_ BK299 1 rfl; have hcz6_2 : w5.cell? ⟨gb299, 2, none⟩ = some (.string a0_2) := bc_ BK299 2 rfl; have hcz6_3 : w5.cell? ⟨gb299, 3, none⟩ = some (.int .i64 a0_3) := bc_ BK299 3 rfl; have hfz6_0 := blk_frozen BK299.out 0; have hfz6_1 := blk_frozen BK299.out 1; have hfz6_2 := blk_frozen BK299.out 2; have hfz6_3 := blk_frozen BK299.out 3) | ((with_reducible refine gc_ 73 rfl ?_); refine goesL_ (some 5) rfl rfl Tryz.func73 kr_ rfl #[.slice A0_0 l0_0.length c0_0] rfl mc86 ?_; (with_reducible refine (impl_IsConsistent.calls k _ _ l0_0 true _ ?side1 ?side2 A2.out).mono ?_); (case side1 => exact mc42); (case side2 => exact HC0_0.out); rintro e w7 ⟨rfl, hb⟩; refine ⟨_, rfl, ?_⟩; replace BK299 := A_ (blk_below mc111 hb); replace HB := A_ (below_step mc64 hb); (try clear hb); have hcz8_0 : w7.cell? ⟨gb299, 0, none⟩ = some (.slice A0_0 l0_0.length c0_0) := bc_ BK299 0 rfl; have hcz8_1 : w7.cell? ⟨gb299, 1, none⟩ = some (.string a0_1) := bc_ BK299 1 rfl; have hcz8_2 : w7.cell? ⟨gb299, 2, none⟩ = some (.string a0_2) := bc_ BK299 2 rfl; have hcz8_3 : w7.cell? ⟨gb299, 3, none⟩ = some (.int .i64 a0_3) := bc_ BK299 3 rfl; have hfz8_0 := blk_frozen BK299.out 0; have hfz8_1 := blk_frozen BK299.out 1; have hfz8_2 := blk_frozen BK299.out 2; have hfz8_3 := blk_frozen BK299.out 3) | (go_at_call 74; (with_reducible refine (impl_IsValidLog.calls k a0_1 a0_2 a0_3 t301 _ A4.out ?sideG).mono ?_); (case sideG => exact (gw_below HG.out mc64)); rintro e w9 ⟨rfl, hb⟩; replace BK299 := A_ (blk_below mc111 hb); replace HB := A_ (below_step mc64 hb); (try clear hb)))
  go_ret
  exact ⟨mc133, mc64⟩
 ·
  replace c3 := Bool.eq_false_iff.mpr c3
  subst c3
  rw [if_neg (show ¬ (false = true) by decide)] at H
  obtain rfl := Option.some.inj H
  go_enter Tryz.func34, Tryz.ntmps34
  go_wp2_with (first | ((with_reducible refine gd_ 1 rfl ?_); refine box_event rfl (N := 1) rfl (cs := #[.slice A0_0 l0_0.length c0_0, .string a0_1, .string a0_2, .int .i64 a0_3]) (t := 33) mc142 ?_; intro gb299 hg w10 hbox hb; have BK299 := A_ (hbox); have GW299 := A_ ((mc45 : w.heap.size ≤ gb299)); have GE299 := A_ ((mc45 : w.heap.size ≤ gb299)); replace HB := A_ (below_step mc89 hb); clear hb hbox hg; have hcz11_0 : w10.cell? ⟨gb299, 0, none⟩ = some (.slice A0_0 l0_0.length c0_0) := bc_ BK299 0 rfl; have hcz11_1 : w10.cell? ⟨gb299, 1, none⟩ = some (.string a0_1) := bc_ BK299 1 rfl; have hcz11_2 : w10.cell? ⟨gb299, 2, none⟩ = some (.string a0_2) := bc_ BK299 2 rfl; have hcz11_3 : w10.cell? ⟨gb299, 3, none⟩ = some (.int .i64 a0_3) := bc_ BK299 3 rfl; have hfz11_0 := blk_frozen BK299.out 0; have hfz11_1 := blk_frozen BK299.out 1; have hfz11_2 := blk_frozen BK299.out 2; have hfz11_3 := blk_frozen BK299.out 3) | ((with_reducible refine gc_ 73 rfl ?_); refine goesL_ (some 5) rfl rfl Tryz.func73 kr_ rfl #[.slice A0_0 l0_0.length c0_0] rfl mc86 ?_; (with_reducible refine (impl_IsConsistent.calls k _ _ l0_0 false _ ?side1 ?side2 A2.out).mono ?_); (case side1 => exact mc42); (case side2 => exact HC0_0.out); rintro e w12 ⟨rfl, hb⟩; refine ⟨_, rfl, ?_⟩; replace BK299 := A_ (blk_below mc111 hb); replace HB := A_ (below_step mc64 hb); (try clear hb)))
  go_ret
  exact ⟨mc133, mc64⟩

end Go.Proofs.YtlnlabndaikbnaaGreatDoor.P
