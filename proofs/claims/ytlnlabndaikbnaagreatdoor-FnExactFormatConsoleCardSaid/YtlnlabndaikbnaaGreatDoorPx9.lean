-- Made by pp.py of this session out of the kit's print and of contracts proved by hand; Lean checks it.
import Derived.Test.YtlnlabndaikbnaaGreatDoorMc
import Derived.Test.YtlnlabndaikbnaaGreatDoorPx0
import Derived.Test.YtlnlabndaikbnaaGreatDoorPx7
import Derived.Test.YtlnlabndaikbnaaGreatDoorPx8
namespace Go.Proofs.YtlnlabndaikbnaaGreatDoor.P
open Go.RowKit Go.Proofs.YtlnlabndaikbnaaGreatDoorW.PrintWords Go.Proofs.YtlnlabndaikbnaaGreatDoorW.PrintLast Go.Proofs.YtlnlabndaikbnaaGreatDoorW.PrintMore
attribute [local go_sem] max2_int min2_int max_two min_two max_three min_three max_four min_four   -- for this text's walks alone
set_option linter.unusedVariables false
set_option linter.unusedSimpArgs false

/-! ### spec_l28Good: function 44 -/
def spec_l28Good.f (k : Nat) (l0_0 : List (S73)) (a0_1 : ByteArray) (a0_2 : ByteArray) (a0_3 : Int) : Option (Bool) := (spec_l14List.f k l0_0).bind fun t178 => (if t178 = true then ((spec_l27Log.f k a0_1 a0_2 a0_3).bind fun t179 => (some t179)) else (some false))
set_option maxHeartbeats 8000000 in
set_option maxRecDepth 100000 in
theorem spec_l28Good.calls (k : Nat) (A0_0 : Option Addr) (c0_0 : Nat) (l0_0 : List (S73)) (a0_1 : ByteArray) (a0_2 : ByteArray) (a0_3 : Int) (r : Bool) (w : World) (hr0_0 : Kd.C k73 w A0_0 l0_0.length l0_0) (hc0_0 : l0_0.length ≤ c0_0) (h : spec_l28Good.f k l0_0 a0_1 a0_2 a0_3 = some r) :
    Calls Tryz.prog 44 #[.agg #[.slice A0_0 l0_0.length c0_0, .string a0_1, .string a0_2, .int .i64 a0_3]] w fun e w' => e = .returned (.bool r) ∧ Below w.heap.size w w' := by
  have hu33 := Tryz.underlying33
  have hu31 := Tryz.underlying31
  have HR0_0 := A_ hr0_0
  have HC0_0 := A_ hc0_0
  clear hr0_0 hc0_0
  have HB := A_ (Below.refl w.heap.size w)
  have H : ((spec_l14List.f k l0_0).bind fun t178 => (if t178 = true then ((spec_l27Log.f k a0_1 a0_2 a0_3).bind fun t179 => (some t179)) else (some false))) = some r := h
  clear h
  obtain ⟨t178, A20, H⟩ := oB_ H
  have A2 := A_ A20
  clear A20
  by_cases c3 : t178 = true
  · subst c3
    rw [if_pos rfl] at H
    obtain ⟨t179, A40, H⟩ := oB_ H
    have A4 := A_ A40
    clear A40
    obtain rfl := Option.some.inj H
    go_enter Tryz.func44, Tryz.ntmps44
    go_wp2_with (first | ((with_reducible refine gd_ 1 rfl ?_); refine box_event rfl (N := 1) rfl (cs := #[.slice A0_0 l0_0.length c0_0, .string a0_1, .string a0_2, .int .i64 a0_3]) (t := 33) mc142 ?_; intro gb177 hg w5 hbox hb; have BK177 := A_ (hbox); have GW177 := A_ ((mc45 : w.heap.size ≤ gb177)); have GE177 := A_ ((mc45 : w.heap.size ≤ gb177)); replace HB := A_ (below_step mc89 hb); clear hb hbox hg; have hcz6_0 : w5.cell? ⟨gb177, 0, none⟩ = some (.slice A0_0 l0_0.length c0_0) := bc_ BK177 0 rfl; have hcz6_1 : w5.cell? ⟨gb177, 1, none⟩ = some (.string a0_1) := bc_ BK177 1 rfl; have hcz6_2 : w5.cell? ⟨gb177, 2, none⟩ = some (.string a0_2) := bc_ BK177 2 rfl; have hcz6_3 : w5.cell? ⟨gb177, 3, none⟩ = some (.int .i64 a0_3) := bc_ BK177 3 rfl; have hfz6_0 := blk_frozen BK177.out 0; have hfz6_1 := blk_frozen BK177.out 1; have hfz6_2 := blk_frozen BK177.out 2; have hfz6_3 := blk_frozen BK177.out 3) | ((with_reducible refine gc_ 78 rfl ?_); refine goesL_ (some 5) rfl rfl Tryz.func78 kr_ rfl #[.slice A0_0 l0_0.length c0_0] rfl mc86 ?_; (with_reducible refine (spec_l14List.calls k _ _ l0_0 true _ ?side1 ?side2 A2.out).mono ?_); (case side1 => exact mc42); (case side2 => exact HC0_0.out); rintro e w7 ⟨rfl, hb⟩; refine ⟨_, rfl, ?_⟩; replace BK177 := A_ (blk_below mc96 hb); replace HB := A_ (below_step mc51 hb); (try clear hb); have hcz8_0 : w7.cell? ⟨gb177, 0, none⟩ = some (.slice A0_0 l0_0.length c0_0) := bc_ BK177 0 rfl; have hcz8_1 : w7.cell? ⟨gb177, 1, none⟩ = some (.string a0_1) := bc_ BK177 1 rfl; have hcz8_2 : w7.cell? ⟨gb177, 2, none⟩ = some (.string a0_2) := bc_ BK177 2 rfl; have hcz8_3 : w7.cell? ⟨gb177, 3, none⟩ = some (.int .i64 a0_3) := bc_ BK177 3 rfl; have hfz8_0 := blk_frozen BK177.out 0; have hfz8_1 := blk_frozen BK177.out 1; have hfz8_2 := blk_frozen BK177.out 2; have hfz8_3 := blk_frozen BK177.out 3) | (go_at_call 50; (with_reducible refine (spec_l27Log.calls k a0_1 a0_2 a0_3 t179 _ A4.out).mono ?_); rintro e w9 ⟨rfl, hb⟩; replace BK177 := A_ (blk_below mc96 hb); replace HB := A_ (below_step mc51 hb); (try clear hb)))
    go_ret
    exact ⟨mc133, mc51⟩
  · replace c3 := Bool.eq_false_iff.mpr c3
    subst c3
    rw [if_neg (show ¬ (false = true) by decide)] at H
    obtain rfl := Option.some.inj H
    go_enter Tryz.func44, Tryz.ntmps44
    go_wp2_with (first | ((with_reducible refine gd_ 1 rfl ?_); refine box_event rfl (N := 1) rfl (cs := #[.slice A0_0 l0_0.length c0_0, .string a0_1, .string a0_2, .int .i64 a0_3]) (t := 33) mc142 ?_; intro gb177 hg w10 hbox hb; have BK177 := A_ (hbox); have GW177 := A_ ((mc45 : w.heap.size ≤ gb177)); have GE177 := A_ ((mc45 : w.heap.size ≤ gb177)); replace HB := A_ (below_step mc89 hb); clear hb hbox hg; have hcz11_0 : w10.cell? ⟨gb177, 0, none⟩ = some (.slice A0_0 l0_0.length c0_0) := bc_ BK177 0 rfl; have hcz11_1 : w10.cell? ⟨gb177, 1, none⟩ = some (.string a0_1) := bc_ BK177 1 rfl; have hcz11_2 : w10.cell? ⟨gb177, 2, none⟩ = some (.string a0_2) := bc_ BK177 2 rfl; have hcz11_3 : w10.cell? ⟨gb177, 3, none⟩ = some (.int .i64 a0_3) := bc_ BK177 3 rfl; have hfz11_0 := blk_frozen BK177.out 0; have hfz11_1 := blk_frozen BK177.out 1; have hfz11_2 := blk_frozen BK177.out 2; have hfz11_3 := blk_frozen BK177.out 3) | ((with_reducible refine gc_ 78 rfl ?_); refine goesL_ (some 5) rfl rfl Tryz.func78 kr_ rfl #[.slice A0_0 l0_0.length c0_0] rfl mc86 ?_; (with_reducible refine (spec_l14List.calls k _ _ l0_0 false _ ?side1 ?side2 A2.out).mono ?_); (case side1 => exact mc42); (case side2 => exact HC0_0.out); rintro e w12 ⟨rfl, hb⟩; refine ⟨_, rfl, ?_⟩; replace BK177 := A_ (blk_below mc96 hb); replace HB := A_ (below_step mc51 hb); (try clear hb)))
    go_ret
    exact ⟨mc133, mc51⟩

/-! ### spec_l17Levels: function 80 -/
def spec_l17Levels.f  : Option (List ByteArray) := some (([(⟨#[]⟩ : ByteArray), (⟨#[121, 101, 108, 108, 111, 119]⟩ : ByteArray), (⟨#[111, 114, 97, 110, 103, 101]⟩ : ByteArray), (⟨#[114, 101, 100]⟩ : ByteArray)] : List ByteArray))
set_option maxHeartbeats 8000000 in
set_option maxRecDepth 100000 in
theorem spec_l17Levels.calls  (r : List ByteArray) (w : World) (h : spec_l17Levels.f  = some r) :
    Calls Tryz.prog 80 #[] w fun e w' => ∃ v0_ : Value, e = .returned (v0_) ∧ Kd.R Kd.string 9 w' w.heap.size (fun _ => True) v0_ r ∧ Below w.heap.size w w' := by
  have HB := A_ (Below.refl w.heap.size w)
  have H : (some (([(⟨#[]⟩ : ByteArray), (⟨#[121, 101, 108, 108, 111, 119]⟩ : ByteArray), (⟨#[111, 114, 97, 110, 103, 101]⟩ : ByteArray), (⟨#[114, 101, 100]⟩ : ByteArray)] : List ByteArray))) = some r := h
  clear h
  obtain ⟨y180, hy180⟩ : ∃ y_ : List ByteArray, y_ = (([(⟨#[]⟩ : ByteArray), (⟨#[121, 101, 108, 108, 111, 119]⟩ : ByteArray), (⟨#[111, 114, 97, 110, 103, 101]⟩ : ByteArray), (⟨#[114, 101, 100]⟩ : ByteArray)] : List ByteArray)) := ⟨_, rfl⟩
  replace H : (some y180) = some r := by first | (rw [hy180]; with_reducible exact H) | (have H2_ := (Option.bind_some _ _).symm.trans H; rw [hy180]; with_reducible exact H2_) | (have H2_ := (Option.bind_some _ _).symm.trans H; with_reducible exact H2_) | with_reducible exact H | (rw [hy180]; exact H) | exact H
  have Ny180 := A_ hy180
  clear hy180
  obtain rfl := Option.some.inj H
  go_enter Tryz.func80, Tryz.ntmps80
  go_wp2_with (first | ((with_reducible refine gd_ 1 rfl ?_); refine Kd.R_lit Kd.string _ 9 ?hg (N := 1) ?hd (xs := ([(⟨#[]⟩ : ByteArray), (⟨#[121, 101, 108, 108, 111, 119]⟩ : ByteArray), (⟨#[111, 114, 97, 110, 103, 101]⟩ : ByteArray), (⟨#[114, 101, 100]⟩ : ByteArray)] : List ByteArray)) (inner := [.string (⟨#[]⟩ : ByteArray), .string (⟨#[121, 101, 108, 108, 111, 119]⟩ : ByteArray), .string (⟨#[111, 114, 97, 110, 103, 101]⟩ : ByteArray), .string (⟨#[114, 101, 100]⟩ : ByteArray)]) (ok := fun _ => True) (okp := fun _ => True) ?hr ?hp (fun _ hk => hk) trivial (Below.refl _ _) (Nat.le_refl _) (by simp) ?_; (case hd => rfl); (case hg => rfl); (case hr => exact mc142); (case hp => exact (Reps.one (show Kd.M Kd.string _ _ _ (⟨#[]⟩ : ByteArray) [.string (⟨#[]⟩ : ByteArray)] from rfl) (Reps.one (show Kd.M Kd.string _ _ _ (⟨#[121, 101, 108, 108, 111, 119]⟩ : ByteArray) [.string (⟨#[121, 101, 108, 108, 111, 119]⟩ : ByteArray)] from rfl) (Reps.one (show Kd.M Kd.string _ _ _ (⟨#[111, 114, 97, 110, 103, 101]⟩ : ByteArray) [.string (⟨#[111, 114, 97, 110, 103, 101]⟩ : ByteArray)] from rfl) (Reps.one (show Kd.M Kd.string _ _ _ (⟨#[114, 101, 100]⟩ : ByteArray) [.string (⟨#[114, 101, 100]⟩ : ByteArray)] from rfl) (Reps.none _ _)))))); intro v181 w1 ho2 hb hg_ hnew_; clear hg_ hnew_; (first | rw [← Ny180.out] at ho2 | (simp only [Int.reduceToNat] at ho2; rw [← Ny180.out] at ho2)); have HO182 := A_ (Kd.R_lower ho2 (below_size mc89)); replace HB := A_ (below_step mc89 hb); clear hb ho2))
  go_ret
  exact ⟨_, mc133, by (with_reducible repeat (first | apply Kd.R_alloc | apply Kd.R_drewN | apply Kd.R_drew)); exact HO182.out, mc89⟩

/-! ### spec_l17Topics: function 81 -/
def spec_l17Topics.f  : Option (List ByteArray) := some (([(⟨#[]⟩ : ByteArray), (⟨#[119, 105, 110, 100]⟩ : ByteArray), (⟨#[114, 97, 105, 110]⟩ : ByteArray), (⟨#[115, 110, 111, 119]⟩ : ByteArray), (⟨#[104, 101, 97, 116]⟩ : ByteArray), (⟨#[115, 116, 111, 114, 109]⟩ : ByteArray)] : List ByteArray))
set_option maxHeartbeats 8000000 in
set_option maxRecDepth 100000 in
theorem spec_l17Topics.calls  (r : List ByteArray) (w : World) (h : spec_l17Topics.f  = some r) :
    Calls Tryz.prog 81 #[] w fun e w' => ∃ v0_ : Value, e = .returned (v0_) ∧ Kd.R Kd.string 9 w' w.heap.size (fun _ => True) v0_ r ∧ Below w.heap.size w w' := by
  have HB := A_ (Below.refl w.heap.size w)
  have H : (some (([(⟨#[]⟩ : ByteArray), (⟨#[119, 105, 110, 100]⟩ : ByteArray), (⟨#[114, 97, 105, 110]⟩ : ByteArray), (⟨#[115, 110, 111, 119]⟩ : ByteArray), (⟨#[104, 101, 97, 116]⟩ : ByteArray), (⟨#[115, 116, 111, 114, 109]⟩ : ByteArray)] : List ByteArray))) = some r := h
  clear h
  obtain ⟨y183, hy183⟩ : ∃ y_ : List ByteArray, y_ = (([(⟨#[]⟩ : ByteArray), (⟨#[119, 105, 110, 100]⟩ : ByteArray), (⟨#[114, 97, 105, 110]⟩ : ByteArray), (⟨#[115, 110, 111, 119]⟩ : ByteArray), (⟨#[104, 101, 97, 116]⟩ : ByteArray), (⟨#[115, 116, 111, 114, 109]⟩ : ByteArray)] : List ByteArray)) := ⟨_, rfl⟩
  replace H : (some y183) = some r := by first | (rw [hy183]; with_reducible exact H) | (have H2_ := (Option.bind_some _ _).symm.trans H; rw [hy183]; with_reducible exact H2_) | (have H2_ := (Option.bind_some _ _).symm.trans H; with_reducible exact H2_) | with_reducible exact H | (rw [hy183]; exact H) | exact H
  have Ny183 := A_ hy183
  clear hy183
  obtain rfl := Option.some.inj H
  go_enter Tryz.func81, Tryz.ntmps81
  go_wp2_with (first | ((with_reducible refine gd_ 1 rfl ?_); refine Kd.R_lit Kd.string _ 9 ?hg (N := 1) ?hd (xs := ([(⟨#[]⟩ : ByteArray), (⟨#[119, 105, 110, 100]⟩ : ByteArray), (⟨#[114, 97, 105, 110]⟩ : ByteArray), (⟨#[115, 110, 111, 119]⟩ : ByteArray), (⟨#[104, 101, 97, 116]⟩ : ByteArray), (⟨#[115, 116, 111, 114, 109]⟩ : ByteArray)] : List ByteArray)) (inner := [.string (⟨#[]⟩ : ByteArray), .string (⟨#[119, 105, 110, 100]⟩ : ByteArray), .string (⟨#[114, 97, 105, 110]⟩ : ByteArray), .string (⟨#[115, 110, 111, 119]⟩ : ByteArray), .string (⟨#[104, 101, 97, 116]⟩ : ByteArray), .string (⟨#[115, 116, 111, 114, 109]⟩ : ByteArray)]) (ok := fun _ => True) (okp := fun _ => True) ?hr ?hp (fun _ hk => hk) trivial (Below.refl _ _) (Nat.le_refl _) (by simp) ?_; (case hd => rfl); (case hg => rfl); (case hr => exact mc142); (case hp => exact (Reps.one (show Kd.M Kd.string _ _ _ (⟨#[]⟩ : ByteArray) [.string (⟨#[]⟩ : ByteArray)] from rfl) (Reps.one (show Kd.M Kd.string _ _ _ (⟨#[119, 105, 110, 100]⟩ : ByteArray) [.string (⟨#[119, 105, 110, 100]⟩ : ByteArray)] from rfl) (Reps.one (show Kd.M Kd.string _ _ _ (⟨#[114, 97, 105, 110]⟩ : ByteArray) [.string (⟨#[114, 97, 105, 110]⟩ : ByteArray)] from rfl) (Reps.one (show Kd.M Kd.string _ _ _ (⟨#[115, 110, 111, 119]⟩ : ByteArray) [.string (⟨#[115, 110, 111, 119]⟩ : ByteArray)] from rfl) (Reps.one (show Kd.M Kd.string _ _ _ (⟨#[104, 101, 97, 116]⟩ : ByteArray) [.string (⟨#[104, 101, 97, 116]⟩ : ByteArray)] from rfl) (Reps.one (show Kd.M Kd.string _ _ _ (⟨#[115, 116, 111, 114, 109]⟩ : ByteArray) [.string (⟨#[115, 116, 111, 114, 109]⟩ : ByteArray)] from rfl) (Reps.none _ _)))))))); intro v184 w1 ho2 hb hg_ hnew_; clear hg_ hnew_; (first | rw [← Ny183.out] at ho2 | (simp only [Int.reduceToNat] at ho2; rw [← Ny183.out] at ho2)); have HO185 := A_ (Kd.R_lower ho2 (below_size mc89)); replace HB := A_ (below_step mc89 hb); clear hb ho2))
  go_ret
  exact ⟨_, mc133, by (with_reducible repeat (first | apply Kd.R_alloc | apply Kd.R_drewN | apply Kd.R_drew)); exact HO185.out, mc89⟩

end Go.Proofs.YtlnlabndaikbnaaGreatDoor.P
