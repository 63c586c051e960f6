-- Made by pp.py of this session out of the kit's print and of contracts proved by hand; Lean checks it.
import Derived.Test.YthhjhbndnipdgaaPx0
import Derived.Test.YthhjhbndnipdgaaPx31
import Derived.Test.YthhjhbndnipdgaaPx32
import Derived.Test.YthhjhbndnipdgaaPx33
import Derived.Test.YthhjhbndnipdgaaPx46
namespace Go.Proofs.Ythhjhbndnipdgaa.P
open Go.RowKit Go.Proofs.YthhjhbndnipdgaaW.PrintWords Go.Proofs.YthhjhbndnipdgaaW.PrintLast Go.Proofs.YthhjhbndnipdgaaW.PrintMore
attribute [local go_sem] max2_int min2_int max_two min_two max_three min_three max_four min_four   -- for this text's walks alone
set_option linter.unusedVariables false
set_option linter.unusedSimpArgs false

/-! ### spec_DrawUncoveredHours: function 47 -/
def spec_DrawUncoveredHours.f (k : Nat) (l0 : List Int) : Option ((List (S44)) × Int × Int × Int) := (mk_l1Cur.f l0).bind fun bt878 => ((spec_l1Cur_plan25.f k bt878.1 bt878.2.1 bt878.2.2).bind fun bt882 => ((some (([0, 5, 30, 240, (-1)] : List Int) : List Int)).bind fun y887 => ((spec_l1Cur_pick.f bt878.1 bt882.2.1 bt882.2.2 12).bind fun bt890 => (if 0 ≤ (wrap64 (4 + (wrap64 (Int.tdiv bt890.1 11)))) then (if (wrap64 (4 + (wrap64 (Int.tdiv bt890.1 11)))) ≤ (y887.length : Int) then ((spec_l1Cur_among.f bt878.1 bt890.2.1 bt890.2.2 (y887.take ((wrap64 (4 + (wrap64 (Int.tdiv bt890.1 11)))) : Int).toNat)).bind fun bt897 => ((some (([bt897.1, wrap64 (bt897.1 + 10), 48, 240, 241, 3] : List Int) : List Int)).bind fun y900 => ((spec_l1Cur_pick.f bt878.1 bt897.2.1 bt897.2.2 24).bind fun bt903 => (if 0 ≤ (wrap64 (4 + (wrap64 (Int.tdiv bt903.1 11)))) then (if (wrap64 (4 + (wrap64 (Int.tdiv bt903.1 11)))) ≤ (y900.length : Int) then ((spec_l1Cur_among.f bt878.1 bt903.2.1 bt903.2.2 (y900.take ((wrap64 (4 + (wrap64 (Int.tdiv bt903.1 11)))) : Int).toNat)).bind fun bt910 => ((some (([1, 2, 3, 8, 0, 9] : List Int) : List Int)).bind fun y913 => ((spec_l1Cur_pick.f bt878.1 bt910.2.1 bt910.2.2 24).bind fun bt916 => (if 0 ≤ (wrap64 (4 + (wrap64 (Int.tdiv bt916.1 11)))) then (if (wrap64 (4 + (wrap64 (Int.tdiv bt916.1 11)))) ≤ (y913.length : Int) then ((spec_l1Cur_among.f bt878.1 bt916.2.1 bt916.2.2 (y913.take ((wrap64 (4 + (wrap64 (Int.tdiv bt916.1 11)))) : Int).toNat)).bind fun bt923 => (some (bt882.1, bt897.1, bt910.1, bt923.1))) else (none)) else (none))))) else (none)) else (none))))) else (none)) else (none)))))
set_option maxHeartbeats 8000000 in
set_option maxRecDepth 100000 in
theorem spec_DrawUncoveredHours.calls (k : Nat) (A0 : Option Addr) (c0 : Nat) (l0 : List Int) (r1 : List (S44)) (r2 : Int) (r3 : Int) (r4 : Int) (w : World) (hr0 : Kd.C (Kd.int .u8) w A0 l0.length l0) (hc0 : l0.length ≤ c0) (h : spec_DrawUncoveredHours.f k l0 = some (r1, r2, r3, r4)) :
  Calls Try.prog 47 #[.slice A0 l0.length c0] w fun e w' => ∃ v0_ : Value, e = .returned (.tuple #[v0_, .int .i64 r2, .int .i64 r3, .int .i64 r4]) ∧ Kd.R k44 44 w' w.heap.size (fun _ => True) v0_ r1 ∧ Below w.heap.size w w' := by
 have HR0 := Aside0.mk hr0
 have HC0 := Aside0.mk hc0
 clear hr0 hc0
 have HB := Aside0.mk (Below.refl w.heap.size w)
 have H : ((mk_l1Cur.f l0).bind fun bt878 => ((spec_l1Cur_plan25.f k bt878.1 bt878.2.1 bt878.2.2).bind fun bt882 => ((some (([0, 5, 30, 240, (-1)] : List Int) : List Int)).bind fun y887 => ((spec_l1Cur_pick.f bt878.1 bt882.2.1 bt882.2.2 12).bind fun bt890 => (if 0 ≤ (wrap64 (4 + (wrap64 (Int.tdiv bt890.1 11)))) then (if (wrap64 (4 + (wrap64 (Int.tdiv bt890.1 11)))) ≤ (y887.length : Int) then ((spec_l1Cur_among.f bt878.1 bt890.2.1 bt890.2.2 (y887.take ((wrap64 (4 + (wrap64 (Int.tdiv bt890.1 11)))) : Int).toNat)).bind fun bt897 => ((some (([bt897.1, wrap64 (bt897.1 + 10), 48, 240, 241, 3] : List Int) : List Int)).bind fun y900 => ((spec_l1Cur_pick.f bt878.1 bt897.2.1 bt897.2.2 24).bind fun bt903 => (if 0 ≤ (wrap64 (4 + (wrap64 (Int.tdiv bt903.1 11)))) then (if (wrap64 (4 + (wrap64 (Int.tdiv bt903.1 11)))) ≤ (y900.length : Int) then ((spec_l1Cur_among.f bt878.1 bt903.2.1 bt903.2.2 (y900.take ((wrap64 (4 + (wrap64 (Int.tdiv bt903.1 11)))) : Int).toNat)).bind fun bt910 => ((some (([1, 2, 3, 8, 0, 9] : List Int) : List Int)).bind fun y913 => ((spec_l1Cur_pick.f bt878.1 bt910.2.1 bt910.2.2 24).bind fun bt916 => (if 0 ≤ (wrap64 (4 + (wrap64 (Int.tdiv bt916.1 11)))) then (if (wrap64 (4 + (wrap64 (Int.tdiv bt916.1 11)))) ≤ (y913.length : Int) then ((spec_l1Cur_among.f bt878.1 bt916.2.1 bt916.2.2 (y913.take ((wrap64 (4 + (wrap64 (Int.tdiv bt916.1 11)))) : Int).toNat)).bind fun bt923 => (some (bt882.1, bt897.1, bt910.1, bt923.1))) else (none)) else (none))))) else (none)) else (none))))) else (none)) else (none)))))) = some (r1, r2, r3, r4) := h
 clear h
 replace H := Option.bind_eq_some_iff.mp H
 obtain ⟨⟨t878, t879, t880⟩, A20, H⟩ := H
 replace H : ((spec_l1Cur_plan25.f k t878 t879 t880).bind fun bt882 => ((some (([0, 5, 30, 240, (-1)] : List Int) : List Int)).bind fun y887 => ((spec_l1Cur_pick.f t878 bt882.2.1 bt882.2.2 12).bind fun bt890 => (if 0 ≤ (wrap64 (4 + (wrap64 (Int.tdiv bt890.1 11)))) then (if (wrap64 (4 + (wrap64 (Int.tdiv bt890.1 11)))) ≤ (y887.length : Int) then ((spec_l1Cur_among.f t878 bt890.2.1 bt890.2.2 (y887.take ((wrap64 (4 + (wrap64 (Int.tdiv bt890.1 11)))) : Int).toNat)).bind fun bt897 => ((some (([bt897.1, wrap64 (bt897.1 + 10), 48, 240, 241, 3] : List Int) : List Int)).bind fun y900 => ((spec_l1Cur_pick.f t878 bt897.2.1 bt897.2.2 24).bind fun bt903 => (if 0 ≤ (wrap64 (4 + (wrap64 (Int.tdiv bt903.1 11)))) then (if (wrap64 (4 + (wrap64 (Int.tdiv bt903.1 11)))) ≤ (y900.length : Int) then ((spec_l1Cur_among.f t878 bt903.2.1 bt903.2.2 (y900.take ((wrap64 (4 + (wrap64 (Int.tdiv bt903.1 11)))) : Int).toNat)).bind fun bt910 => ((some (([1, 2, 3, 8, 0, 9] : List Int) : List Int)).bind fun y913 => ((spec_l1Cur_pick.f t878 bt910.2.1 bt910.2.2 24).bind fun bt916 => (if 0 ≤ (wrap64 (4 + (wrap64 (Int.tdiv bt916.1 11)))) then (if (wrap64 (4 + (wrap64 (Int.tdiv bt916.1 11)))) ≤ (y913.length : Int) then ((spec_l1Cur_among.f t878 bt916.2.1 bt916.2.2 (y913.take ((wrap64 (4 + (wrap64 (Int.tdiv bt916.1 11)))) : Int).toNat)).bind fun bt923 => (some (bt882.1, bt897.1, bt910.1, bt923.1))) else (none)) else (none))))) else (none)) else (none))))) else (none)) else (none))))) = some (r1, r2, r3, r4) := H
 have A2 := Aside0.mk A20
 clear A20
 replace H := Option.bind_eq_some_iff.mp H
 obtain ⟨⟨t882, t885, t886⟩, A30, H⟩ := H
 replace H : ((some (([0, 5, 30, 240, (-1)] : List Int) : List Int)).bind fun y887 => ((spec_l1Cur_pick.f t878 t885 t886 12).bind fun bt890 => (if 0 ≤ (wrap64 (4 + (wrap64 (Int.tdiv bt890.1 11)))) then (if (wrap64 (4 + (wrap64 (Int.tdiv bt890.1 11)))) ≤ (y887.length : Int) then ((spec_l1Cur_among.f t878 bt890.2.1 bt890.2.2 (y887.take ((wrap64 (4 + (wrap64 (Int.tdiv bt890.1 11)))) : Int).toNat)).bind fun bt897 => ((some (([bt897.1, wrap64 (bt897.1 + 10), 48, 240, 241, 3] : List Int) : List Int)).bind fun y900 => ((spec_l1Cur_pick.f t878 bt897.2.1 bt897.2.2 24).bind fun bt903 => (if 0 ≤ (wrap64 (4 + (wrap64 (Int.tdiv bt903.1 11)))) then (if (wrap64 (4 + (wrap64 (Int.tdiv bt903.1 11)))) ≤ (y900.length : Int) then ((spec_l1Cur_among.f t878 bt903.2.1 bt903.2.2 (y900.take ((wrap64 (4 + (wrap64 (Int.tdiv bt903.1 11)))) : Int).toNat)).bind fun bt910 => ((some (([1, 2, 3, 8, 0, 9] : List Int) : List Int)).bind fun y913 => ((spec_l1Cur_pick.f t878 bt910.2.1 bt910.2.2 24).bind fun bt916 => (if 0 ≤ (wrap64 (4 + (wrap64 (Int.tdiv bt916.1 11)))) then (if (wrap64 (4 + (wrap64 (Int.tdiv bt916.1 11)))) ≤ (y913.length : Int) then ((spec_l1Cur_among.f t878 bt916.2.1 bt916.2.2 (y913.take ((wrap64 (4 + (wrap64 (Int.tdiv bt916.1 11)))) : Int).toNat)).bind fun bt923 => (some (t882, bt897.1, bt910.1, bt923.1))) else (none)) else (none))))) else (none)) else (none))))) else (none)) else (none)))) = some (r1, r2, r3, r4) := H
 have A3 := Aside0.mk A30
 clear A30
 obtain ⟨y887, hy887⟩ : ∃ y_ : List Int, y_ = (([0, 5, 30, 240, (-1)] : List Int)) := ⟨_, rfl⟩
 replace H : ((spec_l1Cur_pick.f t878 t885 t886 12).bind fun bt890 => (if 0 ≤ (wrap64 (4 + (wrap64 (Int.tdiv bt890.1 11)))) then (if (wrap64 (4 + (wrap64 (Int.tdiv bt890.1 11)))) ≤ (y887.length : Int) then ((spec_l1Cur_among.f t878 bt890.2.1 bt890.2.2 (y887.take ((wrap64 (4 + (wrap64 (Int.tdiv bt890.1 11)))) : Int).toNat)).bind fun bt897 => ((some (([bt897.1, wrap64 (bt897.1 + 10), 48, 240, 241, 3] : List Int) : List Int)).bind fun y900 => ((spec_l1Cur_pick.f t878 bt897.2.1 bt897.2.2 24).bind fun bt903 => (if 0 ≤ (wrap64 (4 + (wrap64 (Int.tdiv bt903.1 11)))) then (if (wrap64 (4 + (wrap64 (Int.tdiv bt903.1 11)))) ≤ (y900.length : Int) then ((spec_l1Cur_among.f t878 bt903.2.1 bt903.2.2 (y900.take ((wrap64 (4 + (wrap64 (Int.tdiv bt903.1 11)))) : Int).toNat)).bind fun bt910 => ((some (([1, 2, 3, 8, 0, 9] : List Int) : List Int)).bind fun y913 => ((spec_l1Cur_pick.f t878 bt910.2.1 bt910.2.2 24).bind fun bt916 => (if 0 ≤ (wrap64 (4 + (wrap64 (Int.tdiv bt916.1 11)))) then (if (wrap64 (4 + (wrap64 (Int.tdiv bt916.1 11)))) ≤ (y913.length : Int) then ((spec_l1Cur_among.f t878 bt916.2.1 bt916.2.2 (y913.take ((wrap64 (4 + (wrap64 (Int.tdiv bt916.1 11)))) : Int).toNat)).bind fun bt923 => (some (t882, bt897.1, bt910.1, bt923.1))) else (none)) else (none))))) else (none)) else (none))))) else (none)) else (none))) = some (r1, r2, r3, r4) := by first | (rw [hy887]; with_reducible exact H) | (have H2_ := (Option.bind_some _ _).symm.trans H; rw [hy887]; with_reducible exact H2_) | (have H2_ := (Option.bind_some _ _).symm.trans H; with_reducible exact H2_) | with_reducible exact H | (rw [hy887]; exact H) | exact H
 have Ny887 := Aside0.mk hy887
 clear hy887
 replace H := Option.bind_eq_some_iff.mp H
 obtain ⟨⟨t890, t891, t892⟩, A40, H⟩ := H
 replace H : (if 0 ≤ (wrap64 (4 + (wrap64 (Int.tdiv t890 11)))) then (if (wrap64 (4 + (wrap64 (Int.tdiv t890 11)))) ≤ (y887.length : Int) then ((spec_l1Cur_among.f t878 t891 t892 (y887.take ((wrap64 (4 + (wrap64 (Int.tdiv t890 11)))) : Int).toNat)).bind fun bt897 => ((some (([bt897.1, wrap64 (bt897.1 + 10), 48, 240, 241, 3] : List Int) : List Int)).bind fun y900 => ((spec_l1Cur_pick.f t878 bt897.2.1 bt897.2.2 24).bind fun bt903 => (if 0 ≤ (wrap64 (4 + (wrap64 (Int.tdiv bt903.1 11)))) then (if (wrap64 (4 + (wrap64 (Int.tdiv bt903.1 11)))) ≤ (y900.length : Int) then ((spec_l1Cur_among.f t878 bt903.2.1 bt903.2.2 (y900.take ((wrap64 (4 + (wrap64 (Int.tdiv bt903.1 11)))) : Int).toNat)).bind fun bt910 => ((some (([1, 2, 3, 8, 0, 9] : List Int) : List Int)).bind fun y913 => ((spec_l1Cur_pick.f t878 bt910.2.1 bt910.2.2 24).bind fun bt916 => (if 0 ≤ (wrap64 (4 + (wrap64 (Int.tdiv bt916.1 11)))) then (if (wrap64 (4 + (wrap64 (Int.tdiv bt916.1 11)))) ≤ (y913.length : Int) then ((spec_l1Cur_among.f t878 bt916.2.1 bt916.2.2 (y913.take ((wrap64 (4 + (wrap64 (Int.tdiv bt916.1 11)))) : Int).toNat)).bind fun bt923 => (some (t882, bt897.1, bt910.1, bt923.1))) else (none)) else (none))))) else (none)) else (none))))) else (none)) else (none)) = some (r1, r2, r3, r4) := H
 have A4 := Aside0.mk A40
 clear A40
 obtain ⟨ji5, hji5⟩ : ∃ j_ : Int, (wrap64 (4 + (wrap64 (Int.tdiv t890 11)))) = j_ := ⟨_, rfl⟩
 replace H : (if 0 ≤ (ji5) then (if (ji5) ≤ (y887.length : Int) then ((spec_l1Cur_among.f t878 t891 t892 (y887.take ((ji5) : Int).toNat)).bind fun bt897 => ((some (([bt897.1, wrap64 (bt897.1 + 10), 48, 240, 241, 3] : List Int) : List Int)).bind fun y900 => ((spec_l1Cur_pick.f t878 bt897.2.1 bt897.2.2 24).bind fun bt903 => (if 0 ≤ (wrap64 (4 + (wrap64 (Int.tdiv bt903.1 11)))) then (if (wrap64 (4 + (wrap64 (Int.tdiv bt903.1 11)))) ≤ (y900.length : Int) then ((spec_l1Cur_among.f t878 bt903.2.1 bt903.2.2 (y900.take ((wrap64 (4 + (wrap64 (Int.tdiv bt903.1 11)))) : Int).toNat)).bind fun bt910 => ((some (([1, 2, 3, 8, 0, 9] : List Int) : List Int)).bind fun y913 => ((spec_l1Cur_pick.f t878 bt910.2.1 bt910.2.2 24).bind fun bt916 => (if 0 ≤ (wrap64 (4 + (wrap64 (Int.tdiv bt916.1 11)))) then (if (wrap64 (4 + (wrap64 (Int.tdiv bt916.1 11)))) ≤ (y913.length : Int) then ((spec_l1Cur_among.f t878 bt916.2.1 bt916.2.2 (y913.take ((wrap64 (4 + (wrap64 (Int.tdiv bt916.1 11)))) : Int).toNat)).bind fun bt923 => (some (t882, bt897.1, bt910.1, bt923.1))) else (none)) else (none))))) else (none)) else (none))))) else (none)) else (none)) = some (r1, r2, r3, r4) := by first | (rw [hji5] at H; exact H) | (simp only [hji5] at H ⊢; exact H)
 (try rw [hji5] at A2)
 (try rw [hji5] at A3)
 (try rw [hji5] at A4)
 have hji5w : (IntKind.i64.wrap (4 + (wrap64 (Int.tdiv t890 11)))) = ji5 := (i64_w _).trans hji5
 by_cases c6 : 0 ≤ (ji5)
 rotate_left
 ·
  rw [if_neg c6] at H
  exact absurd H (by simp)
 rw [if_pos c6] at H
 have c6b0 := eq_true c6
 have c6b1 : decide (0 ≤ (ji5)) = true := decide_eq_true c6
 clear c6
 by_cases c7 : (ji5) ≤ (y887.length : Int)
 rotate_left
 ·
  rw [if_neg c7] at H
  exact absurd H (by simp)
 rw [if_pos c7] at H
 have c7b0 := eq_true c7
 have c7b1 : decide ((ji5) ≤ (y887.length : Int)) = true := decide_eq_true c7
 clear c7
 obtain ⟨y893, hy893⟩ : ∃ y_ : List Int, y_ = (y887.take ((ji5) : Int).toNat) := ⟨_, rfl⟩
 replace H : ((spec_l1Cur_among.f t878 t891 t892 y893).bind fun bt897 => ((some (([bt897.1, wrap64 (bt897.1 + 10), 48, 240, 241, 3] : List Int) : List Int)).bind fun y900 => ((spec_l1Cur_pick.f t878 bt897.2.1 bt897.2.2 24).bind fun bt903 => (if 0 ≤ (wrap64 (4 + (wrap64 (Int.tdiv bt903.1 11)))) then (if (wrap64 (4 + (wrap64 (Int.tdiv bt903.1 11)))) ≤ (y900.length : Int) then ((spec_l1Cur_among.f t878 bt903.2.1 bt903.2.2 (y900.take ((wrap64 (4 + (wrap64 (Int.tdiv bt903.1 11)))) : Int).toNat)).bind fun bt910 => ((some (([1, 2, 3, 8, 0, 9] : List Int) : List Int)).bind fun y913 => ((spec_l1Cur_pick.f t878 bt910.2.1 bt910.2.2 24).bind fun bt916 => (if 0 ≤ (wrap64 (4 + (wrap64 (Int.tdiv bt916.1 11)))) then (if (wrap64 (4 + (wrap64 (Int.tdiv bt916.1 11)))) ≤ (y913.length : Int) then ((spec_l1Cur_among.f t878 bt916.2.1 bt916.2.2 (y913.take ((wrap64 (4 + (wrap64 (Int.tdiv bt916.1 11)))) : Int).toNat)).bind fun bt923 => (some (t882, bt897.1, bt910.1, bt923.1))) else (none)) else (none))))) else (none)) else (none))))) = some (r1, r2, r3, r4) := by first | (rw [hy893]; with_reducible exact H) | (have H2_ := (Option.bind_some _ _).symm.trans H; rw [hy893]; with_reducible exact H2_) | (have H2_ := (Option.bind_some _ _).symm.trans H; with_reducible exact H2_) | with_reducible exact H | (rw [hy893]; exact H) | exact H
 have Ny893 := Aside0.mk hy893
 clear hy893
 replace H := Option.bind_eq_some_iff.mp H
 obtain ⟨⟨t897, t898, t899⟩, A80, H⟩ := H
 replace H : ((some (([t897, wrap64 (t897 + 10), 48, 240, 241, 3] : List Int) : List Int)).bind fun y900 => ((spec_l1Cur_pick.f t878 t898 t899 24).bind fun bt903 => (if 0 ≤ (wrap64 (4 + (wrap64 (Int.tdiv bt903.1 11)))) then (if (wrap64 (4 + (wrap64 (Int.tdiv bt903.1 11)))) ≤ (y900.length : Int) then ((spec_l1Cur_among.f t878 bt903.2.1 bt903.2.2 (y900.take ((wrap64 (4 + (wrap64 (Int.tdiv bt903.1 11)))) : Int).toNat)).bind fun bt910 => ((some (([1, 2, 3, 8, 0, 9] : List Int) : List Int)).bind fun y913 => ((spec_l1Cur_pick.f t878 bt910.2.1 bt910.2.2 24).bind fun bt916 => (if 0 ≤ (wrap64 (4 + (wrap64 (Int.tdiv bt916.1 11)))) then (if (wrap64 (4 + (wrap64 (Int.tdiv bt916.1 11)))) ≤ (y913.length : Int) then ((spec_l1Cur_among.f t878 bt916.2.1 bt916.2.2 (y913.take ((wrap64 (4 + (wrap64 (Int.tdiv bt916.1 11)))) : Int).toNat)).bind fun bt923 => (some (t882, t897, bt910.1, bt923.1))) else (none)) else (none))))) else (none)) else (none)))) = some (r1, r2, r3, r4) := H
 have A8 := Aside0.mk A80
 clear A80
 obtain ⟨y900, hy900⟩ : ∃ y_ : List Int, y_ = (([t897, wrap64 (t897 + 10), 48, 240, 241, 3] : List Int)) := ⟨_, rfl⟩
 replace H : ((spec_l1Cur_pick.f t878 t898 t899 24).bind fun bt903 => (if 0 ≤ (wrap64 (4 + (wrap64 (Int.tdiv bt903.1 11)))) then (if (wrap64 (4 + (wrap64 (Int.tdiv bt903.1 11)))) ≤ (y900.length : Int) then ((spec_l1Cur_among.f t878 bt903.2.1 bt903.2.2 (y900.take ((wrap64 (4 + (wrap64 (Int.tdiv bt903.1 11)))) : Int).toNat)).bind fun bt910 => ((some (([1, 2, 3, 8, 0, 9] : List Int) : List Int)).bind fun y913 => ((spec_l1Cur_pick.f t878 bt910.2.1 bt910.2.2 24).bind fun bt916 => (if 0 ≤ (wrap64 (4 + (wrap64 (Int.tdiv bt916.1 11)))) then (if (wrap64 (4 + (wrap64 (Int.tdiv bt916.1 11)))) ≤ (y913.length : Int) then ((spec_l1Cur_among.f t878 bt916.2.1 bt916.2.2 (y913.take ((wrap64 (4 + (wrap64 (Int.tdiv bt916.1 11)))) : Int).toNat)).bind fun bt923 => (some (t882, t897, bt910.1, bt923.1))) else (none)) else (none))))) else (none)) else (none))) = some (r1, r2, r3, r4) := by first | (rw [hy900]; with_reducible exact H) | (have H2_ := (Option.bind_some _ _).symm.trans H; rw [hy900]; with_reducible exact H2_) | (have H2_ := (Option.bind_some _ _).symm.trans H; with_reducible exact H2_) | with_reducible exact H | (rw [hy900]; exact H) | exact H
 have Ny900 := Aside0.mk hy900
 clear hy900
 replace H := Option.bind_eq_some_iff.mp H
 obtain ⟨⟨t903, t904, t905⟩, A90, H⟩ := H
 replace H : (if 0 ≤ (wrap64 (4 + (wrap64 (Int.tdiv t903 11)))) then (if (wrap64 (4 + (wrap64 (Int.tdiv t903 11)))) ≤ (y900.length : Int) then ((spec_l1Cur_among.f t878 t904 t905 (y900.take ((wrap64 (4 + (wrap64 (Int.tdiv t903 11)))) : Int).toNat)).bind fun bt910 => ((some (([1, 2, 3, 8, 0, 9] : List Int) : List Int)).bind fun y913 => ((spec_l1Cur_pick.f t878 bt910.2.1 bt910.2.2 24).bind fun bt916 => (if 0 ≤ (wrap64 (4 + (wrap64 (Int.tdiv bt916.1 11)))) then (if (wrap64 (4 + (wrap64 (Int.tdiv bt916.1 11)))) ≤ (y913.length : Int) then ((spec_l1Cur_among.f t878 bt916.2.1 bt916.2.2 (y913.take ((wrap64 (4 + (wrap64 (Int.tdiv bt916.1 11)))) : Int).toNat)).bind fun bt923 => (some (t882, t897, bt910.1, bt923.1))) else (none)) else (none))))) else (none)) else (none)) = some (r1, r2, r3, r4) := H
 have A9 := Aside0.mk A90
 clear A90
 obtain ⟨ji10, hji10⟩ : ∃ j_ : Int, (wrap64 (4 + (wrap64 (Int.tdiv t903 11)))) = j_ := ⟨_, rfl⟩
 replace H : (if 0 ≤ (ji10) then (if (ji10) ≤ (y900.length : Int) then ((spec_l1Cur_among.f t878 t904 t905 (y900.take ((ji10) : Int).toNat)).bind fun bt910 => ((some (([1, 2, 3, 8, 0, 9] : List Int) : List Int)).bind fun y913 => ((spec_l1Cur_pick.f t878 bt910.2.1 bt910.2.2 24).bind fun bt916 => (if 0 ≤ (wrap64 (4 + (wrap64 (Int.tdiv bt916.1 11)))) then (if (wrap64 (4 + (wrap64 (Int.tdiv bt916.1 11)))) ≤ (y913.length : Int) then ((spec_l1Cur_among.f t878 bt916.2.1 bt916.2.2 (y913.take ((wrap64 (4 + (wrap64 (Int.tdiv bt916.1 11)))) : Int).toNat)).bind fun bt923 => (some (t882, t897, bt910.1, bt923.1))) else (none)) else (none))))) else (none)) else (none)) = some (r1, r2, r3, r4) := by first | (rw [hji10] at H; exact H) | (simp only [hji10] at H ⊢; exact H)
 (try rw [hji10] at A2)
 (try rw [hji10] at A3)
 (try rw [hji10] at A4)
 (try rw [hji10] at A8)
 (try rw [hji10] at A9)
 have hji10w : (IntKind.i64.wrap (4 + (wrap64 (Int.tdiv t903 11)))) = ji10 := (i64_w _).trans hji10
 by_cases c11 : 0 ≤ (ji10)
 rotate_left
 ·
  rw [if_neg c11] at H
  exact absurd H (by simp)
 rw [if_pos c11] at H
 have c11b0 := eq_true c11
 have c11b1 : decide (0 ≤ (ji10)) = true := decide_eq_true c11
 clear c11
 by_cases c12 : (ji10) ≤ (y900.length : Int)
 rotate_left
 ·
  rw [if_neg c12] at H
  exact absurd H (by simp)
 rw [if_pos c12] at H
 have c12b0 := eq_true c12
 have c12b1 : decide ((ji10) ≤ (y900.length : Int)) = true := decide_eq_true c12
 clear c12
 obtain ⟨y906, hy906⟩ : ∃ y_ : List Int, y_ = (y900.take ((ji10) : Int).toNat) := ⟨_, rfl⟩
 replace H : ((spec_l1Cur_among.f t878 t904 t905 y906).bind fun bt910 => ((some (([1, 2, 3, 8, 0, 9] : List Int) : List Int)).bind fun y913 => ((spec_l1Cur_pick.f t878 bt910.2.1 bt910.2.2 24).bind fun bt916 => (if 0 ≤ (wrap64 (4 + (wrap64 (Int.tdiv bt916.1 11)))) then (if (wrap64 (4 + (wrap64 (Int.tdiv bt916.1 11)))) ≤ (y913.length : Int) then ((spec_l1Cur_among.f t878 bt916.2.1 bt916.2.2 (y913.take ((wrap64 (4 + (wrap64 (Int.tdiv bt916.1 11)))) : Int).toNat)).bind fun bt923 => (some (t882, t897, bt910.1, bt923.1))) else (none)) else (none))))) = some (r1, r2, r3, r4) := by first | (rw [hy906]; with_reducible exact H) | (have H2_ := (Option.bind_some _ _).symm.trans H; rw [hy906]; with_reducible exact H2_) | (have H2_ := (Option.bind_some _ _).symm.trans H; with_reducible exact H2_) | with_reducible exact H | (rw [hy906]; exact H) | exact H
 have Ny906 := Aside0.mk hy906
 clear hy906
 replace H := Option.bind_eq_some_iff.mp H
 obtain ⟨⟨t910, t911, t912⟩, A130, H⟩ := H
 replace H : ((some (([1, 2, 3, 8, 0, 9] : List Int) : List Int)).bind fun y913 => ((spec_l1Cur_pick.f t878 t911 t912 24).bind fun bt916 => (if 0 ≤ (wrap64 (4 + (wrap64 (Int.tdiv bt916.1 11)))) then (if (wrap64 (4 + (wrap64 (Int.tdiv bt916.1 11)))) ≤ (y913.length : Int) then ((spec_l1Cur_among.f t878 bt916.2.1 bt916.2.2 (y913.take ((wrap64 (4 + (wrap64 (Int.tdiv bt916.1 11)))) : Int).toNat)).bind fun bt923 => (some (t882, t897, t910, bt923.1))) else (none)) else (none)))) = some (r1, r2, r3, r4) := H
 have A13 := Aside0.mk A130
 clear A130
 obtain ⟨y913, hy913⟩ : ∃ y_ : List Int, y_ = (([1, 2, 3, 8, 0, 9] : List Int)) := ⟨_, rfl⟩
 replace H : ((spec_l1Cur_pick.f t878 t911 t912 24).bind fun bt916 => (if 0 ≤ (wrap64 (4 + (wrap64 (Int.tdiv bt916.1 11)))) then (if (wrap64 (4 + (wrap64 (Int.tdiv bt916.1 11)))) ≤ (y913.length : Int) then ((spec_l1Cur_among.f t878 bt916.2.1 bt916.2.2 (y913.take ((wrap64 (4 + (wrap64 (Int.tdiv bt916.1 11)))) : Int).toNat)).bind fun bt923 => (some (t882, t897, t910, bt923.1))) else (none)) else (none))) = some (r1, r2, r3, r4) := by first | (rw [hy913]; with_reducible exact H) | (have H2_ := (Option.bind_some _ _).symm.trans H; rw [hy913]; with_reducible exact H2_) | (have H2_ := (Option.bind_some _ _).symm.trans H; with_reducible exact H2_) | with_reducible exact H | (rw [hy913]; exact H) | exact H
 have Ny913 := Aside0.mk hy913
 clear hy913
 replace H := Option.bind_eq_some_iff.mp H
 obtain ⟨⟨t916, t917, t918⟩, A140, H⟩ := H
 replace H : (if 0 ≤ (wrap64 (4 + (wrap64 (Int.tdiv t916 11)))) then (if (wrap64 (4 + (wrap64 (Int.tdiv t916 11)))) ≤ (y913.length : Int) then ((spec_l1Cur_among.f t878 t917 t918 (y913.take ((wrap64 (4 + (wrap64 (Int.tdiv t916 11)))) : Int).toNat)).bind fun bt923 => (some (t882, t897, t910, bt923.1))) else (none)) else (none)) = some (r1, r2, r3, r4) := H
 have A14 := Aside0.mk A140
 clear A140
 obtain ⟨ji15, hji15⟩ : ∃ j_ : Int, (wrap64 (4 + (wrap64 (Int.tdiv t916 11)))) = j_ := ⟨_, rfl⟩
 replace H : (if 0 ≤ (ji15) then (if (ji15) ≤ (y913.length : Int) then ((spec_l1Cur_among.f t878 t917 t918 (y913.take ((ji15) : Int).toNat)).bind fun bt923 => (some (t882, t897, t910, bt923.1))) else (none)) else (none)) = some (r1, r2, r3, r4) := by first | (rw [hji15] at H; exact H) | (simp only [hji15] at H ⊢; exact H)
 (try rw [hji15] at A2)
 (try rw [hji15] at A3)
 (try rw [hji15] at A4)
 (try rw [hji15] at A8)
 (try rw [hji15] at A9)
 (try rw [hji15] at A13)
 (try rw [hji15] at A14)
 have hji15w : (IntKind.i64.wrap (4 + (wrap64 (Int.tdiv t916 11)))) = ji15 := (i64_w _).trans hji15
 by_cases c16 : 0 ≤ (ji15)
 rotate_left
 ·
  rw [if_neg c16] at H
  exact absurd H (by simp)
 rw [if_pos c16] at H
 have c16b0 := eq_true c16
 have c16b1 : decide (0 ≤ (ji15)) = true := decide_eq_true c16
 clear c16
 by_cases c17 : (ji15) ≤ (y913.length : Int)
 rotate_left
 ·
  rw [if_neg c17] at H
  exact absurd H (by simp)
 rw [if_pos c17] at H
 have c17b0 := eq_true c17
 have c17b1 : decide ((ji15) ≤ (y913.length : Int)) = true := decide_eq_true c17
 clear c17
 obtain ⟨y919, hy919⟩ : ∃ y_ : List Int, y_ = (y913.take ((ji15) : Int).toNat) := ⟨_, rfl⟩
 replace H : ((spec_l1Cur_among.f t878 t917 t918 y919).bind fun bt923 => (some (t882, t897, t910, bt923.1))) = some (r1, r2, r3, r4) := by first | (rw [hy919]; with_reducible exact H) | (have H2_ := (Option.bind_some _ _).symm.trans H; rw [hy919]; with_reducible exact H2_) | (have H2_ := (Option.bind_some _ _).symm.trans H; with_reducible exact H2_) | with_reducible exact H | (rw [hy919]; exact H) | exact H
 have Ny919 := Aside0.mk hy919
 clear hy919
 replace H := Option.bind_eq_some_iff.mp H
 obtain ⟨⟨t923, t924, t925⟩, A180, H⟩ := H
 replace H : (some (t882, t897, t910, t923)) = some (r1, r2, r3, r4) := H
 have A18 := Aside0.mk A180
 clear A180
 simp only [Option.some.injEq, Prod.mk.injEq] at H
 obtain ⟨rfl, rfl, rfl, rfl⟩ := H
 go_enter Try.func47, Try.ntmps47
 go_wp2_with (first | ((with_reducible refine gate_dst (N := 11) rfl ?_); refine mk_l1Cur.box A0 c0 l0 t878 t879 t880 w A2.out ?side8 ?side9 ?side1 ?side2 ?side3 ?_; (case side8 => rfl); (case side1 => exact HB.out); (case side2 => exact HR0.out); (case side3 => exact HC0.out); (case side9 => first | (go_simp; done) | (go_simp; rfl)); intro g881 w19 hi hb hb2; have n0_ := Aside0.mk (hb); have n1_ := Aside0.mk (hi); clear HB; have HB := n0_; have HI881 := n1_; clear n0_ n1_; (try clear hb hb2 hk hi)) | ((with_reducible refine gate_callee (f := 70) rfl ?_); refine goesL_ (some 13) rfl rfl Try.func70 (by kernel_rfl) rfl #[.pointer (some ⟨g881, 0, none⟩)] rfl (by simp only [List.map_toArray, List.map_cons, List.map_nil] <;> rfl) ?_; (with_reducible refine (spec_l1Cur_plan25.calls k g881 t878 t879 t880 t882 t885 t886 w _ ?side1 ?side2 A3.out).mono ?_); (case side1 => exact HI881.out); (case side2 => exact HB.out); rintro e w20 ⟨v883, rfl, ho0, hi, hb, hk⟩; refine ⟨_, rfl, ?_⟩; have n0_ := Aside0.mk (Kd.R_lower ho0 (below_size HB.out)); have n1_ := Aside0.mk (hb); have n2_ := Aside0.mk (hi); clear HB HI881; have HO884 := n0_; have HB := n1_; have HI881 := n2_; clear n0_ n1_ n2_; (try clear hb hb2 hk hi); (try clear ho0)) | ((with_reducible refine gate_dst (N := 15) rfl ?_); refine Kd.R_lit (Kd.int .i64) _ 3 ?hg (N := 15) ?hd (xs := ([0, 5, 30, 240, (-1)] : List Int)) (inner := [.int .i64 0, .int .i64 5, .int .i64 30, .int .i64 240, .int .i64 (-1)]) (ok := fun _ => True) (okp := fun _ => True) ?hr ?hp (fun _ hk => hk) trivial (Below.refl _ _) (Nat.le_refl _) (by simp) ?_; (case hd => rfl); (case hg => rfl); (case hr => first | (go_simp; done) | (go_simp; rfl)); (case hp => exact (Reps.one (show Kd.M (Kd.int .i64) _ _ _ 0 [.int .i64 0] from rfl) (Reps.one (show Kd.M (Kd.int .i64) _ _ _ 5 [.int .i64 5] from rfl) (Reps.one (show Kd.M (Kd.int .i64) _ _ _ 30 [.int .i64 30] from rfl) (Reps.one (show Kd.M (Kd.int .i64) _ _ _ 240 [.int .i64 240] from rfl) (Reps.one (show Kd.M (Kd.int .i64) _ _ _ (-1) [.int .i64 (-1)] from rfl) (Reps.none _ _))))))); intro v888 w21 ho22 hb hg_ hnew_; clear hg_ hnew_; (first | rw [← Ny887.out] at ho22 | (simp only [Int.reduceToNat] at ho22; rw [← Ny887.out] at ho22)); have n0_ := Aside0.mk (Kd.R_below (by (with_reducible repeat (first | apply Kd.R_alloc | apply Kd.R_drewN | apply Kd.R_drew)); exact HO884.out) hb); have n1_ := Aside0.mk (Kd.R_lower ho22 (below_size HB.out)); have n2_ := Aside0.mk (IsS79.below HI881.out hb); have n3_ := Aside0.mk (below_step HB.out hb); clear HO884 HI881 HB; have HO884 := n0_; have HO889 := n1_; have HI881 := n2_; have HB := n3_; clear n0_ n1_ n2_ n3_ hb ho22) | ((with_reducible refine gate_callee (f := 73) rfl ?_); refine goesL_ (some 17) rfl rfl Try.func73 (by kernel_rfl) rfl #[.pointer (some ⟨g881, 0, none⟩), .int .i64 12] rfl (by simp only [List.map_toArray, List.map_cons, List.map_nil] <;> rfl) ?_; (with_reducible refine (spec_l1Cur_pick.calls g881 t878 t885 t886 12 t890 t891 t892 w _ ?side1 ?side2 A4.out).mono ?_); (case side1 => exact HI881.out); (case side2 => exact HB.out); rintro e w23 ⟨rfl, hi, hb, hk⟩; refine ⟨_, rfl, ?_⟩; have n0_ := Aside0.mk (Kd.R_mono (Kd.R_keep (IsS79.apart (show IsS79 w _ g881 t878 t885 t886 from by repeat (first | (with_reducible first | exact HI881.out | apply IsS79.alloc | apply IsS79.drewN | apply IsS79.drew | apply IsS79.set_1 | apply IsS79.set_2) | exact HI881.out)) (by (with_reducible repeat (first | apply Kd.R_alloc | apply Kd.R_drewN | apply Kd.R_drew)); exact HO884.out) (by decide)) hk (fun _ h => h.2)) (fun _ h => h.1)); have n1_ := Aside0.mk (Kd.R_mono (Kd.R_keep (IsS79.apart (show IsS79 w _ g881 t878 t885 t886 from by repeat (first | (with_reducible first | exact HI881.out | apply IsS79.alloc | apply IsS79.drewN | apply IsS79.drew | apply IsS79.set_1 | apply IsS79.set_2) | exact HI881.out)) (by (with_reducible repeat (first | apply Kd.R_alloc | apply Kd.R_drewN | apply Kd.R_drew)); exact HO889.out) (by decide)) hk (fun _ h => h.2)) (fun _ h => h.1)); have n2_ := Aside0.mk (hb); have n3_ := Aside0.mk (hi); clear HO884 HO889 HB HI881; have HO884 := n0_; have HO889 := n1_; have HB := n2_; have HI881 := n3_; clear n0_ n1_ n2_ n3_; (try clear hb hb2 hk hi); obtain ⟨Ao25, co25, eo25⟩ := Kd.R_slice HO889.out; subst eo25; have q24 : ((ji5) : Int) ≤ ((y887.length : Int) : Int) := of_decide_eq_true (by assumption); obtain ⟨i024, hi024, _, hsz24, _⟩ := info_parts info3; have hroom24 : y887.length ≤ co25 := (Kd.R_reads' HO889.out).2.1; have hC24 : Kd.C (Kd.int .i64) _ Ao25 y887.length y887 := (Kd.R_reads' HO889.out).2.2; have hcut24 := cut_to (P := Try.prog) 32 3 .i64 Try.underlying32 hi024 Ao25 y887.length co25 (ji5) (of_decide_eq_true (by assumption)) q24 hroom24; have hr24 := Kd.C_take (m := ((ji5) : Int).toNat) hC24 (by omega); have hy24 : y893.length = ((ji5) : Int).toNat := (by rw [Ny893.out, List.length_take]; omega); rw [← Ny893.out] at hr24; rw [← hy24] at hcut24; have HR896 := Aside0.mk hr24; have HC896 := Aside0.mk (show y893.length ≤ co25 from by omega); clear hr24 hC24 hroom24 hi024 hsz24; have KY24 := Aside0.mk hy24; clear hy24; have KL24 := Aside0.mk (show ((ji5) : Int).toNat ≤ y887.length from by omega); replace q24 := eq_true q24) | ((with_reducible refine gate_callee (f := 71) rfl ?_); refine goesL_ (some 21) rfl rfl Try.func71 (by kernel_rfl) rfl #[.pointer (some ⟨g881, 0, none⟩), .slice Ao25 y893.length co25] rfl (by simp only [List.map_toArray, List.map_cons, List.map_nil] <;> rfl) ?_; (with_reducible refine (spec_l1Cur_among.calls g881 t878 t891 t892 _ _ y893 t897 t898 t899 w _ ?side1 ?side2 ?side3 ?side4 ?side5 A8.out).mono ?_); (case side1 => exact HI881.out); (case side2 => exact HB.out); (case side3 => repeat (first | exact (by repeat (first | (with_reducible exact HR896.out) | (with_reducible refine Kd.C_alloc ?_ _) | (with_reducible refine Kd.C_drewN ?_ _) | (with_reducible refine Kd.C_drew ?_) | exact HR896.out)) | (with_reducible refine Kd.C_alloc ?_ _) | (with_reducible refine Kd.C_drewN ?_ _) | (with_reducible refine Kd.C_drew ?_))); (case side4 => exact HC896.out); (case side5 => exact (by have hne_ := IsS79.own_ne HI881.out HO889.out (by decide); rintro ad rfl _ rfl; exact hne_ (by simp [Value.ownBlock]))); rintro e w26 ⟨rfl, hi, hb, hk⟩; refine ⟨_, rfl, ?_⟩; have n0_ := Aside0.mk (Kd.R_mono (Kd.R_keep (IsS79.apart (show IsS79 w _ g881 t878 t891 t892 from by repeat (first | (with_reducible first | exact HI881.out | apply IsS79.alloc | apply IsS79.drewN | apply IsS79.drew | apply IsS79.set_1 | apply IsS79.set_2) | exact HI881.out)) (by (with_reducible repeat (first | apply Kd.R_alloc | apply Kd.R_drewN | apply Kd.R_drew)); exact HO884.out) (by decide)) hk (fun _ h => h.2)) (fun _ h => h.1)); have n1_ := Aside0.mk (Kd.R_mono (Kd.R_keep (IsS79.apart (show IsS79 w _ g881 t878 t891 t892 from by repeat (first | (with_reducible first | exact HI881.out | apply IsS79.alloc | apply IsS79.drewN | apply IsS79.drew | apply IsS79.set_1 | apply IsS79.set_2) | exact HI881.out)) (by (with_reducible repeat (first | apply Kd.R_alloc | apply Kd.R_drewN | apply Kd.R_drew)); exact HO889.out) (by decide)) hk (fun _ h => h.2)) (fun _ h => h.1)); have n2_ := Aside0.mk (hb); have n3_ := Aside0.mk (hi); clear HO884 HO889 HB HI881; have HO884 := n0_; have HO889 := n1_; have HB := n2_; have HI881 := n3_; clear n0_ n1_ n2_ n3_; (try clear hb hb2 hk hi)) | ((with_reducible refine gate_dst (N := 28) rfl ?_); refine Kd.R_lit (Kd.int .i64) _ 3 ?hg (N := 28) ?hd (xs := ([t897, wrap64 (t897 + 10), 48, 240, 241, 3] : List Int)) (inner := [.int .i64 t897, .int .i64 (wrap64 (t897 + 10)), .int .i64 48, .int .i64 240, .int .i64 241, .int .i64 3]) (ok := fun _ => True) (okp := fun _ => True) ?hr ?hp (fun _ hk => hk) trivial (Below.refl _ _) (Nat.le_refl _) (by simp) ?_; (case hd => rfl); (case hg => rfl); (case hr => first | (go_simp; done) | (go_simp; rfl)); (case hp => exact (Reps.one (show Kd.M (Kd.int .i64) _ _ _ t897 [.int .i64 t897] from rfl) (Reps.one (show Kd.M (Kd.int .i64) _ _ _ (wrap64 (t897 + 10)) [.int .i64 (wrap64 (t897 + 10))] from rfl) (Reps.one (show Kd.M (Kd.int .i64) _ _ _ 48 [.int .i64 48] from rfl) (Reps.one (show Kd.M (Kd.int .i64) _ _ _ 240 [.int .i64 240] from rfl) (Reps.one (show Kd.M (Kd.int .i64) _ _ _ 241 [.int .i64 241] from rfl) (Reps.one (show Kd.M (Kd.int .i64) _ _ _ 3 [.int .i64 3] from rfl) (Reps.none _ _)))))))); intro v901 w27 ho28 hb hg_ hnew_; clear hg_ hnew_; (first | rw [← Ny900.out] at ho28 | (simp only [Int.reduceToNat] at ho28; rw [← Ny900.out] at ho28)); have n0_ := Aside0.mk (Kd.R_below (by (with_reducible repeat (first | apply Kd.R_alloc | apply Kd.R_drewN | apply Kd.R_drew)); exact HO884.out) hb); have n1_ := Aside0.mk (Kd.R_elder' (by (with_reducible repeat (first | apply Kd.R_alloc | apply Kd.R_drewN | apply Kd.R_drew)); exact HO889.out) (Kd.R_base ho28) hb); have n2_ := Aside0.mk (Kd.R_lower (Kd.R_new' ho28 (Kd.R_lt (by (with_reducible repeat (first | apply Kd.R_alloc | apply Kd.R_drewN | apply Kd.R_drew)); exact HO889.out))) (below_size HB.out)); have n3_ := Aside0.mk (IsS79.below HI881.out hb); have n4_ := Aside0.mk (below_step HB.out hb); clear HO884 HO889 HI881 HB; have HO884 := n0_; have HO889 := n1_; have HO902 := n2_; have HI881 := n3_; have HB := n4_; clear n0_ n1_ n2_ n3_ n4_ hb ho28) | ((with_reducible refine gate_callee (f := 73) rfl ?_); refine goesL_ (some 30) rfl rfl Try.func73 (by kernel_rfl) rfl #[.pointer (some ⟨g881, 0, none⟩), .int .i64 24] rfl (by simp only [List.map_toArray, List.map_cons, List.map_nil] <;> rfl) ?_; (with_reducible refine (spec_l1Cur_pick.calls g881 t878 t898 t899 24 t903 t904 t905 w _ ?side1 ?side2 A9.out).mono ?_); (case side1 => exact HI881.out); (case side2 => exact HB.out); rintro e w29 ⟨rfl, hi, hb, hk⟩; refine ⟨_, rfl, ?_⟩; have n0_ := Aside0.mk (Kd.R_mono (Kd.R_keep (IsS79.apart (show IsS79 w _ g881 t878 t898 t899 from by repeat (first | (with_reducible first | exact HI881.out | apply IsS79.alloc | apply IsS79.drewN | apply IsS79.drew | apply IsS79.set_1 | apply IsS79.set_2) | exact HI881.out)) (by (with_reducible repeat (first | apply Kd.R_alloc | apply Kd.R_drewN | apply Kd.R_drew)); exact HO884.out) (by decide)) hk (fun _ h => h.2)) (fun _ h => h.1)); have n1_ := Aside0.mk (Kd.R_mono (Kd.R_keep (IsS79.apart (show IsS79 w _ g881 t878 t898 t899 from by repeat (first | (with_reducible first | exact HI881.out | apply IsS79.alloc | apply IsS79.drewN | apply IsS79.drew | apply IsS79.set_1 | apply IsS79.set_2) | exact HI881.out)) (by (with_reducible repeat (first | apply Kd.R_alloc | apply Kd.R_drewN | apply Kd.R_drew)); exact HO889.out) (by decide)) hk (fun _ h => h.2)) (fun _ h => h.1)); have n2_ := Aside0.mk (Kd.R_mono (Kd.R_keep (IsS79.apart (show IsS79 w _ g881 t878 t898 t899 from by repeat (first | (with_reducible first | exact HI881.out | apply IsS79.alloc | apply IsS79.drewN | apply IsS79.drew | apply IsS79.set_1 | apply IsS79.set_2) | exact HI881.out)) (by (with_reducible repeat (first | apply Kd.R_alloc | apply Kd.R_drewN | apply Kd.R_drew)); exact HO902.out) (by decide)) hk (fun _ h => h.2)) (fun _ h => h.1)); have n3_ := Aside0.mk (hb); have n4_ := Aside0.mk (hi); clear HO884 HO889 HO902 HB HI881; have HO884 := n0_; have HO889 := n1_; have HO902 := n2_; have HB := n3_; have HI881 := n4_; clear n0_ n1_ n2_ n3_ n4_; (try clear hb hb2 hk hi); obtain ⟨Ao31, co31, eo31⟩ := Kd.R_slice HO902.out; subst eo31; have q30 : ((ji10) : Int) ≤ ((y900.length : Int) : Int) := of_decide_eq_true (by assumption); obtain ⟨i030, hi030, _, hsz30, _⟩ := info_parts info3; have hroom30 : y900.length ≤ co31 := (Kd.R_reads' HO902.out).2.1; have hC30 : Kd.C (Kd.int .i64) _ Ao31 y900.length y900 := (Kd.R_reads' HO902.out).2.2; have hcut30 := cut_to (P := Try.prog) 32 3 .i64 Try.underlying32 hi030 Ao31 y900.length co31 (ji10) (of_decide_eq_true (by assumption)) q30 hroom30; have hr30 := Kd.C_take (m := ((ji10) : Int).toNat) hC30 (by omega); have hy30 : y906.length = ((ji10) : Int).toNat := (by rw [Ny906.out, List.length_take]; omega); rw [← Ny906.out] at hr30; rw [← hy30] at hcut30; have HR909 := Aside0.mk hr30; have HC909 := Aside0.mk (show y906.length ≤ co31 from by omega); clear hr30 hC30 hroom30 hi030 hsz30; have KY30 := Aside0.mk hy30; clear hy30; have KL30 := Aside0.mk (show ((ji10) : Int).toNat ≤ y900.length from by omega); replace q30 := eq_true q30) | ((with_reducible refine gate_callee (f := 71) rfl ?_); refine goesL_ (some 34) rfl rfl Try.func71 (by kernel_rfl) rfl #[.pointer (some ⟨g881, 0, none⟩), .slice Ao31 y906.length co31] rfl (by simp only [List.map_toArray, List.map_cons, List.map_nil] <;> rfl) ?_; (with_reducible refine (spec_l1Cur_among.calls g881 t878 t904 t905 _ _ y906 t910 t911 t912 w _ ?side1 ?side2 ?side3 ?side4 ?side5 A13.out).mono ?_); (case side1 => exact HI881.out); (case side2 => exact HB.out); (case side3 => repeat (first | exact (by repeat (first | (with_reducible exact HR909.out) | (with_reducible refine Kd.C_alloc ?_ _) | (with_reducible refine Kd.C_drewN ?_ _) | (with_reducible refine Kd.C_drew ?_) | exact HR909.out)) | (with_reducible refine Kd.C_alloc ?_ _) | (with_reducible refine Kd.C_drewN ?_ _) | (with_reducible refine Kd.C_drew ?_))); (case side4 => exact HC909.out); (case side5 => exact (by have hne_ := IsS79.own_ne HI881.out HO902.out (by decide); rintro ad rfl _ rfl; exact hne_ (by simp [Value.ownBlock]))); rintro e w32 ⟨rfl, hi, hb, hk⟩; refine ⟨_, rfl, ?_⟩; have n0_ := Aside0.mk (Kd.R_mono (Kd.R_keep (IsS79.apart (show IsS79 w _ g881 t878 t904 t905 from by repeat (first | (with_reducible first | exact HI881.out | apply IsS79.alloc | apply IsS79.drewN | apply IsS79.drew | apply IsS79.set_1 | apply IsS79.set_2) | exact HI881.out)) (by (with_reducible repeat (first | apply Kd.R_alloc | apply Kd.R_drewN | apply Kd.R_drew)); exact HO884.out) (by decide)) hk (fun _ h => h.2)) (fun _ h => h.1)); have n1_ := Aside0.mk (Kd.R_mono (Kd.R_keep (IsS79.apart (show IsS79 w _ g881 t878 t904 t905 from by repeat (first | (with_reducible first | exact HI881.out | apply IsS79.alloc | apply IsS79.drewN | apply IsS79.drew | apply IsS79.set_1 | apply IsS79.set_2) | exact HI881.out)) (by (with_reducible repeat (first | apply Kd.R_alloc | apply Kd.R_drewN | apply Kd.R_drew)); exact HO889.out) (by decide)) hk (fun _ h => h.2)) (fun _ h => h.1)); have n2_ := Aside0.mk (Kd.R_mono (Kd.R_keep (IsS79.apart (show IsS79 w _ g881 t878 t904 t905 from by repeat (first | (with_reducible first | exact HI881.out | apply IsS79.alloc | apply IsS79.drewN | apply IsS79.drew | apply IsS79.set_1 | apply IsS79.set_2) | exact HI881.out)) (by (with_reducible repeat (first | apply Kd.R_alloc | apply Kd.R_drewN | apply Kd.R_drew)); exact HO902.out) (by decide)) hk (fun _ h => h.2)) (fun _ h => h.1)); have n3_ := Aside0.mk (hb); have n4_ := Aside0.mk (hi); clear HO884 HO889 HO902 HB HI881; have HO884 := n0_; have HO889 := n1_; have HO902 := n2_; have HB := n3_; have HI881 := n4_; clear n0_ n1_ n2_ n3_ n4_; (try clear hb hb2 hk hi)) | ((with_reducible refine gate_dst (N := 36) rfl ?_); refine Kd.R_lit (Kd.int .i64) _ 3 ?hg (N := 36) ?hd (xs := ([1, 2, 3, 8, 0, 9] : List Int)) (inner := [.int .i64 1, .int .i64 2, .int .i64 3, .int .i64 8, .int .i64 0, .int .i64 9]) (ok := fun _ => True) (okp := fun _ => True) ?hr ?hp (fun _ hk => hk) trivial (Below.refl _ _) (Nat.le_refl _) (by simp) ?_; (case hd => rfl); (case hg => rfl); (case hr => first | (go_simp; done) | (go_simp; rfl)); (case hp => exact (Reps.one (show Kd.M (Kd.int .i64) _ _ _ 1 [.int .i64 1] from rfl) (Reps.one (show Kd.M (Kd.int .i64) _ _ _ 2 [.int .i64 2] from rfl) (Reps.one (show Kd.M (Kd.int .i64) _ _ _ 3 [.int .i64 3] from rfl) (Reps.one (show Kd.M (Kd.int .i64) _ _ _ 8 [.int .i64 8] from rfl) (Reps.one (show Kd.M (Kd.int .i64) _ _ _ 0 [.int .i64 0] from rfl) (Reps.one (show Kd.M (Kd.int .i64) _ _ _ 9 [.int .i64 9] from rfl) (Reps.none _ _)))))))); intro v914 w33 ho34 hb hg_ hnew_; clear hg_ hnew_; (first | rw [← Ny913.out] at ho34 | (simp only [Int.reduceToNat] at ho34; rw [← Ny913.out] at ho34)); have n0_ := Aside0.mk (Kd.R_below (by (with_reducible repeat (first | apply Kd.R_alloc | apply Kd.R_drewN | apply Kd.R_drew)); exact HO884.out) hb); have n1_ := Aside0.mk (Kd.R_elder' (by (with_reducible repeat (first | apply Kd.R_alloc | apply Kd.R_drewN | apply Kd.R_drew)); exact HO889.out) (Kd.R_base ho34) hb); have n2_ := Aside0.mk (Kd.R_elder' (by (with_reducible repeat (first | apply Kd.R_alloc | apply Kd.R_drewN | apply Kd.R_drew)); exact HO902.out) (Kd.R_base ho34) hb); have n3_ := Aside0.mk (Kd.R_lower (Kd.R_new' (Kd.R_new' ho34 (Kd.R_lt (by (with_reducible repeat (first | apply Kd.R_alloc | apply Kd.R_drewN | apply Kd.R_drew)); exact HO889.out))) (Kd.R_lt (by (with_reducible repeat (first | apply Kd.R_alloc | apply Kd.R_drewN | apply Kd.R_drew)); exact HO902.out))) (below_size HB.out)); have n4_ := Aside0.mk (IsS79.below HI881.out hb); have n5_ := Aside0.mk (below_step HB.out hb); clear HO884 HO889 HO902 HI881 HB; have HO884 := n0_; have HO889 := n1_; have HO902 := n2_; have HO915 := n3_; have HI881 := n4_; have HB := n5_; clear n0_ n1_ n2_ n3_ n4_ n5_ hb ho34) | ((with_reducible refine gate_callee (f := 73) rfl ?_); refine goesL_ (some 38) rfl rfl Try.func73 (by kernel_rfl) rfl #[.pointer (some ⟨g881, 0, none⟩), .int .i64 24] rfl (by simp only [List.map_toArray, List.map_cons, List.map_nil] <;> rfl) ?_; (with_reducible refine (spec_l1Cur_pick.calls g881 t878 t911 t912 24 t916 t917 t918 w _ ?side1 ?side2 A14.out).mono ?_); (case side1 => exact HI881.out); (case side2 => exact HB.out); rintro e w35 ⟨rfl, hi, hb, hk⟩; refine ⟨_, rfl, ?_⟩; have n0_ := Aside0.mk (Kd.R_mono (Kd.R_keep (IsS79.apart (show IsS79 w _ g881 t878 t911 t912 from by repeat (first | (with_reducible first | exact HI881.out | apply IsS79.alloc | apply IsS79.drewN | apply IsS79.drew | apply IsS79.set_1 | apply IsS79.set_2) | exact HI881.out)) (by (with_reducible repeat (first | apply Kd.R_alloc | apply Kd.R_drewN | apply Kd.R_drew)); exact HO884.out) (by decide)) hk (fun _ h => h.2)) (fun _ h => h.1)); have n1_ := Aside0.mk (Kd.R_mono (Kd.R_keep (IsS79.apart (show IsS79 w _ g881 t878 t911 t912 from by repeat (first | (with_reducible first | exact HI881.out | apply IsS79.alloc | apply IsS79.drewN | apply IsS79.drew | apply IsS79.set_1 | apply IsS79.set_2) | exact HI881.out)) (by (with_reducible repeat (first | apply Kd.R_alloc | apply Kd.R_drewN | apply Kd.R_drew)); exact HO889.out) (by decide)) hk (fun _ h => h.2)) (fun _ h => h.1)); have n2_ := Aside0.mk (Kd.R_mono (Kd.R_keep (IsS79.apart (show IsS79 w _ g881 t878 t911 t912 from by repeat (first | (with_reducible first | exact HI881.out | apply IsS79.alloc | apply IsS79.drewN | apply IsS79.drew | apply IsS79.set_1 | apply IsS79.set_2) | exact HI881.out)) (by (with_reducible repeat (first | apply Kd.R_alloc | apply Kd.R_drewN | apply Kd.R_drew)); exact HO902.out) (by decide)) hk (fun _ h => h.2)) (fun _ h => h.1)); have n3_ := Aside0.mk (Kd.R_mono (Kd.R_keep (IsS79.apart (show IsS79 w _ g881 t878 t911 t912 from by repeat (first | (with_reducible first | exact HI881.out | apply IsS79.alloc | apply IsS79.drewN | apply IsS79.drew | apply IsS79.set_1 | apply IsS79.set_2) | exact HI881.out)) (by (with_reducible repeat (first | apply Kd.R_alloc | apply Kd.R_drewN | apply Kd.R_drew)); exact HO915.out) (by decide)) hk (fun _ h => h.2)) (fun _ h => h.1)); have n4_ := Aside0.mk (hb); have n5_ := Aside0.mk (hi); clear HO884 HO889 HO902 HO915 HB HI881; have HO884 := n0_; have HO889 := n1_; have HO902 := n2_; have HO915 := n3_; have HB := n4_; have HI881 := n5_; clear n0_ n1_ n2_ n3_ n4_ n5_; (try clear hb hb2 hk hi); obtain ⟨Ao37, co37, eo37⟩ := Kd.R_slice HO915.out; subst eo37; have q36 : ((ji15) : Int) ≤ ((y913.length : Int) : Int) := of_decide_eq_true (by assumption); obtain ⟨i036, hi036, _, hsz36, _⟩ := info_parts info3; have hroom36 : y913.length ≤ co37 := (Kd.R_reads' HO915.out).2.1; have hC36 : Kd.C (Kd.int .i64) _ Ao37 y913.length y913 := (Kd.R_reads' HO915.out).2.2; have hcut36 := cut_to (P := Try.prog) 32 3 .i64 Try.underlying32 hi036 Ao37 y913.length co37 (ji15) (of_decide_eq_true (by assumption)) q36 hroom36; have hr36 := Kd.C_take (m := ((ji15) : Int).toNat) hC36 (by omega); have hy36 : y919.length = ((ji15) : Int).toNat := (by rw [Ny919.out, List.length_take]; omega); rw [← Ny919.out] at hr36; rw [← hy36] at hcut36; have HR922 := Aside0.mk hr36; have HC922 := Aside0.mk (show y919.length ≤ co37 from by omega); clear hr36 hC36 hroom36 hi036 hsz36; have KY36 := Aside0.mk hy36; clear hy36; have KL36 := Aside0.mk (show ((ji15) : Int).toNat ≤ y913.length from by omega); replace q36 := eq_true q36) | ((with_reducible refine gate_callee (f := 71) rfl ?_); refine goesL_ (some 42) rfl rfl Try.func71 (by kernel_rfl) rfl #[.pointer (some ⟨g881, 0, none⟩), .slice Ao37 y919.length co37] rfl (by simp only [List.map_toArray, List.map_cons, List.map_nil] <;> rfl) ?_; (with_reducible refine (spec_l1Cur_among.calls g881 t878 t917 t918 _ _ y919 t923 t924 t925 w _ ?side1 ?side2 ?side3 ?side4 ?side5 A18.out).mono ?_); (case side1 => exact HI881.out); (case side2 => exact HB.out); (case side3 => repeat (first | exact (by repeat (first | (with_reducible exact HR922.out) | (with_reducible refine Kd.C_alloc ?_ _) | (with_reducible refine Kd.C_drewN ?_ _) | (with_reducible refine Kd.C_drew ?_) | exact HR922.out)) | (with_reducible refine Kd.C_alloc ?_ _) | (with_reducible refine Kd.C_drewN ?_ _) | (with_reducible refine Kd.C_drew ?_))); (case side4 => exact HC922.out); (case side5 => exact (by have hne_ := IsS79.own_ne HI881.out HO915.out (by decide); rintro ad rfl _ rfl; exact hne_ (by simp [Value.ownBlock]))); rintro e w38 ⟨rfl, hi, hb, hk⟩; refine ⟨_, rfl, ?_⟩; have n0_ := Aside0.mk (Kd.R_mono (Kd.R_keep (IsS79.apart (show IsS79 w _ g881 t878 t917 t918 from by repeat (first | (with_reducible first | exact HI881.out | apply IsS79.alloc | apply IsS79.drewN | apply IsS79.drew | apply IsS79.set_1 | apply IsS79.set_2) | exact HI881.out)) (by (with_reducible repeat (first | apply Kd.R_alloc | apply Kd.R_drewN | apply Kd.R_drew)); exact HO884.out) (by decide)) hk (fun _ h => h.2)) (fun _ h => h.1)); have n1_ := Aside0.mk (Kd.R_mono (Kd.R_keep (IsS79.apart (show IsS79 w _ g881 t878 t917 t918 from by repeat (first | (with_reducible first | exact HI881.out | apply IsS79.alloc | apply IsS79.drewN | apply IsS79.drew | apply IsS79.set_1 | apply IsS79.set_2) | exact HI881.out)) (by (with_reducible repeat (first | apply Kd.R_alloc | apply Kd.R_drewN | apply Kd.R_drew)); exact HO889.out) (by decide)) hk (fun _ h => h.2)) (fun _ h => h.1)); have n2_ := Aside0.mk (Kd.R_mono (Kd.R_keep (IsS79.apart (show IsS79 w _ g881 t878 t917 t918 from by repeat (first | (with_reducible first | exact HI881.out | apply IsS79.alloc | apply IsS79.drewN | apply IsS79.drew | apply IsS79.set_1 | apply IsS79.set_2) | exact HI881.out)) (by (with_reducible repeat (first | apply Kd.R_alloc | apply Kd.R_drewN | apply Kd.R_drew)); exact HO902.out) (by decide)) hk (fun _ h => h.2)) (fun _ h => h.1)); have n3_ := Aside0.mk (Kd.R_mono (Kd.R_keep (IsS79.apart (show IsS79 w _ g881 t878 t917 t918 from by repeat (first | (with_reducible first | exact HI881.out | apply IsS79.alloc | apply IsS79.drewN | apply IsS79.drew | apply IsS79.set_1 | apply IsS79.set_2) | exact HI881.out)) (by (with_reducible repeat (first | apply Kd.R_alloc | apply Kd.R_drewN | apply Kd.R_drew)); exact HO915.out) (by decide)) hk (fun _ h => h.2)) (fun _ h => h.1)); have n4_ := Aside0.mk (hb); have n5_ := Aside0.mk (hi); clear HO884 HO889 HO902 HO915 HB HI881; have HO884 := n0_; have HO889 := n1_; have HO902 := n2_; have HO915 := n3_; have HB := n4_; have HI881 := n5_; clear n0_ n1_ n2_ n3_ n4_ n5_; (try clear hb hb2 hk hi)))
 refine bodyPost_ret (results_list (rs := [.tmp 2, .tmp 3, .tmp 4, .tmp 5]) rfl (by simp) (.tmp (.tmp (.tmp (.tmp .nil))))) rfl ?_
 exact ⟨_, by first | rfl | (simp [errW_none, errW_some] <;> rfl) | (simp only [← hji5, ← hji10, ← hji15]; first | rfl | (simp [errW_none, errW_some] <;> rfl)) | (simp [*, errW_none, errW_some] <;> rfl), by (with_reducible repeat (first | apply Kd.R_alloc | apply Kd.R_drewN | apply Kd.R_drew)); exact HO884.out, HB.out⟩

/-! ### laws_rInts: function 48 -/
def laws_rInts.l0 : Nat → List Int → List Int → Int → Option (Bool)
 | 0, _, _, _ => none
 | k + 1, x0, x1, x5 => if x5 < (x0.length : Int) then (if 0 ≤ x5 then (if x5 < (x1.length : Int) then (if (rd x0 x5) = (rd x1 x5) then (laws_rInts.l0 k x0 x1 (wrap64 (x5 + 1))) else (some false)) else (none)) else (none)) else (some true)
def laws_rInts.f (k : Nat) (l0 : List Int) (l1 : List Int) : Option (Bool) := if (l0.length : Int) = (l1.length : Int) then (laws_rInts.l0 k l0 l1 0) else (some false)
set_option maxHeartbeats 8000000 in
set_option maxRecDepth 100000 in
theorem laws_rInts.calls (k : Nat) (A0 : Option Addr) (c0 : Nat) (l0 : List Int) (A1 : Option Addr) (c1 : Nat) (l1 : List Int) (r : Bool) (w : World) (hr0 : Kd.C (Kd.int .i64) w A0 l0.length l0) (hc0 : l0.length ≤ c0) (hr1 : Kd.C (Kd.int .i64) w A1 l1.length l1) (hc1 : l1.length ≤ c1) (h : laws_rInts.f k l0 l1 = some r) :
  Calls Try.prog 48 #[.slice A0 l0.length c0, .slice A1 l1.length c1] w fun e w' => e = .returned (.bool r) ∧ Drawn0 w w' := by
 have HR0 := Aside0.mk hr0
 have HC0 := Aside0.mk hc0
 clear hr0 hc0
 have HR1 := Aside0.mk hr1
 have HC1 := Aside0.mk hc1
 clear hr1 hc1
 have H : (if (l0.length : Int) = (l1.length : Int) then (laws_rInts.l0 k l0 l1 0) else (some false)) = some r := h
 clear h
 by_cases c3 : (l0.length : Int) = (l1.length : Int)
 rotate_left
 ·
  rw [if_neg c3] at H
  have c3b0 : ((l0.length : Int) == (l1.length : Int)) = false := beq_eq_false_iff_ne.mpr c3
  have c3b1 : ((l0.length : Int) != (l1.length : Int)) = true := bne_iff_ne.mpr c3
  have c3b2 : (l0.length == l1.length) = false := by first | simpa using c3 | (simp at c3 ⊢; omega)
  obtain rfl := Option.some.inj H
  go_enter Try.func48, Try.ntmps48
  go_wp2
  repeat (go_quiet (fail); try go_wp2)
  go_ret
  exact ⟨by first | rfl | (simp; done) | (simp [*]; done), by repeat (first | exact Drawn0.refl _ | apply Drawn0.step)⟩
 rw [if_pos c3] at H
 have c3b0 : ((l0.length : Int) == (l1.length : Int)) = true := beq_iff_eq.mpr c3
 have c3b1 : ((l0.length : Int) != (l1.length : Int)) = false := bne_eq_false_iff_eq.mpr c3
 have c3b2 : (l0.length == l1.length) = true := by first | simpa using c3 | (simp at c3 ⊢; omega)
 clear c3
 have H' := Aside0.mk H
 clear H
 go_enter Try.func48, Try.ntmps48
 go_wp2
 repeat (go_quiet (fail); try go_wp2)
 go_loopg [5] k (fun kq v5 w' => ∃ (x5_1 : Int), v5 = .int .i64 x5_1 ∧ Aside0 (laws_rInts.l0 kq l0 l1 x5_1 = some r) ∧ Aside0 (kq ≤ k) ∧ Drawn0 w w')
 case atStart => exact ⟨(0), (by first | rfl | (simp; done) | (simp [*]; done)), H', ⟨Nat.le_refl _⟩, by repeat (first | exact Drawn0.refl _ | apply Drawn0.step)⟩
 case round =>
  clear H'
  try clear c1
  try clear p2
  try clear c3
  try clear c3b0
  try clear c3b1
  try clear c3b2
  obtain ⟨x5_1, rfl, HA, HK1, ⟨m1, rfl⟩⟩ := hrel
  cases gk with
  | zero => exact absurd HA.out (by simp [laws_rInts.l0])
  | succ k1 =>
   have H := HA.out
   clear HA
   simp only [laws_rInts.l0] at H
   by_cases c4 : x5_1 < (l0.length : Int)
   rotate_left
   ·
    rw [if_neg c4] at H
    have c4b0 : decide (x5_1 < (l0.length : Int)) = false := decide_eq_false c4
    clear c4
    obtain rfl := Option.some.inj H
    go_wp2
    repeat (go_quiet (fail); try go_wp2)
    go_ret
    exact ⟨by first | rfl | (simp; done) | (simp [*]; done), by repeat (first | exact Drawn0.refl _ | apply Drawn0.step)⟩
   rw [if_pos c4] at H
   have c4b0 : decide (x5_1 < (l0.length : Int)) = true := decide_eq_true c4
   clear c4
   by_cases c5 : 0 ≤ x5_1
   rotate_left
   ·
    rw [if_neg c5] at H
    exact absurd H (by simp)
   rw [if_pos c5] at H
   have c5b0 : decide (0 ≤ x5_1) = true := decide_eq_true c5
   clear c5
   by_cases c6 : x5_1 < (l1.length : Int)
   rotate_left
   ·
    rw [if_neg c6] at H
    exact absurd H (by simp)
   rw [if_pos c6] at H
   have c6b0 : decide (x5_1 < (l1.length : Int)) = true := decide_eq_true c6
   clear c6
   by_cases c7 : (rd l0 x5_1) = (rd l1 x5_1)
   rotate_left
   ·
    rw [if_neg c7] at H
    have c7b0 : ((rd l0 x5_1) == (rd l1 x5_1)) = false := beq_eq_false_iff_ne.mpr c7
    have c7b1 : ((rd l0 x5_1) != (rd l1 x5_1)) = true := bne_iff_ne.mpr c7
    obtain rfl := Option.some.inj H
    have p926 : 0 ≤ (x5_1 : Int) := of_decide_eq_true (by assumption)
    have q926 : x5_1 < (l0.length : Int) := of_decide_eq_true (by assumption)
    obtain ⟨ad926, e926, hx926_0⟩ := Kd.at_int HR0.out x5_1 p926 q926
    cases e926
    replace p926 := eq_true p926
    replace q926 := eq_true q926
    have p927 : 0 ≤ (x5_1 : Int) := of_decide_eq_true (by assumption)
    have q927 : x5_1 < (l1.length : Int) := of_decide_eq_true (by assumption)
    obtain ⟨ad927, e927, hx927_0⟩ := Kd.at_int HR1.out x5_1 p927 q927
    cases e927
    replace p927 := eq_true p927
    replace q927 := eq_true q927
    go_wp2
    repeat (go_quiet (fail); try go_wp2)
    go_ret
    exact ⟨by first | rfl | (simp; done) | (simp [*]; done), by repeat (first | exact Drawn0.refl _ | apply Drawn0.step)⟩
   rw [if_pos c7] at H
   have c7b0 : ((rd l0 x5_1) == (rd l1 x5_1)) = true := beq_iff_eq.mpr c7
   have c7b1 : ((rd l0 x5_1) != (rd l1 x5_1)) = false := bne_eq_false_iff_eq.mpr c7
   clear c7
   have H' := Aside0.mk H
   clear H
   have p926 : 0 ≤ (x5_1 : Int) := of_decide_eq_true (by assumption)
   have q926 : x5_1 < (l0.length : Int) := of_decide_eq_true (by assumption)
   obtain ⟨ad926, e926, hx926_0⟩ := Kd.at_int HR0.out x5_1 p926 q926
   cases e926
   replace p926 := eq_true p926
   replace q926 := eq_true q926
   have p927 : 0 ≤ (x5_1 : Int) := of_decide_eq_true (by assumption)
   have q927 : x5_1 < (l1.length : Int) := of_decide_eq_true (by assumption)
   obtain ⟨ad927, e927, hx927_0⟩ := Kd.at_int HR1.out x5_1 p927 q927
   cases e927
   replace p927 := eq_true p927
   replace q927 := eq_true q927
   go_wp2
   repeat (go_quiet (fail); try go_wp2)
   go_roundg k1
   case measure => have := HK1.out; omega
   case rel => exact ⟨(wrap64 (x5_1 + 1)), (by first | rfl | (simp; done) | (simp [*]; done)), H', ⟨by have := HK1.out; omega⟩, by repeat (first | exact Drawn0.refl _ | apply Drawn0.step)⟩

/-! ### spec_DrawExchangePersons: function 49 -/
def spec_DrawExchangePersons.f (k : Nat) (l0 : List Int) : Option ((List (S44)) × Int × Int) := (mk_l1Cur.f l0).bind fun bt928 => ((spec_l1Cur_plan25.f k bt928.1 bt928.2.1 bt928.2.2).bind fun bt932 => ((spec_l1Cur_person25.f bt928.1 bt932.2.1 bt932.2.2).bind fun bt937 => ((spec_l1Cur_person25.f bt928.1 bt937.2.1 bt937.2.2).bind fun bt940 => (some (bt932.1, bt937.1, bt940.1)))))
set_option maxHeartbeats 8000000 in
set_option maxRecDepth 100000 in
theorem spec_DrawExchangePersons.calls (k : Nat) (A0 : Option Addr) (c0 : Nat) (l0 : List Int) (r1 : List (S44)) (r2 : Int) (r3 : Int) (w : World) (hr0 : Kd.C (Kd.int .u8) w A0 l0.length l0) (hc0 : l0.length ≤ c0) (h : spec_DrawExchangePersons.f k l0 = some (r1, r2, r3)) :
  Calls Try.prog 49 #[.slice A0 l0.length c0] w fun e w' => ∃ v0_ : Value, e = .returned (.tuple #[v0_, .int .i64 r2, .int .i64 r3]) ∧ Kd.R k44 44 w' w.heap.size (fun _ => True) v0_ r1 ∧ Below w.heap.size w w' := by
 have HR0 := Aside0.mk hr0
 have HC0 := Aside0.mk hc0
 clear hr0 hc0
 have HB := Aside0.mk (Below.refl w.heap.size w)
 have H : ((mk_l1Cur.f l0).bind fun bt928 => ((spec_l1Cur_plan25.f k bt928.1 bt928.2.1 bt928.2.2).bind fun bt932 => ((spec_l1Cur_person25.f bt928.1 bt932.2.1 bt932.2.2).bind fun bt937 => ((spec_l1Cur_person25.f bt928.1 bt937.2.1 bt937.2.2).bind fun bt940 => (some (bt932.1, bt937.1, bt940.1)))))) = some (r1, r2, r3) := h
 clear h
 replace H := Option.bind_eq_some_iff.mp H
 obtain ⟨⟨t928, t929, t930⟩, A20, H⟩ := H
 replace H : ((spec_l1Cur_plan25.f k t928 t929 t930).bind fun bt932 => ((spec_l1Cur_person25.f t928 bt932.2.1 bt932.2.2).bind fun bt937 => ((spec_l1Cur_person25.f t928 bt937.2.1 bt937.2.2).bind fun bt940 => (some (bt932.1, bt937.1, bt940.1))))) = some (r1, r2, r3) := H
 have A2 := Aside0.mk A20
 clear A20
 replace H := Option.bind_eq_some_iff.mp H
 obtain ⟨⟨t932, t935, t936⟩, A30, H⟩ := H
 replace H : ((spec_l1Cur_person25.f t928 t935 t936).bind fun bt937 => ((spec_l1Cur_person25.f t928 bt937.2.1 bt937.2.2).bind fun bt940 => (some (t932, bt937.1, bt940.1)))) = some (r1, r2, r3) := H
 have A3 := Aside0.mk A30
 clear A30
 replace H := Option.bind_eq_some_iff.mp H
 obtain ⟨⟨t937, t938, t939⟩, A40, H⟩ := H
 replace H : ((spec_l1Cur_person25.f t928 t938 t939).bind fun bt940 => (some (t932, t937, bt940.1))) = some (r1, r2, r3) := H
 have A4 := Aside0.mk A40
 clear A40
 replace H := Option.bind_eq_some_iff.mp H
 obtain ⟨⟨t940, t941, t942⟩, A50, H⟩ := H
 replace H : (some (t932, t937, t940)) = some (r1, r2, r3) := H
 have A5 := Aside0.mk A50
 clear A50
 simp only [Option.some.injEq, Prod.mk.injEq] at H
 obtain ⟨rfl, rfl, rfl⟩ := H
 go_enter Try.func49, Try.ntmps49
 go_wp2_with (first | ((with_reducible refine gate_dst (N := 9) rfl ?_); refine mk_l1Cur.box A0 c0 l0 t928 t929 t930 w A2.out ?side8 ?side9 ?side1 ?side2 ?side3 ?_; (case side8 => rfl); (case side1 => exact HB.out); (case side2 => exact HR0.out); (case side3 => exact HC0.out); (case side9 => first | (go_simp; done) | (go_simp; rfl)); intro g931 w6 hi hb hb2; have n0_ := Aside0.mk (hb); have n1_ := Aside0.mk (hi); clear HB; have HB := n0_; have HI931 := n1_; clear n0_ n1_; (try clear hb hb2 hk hi)) | ((with_reducible refine gate_callee (f := 70) rfl ?_); refine goesL_ (some 11) rfl rfl Try.func70 (by kernel_rfl) rfl #[.pointer (some ⟨g931, 0, none⟩)] rfl (by simp only [List.map_toArray, List.map_cons, List.map_nil] <;> rfl) ?_; (with_reducible refine (spec_l1Cur_plan25.calls k g931 t928 t929 t930 t932 t935 t936 w _ ?side1 ?side2 A3.out).mono ?_); (case side1 => exact HI931.out); (case side2 => exact HB.out); rintro e w7 ⟨v933, rfl, ho0, hi, hb, hk⟩; refine ⟨_, rfl, ?_⟩; have n0_ := Aside0.mk (Kd.R_lower ho0 (below_size HB.out)); have n1_ := Aside0.mk (hb); have n2_ := Aside0.mk (hi); clear HB HI931; have HO934 := n0_; have HB := n1_; have HI931 := n2_; clear n0_ n1_ n2_; (try clear hb hb2 hk hi); (try clear ho0)) | ((with_reducible refine gate_callee (f := 72) rfl ?_); refine goesL_ (some 14) rfl rfl Try.func72 (by kernel_rfl) rfl #[.pointer (some ⟨g931, 0, none⟩)] rfl (by simp only [List.map_toArray, List.map_cons, List.map_nil] <;> rfl) ?_; (with_reducible refine (spec_l1Cur_person25.calls g931 t928 t935 t936 t937 t938 t939 w _ ?side1 ?side2 A4.out).mono ?_); (case side1 => exact HI931.out); (case side2 => exact HB.out); rintro e w8 ⟨rfl, hi, hb, hk⟩; refine ⟨_, rfl, ?_⟩; have n0_ := Aside0.mk (Kd.R_mono (Kd.R_keep (IsS79.apart (show IsS79 w _ g931 t928 t935 t936 from by repeat (first | (with_reducible first | exact HI931.out | apply IsS79.alloc | apply IsS79.drewN | apply IsS79.drew | apply IsS79.set_1 | apply IsS79.set_2) | exact HI931.out)) (by (with_reducible repeat (first | apply Kd.R_alloc | apply Kd.R_drewN | apply Kd.R_drew)); exact HO934.out) (by decide)) hk (fun _ h => h.2)) (fun _ h => h.1)); have n1_ := Aside0.mk (hb); have n2_ := Aside0.mk (hi); clear HO934 HB HI931; have HO934 := n0_; have HB := n1_; have HI931 := n2_; clear n0_ n1_ n2_; (try clear hb hb2 hk hi)) | ((with_reducible refine gate_callee (f := 72) rfl ?_); refine goesL_ (some 16) rfl rfl Try.func72 (by kernel_rfl) rfl #[.pointer (some ⟨g931, 0, none⟩)] rfl (by simp only [List.map_toArray, List.map_cons, List.map_nil] <;> rfl) ?_; (with_reducible refine (spec_l1Cur_person25.calls g931 t928 t938 t939 t940 t941 t942 w _ ?side1 ?side2 A5.out).mono ?_); (case side1 => exact HI931.out); (case side2 => exact HB.out); rintro e w9 ⟨rfl, hi, hb, hk⟩; refine ⟨_, rfl, ?_⟩; have n0_ := Aside0.mk (Kd.R_mono (Kd.R_keep (IsS79.apart (show IsS79 w _ g931 t928 t938 t939 from by repeat (first | (with_reducible first | exact HI931.out | apply IsS79.alloc | apply IsS79.drewN | apply IsS79.drew | apply IsS79.set_1 | apply IsS79.set_2) | exact HI931.out)) (by (with_reducible repeat (first | apply Kd.R_alloc | apply Kd.R_drewN | apply Kd.R_drew)); exact HO934.out) (by decide)) hk (fun _ h => h.2)) (fun _ h => h.1)); have n1_ := Aside0.mk (hb); have n2_ := Aside0.mk (hi); clear HO934 HB HI931; have HO934 := n0_; have HB := n1_; have HI931 := n2_; clear n0_ n1_ n2_; (try clear hb hb2 hk hi)))
 go_ret3
 exact ⟨_, by first | rfl | (simp [*, errW_none, errW_some] <;> rfl), by (with_reducible repeat (first | apply Kd.R_alloc | apply Kd.R_drewN | apply Kd.R_drew)); exact HO934.out, HB.out⟩

/-! ### spec_DrawIsValidPlan: function 75 -/
def spec_DrawIsValidPlan.f (k : Nat) (l0 : List Int) : Option ((List (S44))) := (mk_l1Cur.f l0).bind fun bt943 => ((spec_l1Cur_plan25.f k bt943.1 bt943.2.1 bt943.2.2).bind fun bt947 => (some bt947.1))
set_option maxHeartbeats 8000000 in
set_option maxRecDepth 100000 in
theorem spec_DrawIsValidPlan.calls (k : Nat) (A0 : Option Addr) (c0 : Nat) (l0 : List Int) (r : List (S44)) (w : World) (hr0 : Kd.C (Kd.int .u8) w A0 l0.length l0) (hc0 : l0.length ≤ c0) (h : spec_DrawIsValidPlan.f k l0 = some r) :
  Calls Try.prog 75 #[.slice A0 l0.length c0] w fun e w' => ∃ v0_ : Value, e = .returned (v0_) ∧ Kd.R k44 44 w' w.heap.size (fun _ => True) v0_ r ∧ Below w.heap.size w w' := by
 have HR0 := Aside0.mk hr0
 have HC0 := Aside0.mk hc0
 clear hr0 hc0
 have HB := Aside0.mk (Below.refl w.heap.size w)
 have H : ((mk_l1Cur.f l0).bind fun bt943 => ((spec_l1Cur_plan25.f k bt943.1 bt943.2.1 bt943.2.2).bind fun bt947 => (some bt947.1))) = some r := h
 clear h
 replace H := Option.bind_eq_some_iff.mp H
 obtain ⟨⟨t943, t944, t945⟩, A20, H⟩ := H
 replace H : ((spec_l1Cur_plan25.f k t943 t944 t945).bind fun bt947 => (some bt947.1)) = some r := H
 have A2 := Aside0.mk A20
 clear A20
 replace H := Option.bind_eq_some_iff.mp H
 obtain ⟨⟨t947, t950, t951⟩, A30, H⟩ := H
 replace H : (some t947) = some r := H
 have A3 := Aside0.mk A30
 clear A30
 obtain rfl := Option.some.inj H
 go_enter Try.func75, Try.ntmps75
 go_wp2_with (first | ((with_reducible refine gate_dst (N := 6) rfl ?_); refine mk_l1Cur.box A0 c0 l0 t943 t944 t945 w A2.out ?side8 ?side9 ?side1 ?side2 ?side3 ?_; (case side8 => rfl); (case side1 => exact HB.out); (case side2 => exact HR0.out); (case side3 => exact HC0.out); (case side9 => first | (go_simp; done) | (go_simp; rfl)); intro g946 w4 hi hb hb2; have n0_ := Aside0.mk (hb); have n1_ := Aside0.mk (hi); clear HB; have HB := n0_; have HI946 := n1_; clear n0_ n1_; (try clear hb hb2 hk hi)) | ((with_reducible refine gate_callee (f := 70) rfl ?_); refine goesL_ (some 8) rfl rfl Try.func70 (by kernel_rfl) rfl #[.pointer (some ⟨g946, 0, none⟩)] rfl (by simp only [List.map_toArray, List.map_cons, List.map_nil] <;> rfl) ?_; (with_reducible refine (spec_l1Cur_plan25.calls k g946 t943 t944 t945 t947 t950 t951 w _ ?side1 ?side2 A3.out).mono ?_); (case side1 => exact HI946.out); (case side2 => exact HB.out); rintro e w5 ⟨v948, rfl, ho0, hi, hb, hk⟩; refine ⟨_, rfl, ?_⟩; have n0_ := Aside0.mk (Kd.R_lower ho0 (below_size HB.out)); have n1_ := Aside0.mk (hb); have n2_ := Aside0.mk (hi); clear HB HI946; have HO949 := n0_; have HB := n1_; have HI946 := n2_; clear n0_ n1_ n2_; (try clear hb hb2 hk hi); (try clear ho0)))
 go_ret
 exact ⟨_, by first | rfl | (simp [*, errW_none, errW_some] <;> rfl), by (with_reducible repeat (first | apply Kd.R_alloc | apply Kd.R_drewN | apply Kd.R_drew)); exact HO949.out, HB.out⟩

/-! ### spec_DrawHandoverHours: function 50 -/
def spec_DrawHandoverHours.f (k : Nat) (l0 : List Int) : Option ((List (S44))) := (spec_DrawIsValidPlan.f k l0).bind fun t952 => (some t952)
set_option maxHeartbeats 8000000 in
set_option maxRecDepth 100000 in
theorem spec_DrawHandoverHours.calls (k : Nat) (A0 : Option Addr) (c0 : Nat) (l0 : List Int) (r : List (S44)) (w : World) (hr0 : Kd.C (Kd.int .u8) w A0 l0.length l0) (hc0 : l0.length ≤ c0) (h : spec_DrawHandoverHours.f k l0 = some r) :
  Calls Try.prog 50 #[.slice A0 l0.length c0] w fun e w' => ∃ v0_ : Value, e = .returned (v0_) ∧ Kd.R k44 44 w' w.heap.size (fun _ => True) v0_ r ∧ Below w.heap.size w w' := by
 have HR0 := Aside0.mk hr0
 have HC0 := Aside0.mk hc0
 clear hr0 hc0
 have HB := Aside0.mk (Below.refl w.heap.size w)
 have H : ((spec_DrawIsValidPlan.f k l0).bind fun t952 => (some t952)) = some r := h
 clear h
 replace H := Option.bind_eq_some_iff.mp H
 obtain ⟨t952, A20, H⟩ := H
 replace H : (some t952) = some r := H
 have A2 := Aside0.mk A20
 clear A20
 obtain rfl := Option.some.inj H
 go_enter Try.func50, Try.ntmps50
 go_wp2_with (first | ((with_reducible refine gate_callee (f := 75) rfl ?_); refine goesL_ (some 4) rfl rfl Try.func75 (by kernel_rfl) rfl #[.slice A0 l0.length c0] rfl (by simp only [List.map_toArray, List.map_cons, List.map_nil] <;> rfl) ?_; (with_reducible refine (spec_DrawIsValidPlan.calls k _ _ l0 t952 _ ?side1 ?side2 A2.out).mono ?_); (case side1 => repeat (first | exact HR0.out | (with_reducible refine Kd.C_alloc ?_ _) | (with_reducible refine Kd.C_drewN ?_ _) | (with_reducible refine Kd.C_drew ?_))); (case side2 => exact HC0.out); rintro e w3 ⟨v953, rfl, ho0, hb⟩; refine ⟨_, rfl, ?_⟩; have n0_ := Aside0.mk (Kd.R_lower ho0 (below_size HB.out)); have n1_ := Aside0.mk (below_step HB.out hb); clear HB; have HO954 := n0_; have HB := n1_; clear n0_ n1_; (try clear hb hb2 hk hi); (try clear ho0)))
 go_ret
 exact ⟨_, by first | rfl | (simp [*, errW_none, errW_some] <;> rfl), by (with_reducible repeat (first | apply Kd.R_alloc | apply Kd.R_drewN | apply Kd.R_drew)); exact HO954.out, HB.out⟩

end Go.Proofs.Ythhjhbndnipdgaa.P
