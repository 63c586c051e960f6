-- Made by pp.py of this session out of the kit's print and of contracts proved by hand; Lean checks it.
import Derived.Test.YtgmmanppmjlclaaGreatDoorMc
import Derived.RangeFuncNested
import Derived.RangeFuncBound
import Derived.RangeFuncCalls
import Derived.RangeFuncLeaves
import Derived.Shelf.Abstract
import Derived.Shelf.RegionOpen
import Derived.WalkKit
import Derived.OwnWalkIn
import Derived.TacticsInMore
import Derived.LoopNIn
import Derived.LoopIn
import Derived.Test.YtgmmanppmjlclaaGreatDoorPx0
namespace Go.Proofs.YtgmmanppmjlclaaGreatDoor.P
open Go.RowKit Go.Proofs.YtgmmanppmjlclaaGreatDoorW.PrintWords Go.Proofs.YtgmmanppmjlclaaGreatDoorW.PrintLast Go.Proofs.YtgmmanppmjlclaaGreatDoorW.PrintMore
attribute [local go_sem] max2_int min2_int max_two min_two max_three min_three max_four min_four   -- for this text's walks alone
set_option linter.unusedVariables false
set_option linter.unusedSimpArgs false

-- ALONE
/-! ### impl_validProduct: function 33 -/
section
open Go.Shelf
attribute [local go_sem] Oper.semAt_some
def bwE (x : Nat × S26) : Array Value := #[.int .i64 (x.1 : Int), .agg #[.string x.2.f0, .int .i64 x.2.f1, .string x.2.f2]]
/-- What has come when k rounds are over. -/
def bwUp (l0 : List S26) (k : Nat) : List (Nat × S26) := (List.range k).map fun j => (l0.length - 1 - j, rd_T26 l0 ((l0.length - 1 - j : Nat) : Int))
theorem bwUp_succ (l0 : List S26) (k : Nat) : bwUp l0 (k + 1) = bwUp l0 k ++ [(l0.length - 1 - k, rd_T26 l0 ((l0.length - 1 - k : Nat) : Int))] := by simp [bwUp, List.range_succ]
theorem bwUp_length (l0 : List S26) (k : Nat) : (bwUp l0 k).length = k := by simp [bwUp]
set_option maxRecDepth 100000 in
set_option maxHeartbeats 2000000 in
theorem bw1_in (F : Fence) (n : Nat) (h88 : F.fn 75) (hro : F.round = none) (hn : 1 ≤ n) (l Bs : Nat) (w0 : World) (A0 : Option Addr) (c0 : Nat) (l0 : List S26) (hreach : l0.length * 40 ≤ 140737488351232)
    (hr0 : Kd.C k26 w0 A0 l0.length l0) (J Jx : List (Nat × S26) → World → Prop)
    (hY : ∀ pre x W, J pre W → pre.length < l0.length → YieldAt F (n - 1) Tryz.prog l (bwE x) W fun e W' =>
      (e = .returned (.bool true) ∧ J (pre ++ [x]) W' ∧ Below w0.heap.size W W') ∨ (e = .returned (.bool false) ∧ Jx (pre ++ [x]) W'))
    (W : World) (hW : Below w0.heap.size w0 W) (hBl : Bs < w0.heap.size) (hBs : w0.cell? ⟨Bs, 0, none⟩ = some (.slice A0 l0.length c0)) (h0 : J [] W) :
    CallsIn F n Tryz.prog 75 #[.func (.yield l) #[] #[], .pointer (some ⟨Bs, 0, none⟩)] W fun e W' => (∃ v, e = .returned v) ∧
      ((∃ ys, ys = bwUp l0 l0.length ∧ J ys W') ∨ (∃ pre, (∃ k, k ≤ l0.length ∧ pre = bwUp l0 k) ∧ Jx pre W')) := by
  refine callsIn_of_wp Tryz.func75 rfl h88 ?_ hro
  simp only [Tryz.ntmps75, List.size_toArray, List.length_cons, List.length_nil, Nat.reduceAdd, Nat.reduceSub, Array.replicate_succ, Array.replicate_zero, List.push_toArray, List.append_toArray, List.nil_append, List.cons_append]
  have hc0 := (hW.cell (p := ⟨Bs, 0, none⟩) hBl).trans hBs
  have hw1 : IntKind.i64.wrap ((l0.length : Int) - 1) = (l0.length : Int) - 1 := by rw [i64_w]; unfold wrap64; omega
  gi_wp2
  gi_loopw [3] (fun i wr => ∃ k : Nat, k ≤ l0.length ∧ i = .int .i64 ((l0.length : Int) - 1 - k) ∧ J (bwUp l0 k) wr ∧ Below w0.heap.size w0 wr)
    (fun i _ => (intOf i + 1).toNat)
  case atStart => exact ⟨0, Nat.zero_le _, by simp, h0, hW⟩
  case round =>
    obtain ⟨k, hk, rfl, hJs, hnx⟩ := hrel
    have hcx := (hnx.cell (p := ⟨Bs, 0, none⟩) hBl).trans hBs
    by_cases hlt : k < l0.length
    · obtain ⟨j, hj⟩ : ∃ j : Nat, (l0.length : Int) - 1 - k = j := ⟨l0.length - 1 - k, by omega⟩
      have hj2 : l0.length - 1 - k = j := by omega
      obtain ⟨fn, tmps, assign, body, hy, hR⟩ := hY _ (j, rd_T26 l0 (j : Int)) wr hJs (by rw [bwUp_length]; exact hlt)
      obtain ⟨ad, e1, hx0, hx1, hx2⟩ := at_T26 (Kd.C_below hr0 hnx) (j : Int) (by omega) (by omega)
      subst e1
      have hup := bwUp_succ l0 k
      rw [hj2] at hup
      rw [hj]
      have hjl : (j : Int) < l0.length := by omega
      have hjl2 : j < l0.length := by omega
      simp only [Int.toNat_natCast] at hx0 hx1 hx2
      dsimp only [bwE] at hy
      have hw2 : IntKind.i64.wrap ((j : Int) - 1) = (j : Int) - 1 := by rw [i64_w]; unfold wrap64; omega
      gi_wp2
      refine hR.mono ?_
      rintro e W3 (⟨rfl, hJ3, hk3⟩ | ⟨rfl, hJx3⟩)
      · gi_wp2
        go_roundw
        case rel => exact ⟨k + 1, by omega, by rw [show (l0.length : Int) - 1 - ((k + 1 : Nat) : Int) = (j : Int) - 1 by omega], by rw [hup]; exact hJ3, hnx.trans hk3⟩
        case measure => simp only [intOf]; simp
      · gi_wp2
        refine bodyPost_ret (results_none rfl _ _ _) rfl ?_
        exact ⟨⟨_, rfl⟩, .inr ⟨_, ⟨k + 1, by omega, hup.symm⟩, hJx3⟩⟩
    · obtain rfl : k = l0.length := by omega
      gi_wp2
      go_end0
      exact ⟨⟨_, rfl⟩, .inl ⟨_, rfl, hJs⟩⟩
set_option maxHeartbeats 1000000 in
theorem bw_in (F : Fence) (n : Nat) (h74 : F.fn 59) (hro : F.round = none) (a : Option Addr) (len cap : Nat) (w : World) :
    CallsIn F n Tryz.prog 59 #[.slice a len cap] w fun e w' => e = .returned (.func (.func 75) #[] #[.pointer (some ⟨w.heap.size, 0, none⟩)]) ∧ w' = w.alloc (.cells #[.slice a len cap] 24) := by
  refine callsIn_of_wp Tryz.func59 rfl h74 ?_ hro
  simp only [Tryz.ntmps59, List.size_toArray, List.length_cons, List.length_nil, Nat.reduceAdd, Nat.reduceSub, Array.replicate_succ, Array.replicate_zero, List.push_toArray, List.append_toArray, List.nil_append, List.cons_append]
  gi_wp2
  go_ret
  exact ⟨rfl, rfl⟩
theorem bw_stops (F : Fence) (n : Nat) (h88 : F.fn 75) (hro : F.round = none) (hn : 1 ≤ n) (Bs : Nat) (w0 : World) (A0 : Option Addr) (c0 : Nat) (l0 : List S26) (hreach : l0.length * 40 ≤ 140737488351232)
    (hr0 : Kd.C k26 w0 A0 l0.length l0) (hBl : Bs < w0.heap.size) (hBs : w0.cell? ⟨Bs, 0, none⟩ = some (.slice A0 l0.length c0)) :
    SeqStopsK F n Tryz.prog 75 #[.pointer (some ⟨Bs, 0, none⟩)] bwE (Below w0.heap.size) (fun ys => ys = bwUp l0 l0.length) (fun pre => ∃ k, k ≤ l0.length ∧ pre = bwUp l0 k) l0.length w0 := fun l J Jx W hW _ _ hY h0 =>
  bw1_in F n h88 hro hn l Bs w0 A0 c0 l0 hreach hr0 J Jx hY W hW hBl hBs h0
/-- The first of the products, from behind, that has the name and is not later. -/
def vpHit (a1 : ByteArray) (a2 : Int) (p : S26) : Bool := decide (p.f0.toList = a1.toList ∧ p.f1 ≤ a2)
def vpOf (a1 : ByteArray) (a2 : Int) : List S26 → S26 × Bool
  | [] => (z26, false)
  | p :: ps => if vpHit a1 a2 p = true then (p, true) else vpOf a1 a2 ps
def impl_validProduct.f (l0 : List S26) (a1 : ByteArray) (a2 : Int) : Option (ByteArray × Int × ByteArray × Bool) :=
  if l0.length * 40 ≤ 140737488351232 then some ((vpOf a1 a2 l0.reverse).1.f0, (vpOf a1 a2 l0.reverse).1.f1, (vpOf a1 a2 l0.reverse).1.f2, (vpOf a1 a2 l0.reverse).2) else none
theorem bwUp_map (l0 : List S26) (k : Nat) (hk : k ≤ l0.length) : (bwUp l0 k).map (·.2) = l0.reverse.take k := by
  apply List.ext_getElem
  · simp [bwUp]; omega
  · intro i h1 h2
    have hi : i < k := by simpa [bwUp] using h1
    have e : rd_T26 l0 ((l0.length - 1 - i : Nat) : Int) = l0[l0.length - 1 - i]'(by omega) := by simp [rd_T26, show l0.length - 1 - i < l0.length by omega]
    simp only [bwUp, List.map_map, List.getElem_map, List.getElem_range, Function.comp_apply, List.getElem_take, List.getElem_reverse]
    exact e
theorem bwUp_rev (l0 : List S26) : (bwUp l0 l0.length).map (·.2) = l0.reverse := by
  rw [bwUp_map l0 _ (Nat.le_refl _), List.take_of_length_le (by simp)]
theorem vpOf_miss (a1 : ByteArray) (a2 : Int) : ∀ l : List S26, (∀ y ∈ l, vpHit a1 a2 y = false) → vpOf a1 a2 l = (z26, false)
  | [], _ => rfl
  | x :: xs, h => by
    have h1 := h x (by simp)
    simp only [vpOf, h1, Bool.false_eq_true, if_false]
    exact vpOf_miss a1 a2 xs (fun y hy => h y (by simp [hy]))
theorem vpOf_hit (a1 : ByteArray) (a2 : Int) (p : S26) (ps : List S26) : ∀ l : List S26, (∀ y ∈ l, vpHit a1 a2 y = false) → vpHit a1 a2 p = true → vpOf a1 a2 (l ++ p :: ps) = (p, true)
  | [], _, hp => by simp [vpOf, hp]
  | x :: xs, h, hp => by
    have h1 := h x (by simp)
    simp only [List.cons_append, vpOf, h1, Bool.false_eq_true, if_false]
    exact vpOf_hit a1 a2 p ps xs (fun y hy => h y (by simp [hy])) hp
theorem vp_kept {A B : World} {row : Option Nat} {g : Nat} {cs : Array Value} {t : TypeId} (h : A.heap[g]? = some (.cells cs t (0, 0))) (hg : A.grownBy B row) (hr : ∀ r, row = some r → ∃ o : Obj, A.heap[r]? = some o ∧ o.isCells = false) : B.heap[g]? = some (.cells cs t (0, 0)) :=
  blk_grown h hg (fun e => by obtain ⟨o, ho, hc⟩ := hr g e.symm; rw [h] at ho; cases ho; cases hc)
set_option maxRecDepth 100000 in
set_option maxHeartbeats 4000000 in
theorem vp_in (F : Fence) (n : Nat) (h53 : F.fn 33) (h74 : F.fn 59) (h88 : F.fn 75) (hro : F.round = none) (hn : 3 ≤ n) (A0 : Option Addr) (c0 : Nat) (l0 : List S26) (a1 : ByteArray) (a2 : Int) (w : World) (hreach : l0.length * 40 ≤ 140737488351232)
    (hr0 : Kd.C k26 w A0 l0.length l0) :
    CallsIn F n Tryz.prog 33 #[.slice A0 l0.length c0, .string a1, .int .i64 a2] w fun e W' =>
      (∃ p b, vpOf a1 a2 l0.reverse = (p, b) ∧ e = .returned (.tuple #[.agg #[.string p.f0, .int .i64 p.f1, .string p.f2], .bool b])) ∧ Below w.heap.size w W' := by
  have h1 : 1 ≤ n := by omega
  refine callsIn_of_wp_marks Tryz.func33 rfl h53 ?_ hro
  simp only [Tryz.ntmps33, List.size_toArray, List.length_cons, List.length_nil, Nat.reduceAdd, Nat.reduceSub, Array.replicate_succ, Array.replicate_zero, List.push_toArray, List.append_toArray, List.nil_append, List.cons_append]
  gi_wp2_with (gi_at_call 59; refine (bw_in F (n - 1) h74 hro _ _ _ _).mono ?_; rintro e w' ⟨rfl, rfl⟩)
  obtain ⟨W1, hW1⟩ : ∃ W1, (((((w.alloc (Obj.cells #[Value.string a1] 9)).alloc (Obj.cells #[Value.int IntKind.i64 a2] 3)).alloc (Obj.cells #[Value.string { data := #[] }, Value.int IntKind.i64 0, Value.string { data := #[] }] 26)).alloc (Obj.cells #[Value.bool false] 4)).alloc (Obj.cells #[Value.slice A0 l0.length c0] 24)) = W1 := ⟨_, rfl⟩
  have b0 : W1.heap[w.heap.size]? = some (.cells #[.string a1] 9 (0, 0)) := by
    rw [← hW1]; exact blk_alloc (blk_alloc (blk_alloc (blk_alloc (blk_new w _) _) _) _) _
  have b1 : W1.heap[w.heap.size + 1]? = some (.cells #[.int .i64 a2] 3 (0, 0)) := by
    rw [← hW1]; exact blk_alloc (blk_alloc (blk_alloc (by have h := blk_new (w.alloc (Obj.cells #[Value.string a1] 9)) (.cells #[.int .i64 a2] 3 (0, 0)); rwa [World.size_alloc] at h) _) _) _
  have b2 : W1.heap[w.heap.size + 2]? = some (.cells #[Value.string { data := #[] }, Value.int IntKind.i64 0, Value.string { data := #[] }] 26 (0, 0)) := by
    rw [← hW1]; exact blk_alloc (blk_alloc (by have h := blk_new ((w.alloc (Obj.cells #[Value.string a1] 9)).alloc (Obj.cells #[Value.int IntKind.i64 a2] 3)) (.cells #[Value.string { data := #[] }, Value.int IntKind.i64 0, Value.string { data := #[] }] 26 (0, 0)); simpa only [World.size_alloc, Nat.add_assoc, Nat.reduceAdd] using h) _) _
  have b3 : W1.heap[w.heap.size + 3]? = some (.cells #[.bool false] 4 (0, 0)) := by
    rw [← hW1]; exact blk_alloc (by have h := blk_new (((w.alloc (Obj.cells #[Value.string a1] 9)).alloc (Obj.cells #[Value.int IntKind.i64 a2] 3)).alloc (Obj.cells #[Value.string { data := #[] }, Value.int IntKind.i64 0, Value.string { data := #[] }] 26)) (.cells #[.bool false] 4 (0, 0)); simpa only [World.size_alloc, Nat.add_assoc, Nat.reduceAdd] using h) _
  have b4 : W1.heap[w.heap.size + 4]? = some (.cells #[.slice A0 l0.length c0] 24 (0, 0)) := by
    rw [← hW1]; have h := blk_new ((((w.alloc (Obj.cells #[Value.string a1] 9)).alloc (Obj.cells #[Value.int IntKind.i64 a2] 3)).alloc (Obj.cells #[Value.string { data := #[] }, Value.int IntKind.i64 0, Value.string { data := #[] }] 26)).alloc (Obj.cells #[Value.bool false] 4)) (.cells #[.slice A0 l0.length c0] 24 (0, 0)); simpa only [World.size_alloc, Nat.add_assoc, Nat.reduceAdd] using h
  have hsz : W1.heap.size = w.heap.size + 5 := by rw [← hW1]; simp [World.size_alloc]
  have hB0 : Below w.heap.size w W1 := by
    rw [← hW1]
    exact (((((Below.refl _ w).alloc (Nat.le_refl _) _).alloc (by simp) _).alloc (by simp; omega) _).alloc (by simp; omega) _).alloc (by simp; omega) _
  rw [hW1]
  clear hW1
  simp only [Nat.add_assoc, Nat.reduceAdd]
  refine wpIn_rangeFunc_ownH hro h1 (gf := 75) (lb := #[.pointer (some ⟨w.heap.size + 4, 0, none⟩)]) rfl h88 (enters_of Tryz.func75 kr_ rfl)
    (bw_stops F (n - 1) h88 hro (by omega) (w.heap.size + 4) W1 A0 c0 l0 hreach (Kd.C_below hr0 hB0) (by omega) (blk_cell b4 0)) belowK_t (belowK_b (by omega)) (Below.refl _ _) (fun _ => rfl)
    (fun pre W => ((∀ x ∈ pre, vpHit a1 a2 x.2 = false) ∧ W.heap[w.heap.size]? = some (.cells #[.string a1] 9 (0, 0)) ∧ W.heap[w.heap.size + 1]? = some (.cells #[.int .i64 a2] 3 (0, 0)) ∧ W.heap[w.heap.size + 2]? = some (.cells #[Value.string { data := #[] }, Value.int IntKind.i64 0, Value.string { data := #[] }] 26 (0, 0)) ∧ W.heap[w.heap.size + 3]? = some (.cells #[.bool false] 4 (0, 0)) ∧ W1.heap.size ≤ W.heap.size) ∧ Below w.heap.size w W)
    (fun c pre W => (c = .ret ∧ ∃ ini x, pre = ini ++ [x] ∧ (∀ y ∈ ini, vpHit a1 a2 y.2 = false) ∧ vpHit a1 a2 x.2 = true ∧ W.heap[w.heap.size + 2]? = some (.cells #[.string x.2.f0, .int .i64 x.2.f1, .string x.2.f2] 26 (0, 0)) ∧ W.heap[w.heap.size + 3]? = some (.cells #[.bool true] 4 (0, 0))) ∧ Below w.heap.size w W)
    (OwnFrom.and (Own.from (fun s A B row hs hg hr => ⟨hs.1, vp_kept hs.2.1 hg hr, vp_kept hs.2.2.1 hg hr, vp_kept hs.2.2.2.1 hg hr, vp_kept hs.2.2.2.2.1 hg hr, Nat.le_trans hs.2.2.2.2.2 hg.size⟩) _) (ownFrom_below (Nat.le_refl _) (by omega)))
    (fun c => OwnFrom.and (Own.from (fun s A B row hs hg hr => by obtain ⟨hc, ini, x, e1, e2, e3, e4, e5⟩ := hs; exact ⟨hc, ini, x, e1, e2, e3, vp_kept e4 hg hr, vp_kept e5 hg hr⟩) _) (ownFrom_below (Nat.le_refl _) (by omega)))
    ⟨⟨by simp, b0, b1, b2, b3, Nat.le_refl _⟩, hB0⟩
    (fun x a' W => ∃ Bx, W1.heap.size ≤ Bx ∧ W.heap[Bx]? = some (.cells #[.string x.2.f0, .int .i64 x.2.f1, .string x.2.f2] 26 (0, 0)) ∧ a' = { tmps := #[.slice A0 l0.length c0, .string a1, .int .i64 a2, undef, .pointer (some ⟨w.heap.size, 0, none⟩), .pointer (some ⟨w.heap.size + 1, 0, none⟩), .pointer (some ⟨w.heap.size + 2, 0, none⟩), .pointer (some ⟨w.heap.size + 3, 0, none⟩), undef, .pointer (some ⟨Bx, 0, none⟩), .slice A0 l0.length c0, .func (.func 75) #[] #[.pointer (some ⟨w.heap.size + 4, 0, none⟩)], .int .i64 (x.1 : Int), .agg #[.string x.2.f0, .int .i64 x.2.f1, .string x.2.f2], undef, undef, undef, undef, undef, undef, undef, undef, undef, undef, undef, undef], defers := [] })
    (fun x a' _ X Y row hs hg hr => by obtain ⟨Bx, h1, h2, h3⟩ := hs; exact ⟨Bx, h1, vp_kept h2 hg (fun r e => (hr r e).2), h3⟩)
    ?assign ?body ?done ?stop
  case assign =>
    rintro l pre x W K ⟨⟨hp, c0, c1, c2, c3, hsW⟩, hB⟩ hK
    dsimp only [bwE]
    gi_wp2
    have hs1 := hB.size
    exact hK _ _ ((KeepsOthers.alloc _ _).from _) ((Below.refl _ W).alloc hsW _) ⟨⟨hp, blk_alloc c0 _, blk_alloc c1 _, blk_alloc c2 _, blk_alloc c3 _, by rw [World.size_alloc]; omega⟩, hB.alloc hs1 _⟩ ⟨W.heap.size, hsW, blk_new W _, rfl⟩
  case body =>
    rintro l pre x a' W hl ⟨r, hr⟩ ⟨⟨hp, c0, c1, c2, c3, hsW⟩, hB⟩ ⟨Bx, hBx, bX, rfl⟩ hlt
    have hx0 := blk_cell bX 0
    have hx1 := blk_cell bX 1
    have hx2 := blk_cell bX 2
    have hn0 := blk_cell c0 0
    have hn1 := blk_cell c1 0
    have k0 := blk_cell c2 0
    have k1 := blk_frozen c2 0
    have d1 := blk_set c2 0 (Value.string x.snd.f0)
    have k2 := blk_cell d1 1
    have k3 := blk_frozen d1 1
    have d2 := blk_set d1 1 (Value.int IntKind.i64 x.snd.f1)
    have k4 := blk_cell d2 2
    have k5 := blk_frozen d2 2
    have d3 := blk_set d2 2 (Value.string x.snd.f2)
    have f1 := blk_far c3 (p := ⟨w.heap.size + 2, 0, none⟩) (by simp) (Value.string x.snd.f0)
    have f2 := blk_far f1 (p := ⟨w.heap.size + 2, 1, none⟩) (by simp) (Value.int IntKind.i64 x.snd.f1)
    have f3 := blk_far f2 (p := ⟨w.heap.size + 2, 2, none⟩) (by simp) (Value.string x.snd.f2)
    have k6 := blk_cell f3 0
    have k7 := blk_frozen f3 0
    have f4 := blk_set f3 0 (Value.bool true)
    have d4 := blk_far d3 (p := ⟨w.heap.size + 3, 0, none⟩) (by simp) (Value.bool true)
    simp only [List.setIfInBounds_toArray, List.set_cons_zero, List.set_cons_succ] at d1 d2 d3 d4 f4
    gi_wp2
    · rename_i hx1' hx2'
      have hB' := (((hB.setCell (p := ⟨w.heap.size + 2, 0, none⟩) (by simp) (Value.string x.snd.f0)).setCell (p := ⟨w.heap.size + 2, 1, none⟩) (by simp) (Value.int IntKind.i64 x.snd.f1)).setCell (p := ⟨w.heap.size + 2, 2, none⟩) (by simp) (Value.string x.snd.f2)).setCell (p := ⟨w.heap.size + 3, 0, none⟩) (by simp) (Value.bool true)
      exact ⟨((((KeepsOthers.setCell _ _ _).trans (KeepsOthers.setCell _ _ _)).trans (KeepsOthers.setCell _ _ _)).trans (KeepsOthers.setCell _ _ _)).from _, ⟨rfl, pre, x, rfl, hp, decide_eq_true ⟨hx1', hx2'⟩, d4, f4⟩, hB'⟩
    · rename_i hx1' hx2'
      exact ⟨KeepsFrom.refl _ _, Below.refl _ _, ⟨fun y hy => (List.mem_append.1 hy).elim (hp y) (fun e => by rw [List.mem_singleton.1 e]; exact decide_eq_false (fun h => by omega)), c0, c1, c2, c3, hsW⟩, hB⟩
    · rename_i hx1'
      exact ⟨KeepsFrom.refl _ _, Below.refl _ _, ⟨fun y hy => (List.mem_append.1 hy).elim (hp y) (fun e => by rw [List.mem_singleton.1 e]; exact decide_eq_false (fun h => hx1' h.1)), c0, c1, c2, c3, hsW⟩, hB⟩
  case done =>
    rintro D ys W hD rfl ⟨⟨hp, c0, c1, c2, c3, hsW⟩, hB⟩ hK
    have k0 := blk_cell c2 0
    have k1 := blk_frozen c2 0
    have d1 := blk_set c2 0 (Value.string ⟨#[]⟩)
    have k2 := blk_cell d1 1
    have k3 := blk_frozen d1 1
    have d2 := blk_set d1 1 (Value.int IntKind.i64 0)
    have k4 := blk_cell d2 2
    have k5 := blk_frozen d2 2
    have d3 := blk_set d2 2 (Value.string ⟨#[]⟩)
    have f1 := blk_far c3 (p := ⟨w.heap.size + 2, 0, none⟩) (by simp) (Value.string ⟨#[]⟩)
    have f2 := blk_far f1 (p := ⟨w.heap.size + 2, 1, none⟩) (by simp) (Value.int IntKind.i64 0)
    have f3 := blk_far f2 (p := ⟨w.heap.size + 2, 2, none⟩) (by simp) (Value.string ⟨#[]⟩)
    have k6 := blk_cell f3 0
    have k7 := blk_frozen f3 0
    have f4 := blk_set f3 0 (Value.bool false)
    have d4 := blk_far d3 (p := ⟨w.heap.size + 3, 0, none⟩) (by simp) (Value.bool false)
    simp only [List.setIfInBounds_toArray, List.set_cons_zero, List.set_cons_succ] at d1 d2 d3 d4 f4
    gi_wp2
    have hK' := ((((KeepsOthers.setCell W ⟨w.heap.size + 2, 0, none⟩ (Value.string ⟨#[]⟩)).trans (KeepsOthers.setCell _ ⟨w.heap.size + 2, 1, none⟩ (Value.int IntKind.i64 0))).trans (KeepsOthers.setCell _ ⟨w.heap.size + 2, 2, none⟩ (Value.string ⟨#[]⟩))).trans (KeepsOthers.setCell _ ⟨w.heap.size + 3, 0, none⟩ (Value.bool false))).same D _ hK rfl
    refine ⟨by simp, .inl ⟨_, _, rfl, run_takeDeferred hK', ?_⟩⟩
    have g2 := vp_kept d4 (grownBy_putObj' _ D (.deferred none)) (fun r e => by cases e; exact ⟨_, hK', rfl⟩)
    have g3 := vp_kept f4 (grownBy_putObj' _ D (.deferred none)) (fun r e => by cases e; exact ⟨_, hK', rfl⟩)
    have q0 := blk_cell g2 0
    have q1 := blk_cell g2 1
    have q2 := blk_cell g2 2
    have q3 := blk_cell g3 0
    have hB' := (((hB.setCell (p := ⟨w.heap.size + 2, 0, none⟩) (by simp) (Value.string ⟨#[]⟩)).setCell (p := ⟨w.heap.size + 2, 1, none⟩) (by simp) (Value.int IntKind.i64 0)).setCell (p := ⟨w.heap.size + 2, 2, none⟩) (by simp) (Value.string ⟨#[]⟩)).setCell (p := ⟨w.heap.size + 3, 0, none⟩) (by simp) (Value.bool false)
    refine ⟨.tuple #[.agg #[.string ⟨#[]⟩, .int .i64 0, .string ⟨#[]⟩], .bool false], ?_, ⟨z26, false, ?_, rfl⟩, hB'.trans (belowK_b (w := w) (Nat.le_refl _) _ D _ _ (by omega) hK' rfl rfl)⟩
    · simp [results, Tryz.f33, go_sem, q0, q1, q2, q3]
    · rw [← bwUp_rev l0]
      exact vpOf_miss a1 a2 _ (fun y hy => by obtain ⟨z, hz, rfl⟩ := List.mem_map.1 hy; exact hp z hz)
  case stop =>
    rintro D c pre W hD ⟨k, hk, rfl⟩ ⟨⟨rfl, ini, x, e1, e2, e3, c2, c3⟩, hB⟩ hK
    gi_wp2
    refine ⟨by simp, .inl ⟨_, _, rfl, run_takeDeferred hK, ?_⟩⟩
    have g2 := vp_kept c2 (grownBy_putObj' _ D (.deferred none)) (fun r e => by cases e; exact ⟨_, hK, rfl⟩)
    have g3 := vp_kept c3 (grownBy_putObj' _ D (.deferred none)) (fun r e => by cases e; exact ⟨_, hK, rfl⟩)
    have q0 := blk_cell g2 0
    have q1 := blk_cell g2 1
    have q2 := blk_cell g2 2
    have q3 := blk_cell g3 0
    refine ⟨.tuple #[.agg #[.string x.2.f0, .int .i64 x.2.f1, .string x.2.f2], .bool true], ?_, ⟨x.2, true, ?_, rfl⟩, hB.trans (belowK_b (w := w) (Nat.le_refl _) _ D _ _ (by omega) hK rfl rfl)⟩
    · simp [results, Tryz.f33, go_sem, q0, q1, q2, q3]
    · have h2 : l0.reverse = ini.map (·.2) ++ x.2 :: l0.reverse.drop k := by
        conv => lhs; rw [← List.take_append_drop k l0.reverse, ← bwUp_map l0 k hk, e1]
        simp
      rw [h2]
      exact vpOf_hit a1 a2 _ _ _ (fun y hy => by obtain ⟨z, hz, rfl⟩ := List.mem_map.1 hy; exact e2 z hz) e3
theorem vp_calls (A0 : Option Addr) (c0 : Nat) (l0 : List S26) (a1 : ByteArray) (a2 : Int) (w : World) (hreach : l0.length * 40 ≤ 140737488351232) (hr0 : Kd.C k26 w A0 l0.length l0) :
    Calls Tryz.prog 33 #[.slice A0 l0.length c0, .string a1, .int .i64 a2] w fun e W' =>
      (∃ p b, vpOf a1 a2 l0.reverse = (p, b) ∧ e = .returned (.tuple #[.agg #[.string p.f0, .int .i64 p.f1, .string p.f2], .bool b])) ∧ Below w.heap.size w W' :=
  (callsIn_wide (n := 3)).1 (vp_in Fence.wide 3 trivial trivial trivial rfl (Nat.le_refl _) A0 c0 l0 a1 a2 w hreach hr0)
end
set_option maxHeartbeats 8000000 in
set_option maxRecDepth 100000 in
theorem impl_validProduct.calls (A0 : Option Addr) (c0 : Nat) (l0 : List (S26)) (a1 : ByteArray) (a2 : Int) (r1 : ByteArray) (r2 : Int) (r3 : ByteArray) (r4 : Bool) (w : World) (hr0 : Kd.C k26 w A0 l0.length l0) (hc0 : l0.length ≤ c0) (h : impl_validProduct.f l0 a1 a2 = some (r1, r2, r3, r4)) :
    Calls Tryz.prog 33 #[.slice A0 l0.length c0, .string a1, .int .i64 a2] w fun e w' => e = .returned (.tuple #[.agg #[.string r1, .int .i64 r2, .string r3], .bool r4]) ∧ Below w.heap.size w w' := by
  unfold impl_validProduct.f at h
  by_cases c2 : l0.length * 40 ≤ 140737488351232
  · rw [if_pos c2] at h
    refine (vp_calls A0 c0 l0 a1 a2 w c2 hr0).mono ?_
    rintro e w' ⟨⟨p, b, e1, rfl⟩, hB⟩
    rw [e1] at h
    simp only [Option.some.injEq, Prod.mk.injEq] at h
    obtain ⟨rfl, rfl, rfl, rfl⟩ := h
    exact ⟨rfl, hB⟩
  · rw [if_neg c2] at h
    exact absurd h (by simp)

end Go.Proofs.YtgmmanppmjlclaaGreatDoor.P
