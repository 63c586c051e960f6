-- Made by pp.py of this session out of the kit's print and of contracts proved by hand; Lean checks it.
import Derived.RangeFuncNested
import Derived.RangeFuncBound
import Derived.RangeFuncCalls
import Derived.RangeFuncLeaves
import Derived.Shelf.Abstract
import Derived.Shelf.RegionOpen
import Derived.WalkKit
import Derived.OwnWalkIn
import Derived.TacticsInMore
import Derived.LoopNIn
import Derived.LoopIn
import Derived.Test.YtdhdifoenladpaaPx0
import Derived.Test.YtdhdifoenladpaaPx4
import Derived.Test.YtdhdifoenladpaaPx7
import Derived.Test.YtdhdifoenladpaaPx31
namespace Go.Proofs.Ytdhdifoenladpaa.P
open Go.RowKit Go.Proofs.YtdhdifoenladpaaW.PrintWords Go.Proofs.YtdhdifoenladpaaW.PrintLast Go.Proofs.YtdhdifoenladpaaW.PrintMore
attribute [local go_sem] max2_int min2_int max_two min_two max_three min_three max_four min_four   -- for this text's walks alone
set_option linter.unusedVariables false
set_option linter.unusedSimpArgs false

-- ALONE
/-! ### impl_TenDayMeans: function 38 -/
open Go.Shelf
attribute [local go_sem] Oper.semAt_some
/-- The parts of ten days each, by their numbers. -/
def CkP (l0 : List Int) := {j : Nat // 10 * j < l0.length}
def partN (l0 : List Int) (j : Nat) : List Int := (l0.drop (10 * j)).take 10
def ckM (l0 : List Int) (k : Nat) (h : 10 * k < l0.length) : CkP l0 := ⟨k, h⟩
def ckE (ad : Addr) (l0 : List Int) (x : CkP l0) : Array Value := #[.slice (some (ad.add (10 * x.1))) (partN l0 x.1).length (partN l0 x.1).length]
def ckK (Bs Bn : Nat) (A B : World) : Prop := B.heap[Bs]? = A.heap[Bs]? ∧ B.heap[Bn]? = A.heap[Bn]?
theorem cut_ {G T : Prop} (f : G → T) (g : G) : T := f g
set_option maxRecDepth 100000 in
set_option maxHeartbeats 2000000 in
theorem ck1_in (F : Fence) (n : Nat) (h85 : F.fn 85) (hro : F.round = none) (hn : 1 ≤ n) (l Bs Bn : Nat) (ad : Addr) (c0 : Nat) (l0 : List Int) (hc : l0.length ≤ c0) (h60 : l0.length ≤ 60)
    (J Jx : List (CkP l0) → World → Prop)
    (hY : ∀ pre x W, J pre W → pre.length < (l0.length + 9) / 10 → YieldAt F (n - 1) Try.prog l (ckE ad l0 x) W fun e W' =>
      (e = .returned (.bool true) ∧ J (pre ++ [x]) W' ∧ ckK Bs Bn W W') ∨ (e = .returned (.bool false) ∧ Jx (pre ++ [x]) W'))
    (hJd : ∀ pre W, J pre W → J pre W.drew)
    (W : World) (hBs : W.heap[Bs]? = some (.cells #[.slice (some ad) l0.length c0] 22 (0, 0))) (hBn : W.heap[Bn]? = some (.cells #[.int .i64 10] 3 (0, 0))) (h0 : J [] W) :
    CallsIn F n Try.prog 85 #[.func (.yield l) #[] #[], .pointer (some ⟨Bs, 0, none⟩), .pointer (some ⟨Bn, 0, none⟩)] W fun e W' => (∃ v, e = .returned v) ∧
      ((∃ ys, ys.map (·.1) = List.range ((l0.length + 9) / 10) ∧ J ys W') ∨ (∃ pre, True ∧ Jx pre W')) := by
  refine callsIn_of_wp Try.func85 rfl h85 ?_ hro
  simp only [Try.ntmps85, List.size_toArray, List.length_cons, List.length_nil, Nat.reduceAdd, Nat.reduceSub, Array.replicate_succ, Array.replicate_zero, List.push_toArray, List.append_toArray, List.nil_append, List.cons_append]
  gi_wp2
  gi_loopw [4, 5] (fun i _ wr => ∃ (k : Nat) (pre : List (CkP l0)), k ≤ (l0.length + 9) / 10 ∧ i = .int .i64 ((10 * k : Nat) : Int) ∧ pre.map (·.1) = List.range k ∧ J pre wr ∧ wr.heap[Bs]? = some (.cells #[.slice (some ad) l0.length c0] 22 (0, 0)) ∧ wr.heap[Bn]? = some (.cells #[.int .i64 10] 3 (0, 0)))
    (fun i _ _ => (100 - intOf i).toNat)
  case atStart => exact ⟨0, [], Nat.zero_le _, rfl, rfl, h0, hBs, hBn⟩
  case round =>
    obtain ⟨k, pre, hk, rfl, hpre, hJs, bS, bN⟩ := hrel
    have hs := blk_cell bS 0
    have hN := blk_cell bN 0
    by_cases hlt : 10 * k < l0.length
    · have hk1 : pre.length = k := by rw [← List.length_range (n := k), ← hpre, List.length_map]
      have hkN : pre.length < (l0.length + 9) / 10 := by omega
      have hkN2 : k + 1 ≤ (l0.length + 9) / 10 := by omega
      have hY1 := fun (w2 : World) (hj : J pre w2) => hY pre (ckM l0 k hlt) w2 hj hkN
      have hpl : (partN l0 k).length = min 10 (l0.length - 10 * k) := by simp [partN]
      dsimp only [ckE] at hY1
      have hcm : (ckM l0 k hlt).1 = k := rfl
      rw [hcm] at hY1
      obtain ⟨m, hm⟩ : ∃ m, 10 * k = m := ⟨_, rfl⟩
      obtain ⟨q, hq⟩ : ∃ q, (partN l0 k).length = q := ⟨_, rfl⟩
      have hlt2 : m < l0.length := by rw [← hm]; exact hlt
      rw [hm, hq] at hY1
      rw [hq, hm] at hpl
      rw [hm]
      have hmi : (m : Int) < (l0.length : Int) := by omega
      have hmi2 : (m : Int) ≤ (l0.length : Int) := by omega
      have hmc : ¬ (c0 = m) := by omega
      have hml : ((l0.length - m : Nat) : Int) = (l0.length : Int) - m := by omega
      have hmin : (if (l0.length : Int) - (m : Int) < 10 then (l0.length : Int) - (m : Int) else 10) = (q : Int) := by rw [hpl]; split <;> omega
      have hw1 : IntKind.i64.wrap ((m : Int) + (q : Int)) = ((m + q : Nat) : Int) := by rw [i64_w]; unfold wrap64; omega
      have hw2 : IntKind.i64.wrap ((m : Int) + 10) = ((m + 10 : Nat) : Int) := by rw [i64_w]; unfold wrap64; omega
      have hq2 : ((m + q : Nat) : Int) ≤ (c0 : Int) := by omega
      have hq3 : m + q - m = q := by omega
      have hY2 := hY1 wr.drew (hJd pre wr hJs)
      have hpre2 : (pre ++ [ckM l0 k hlt]).map (fun x => x.1) = List.range (k + 1) := by rw [List.map_append, hpre, List.range_succ]; rfl
      have PP := Aside0.mk hpre2
      have KN := Aside0.mk hkN2
      have hmk : (m + 10 : Nat) = 10 * (k + 1) := by omega
      have HM := Aside0.mk hmk
      have HS := Aside0.mk (show m < 61 by omega)
      clear hpre2 hkN2 hmk
      clear hcm hY1 hpl hq hk1 hpre hkN hk h60 h0 hY
      obtain ⟨fn, tmps, assign, body, hy, hR⟩ := hY2
      gi_wp2
      apply cut_
      · intro hh
        gi_region
        all_goals exact hh
      ·
        gi_wp2
        refine hR.mono ?_
        rintro e W3 (⟨rfl, hJ3, hk3⟩ | ⟨rfl, hJx3⟩)
        · have bS3 := hk3.1.trans bS
          have bN3 := hk3.2.trans bN
          have hs3 := blk_cell bS3 0
          have hN3 := blk_cell bN3 0
          gi_wp2
          go_roundw
          case rel => exact ⟨k + 1, _, KN.out, by have := HM.out; congr 1; omega, PP.out, hJ3, bS3, bN3⟩
          case measure => simp only [intOf]; have := HS.out; omega
        · gi_wp2
          refine bodyPost_ret (results_none rfl _ _ _) rfl ?_
          exact ⟨⟨_, rfl⟩, .inr ⟨_, trivial, hJx3⟩⟩
    · have hkN : k = (l0.length + 9) / 10 := by omega
      have hlt2 : ¬ (((10 * k : Nat) : Int) < (l0.length : Int)) := by omega
      obtain ⟨m, hm⟩ : ∃ m, 10 * k = m := ⟨_, rfl⟩
      rw [hm] at hlt2 ⊢
      have PP := Aside0.mk hpre
      have KN := Aside0.mk hkN
      clear hpre hkN hk hm hlt hY
      gi_wp2
      go_end0
      exact ⟨⟨_, rfl⟩, .inl ⟨_, by rw [← KN.out]; exact PP.out, hJs⟩⟩
theorem ck_stops (F : Fence) (n : Nat) (h85 : F.fn 85) (hro : F.round = none) (hn : 1 ≤ n) (Bs Bn : Nat) (ad : Addr) (c0 : Nat) (l0 : List Int) (hc : l0.length ≤ c0) (h60 : l0.length ≤ 60)
    (w0 : World) (hBs : w0.heap[Bs]? = some (.cells #[.slice (some ad) l0.length c0] 22 (0, 0))) (hBn : w0.heap[Bn]? = some (.cells #[.int .i64 10] 3 (0, 0))) :
    SeqStopsK F n Try.prog 85 #[.pointer (some ⟨Bs, 0, none⟩), .pointer (some ⟨Bn, 0, none⟩)] (ckE ad l0) (ckK Bs Bn) (fun ys => ys.map (fun x => x.1) = List.range ((l0.length + 9) / 10)) (fun _ => True) ((l0.length + 9) / 10) w0 :=
  fun l J Jx W hW hJ _ hY h0 => ck1_in F n h85 hro hn l Bs Bn ad c0 l0 hc h60 J Jx hY
    (fun pre W1 h => hJ pre W1 _ none h ⟨rfl, rfl, rfl, Nat.le_refl _, fun _ _ _ => rfl⟩ (fun r e => by cases e)) W (blk_below hBs hW) (blk_below hBn hW) h0
set_option maxHeartbeats 1000000 in
theorem ck_in (F : Fence) (n : Nat) (h70 : F.fn 70) (hro : F.round = none) (a : Option Addr) (len cap : Nat) (w : World) :
    CallsIn F n Try.prog 70 #[.slice a len cap, .int .i64 10] w fun e w' => e = .returned (.func (.func 85) #[] #[.pointer (some ⟨w.heap.size, 0, none⟩), .pointer (some ⟨w.heap.size + 1, 0, none⟩)]) ∧ w' = (w.alloc (.cells #[.slice a len cap] 22)).alloc (.cells #[.int .i64 10] 3) := by
  refine callsIn_of_wp Try.func70 rfl h70 ?_ hro
  simp only [Try.ntmps70, List.size_toArray, List.length_cons, List.length_nil, Nat.reduceAdd, Nat.reduceSub, Array.replicate_succ, Array.replicate_zero, List.push_toArray, List.append_toArray, List.nil_append, List.cons_append]
  gi_wp2
  go_ret
  exact ⟨by simp, rfl⟩
def parts10 (l0 : List Int) : List (List Int) := (List.range ((l0.length + 9) / 10)).map (partN l0)
/-- The mean of a part, -9999 if it has no value. -/
def partM (k : Nat) (c : List Int) : Option Int := if known c = [] then some (-9999) else impl_meanOf.f k (known c)
def tensM (k : Nat) : List (List Int) → Option (List Int)
  | [] => some []
  | c :: cs => (partM k c).bind fun m => (tensM k cs).bind fun r => some (m :: r)
theorem tensM_mem {k : Nat} : ∀ {cs : List (List Int)} {r : List Int}, tensM k cs = some r → ∀ c ∈ cs, ∃ m, partM k c = some m
  | [], _, _, c, hc => by cases hc
  | d :: cs, r, h, c, hc => by
    simp only [tensM, Option.bind_eq_some_iff] at h
    obtain ⟨m, h1, r2, h2, _⟩ := h
    rcases List.mem_cons.1 hc with rfl | hc
    · exact ⟨m, h1⟩
    · exact tensM_mem h2 c hc
theorem tensM_app {k : Nat} {c : List Int} {m : Int} (hm : partM k c = some m) : ∀ {cs : List (List Int)} {r : List Int}, tensM k cs = some r → tensM k (cs ++ [c]) = some (r ++ [m])
  | [], r, h => by
    simp only [tensM, Option.some.injEq] at h
    subst h
    simp [tensM, hm]
  | d :: cs, r, h => by
    simp only [tensM, Option.bind_eq_some_iff] at h
    obtain ⟨m1, h1, r2, h2, h3⟩ := h
    simp only [Option.some.injEq] at h3
    subst h3
    simp [tensM, h1, tensM_app hm h2]
theorem tensM_len {k : Nat} : ∀ {cs : List (List Int)} {r : List Int}, tensM k cs = some r → r.length = cs.length
  | [], r, h => by simp only [tensM, Option.some.injEq] at h; subst h; rfl
  | d :: cs, r, h => by
    simp only [tensM, Option.bind_eq_some_iff] at h
    obtain ⟨m1, h1, r2, h2, h3⟩ := h
    simp only [Option.some.injEq] at h3
    subst h3
    simp [tensM_len h2]
theorem vp_kept {A B : World} {row : Option Nat} {g : Nat} {cs : Array Value} {t : TypeId} (h : A.heap[g]? = some (.cells cs t (0, 0))) (hg : A.grownBy B row) (hr : ∀ r, row = some r → ∃ o : Obj, A.heap[r]? = some o ∧ o.isCells = false) : B.heap[g]? = some (.cells cs t (0, 0)) :=
  blk_grown h hg (fun e => by obtain ⟨o, ho, hc⟩ := hr g e.symm; rw [h] at ho; cases ho; cases hc)
theorem R_ownf {α : Type} {d : Kd α} {e : Nat} {W W' : World} {base : Nat} {ok : Nat → Prop} {v : Value} {xs : List α} {row : Option Nat} (h : Kd.R d e W base ok v xs) (hg : W.grownBy W' row) (hr : ∀ r, row = some r → ∃ o : Obj, W.heap[r]? = some o ∧ o.isCells = false) : Kd.R d e W' base ok v xs :=
  Kd.R_mono (Kd.R_grown (Kd.R_bound h) hg (fun k hk e => by
    obtain ⟨_, _, _, q, _, cells, hc⟩ := hk
    obtain ⟨o, ho, hz⟩ := hr k e.symm
    rw [hc] at ho; cases ho; cases hz)) (fun _ hk => hk.1)
theorem part_C {W : World} {ad : Addr} {c0 : Nat} {l0 : List Int} (h : Kd.C (Kd.int .i64) W (some ad) l0.length l0) (hc : l0.length ≤ c0) (j : Nat) (hj : 10 * j < l0.length) : Kd.C (Kd.int .i64) W (some (ad.add (10 * j))) (partN l0 j).length (partN l0 j) := by
  have h1 := Kd.C_drop (m := 10 * j) (c := c0) h (by omega) hc
  rw [if_neg (by omega)] at h1
  have h2 := Kd.C_take (m := min 10 (l0.length - 10 * j)) h1 (by simp; omega)
  have e : (l0.drop (10 * j)).take (min 10 (l0.length - 10 * j)) = partN l0 j := by
    unfold partN
    by_cases hh : 10 ≤ l0.length - 10 * j
    · rw [Nat.min_eq_left hh]
    · rw [Nat.min_eq_right (by omega), List.take_of_length_le (by simp), List.take_of_length_le (by simp; omega)]
  rw [e] at h2
  have e2 : (10 * j) * (Kd.int .i64).sz = 10 * j := Nat.mul_one _
  rw [e2] at h2
  exact h2
def impl_TenDayMeans.f (k : Nat) (l0 : List Int) : Option (List Int × Bool) := if seriesB l0 = true then (tensM k (parts10 l0)).bind fun r => some (r, true) else some ([], false)
theorem tens_end {w W1 W WA w3 : World} {v v1 : Value} {ms : List Int} {m : Int} (hsz : W1.heap.size = w.heap.size + 3) (hsW : W1.heap.size ≤ W.heap.size) (hBW : Below w.heap.size w W) (BKA : Below W.heap.size W WA)
    (bM : W.heap[w.heap.size]? = some (.cells #[v] 22 (0, 0))) (HO : Kd.R (Kd.int .i64) 3 W W1.heap.size (fun _ => True) v ms)
    (hown : w3.ownsRow W1.heap.size 3 1 v1 (ms.length + 1) ((ms.map fun x => Value.int .i64 x) ++ [.int .i64 m])) (hg : (WA.alloc (.cells #[.int .i64 m] 3)).grownBy w3 v.ownBlock) :
    w3.heap[w.heap.size]? = some (.cells #[v] 22 (0, 0)) ∧ KeepsFrom W1.heap.size W (w3.setCell ⟨w.heap.size, 0, none⟩ v1) ∧ ckK (w.heap.size + 1) (w.heap.size + 1 + 1) W (w3.setCell ⟨w.heap.size, 0, none⟩ v1) ∧
      (w3.setCell ⟨w.heap.size, 0, none⟩ v1).heap[w.heap.size]? = some (.cells #[v1] 22 (0, 0)) ∧ Kd.R (Kd.int .i64) 3 (w3.setCell ⟨w.heap.size, 0, none⟩ v1) W1.heap.size (fun _ => True) v1 (ms ++ [m]) ∧
      W1.heap.size ≤ (w3.setCell ⟨w.heap.size, 0, none⟩ v1).heap.size ∧ Below w.heap.size w (w3.setCell ⟨w.heap.size, 0, none⟩ v1) := by
  have how := Kd.own_of_R HO
  have hrow : ∀ g, v.ownBlock = some g → W1.heap.size ≤ g := fun g hg => own_base how g hg
  have hBA := below_alloc BKA (.cells #[.int .i64 m] 3)
  have hsA := hBA.size
  have hs3 := hg.size
  have keep : ∀ g, g < W1.heap.size → w3.heap[g]? = W.heap[g]? := fun g hgl => (hg.block g (by omega) (fun e => by have := hrow g e.symm; omega)).trans (hBA.block g (by omega))
  have b3 := (keep w.heap.size (by omega)).trans bM
  have k1 : KeepsOthers W (WA.alloc (.cells #[.int .i64 m] 3)) := ⟨hsA, fun k o hk _ => (hBA.block k (Array.getElem?_eq_some_iff.1 hk).1).trans hk⟩
  have k2 : KeepsOthers (WA.alloc (.cells #[.int .i64 m] 3)) w3 := KeepsOthers.of_grownBy hg (fun j o e ho => by
    obtain ⟨cells, hc⟩ := own_typed how j e
    have := (hBA.block j (Array.getElem?_eq_some_iff.1 hc).1).trans hc
    rw [this] at ho; cases ho; rfl)
  have k3 := (k1.trans k2).trans (KeepsOthers.setCell w3 ⟨w.heap.size, 0, none⟩ v1)
  have hb3 : Below w.heap.size w w3 := (hBW.trans (Below.mono hBA (by omega))).grown hg (by have := hBW.size; omega) (fun k e => by have := hrow k e; omega)
  have d1 := blk_set b3 0 v1
  have hR3 : Kd.R (Kd.int .i64) 3 w3 W1.heap.size (fun _ => True) v1 (ms ++ [m]) := Kd.R_of_own (by
    rw [List.length_append]
    have e : encs (fun x => Value.int .i64 x) (ms ++ [m]) = (ms.map fun x => Value.int .i64 x) ++ [.int .i64 m] := by simp [encs]
    exact e ▸ hown) (fun _ _ => trivial)
  refine ⟨b3, k3.from _, ⟨?_, ?_⟩, by simpa using d1, Kd.R_mono (Kd.R_far (Kd.R_bound hR3) (fun k hk => by have := hk.2.1; simp only; omega) _) (fun _ _ => trivial), by have := k3.size; omega, hb3.setCell (by simp) _⟩
  · exact (Below.heap_setCell _ _ _ _ (by simp)).trans (keep _ (by omega))
  · exact (Below.heap_setCell _ _ _ _ (by simp; omega)).trans (keep _ (by omega))
set_option maxRecDepth 100000 in
set_option maxHeartbeats 4000000 in
theorem tens_in (k : Nat) (ad : Addr) (c0 : Nat) (l0 : List Int) (r : List Int) (w : World) (hr0 : Kd.C (Kd.int .i64) w (some ad) l0.length l0) (hc0 : l0.length ≤ c0) (h60 : l0.length ≤ 60) (hv : ∀ W, Kd.C (Kd.int .i64) W (some ad) l0.length l0 → Calls Try.prog 17 #[.slice (some ad) l0.length c0] W fun e w' => e = .returned (.bool true) ∧ Drawn0 W w') (h : tensM k (parts10 l0) = some r) :
    CallsIn Fence.wide 10 Try.prog 38 #[.slice (some ad) l0.length c0] w fun e w' => ∃ v0_ : Value, e = .returned (.tuple #[v0_, .bool true]) ∧ Kd.R (Kd.int .i64) 3 w' w.heap.size (fun _ => True) v0_ r ∧ Below w.heap.size w w' := by
  have hro : Fence.wide.round = none := rfl
  have h1 : 1 ≤ 10 := by omega
  have hv1 := hv w hr0
  obtain ⟨i3, hi3, hz0, hz1, hz2⟩ := info_parts info3
  have h17 : Fence.wide.fn 17 := trivial
  have h70 : Fence.wide.fn 70 := trivial
  have h59 : Fence.wide.fn 59 := trivial
  have h71 : Fence.wide.fn 71 := trivial
  have h85 : Fence.wide.fn 85 := trivial
  refine callsIn_of_wp_marks Try.func38 rfl trivial ?_ rfl
  simp only [Try.ntmps38, List.size_toArray, List.length_cons, List.length_nil, Nat.reduceAdd, Nat.reduceSub, Array.replicate_succ, Array.replicate_zero, List.push_toArray, List.append_toArray, List.nil_append, List.cons_append]
  gi_wp2_with (first | (gi_at_call 17; refine (callsIn_wide.2 hv1).mono ?_; rintro e w' ⟨rfl, ⟨q, rfl⟩⟩) | (gi_at_call 70; refine (ck_in Fence.wide _ trivial rfl _ _ _ _).mono ?_; rintro e w' ⟨rfl, rfl⟩))
  obtain ⟨W1, hW1⟩ : ∃ W1, ((((w.drewN q).alloc (Obj.cells #[Value.slice none 0 0] 22)).alloc (Obj.cells #[Value.slice (some ad) l0.length c0] 22)).alloc (Obj.cells #[Value.int IntKind.i64 10] 3)) = W1 := ⟨_, rfl⟩
  have b0 : W1.heap[w.heap.size]? = some (.cells #[.slice none 0 0] 22 (0, 0)) := by
    rw [← hW1]; exact blk_alloc (blk_alloc (blk_new (w.drewN q) _) _) _
  have b1 : W1.heap[w.heap.size + 1]? = some (.cells #[.slice (some ad) l0.length c0] 22 (0, 0)) := by
    rw [← hW1]; exact blk_alloc (by have h := blk_new ((w.drewN q).alloc (Obj.cells #[Value.slice none 0 0] 22)) (.cells #[.slice (some ad) l0.length c0] 22 (0, 0)); rwa [World.size_alloc] at h) _
  have b2 : W1.heap[w.heap.size + 1 + 1]? = some (.cells #[.int .i64 10] 3 (0, 0)) := by
    rw [← hW1]; have h := blk_new (((w.drewN q).alloc (Obj.cells #[Value.slice none 0 0] 22)).alloc (Obj.cells #[Value.slice (some ad) l0.length c0] 22)) (.cells #[.int .i64 10] 3 (0, 0)); rwa [World.size_alloc, World.size_alloc] at h
  have hsz : W1.heap.size = w.heap.size + 3 := by rw [← hW1]; simp only [World.size_alloc]; rfl
  have hB0 : Below w.heap.size w W1 := by
    rw [← hW1]; exact below_alloc (below_alloc (below_alloc (pw_below_drewN (Below.refl _ w) q) _) _) _
  have hparts : ∀ j, 10 * j < l0.length → ∃ m, partM k (partN l0 j) = some m := fun j hj => tensM_mem h _ (List.mem_map.2 ⟨j, List.mem_range.2 (by omega), rfl⟩)
  rw [hW1]
  clear hW1
  refine wpIn_rangeFunc_ownH hro h1 (gf := 85) (lb := #[.pointer (some ⟨w.heap.size + 1, 0, none⟩), .pointer (some ⟨w.heap.size + 1 + 1, 0, none⟩)]) rfl h85 (enters_of Try.func85 (by kernel_rfl) rfl)
    (ck_stops Fence.wide 9 h85 rfl (by omega) (w.heap.size + 1) (w.heap.size + 1 + 1) ad c0 l0 hc0 h60 W1 b1 b2)
    (fun h1 h2 => ⟨h2.1.trans h1.1, h2.2.trans h1.2⟩) (fun W l o o' hl hW _ _ => ⟨World.putObj_heap_other (by omega), World.putObj_heap_other (by omega)⟩) (Below.refl _ _) (fun _ => rfl)
    (fun pre W => (∃ ms v, tensM k (pre.map fun x => partN l0 x.1) = some ms ∧ W.heap[w.heap.size]? = some (.cells #[v] 22 (0, 0)) ∧ Kd.R (Kd.int .i64) 3 W W1.heap.size (fun _ => True) v ms ∧ W1.heap.size ≤ W.heap.size) ∧ Below w.heap.size w W)
    (fun _ _ _ => False)
    (OwnFrom.and (Own.from (fun s A B row hs hg hr => by obtain ⟨ms, v, e1, e2, e3, e4⟩ := hs; exact ⟨ms, v, e1, vp_kept e2 hg hr, R_ownf e3 hg hr, Nat.le_trans e4 hg.size⟩) _) (ownFrom_below (Nat.le_refl _) (by omega)))
    (fun c => fun s A B row hs hg hr => hs)
    ⟨⟨[], _, rfl, b0, Kd.R_nil _ _ _ _ _, Nat.le_refl _⟩, hB0⟩
    (fun x a' _ => a' = { tmps := #[Value.slice (some ad) l0.length c0, undef, Value.slice none 0 0, Value.bool false, Value.pointer (some { block := w.heap.size, off := 0 }), Value.slice (some (ad.add (10 * x.1))) (partN l0 x.1).length (partN l0 x.1).length, undef, undef, Value.slice (some ad) l0.length c0, Value.bool true, Value.bool false, Value.slice (some ad) l0.length c0, Value.func (Fn.func 85) #[] #[Value.pointer (some { block := w.heap.size + 1, off := 0 }), Value.pointer (some { block := w.heap.size + 1 + 1, off := 0 })], Value.slice (some (ad.add (10 * x.1))) (partN l0 x.1).length (partN l0 x.1).length, undef, undef, undef, undef, undef, undef, undef, undef, undef, undef, undef, undef], defers := [] })
    (fun x a' _ X Y row hs hg hr => hs)
    ?assign ?body ?done ?stop
  case assign =>
    rintro l pre x W K hI hK
    dsimp only [ckE]
    gi_wp2
    exact hK _ _ (KeepsFrom.refl _ _) ⟨rfl, rfl⟩ hI rfl
  case stop =>
    rintro D c pre W hD _ hF hK
    exact hF.elim
  case body =>
    rintro l pre x a' W hl ⟨rr, hr⟩ ⟨⟨ms, v, hms, bM, HO, hsW⟩, hB⟩ rfl hlt
    obtain ⟨m, hm⟩ := hparts x.1 x.2
    have hC := part_C (Kd.C_below hr0 hB) hc0 x.1 x.2
    have hpl : (partN l0 x.1).length ≤ 60 := by unfold partN; simp; omega
    have hkn := impl_knownValues.calls (some (ad.add (10 * x.1))) (partN l0 x.1).length (partN l0 x.1) (known (partN l0 x.1)) W hC (Nat.le_refl _) (by unfold impl_knownValues.f; rw [if_pos (by omega)])
    have hkl : (known (partN l0 x.1)).length ≤ (partN l0 x.1).length := by unfold known; exact List.length_filter_le _ _
    have MS := Aside0.mk (show tensM k ((pre ++ [x]).map fun x => partN l0 x.1) = some (ms ++ [m]) by rw [List.map_append]; exact tensM_app hm hms)
    have ML := Aside0.mk (show (ms.length + 1) * 8 ≤ 140737488355328 by have := tensM_len hms; rw [List.length_map] at this; omega)
    obtain ⟨cs, hcs⟩ : ∃ cs, partN l0 x.1 = cs := ⟨_, rfl⟩
    obtain ⟨A1, hA1⟩ : ∃ A1, ad.add (10 * x.1) = A1 := ⟨_, rfl⟩
    rw [hcs, hA1] at hkn
    rw [hcs] at hkl hpl hm
    rw [hcs, hA1]
    obtain ⟨ks, hks⟩ : ∃ ks, known cs = ks := ⟨_, rfl⟩
    rw [hks] at hkn hkl
    unfold partM at hm
    rw [hks] at hm
    have HO_ := Aside0.mk HO
    have HB_ := Aside0.mk hB
    clear HO hB hms hcs hA1 hks hC hlt hparts hv hv1 h
    by_cases hk0 : ks = []
    · rw [if_pos hk0] at hm
      obtain rfl := Option.some.inj hm
      subst hk0
      clear hm
      gi_wp2_with (first | (gi_at_call 59; refine (CallsIn.inRound l (callsIn_wide.2 hkn)).mono ?_; rintro e w1 ⟨v0, rfl, hR, hBk⟩; obtain ⟨A2, c2, rfl⟩ := Kd.R_slice hR; have HR2 := Aside0.mk hR; have BK := Aside0.mk hBk; have hc4 := blk_cell (blk_below bM hBk) 0; have BA := Aside0.mk hBk; have HW := Aside0.mk (Kd.own_of_R (Kd.R_below HO_.out hBk)); have SZ := Aside0.mk (Nat.le_trans hsW hBk.size); clear hR hBk) | (gi_at_builtin; refine wpListIn_append_own _ rfl _ _ 22 rfl W1.heap.size 3 i3 (.int .i64 0) 1 8 Try.underlying22 hi3 hz0 hz1 hz2 rfl (by decide) v ms.length (ms.map fun x => Value.int .i64 x) rfl (World.ownsRow.alloc HW.out _) ⟨_, 0, none⟩ 1 1 [.int .i64 (-9999)] rfl rfl (cell_one_new _ _ _) (by simp [Value.oneCell']) (by unfold maxLen; have := ML.out; omega) (by have := ML.out; omega) (by simp; have := SZ.out; omega) ?_; intro v1 w3 hown' hg3 hnil3; obtain ⟨g1, cap1, rfl⟩ := ownsRow_succ hown'; have FIN := Aside0.mk (tens_end hsz hsW HB_.out BA.out bM HO_.out hown' hg3); have q0 := blk_cell FIN.out.1 0; have q1 := blk_frozen FIN.out.1 0; clear hown' hg3 hnil3))
      exact ⟨FIN.out.2.1, FIN.out.2.2.1, ⟨_, _, MS.out, FIN.out.2.2.2.1, FIN.out.2.2.2.2.1, FIN.out.2.2.2.2.2.1⟩, FIN.out.2.2.2.2.2.2⟩
    · rw [if_neg hk0] at hm
      have hmean := Aside0.mk hm
      have hpos : (0 : Int) < (ks.length : Int) := by have := List.length_pos_iff.2 hk0; omega
      have hpos2 : 0 < ks.length := List.length_pos_iff.2 hk0
      clear hm hk0
      gi_wp2_with (first | (gi_at_call 59; refine (CallsIn.inRound l (callsIn_wide.2 hkn)).mono ?_; rintro e w1 ⟨v0, rfl, hR, hBk⟩; obtain ⟨A2, c2, rfl⟩ := Kd.R_slice hR; have HR2 := Aside0.mk hR; have BK := Aside0.mk hBk; have hc4 := blk_cell (blk_below bM hBk) 0; clear hR hBk) | (gi_at_call 71; refine (CallsIn.inRound l (callsIn_wide.2 (impl_meanOf.calls k A2 c2 ks m w1 (Kd.R_reads' HR2.out).2.2 (Kd.R_reads' HR2.out).2.1 hmean.out))).mono ?_; rintro e w2 ⟨rfl, ⟨nd, rfl⟩⟩; have BA := Aside0.mk (pw_below_drewN BK.out nd); have HW := Aside0.mk (Kd.own_of_R (Kd.R_below HO_.out BA.out)); have SZ := Aside0.mk (Nat.le_trans hsW BK.out.size)) | (gi_at_builtin; refine wpListIn_append_own _ rfl _ _ 22 rfl W1.heap.size 3 i3 (.int .i64 0) 1 8 Try.underlying22 hi3 hz0 hz1 hz2 rfl (by decide) v ms.length (ms.map fun x => Value.int .i64 x) rfl (World.ownsRow.alloc HW.out _) ⟨_, 0, none⟩ 1 1 [.int .i64 m] rfl rfl (cell_one_new _ _ _) (by simp [Value.oneCell']) (by unfold maxLen; have := ML.out; omega) (by have := ML.out; omega) (by simp; have := SZ.out; omega) ?_; intro v1 w3 hown' hg3 hnil3; obtain ⟨g1, cap1, rfl⟩ := ownsRow_succ hown'; have FIN := Aside0.mk (tens_end hsz hsW HB_.out BA.out bM HO_.out hown' hg3); have q0 := blk_cell FIN.out.1 0; have q1 := blk_frozen FIN.out.1 0; clear hown' hg3 hnil3))
      exact ⟨FIN.out.2.1, FIN.out.2.2.1, ⟨_, _, MS.out, FIN.out.2.2.2.1, FIN.out.2.2.2.2.1, FIN.out.2.2.2.2.2.1⟩, FIN.out.2.2.2.2.2.2⟩
  case done =>
    rintro D ys W hD hys ⟨⟨ms, v, hms, bM, HO, hsW⟩, hB⟩ hK
    have hm0 := blk_cell bM 0
    gi_wp2
    refine ⟨by simp, .inl ⟨_, _, rfl, run_takeDeferred hK, ?_⟩⟩
    have hp : (ys.map fun x => partN l0 x.1) = parts10 l0 := by unfold parts10; rw [← hys, List.map_map]; rfl
    rw [hp, h] at hms
    obtain rfl := Option.some.inj hms
    refine ⟨.tuple #[v, .bool true], ?_, ⟨v, rfl, R_ownf (Kd.R_lower HO (by omega)) (grownBy_putObj' _ D (.deferred none)) (fun r e => by cases e; exact ⟨_, hK, rfl⟩), hB.trans (belowK_b (w := w) (Nat.le_refl _) _ D _ _ (by omega) hK rfl rfl)⟩⟩
    simp [results, Try.f38, go_sem]
set_option maxHeartbeats 8000000 in
set_option maxRecDepth 100000 in
theorem impl_TenDayMeans.calls (k : Nat) (A0 : Option Addr) (c0 : Nat) (l0 : List Int) (r1 : List Int) (r2 : Bool) (w : World) (hr0 : Kd.C (Kd.int .i64) w A0 l0.length l0) (hc0 : l0.length ≤ c0) (h : impl_TenDayMeans.f k l0 = some (r1, r2)) :
    Calls Try.prog 38 #[.slice A0 l0.length c0] w fun e w' => ∃ v0_ : Value, e = .returned (.tuple #[v0_, .bool r2]) ∧ Kd.R (Kd.int .i64) 3 w' w.heap.size (fun _ => True) v0_ r1 ∧ Below w.heap.size w w' := by
  have HB := Aside0.mk (Below.refl w.heap.size w)
  unfold impl_TenDayMeans.f at h
  by_cases hs : seriesB l0 = true
  · rw [if_pos hs] at h
    obtain ⟨r, h1, h2⟩ := Option.bind_eq_some_iff.mp h
    obtain ⟨rfl, rfl⟩ := Prod.mk.inj (Option.some.inj h2)
    have h60 : 1 ≤ l0.length ∧ l0.length ≤ 60 := by
      unfold seriesB at hs
      simp only [Bool.and_eq_true, decide_eq_true_eq] at hs
      omega
    obtain ⟨ad, rfl, _⟩ := hr0.2.2 h60.1
    exact callsIn_wide.1 (tens_in k ad c0 l0 r w hr0 hc0 h60.2 (fun W hW => impl_IsValidSeries.calls (some ad) c0 l0 true W hW hc0 (by unfold impl_IsValidSeries.f; rw [hs])) h1)
  · rw [if_neg hs] at h
    obtain ⟨rfl, rfl⟩ := Prod.mk.inj (Option.some.inj h)
    have hv := impl_IsValidSeries.calls A0 c0 l0 false w hr0 hc0 (by unfold impl_IsValidSeries.f; rw [Bool.eq_false_iff.mpr hs])
    clear h hs
    go_enter Try.func38, Try.ntmps38
    go_wp2_with (go_at_call 17; refine hv.mono ?_; rintro e w' ⟨rfl, ⟨q', rfl⟩⟩)
    go_ret2
    exact ⟨_, rfl, Kd.R_nil _ _ _ _ _, by repeat (first | (with_reducible first | exact HB.out | apply below_alloc | apply pw_below_drewN | apply below_drew1) | exact HB.out)⟩

end Go.Proofs.Ytdhdifoenladpaa.P
