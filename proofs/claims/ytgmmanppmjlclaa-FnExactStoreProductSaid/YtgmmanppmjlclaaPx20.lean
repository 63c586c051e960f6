-- Made by pp.py of this session out of the kit's print and of contracts proved by hand; Lean checks it.
import Derived.Lib.SlKept
import Derived.Lib.SliceRun
import Derived.Shelf.GgClosure.Gives
import Derived.Shelf.SlicesQ.Load
import Derived.Deep.QuietTactic
import Derived.Shelf.RegionOpen
import Derived.Test.YtgmmanppmjlclaaPx0
import Derived.Test.YtgmmanppmjlclaaPx5
import Derived.Test.YtgmmanppmjlclaaPx10
import Derived.Test.YtgmmanppmjlclaaPx13
import Derived.Test.YtgmmanppmjlclaaPx19
namespace Go.Proofs.Ytgmmanppmjlclaa.P
open Go.RowKit Go.Proofs.YtgmmanppmjlclaaW.PrintWords Go.Proofs.YtgmmanppmjlclaaW.PrintLast Go.Proofs.YtgmmanppmjlclaaW.PrintMore
attribute [local go_sem] max2_int min2_int max_two min_two max_three min_three max_four min_four   -- for this text's walks alone
set_option linter.unusedVariables false
set_option linter.unusedSimpArgs false

-- ALONE
/-! ### impl_PruneArchive: function 31 -/
def encP (x : S30) : List Value := [.string x.f0, .int .i64 x.f1, .string x.f2]
def flatP (xs : List S30) : List Value := xs.flatMap encP
theorem flatP_len (xs : List S30) : (flatP xs).length = xs.length * 3 := by
  induction xs with
  | nil => rfl
  | cons x xs ih => simp [flatP, encP] at ih ⊢; omega
theorem flatP_get (xs : List S30) (rest : List Value) (i t : Nat) (h : i < xs.length) (ht : t < 3) : (flatP xs ++ rest)[i * 3 + t]? = (encP (rd_T30 xs (i : Int)))[t]? := by
  induction xs generalizing i with
  | nil => simp at h
  | cons x xs ih =>
    cases i with
    | zero =>
      have : rd_T30 (x :: xs) ((0 : Nat) : Int) = x := by simp [rd_T30]
      rw [this]
      simp only [flatP, List.flatMap_cons, List.append_assoc, Nat.zero_mul, Nat.zero_add]
      rw [List.getElem?_append_left (by simpa [encP] using ht)]
    | succ i =>
      have : rd_T30 (x :: xs) ((i + 1 : Nat) : Int) = rd_T30 xs (i : Int) := by simp [rd_T30]
      rw [this, ← ih i (by simpa using h)]
      simp only [flatP, List.flatMap_cons, List.append_assoc]
      rw [List.getElem?_append_right (by simp [encP]; omega)]
      congr 1
      simp [encP]; omega
theorem flatP_set (xs : List S30) (rest : List Value) (i : Nat) (h : i < xs.length) (y : S30) : (((flatP xs ++ rest).set (i * 3) (.string y.f0)).set (i * 3 + 1) (.int .i64 y.f1)).set (i * 3 + 2) (.string y.f2) = flatP (xs.set i y) ++ rest := by
  induction xs generalizing i with
  | nil => simp at h
  | cons x xs ih =>
    cases i with
    | zero => simp [flatP, encP]
    | succ i =>
      have h1 := ih i (by simpa using h)
      simp only [List.set_cons_succ]
      have e1 : flatP (x :: xs) ++ rest = encP x ++ (flatP xs ++ rest) := by simp [flatP]
      have e2 : flatP (x :: xs.set i y) ++ rest = encP x ++ (flatP (xs.set i y) ++ rest) := by simp [flatP]
      have e3 : ∀ (l : List Value) (j : Nat) (u : Value), (encP x ++ l).set (j + 3) u = encP x ++ l.set j u := fun l j u => by simp [encP]
      rw [e1, e2, show (i + 1) * 3 = i * 3 + 3 by omega, show i * 3 + 3 + 1 = i * 3 + 1 + 3 by omega, show i * 3 + 3 + 2 = i * 3 + 2 + 3 by omega, e3, e3, e3, h1]
set_option maxHeartbeats 2000000 in
set_option maxRecDepth 100000 in
theorem idxP (B g blk cap : Nat) (lb : Array Value) (p : S30 → Bool) (eg : ∀ args w, (callFunc g args).run Try.prog w = .ok (.enter g args) w) (d : List S30) (rest : List Value) (w : World)
    (hb : w.heap[blk]? = some (.cells (flatP d ++ rest).toArray 30 (0, 0))) (hB : B ≤ w.heap.size) (hsz : d.length * 40 ≤ 140737488351232)
    (hp : ∀ (W : World) (x : S30), Below B w W → Calls Try.prog g (#[.agg #[.string x.f0, .int .i64 x.f1, .string x.f2]] ++ lb) W fun e w' => e = .returned (.bool (p x)) ∧ Below W.heap.size W w') :
    Calls Try.prog 76 #[.slice (some ⟨blk, 0, none⟩) d.length cap, .func (.func g) #[] lb] w fun e w' => Below w.heap.size w w' ∧
      ((e = .returned (.int .i64 (-1)) ∧ ∀ j : Nat, j < d.length → p (rd_T30 d (j : Int)) = false) ∨ (∃ k : Nat, k < d.length ∧ e = .returned (.int .i64 (k : Int)) ∧ p (rd_T30 d (k : Int)) = true ∧ ∀ j : Nat, j < k → p (rd_T30 d (j : Int)) = false)) := by
  have HP := Aside0.mk hp
  clear hp
  have HX := Aside0.mk hb
  clear hb
  go_enter Try.func76, Try.ntmps76
  go_wp2
  go_loopg [5, 8] d.length (fun gg _ s8 wr => ∃ kk : Nat, kk ≤ d.length ∧ d.length - kk ≤ gg ∧ s8 = .int .i64 kk ∧ Aside0 (Below w.heap.size w wr) ∧ Aside0 (∀ j : Nat, j < kk → p (rd_T30 d (j : Int)) = false))
  case atStart => exact ⟨0, Nat.zero_le _, by omega, rfl, ⟨Below.refl _ w⟩, ⟨fun j hj => absurd hj (Nat.not_lt_zero _)⟩⟩
  case round =>
    obtain ⟨kk, hkk, hg, rfl, BW, A⟩ := hrel
    by_cases hlt : kk < d.length
    · have hltz : (kk : Int) < (d.length : Int) := by omega
      have hw2 : IntKind.i64.wrap ((kk : Int) + 1) = ((kk + 1 : Nat) : Int) := by rw [i64_w]; unfold wrap64; omega
      have hbw := blk_below HX.out BW.out
      have l0 : wr.cell? ⟨blk, kk * 3, none⟩ = some (Value.string (rd_T30 d (kk : Int)).f0) := (blk_cell hbw (kk * 3)).trans ((List.getElem?_toArray).trans (flatP_get d rest kk 0 hlt (by omega)))
      have l1 : wr.cell? ⟨blk, kk * 3 + 1, none⟩ = some (Value.int .i64 (rd_T30 d (kk : Int)).f1) := (blk_cell hbw (kk * 3 + 1)).trans ((List.getElem?_toArray).trans (flatP_get d rest kk 1 hlt (by omega)))
      have l2 : wr.cell? ⟨blk, kk * 3 + 2, none⟩ = some (Value.string (rd_T30 d (kk : Int)).f2) := (blk_cell hbw (kk * 3 + 2)).trans ((List.getElem?_toArray).trans (flatP_get d rest kk 2 hlt (by omega)))
      have hcall := HP.out wr (rd_T30 d (kk : Int)) (Below.mono BW.out hB)
      cases hq : p (rd_T30 d (kk : Int)) with
      | true =>
        rw [hq] at hcall
        have HQ := Aside0.mk hq
        clear hq hbw
        go_wp2_with (go_at_fn g; refine hcall.mono ?_; rintro e w' ⟨rfl, hb'⟩)
        go_ret
        have hb2 := below_step BW.out hb'
        exact ⟨hb2, .inr ⟨kk, hlt, rfl, HQ.out, A.out⟩⟩
      | false =>
        rw [hq] at hcall
        have HQ := Aside0.mk hq
        clear hq hbw
        go_wp2_with (go_at_fn g; refine hcall.mono ?_; rintro e w' ⟨rfl, hb'⟩)
        go_roundg (d.length - (kk + 1))
        case measure => omega
        case rel =>
          refine ⟨kk + 1, by omega, by omega, by go_num, ⟨below_step BW.out hb'⟩, ⟨fun j hj => ?_⟩⟩
          by_cases e : j = kk
          · subst e; exact HQ.out
          · exact A.out j (by omega)
    · have hltz : ¬ (kk : Int) < (d.length : Int) := by omega
      have : kk = d.length := by omega
      subst this
      go_wp2
      go_ret
      exact ⟨BW.out, .inl ⟨rfl, A.out⟩⟩
theorem row_store {W : World} {blk : Nat} {xs : List S30} {rest : List Value} (h : W.heap[blk]? = some (.cells (flatP xs ++ rest).toArray 30 (0, 0))) (i : Nat) (hi : i < xs.length) (u : S30) :
    ∃ v0 v1 v2, W.cell? ⟨blk, i * 3, none⟩ = some v0 ∧ W.frozen? ⟨blk, i * 3, none⟩ = false ∧
      (W.setCell ⟨blk, i * 3, none⟩ (.string u.f0)).cell? ⟨blk, i * 3 + 1, none⟩ = some v1 ∧ (W.setCell ⟨blk, i * 3, none⟩ (.string u.f0)).frozen? ⟨blk, i * 3 + 1, none⟩ = false ∧
      ((W.setCell ⟨blk, i * 3, none⟩ (.string u.f0)).setCell ⟨blk, i * 3 + 1, none⟩ (.int .i64 u.f1)).cell? ⟨blk, i * 3 + 2, none⟩ = some v2 ∧ ((W.setCell ⟨blk, i * 3, none⟩ (.string u.f0)).setCell ⟨blk, i * 3 + 1, none⟩ (.int .i64 u.f1)).frozen? ⟨blk, i * 3 + 2, none⟩ = false ∧
      (((W.setCell ⟨blk, i * 3, none⟩ (.string u.f0)).setCell ⟨blk, i * 3 + 1, none⟩ (.int .i64 u.f1)).setCell ⟨blk, i * 3 + 2, none⟩ (.string u.f2)).heap[blk]? = some (.cells (flatP (xs.set i u) ++ rest).toArray 30 (0, 0)) := by
  have hlen : (flatP xs ++ rest).length = xs.length * 3 + rest.length := by rw [List.length_append, flatP_len]
  have d1 := blk_set h (i * 3) (Value.string u.f0)
  have d2 := blk_set d1 (i * 3 + 1) (Value.int IntKind.i64 u.f1)
  have d3 := blk_set d2 (i * 3 + 2) (Value.string u.f2)
  have e0 := blk_cell h (i * 3)
  have e1 := blk_cell d1 (i * 3 + 1)
  have e2 := blk_cell d2 (i * 3 + 2)
  rw [Array.getElem?_eq_getElem (by simp only [List.size_toArray, Array.size_setIfInBounds, hlen]; omega)] at e0 e1 e2
  simp only [List.setIfInBounds_toArray] at d3
  rw [flatP_set xs rest i hi u] at d3
  exact ⟨_, _, _, e0, blk_frozen h _, e1, blk_frozen d1 _, e2, blk_frozen d2 _, d3⟩
instance instProduct_ : Inhabited S30 := ⟨z30⟩
theorem least_of (P : Nat → Bool) : ∀ n : Nat, P n = true → ∃ k, k ≤ n ∧ P k = true ∧ ∀ j, j < k → P j = false := by
  intro n
  induction n using Nat.strongRecOn with
  | _ n ih =>
    intro h
    by_cases hx : ∃ m, m < n ∧ P m = true
    · obtain ⟨m, hm, hp⟩ := hx
      obtain ⟨k, h1, h2, h3⟩ := ih m hm hp
      exact ⟨k, by omega, h2, h3⟩
    · exact ⟨n, Nat.le_refl _, h, fun j hj => by cases e : P j with | false => rfl | true => exact absurd ⟨j, hj, e⟩ hx⟩
theorem zeroCells_P (n : Nat) : (Builtin.zeroCells (Value.agg #[.string ⟨#[]⟩, .int .i64 0, .string ⟨#[]⟩]).cells n).toList = flatP (List.replicate n z30) := by
  have hc : (Value.agg #[.string ⟨#[]⟩, .int .i64 0, .string ⟨#[]⟩]).cells = #[.string ⟨#[]⟩, .int .i64 0, .string ⟨#[]⟩] := rfl
  rw [hc]
  apply List.ext_getElem?
  intro q
  by_cases hq : q < n * 3
  · have h1 := flatP_get (List.replicate n z30) [] (q / 3) (q % 3) (by simp; omega) (by omega)
    rw [List.append_nil, show q / 3 * 3 + q % 3 = q by omega] at h1
    have h2 : rd_T30 (List.replicate n z30) ((q / 3 : Nat) : Int) = z30 := by simp [rd_T30, List.getD_eq_getElem?_getD, List.getElem?_replicate]; split <;> rfl
    rw [h1, h2]
    simp only [Builtin.zeroCells, List.size_toArray, List.length_cons, List.length_nil, Array.toList_map, Array.toList_range, List.getElem?_map]
    rw [List.getElem?_range (by simpa using hq)]
    have h3 : q % 3 = 0 ∨ q % 3 = 1 ∨ q % 3 = 2 := by omega
    rcases h3 with h3 | h3 | h3 <;> simp [h3, encP, z30]
  · rw [List.getElem?_eq_none (by simp [Builtin.zeroCells]; omega), List.getElem?_eq_none (by rw [flatP_len]; simp; omega)]
theorem flatP_app (xs ys : List S30) : flatP (xs ++ ys) = flatP xs ++ flatP ys := by simp [flatP]
theorem flatP_take (xs : List S30) (i : Nat) (hi : i ≤ xs.length) : (flatP xs).take (i * 3) = flatP (xs.take i) := by
  conv => lhs; rw [← List.take_append_drop i xs, flatP_app]
  rw [List.take_left' (by rw [flatP_len]; simp; omega)]
theorem setCells_blk {b t : Nat} : ∀ (vs : List Value) (o : Nat) (l : List Value) (W : World), W.heap[b]? = some (.cells l.toArray t (0, 0)) → o + vs.length ≤ l.length → (W.setCells b o vs).heap[b]? = some (.cells (l.take o ++ vs ++ l.drop (o + vs.length)).toArray t (0, 0))
  | [], o, l, W, h, _ => by simpa [World.setCells] using h
  | v :: r, o, l, W, h, hl => by
    have h1 := blk_set h o v
    rw [List.setIfInBounds_toArray] at h1
    have hl' : o + 1 + r.length ≤ l.length := by simp at hl; omega
    have h2 := setCells_blk r (o + 1) (l.set o v) _ h1 (by simpa using hl')
    simp only [World.setCells]
    rw [h2]
    have e1 : (l.set o v).take (o + 1) = l.take o ++ [v] := by
      rw [List.take_succ_eq_append_getElem (by simp; omega), List.take_set_of_le (Nat.le_refl o), List.getElem_set_self]
    have e2 : (l.set o v).drop (o + 1 + r.length) = l.drop (o + (r.length + 1)) := by
      rw [List.drop_set_of_lt (by omega), show o + 1 + r.length = o + (r.length + 1) by omega]
    rw [e1, e2]
    simp
theorem setCells_below {B b : Nat} {w : World} (hb : B ≤ b) : ∀ (vs : List Value) (o : Nat) (W : World), Below B w W → Below B w (W.setCells b o vs)
  | [], _, _, h => h
  | v :: r, o, W, h => setCells_below hb r (o + 1) _ (h.setCell (p := ⟨b, o, none⟩) hb v)
theorem encP_one {v : Value} {xs : List S30} (h : v ∈ flatP xs) : v.oneCell' = true := by
  simp only [flatP, List.mem_flatMap, encP] at h
  obtain ⟨x, _, hv⟩ := h
  simp at hv
  rcases hv with rfl | rfl | rfl <;> rfl
theorem clear_P {blk : Nat} (xs : List S30) (rest : List Value) (W : World) (h : W.heap[blk]? = some (.cells (flatP xs ++ rest).toArray 30 (0, 0))) (i c : Nat) (hi : i < xs.length) :
    ∃ W9, (∀ ty, (Builtin.clear_ #[25] ty #[.slice (some ⟨blk, i * 3, none⟩) (xs.length - i) c]).run Try.prog W = .ok (.tuple #[]) W9) ∧
      W9.heap[blk]? = some (.cells (flatP (xs.take i ++ List.replicate (xs.length - i) z30) ++ rest).toArray 30 (0, 0)) ∧ (∀ B w, B ≤ blk → Below B w W → Below B w W9) := by
  have hlen : (flatP (List.replicate (xs.length - i) z30)).length = (xs.length - i) * 3 := by rw [flatP_len]; simp
  have hl2 : (flatP xs ++ rest).length = xs.length * 3 + rest.length := by rw [List.length_append, flatP_len]
  refine ⟨W.setCells blk (i * 3) (flatP (List.replicate (xs.length - i) z30)), fun ty => ?_, ?_, fun B w hb hB => setCells_below hb _ _ _ hB⟩
  · have hst := run_storeCells_cells (P := Try.prog) blk (i * 3) (flatP (List.replicate (xs.length - i) z30)) 0 W
      (fun j hj => by rw [Nat.add_zero, blk_cell h, Array.getElem?_eq_getElem (by simp only [List.size_toArray, hl2]; omega)]; rfl) (fun j _ => blk_frozen h _) (fun v hv => encP_one hv)
    rw [Nat.add_zero] at hst
    obtain ⟨m, hm⟩ : ∃ m, xs.length - i = m + 1 := ⟨xs.length - i - 1, by omega⟩
    have hz0 : Try.t30.zero = some (.agg #[.string ⟨#[]⟩, .int .i64 0, .string ⟨#[]⟩]) := by kernel_rfl
    have hv : ∀ w, (zeroValue 30).run Try.prog w = .ok (.agg #[.string ⟨#[]⟩, .int .i64 0, .string ⟨#[]⟩]) w := fun w => by simp [zeroValue, hz0]
    have hzc := zeroCells_P (xs.length - i)
    rw [hm] at hst hzc ⊢
    simp [Builtin.clear_, run_underlying Try.underlying25, hv, hzc, hst]
  · have h1 := setCells_blk (flatP (List.replicate (xs.length - i) z30)) (i * 3) (flatP xs ++ rest) W h (by rw [hlen, hl2]; omega)
    rw [h1, hlen]
    have e1 : (flatP xs ++ rest).take (i * 3) = flatP (xs.take i) := by rw [List.take_append_of_le_length (by rw [flatP_len]; omega), flatP_take xs i (by omega)]
    have e2 : (flatP xs ++ rest).drop (i * 3 + (xs.length - i) * 3) = rest := by rw [show i * 3 + (xs.length - i) * 3 = (flatP xs).length by rw [flatP_len]; omega]; simp
    rw [e1, e2, flatP_app]
set_option maxHeartbeats 4000000 in
set_option maxRecDepth 1000000 in
theorem delP (B g blk cap : Nat) (lb : Array Value) (p : S30 → Bool) (eg : ∀ args w, (callFunc g args).run Try.prog w = .ok (.enter g args) w) (d : Array S30) (rest : List Value) (w : World)
    (hb : w.heap[blk]? = some (.cells (flatP d.toList ++ rest).toArray 30 (0, 0))) (hB : B ≤ blk) (hsz : d.size * 40 ≤ 140737488351232) (hcap : d.size ≤ cap)
    (hp : ∀ (W : World) (x : S30), Below B w W → Calls Try.prog g (#[.agg #[.string x.f0, .int .i64 x.f1, .string x.f2]] ++ lb) W fun e w' => e = .returned (.bool (p x)) ∧ Below W.heap.size W w') :
    Calls Try.prog 57 #[.slice (some ⟨blk, 0, none⟩) d.size cap, .func (.func g) #[] lb] w fun e w' => e = .returned (.slice (some ⟨blk, 0, none⟩) (d.toList.filter fun x => !p x).length cap) ∧ Below B w w' ∧
      w'.heap[blk]? = some (.cells (flatP ((d.toList.filter fun x => !p x) ++ List.replicate (d.size - (d.toList.filter fun x => !p x).length) z30) ++ rest).toArray 30 (0, 0)) := by
  have hlt := blk_lt hb
  have tl : ∀ j : Nat, j < d.size → rd_T30 d.toList (j : Int) = d[j]! := fun j hj => by rw [getElem!_pos d j hj]; simp [rd_T30, hj]
  have hIF := idxP B g blk cap lb p eg d.toList rest w hb (by omega) (by simpa using hsz) hp
  simp only [Array.length_toList] at hIF
  obtain ⟨kp, HK⟩ : ∃ kp : Nat → Bool, Aside0 (kp = fun j => !p d[j]!) := ⟨_, ⟨rfl⟩⟩
  have hfil : (d.toList.filter fun x => !p x) = Lib.keptUpTo kp d d.size := by rw [HK.out]; exact (Lib.keptUpTo_filter (fun x => !p x) d).symm
  rw [hfil]
  by_cases hall : ∀ j : Nat, j < d.size → p (rd_T30 d.toList (j : Int)) = false
  · have hI1 : Calls Try.prog 76 #[.slice (some ⟨blk, 0, none⟩) d.size cap, .func (.func g) #[] lb] w fun e w' => e = .returned (.int .i64 (-1)) ∧ Below w.heap.size w w' := hIF.mono fun e w' h => by
      obtain ⟨h1, ⟨h2, _⟩ | ⟨k, hk, _, h3, _⟩⟩ := h
      · exact ⟨h2, h1⟩
      · rw [hall k hk] at h3; cases h3
    have hkeep : ∀ j, j < d.size → kp j = true := fun j hj => by rw [HK.out]; show (!p d[j]!) = true; rw [← tl j hj, hall j hj]; rfl
    have e3 : Lib.keptUpTo kp d d.size = d.toList := by rw [Lib.keptUpTo_all kp d _ hkeep, Lib.range_map_get]
    have HX := Aside0.mk hb
    rw [e3]
    clear hp hb hfil tl hIF hkeep e3 hall
    go_enter Try.func57, Try.ntmps57
    go_wp2_with (go_at_call 76; refine hI1.mono ?_; rintro e w' ⟨rfl, hb'⟩)
    go_ret
    refine ⟨by simp, Below.mono hb' (by omega), ?_⟩
    have h1 := blk_below HX.out hb'
    simpa using h1
  · obtain ⟨n0, hn0, hp0⟩ : ∃ n0, n0 < d.size ∧ p (rd_T30 d.toList (n0 : Int)) = true := by
      apply Classical.byContradiction
      intro hx
      exact hall fun j hj => by cases e : p (rd_T30 d.toList (j : Int)) with | false => rfl | true => exact absurd ⟨j, hj, e⟩ hx
    obtain ⟨k0, hk0', ht, hl⟩ := least_of (fun j => p (rd_T30 d.toList (j : Int))) n0 hp0
    have hk0 : k0 < d.size := by omega
    have ht : p (rd_T30 d.toList (k0 : Int)) = true := ht
    have hl : ∀ j : Nat, j < k0 → p (rd_T30 d.toList (j : Int)) = false := hl
    have hI1 : Calls Try.prog 76 #[.slice (some ⟨blk, 0, none⟩) d.size cap, .func (.func g) #[] lb] w fun e w' => e = .returned (.int .i64 (k0 : Int)) ∧ Below w.heap.size w w' := hIF.mono fun e w' h => by
      obtain ⟨h1, ⟨_, h2⟩ | ⟨k, hk, h2, h3, h4⟩⟩ := h
      · rw [h2 k0 hk0] at ht; cases ht
      · have : k = k0 := by
          rcases Nat.lt_trichotomy k k0 with h | h | h
          · rw [hl k h] at h3; cases h3
          · exact h
          · rw [h4 k0 h] at ht; cases ht
        subst this
        exact ⟨h2, h1⟩
    have hkeep : ∀ j, j < k0 → kp j = true := fun j hj => by rw [HK.out]; show (!p d[j]!) = true; rw [← tl j (by omega), hl j hj]; rfl
    have hdrop : kp k0 = false := by rw [HK.out]; show (!p d[k0]!) = false; rw [← tl k0 hk0, ht]; rfl
    have hne1 : ((k0 : Int) == -1) = false := beq_eq_false_iff_ne.2 (by omega)
    have HP := Aside0.mk hp
    have HX := Aside0.mk hb
    have TL := Aside0.mk tl
    have hw0 : IntKind.i64.wrap ((k0 : Int) + 1) = ((k0 + 1 : Nat) : Int) := by rw [i64_w]; unfold wrap64; omega
    clear hp hb hfil tl hIF hall hl ht hp0 hn0 hk0'
    go_enter Try.func57, Try.ntmps57
    go_wp2_with (go_at_call 76; refine hI1.mono ?_; rintro e w' ⟨rfl, hb'⟩)
    have HX' := Aside0.mk (blk_below HX.out hb')
    have HB' := Aside0.mk (Below.mono hb' (show B ≤ w.heap.size by omega))
    clear hI1 HX hb'
    go_loopg [5, 6, 7] d.size (fun gg s5 s6 _ wr => ∃ (i j : Nat) (dk : Array S30), s5 = .int .i64 i ∧ s6 = .int .i64 j ∧ j ≤ d.size ∧ d.size - j ≤ gg ∧ Aside0 (Below B w wr) ∧ Aside0 (wr.heap[blk]? = some (.cells (flatP dk.toList ++ rest).toArray 30 (0, 0))) ∧ Aside0 (Lib.KeptInv kp d j i dk))
    case atStart => exact ⟨k0, k0 + 1, d, rfl, by go_num, by omega, by omega, HB', HX', ⟨Lib.KeptInv.start hkeep hdrop⟩⟩
    case round =>
      obtain ⟨i, j, dk, rfl, rfl, hjd, hgg, HB, HX, I2⟩ := hrel
      have hI := I2.out
      have hij := hI.lt
      have hds := hI.size
      by_cases hlt : j < d.size
      · have hltz : (j : Int) < (d.size : Int) := by omega
        have hjs : rd_T30 dk.toList (j : Int) = d[j]! := by
          rw [← hI.high j (by omega), getElem!_pos dk j (by omega)]; simp [rd_T30, show j < dk.size by omega]
        have l0 : wr.cell? ⟨blk, j * 3, none⟩ = some (.string (d[j]!).f0) := by rw [← hjs]; exact (blk_cell HX.out (j * 3)).trans ((List.getElem?_toArray).trans (flatP_get dk.toList rest j 0 (by simp; omega) (by omega)))
        have l1 : wr.cell? ⟨blk, j * 3 + 1, none⟩ = some (.int .i64 (d[j]!).f1) := by rw [← hjs]; exact (blk_cell HX.out (j * 3 + 1)).trans ((List.getElem?_toArray).trans (flatP_get dk.toList rest j 1 (by simp; omega) (by omega)))
        have l2 : wr.cell? ⟨blk, j * 3 + 2, none⟩ = some (.string (d[j]!).f2) := by rw [← hjs]; exact (blk_cell HX.out (j * 3 + 2)).trans ((List.getElem?_toArray).trans (flatP_get dk.toList rest j 2 (by simp; omega) (by omega)))
        have hilt : i < dk.size := by omega
        generalize hu : d[j]! = u at l0 l1 l2
        have C := Aside0.mk hu
        clear hu hjs
        have hsB : B ≤ wr.heap.size := Nat.le_trans hB (Nat.le_of_lt (blk_lt HX.out))
        have hcall := HP.out (wr.alloc (.cells #[.string u.f0, .int .i64 u.f1, .string u.f2] 30 (0, 0))) u (HB.out.alloc hsB _)
        have hw1 : IntKind.i64.wrap ((j : Int) + 1) = ((j + 1 : Nat) : Int) := by rw [i64_w]; unfold wrap64; omega
        have hw2 : IntKind.i64.wrap ((i : Int) + 1) = ((i + 1 : Nat) : Int) := by rw [i64_w]; unfold wrap64; omega
        have hiz : (i : Int) < (d.size : Int) := by omega
        have bxn := blk_new wr (.cells #[.string u.f0, .int .i64 u.f1, .string u.f2] 30 (0, 0))
        have HXa := Aside0.mk (blk_alloc HX.out (.cells #[.string u.f0, .int .i64 u.f1, .string u.f2] 30 (0, 0)))
        have BX := Aside0.mk bxn
        have HBa := Aside0.mk (HB.out.alloc hsB (.cells #[.string u.f0, .int .i64 u.f1, .string u.f2] 30 (0, 0)))
        clear bxn hsB
        cases hq : p u with
        | true =>
          rw [hq] at hcall
          have HQ := Aside0.mk hq
          clear hq hI
          go_wp2_with (go_at_fn g; refine hcall.mono ?_; rintro e w' ⟨rfl, hb'⟩; have z0 := blk_cell (blk_below BX.out hb') 0; have z1 := blk_cell (blk_below BX.out hb') 1; have z2 := blk_cell (blk_below BX.out hb') 2)
          go_roundg (d.size - (j + 1))
          case measure => omega
          case rel =>
            have hsW : B ≤ (wr.alloc (.cells #[.string u.f0, .int .i64 u.f1, .string u.f2] 30 (0, 0))).heap.size := by rw [World.size_alloc]; exact Nat.le_trans hB (Nat.le_trans (Nat.le_of_lt (blk_lt HX.out)) (Nat.le_succ _))
            exact ⟨i, j + 1, dk, rfl, by go_num, by omega, Nat.le_refl _, ⟨HBa.out.trans (Below.mono hb' hsW)⟩, ⟨blk_below HXa.out hb'⟩, ⟨I2.out.skip (by rw [HK.out]; show (!p d[j]!) = false; rw [C.out, HQ.out]; rfl)⟩⟩
        | false =>
          rw [hq] at hcall
          have HQ := Aside0.mk hq
          clear hq hI
          have hcal2 : Calls Try.prog g (#[.agg #[.string u.f0, .int .i64 u.f1, .string u.f2]] ++ lb) (wr.alloc (.cells #[.string u.f0, .int .i64 u.f1, .string u.f2] 30 (0, 0))) fun e w' => e = .returned (.bool false) ∧ Below B w w' ∧
              (w'.heap[wr.heap.size]? = some (.cells #[.string u.f0, .int .i64 u.f1, .string u.f2] 30 (0, 0))) ∧ w'.heap[blk]? = some (.cells (flatP dk.toList ++ rest).toArray 30 (0, 0)) :=
            hcall.mono fun e w' h => ⟨h.1, HBa.out.trans (Below.mono h.2 (by rw [World.size_alloc]; exact Nat.le_trans hB (Nat.le_trans (Nat.le_of_lt (blk_lt HX.out)) (Nat.le_succ _)))), blk_below BX.out h.2, blk_below HXa.out h.2⟩
          clear hcall
          go_wp2_with (go_at_fn g; refine hcal2.mono ?_; rintro e w' ⟨rfl, hB1, bx, hx⟩; have z0 := blk_cell bx 0; have z1 := blk_cell bx 1; have z2 := blk_cell bx 2; obtain ⟨v0, v1, v2, y0, y1, y2, y3, y4, y5, d3⟩ := row_store hx i (by simp; omega) u)
          go_roundg (d.size - (j + 1))
          case measure => omega
          case rel =>
            have h9 := I2.out.keep hlt (by rw [HK.out]; show (!p d[j]!) = true; rw [C.out, HQ.out]; rfl)
            rw [C.out] at h9
            refine ⟨i + 1, j + 1, dk.setIfInBounds i u, by go_num, by go_num, by omega, Nat.le_refl _, ⟨?_⟩, ⟨?_⟩, ⟨h9⟩⟩
            · exact ((hB1.setCell (p := ⟨blk, i * 3, none⟩) hB _).setCell (p := ⟨blk, i * 3 + 1, none⟩) hB _).setCell (p := ⟨blk, i * 3 + 2, none⟩) hB _
            · simpa using d3
      · obtain rfl : j = d.size := by omega
        have hltz : ¬ (d.size : Int) < (d.size : Int) := by omega
        have hcl := clear_P dk.toList rest wr HX.out i (cap - i) (by simp; omega)
        simp only [Array.length_toList, hds] at hcl
        obtain ⟨W9, hcl, h9, hB9⟩ := hcl
        clear hI
        go_wp2
        go_ret
        have hI := I2.out
        refine ⟨by rw [hI.len]; rfl, hB9 B w hB HB.out, ?_⟩
        rw [hI.len]
        have e9 : dk.toList.take i ++ List.replicate (d.size - i) z30 = Lib.keptUpTo kp d d.size ++ List.replicate (d.size - i) z30 := by
          congr 1
          apply List.ext_getElem?
          intro q
          by_cases hq : q < i
          · rw [hI.low q hq, List.getElem?_take, if_pos hq, List.getElem?_eq_getElem (by simp; omega), getElem!_pos dk q (by omega)]; simp
          · rw [List.getElem?_eq_none (by simp; omega), List.getElem?_eq_none (by rw [hI.len]; omega)]
        rw [← e9]
        exact h9
def sameP (a b : S30) : Bool := decide (a.f0.toList = b.f0.toList ∧ a.f1 = b.f1 ∧ a.f2.toList = b.f2.toList)
def prB (l0 : List S30) (h : Int) (x : S30) : Bool := decide (x.f1 < h) && !sameP x (vpOf x.f0 h l0.reverse).1
set_option maxHeartbeats 4000000 in
set_option maxRecDepth 1000000 in
theorem prClo (W : World) (Ba Bh : Nat) (A0 : Option Addr) (c0 : Nat) (l0 : List S30) (hour : Int) (hba : W.heap[Ba]? = some (.cells #[.slice A0 l0.length c0] 25 (0, 0))) (hbh : W.heap[Bh]? = some (.cells #[.int .i64 hour] 3 (0, 0)))
    (hr0 : Kd.C k30 W A0 l0.length l0) (hreach : l0.length * 40 ≤ 140737488351232) (x : S30) :
    Calls Try.prog 59 #[.agg #[.string x.f0, .int .i64 x.f1, .string x.f2], .pointer (some ⟨Ba, 0, none⟩), .pointer (some ⟨Bh, 0, none⟩)] W fun e w' => e = .returned (.bool (prB l0 hour x)) ∧ Below W.heap.size W w' := by
  have BX := Aside0.mk (blk_new W (.cells #[.string x.f0, .int .i64 x.f1, .string x.f2] 30 (0, 0)))
  have BA := Aside0.mk (blk_alloc hba (.cells #[.string x.f0, .int .i64 x.f1, .string x.f2] 30 (0, 0)))
  have BH := Aside0.mk (blk_alloc hbh (.cells #[.string x.f0, .int .i64 x.f1, .string x.f2] 30 (0, 0)))
  have hca := blk_cell BA.out 0
  have hch := blk_cell BH.out 0
  have hx0 := blk_cell BX.out 0
  have hx1 := blk_cell BX.out 1
  have hx2 := blk_cell BX.out 2
  have hB1 := (Below.refl _ W).alloc (Nat.le_refl _) (.cells #[.string x.f0, .int .i64 x.f1, .string x.f2] 30 (0, 0))
  have hcall := vp_calls A0 c0 l0 x.f0 hour (W.alloc (.cells #[.string x.f0, .int .i64 x.f1, .string x.f2] 30 (0, 0))) hreach (Kd.C_below hr0 hB1)
  go_enter Try.func59, Try.ntmps59
  go_wp2_with (go_at_call 53; refine hcall.mono ?_; rintro e w' ⟨⟨v, b, e1, rfl⟩, hb'⟩; have BX2 := blk_below BX.out hb'; have BH2 := blk_below BH.out hb'; have q0 := blk_cell (blk_alloc BX2 (.cells #[.string v.f0, .int .i64 v.f1, .string v.f2] 30 (0, 0))) 0; have q1 := blk_cell (blk_alloc BX2 (.cells #[.string v.f0, .int .i64 v.f1, .string v.f2] 30 (0, 0))) 1; have q2 := blk_cell (blk_alloc BX2 (.cells #[.string v.f0, .int .i64 v.f1, .string v.f2] 30 (0, 0))) 2; have q3 := blk_cell (blk_alloc BH2 (.cells #[.string v.f0, .int .i64 v.f1, .string v.f2] 30 (0, 0))) 0; have r0 := blk_cell (blk_new w' (.cells #[.string v.f0, .int .i64 v.f1, .string v.f2] 30 (0, 0))) 0; have r1 := blk_cell (blk_new w' (.cells #[.string v.f0, .int .i64 v.f1, .string v.f2] 30 (0, 0))) 1; have r2 := blk_cell (blk_new w' (.cells #[.string v.f0, .int .i64 v.f1, .string v.f2] 30 (0, 0))) 2)
  all_goals
    go_ret
    refine ⟨?_, ?_⟩
    rotate_left
    · exact (hB1.trans (Below.mono hb' (by rw [World.size_alloc]; omega))).alloc (by have := hb'.size; rw [World.size_alloc] at this; omega) _
    clear hcall hr0 hca hch hx0 hx1 hx2 q0 q1 q2 q3 r0 r1 r2 BX2 BH2 BX BA BH hb' hB1
    simp only [prB, sameP, e1]
    simp_all <;> omega
theorem reps_flat : ∀ (xs : List S30) (inner : List Value) (M : S30 → List Value → Prop), (∀ x c, M x c → c = encP x) → Reps M 3 xs inner → inner = flatP xs
  | [], inner, _, _, h => List.eq_nil_of_length_eq_zero (by simpa using h.1)
  | x :: xs, inner, M, hM, h => by
    have hl : inner.length = (xs.length + 1) * 3 := by simpa using h.1
    have h0 := hM _ _ (h.2 0 x rfl)
    have ih := reps_flat xs (inner.drop 3) M hM ⟨by simp; omega, fun j p hj => by
      have := h.2 (j + 1) p (by simpa using hj)
      rwa [show (j + 1) * 3 = 3 + j * 3 by omega, ← List.drop_drop] at this⟩
    rw [Nat.zero_mul, List.drop_zero] at h0
    have h1 := List.take_append_drop 3 inner
    rw [h0, ih] at h1
    rw [← h1]; simp [flatP]
theorem flat_reps (w : World) (B : Nat) (ok : Nat → Prop) (xs : List S30) : Reps (k30.M w B ok) 3 xs (flatP xs) := by
  refine ⟨by rw [flatP_len], fun j p hj => ?_⟩
  obtain ⟨hjl, hjp⟩ := List.getElem?_eq_some_iff.1 hj
  have : ((flatP xs).drop (j * 3)).take 3 = encP p := by
    conv => lhs; rw [← List.take_append_drop j xs, flatP_app, List.drop_eq_getElem_cons hjl, hjp]
    rw [List.drop_append_of_le_length (by rw [flatP_len]; simp; omega), List.drop_of_length_le (by rw [flatP_len]; simp; omega)]
    simp [flatP, encP]
  rw [this]
  exact k30_mkM w B ok p
theorem row_open {w : World} {B g n cap : Nat} {ok : Nat → Prop} {xs : List S30} (h : Kd.R k30 30 w B ok (.slice (some ⟨g, 0, none⟩) n cap) xs) :
    n = xs.length ∧ B ≤ g ∧ ok g ∧ n ≤ cap ∧ cap ≤ maxLen ∧ ∃ rest, w.heap[g]? = some (.cells (flatP xs ++ rest).toArray 30 (0, 0)) ∧ (flatP xs ++ rest).length = cap * 3 := by
  obtain ⟨hok, inner, ho, hr⟩ := h
  have hi := reps_flat xs inner _ (fun x c hc => k30_openM hc) hr
  subst hi
  rcases ho.2 with ⟨e0, _⟩ | ⟨g', cap', cur, e0, hb, hg, hn, hm, hs, ht⟩
  · cases e0
  · injection e0 with e1 e2 e3
    injection e1 with e1
    injection e1 with e1
    subst e1; subst e3
    have h1 : cur.toList = flatP xs ++ cur.toList.drop (xs.length * 3) := by
      conv => lhs; rw [← List.take_append_drop (xs.length * 3) cur.toList]
      congr 1
    have h2 : (flatP xs ++ cur.toList.drop (xs.length * 3)).toArray = cur := by rw [← h1]
    refine ⟨e2, hb, hok _ rfl, by omega, hm, cur.toList.drop (xs.length * 3), by rw [h2]; exact hg, by rw [← h1]; have h9 : cur.size = cap * 3 := hs; simpa using h9⟩
theorem row_close {w : World} {B g cap : Nat} {ok : Nat → Prop} {xs : List S30} {rest : List Value} (hB : B ≤ g) (hok : ok g) (hn : xs.length ≤ cap) (hm : cap ≤ maxLen) (hh : w.heap[g]? = some (.cells (flatP xs ++ rest).toArray 30 (0, 0))) (hl : (flatP xs ++ rest).length = cap * 3) :
    Kd.R k30 30 w B ok (.slice (some ⟨g, 0, none⟩) xs.length cap) xs := by
  refine ⟨fun k hk => ?_, flatP xs, ⟨by rw [flatP_len]; rfl, .inr ⟨g, cap, _, rfl, hB, hh, hn, hm, (show _ = cap * 3 by simpa using hl), ?_⟩⟩, flat_reps _ _ _ _⟩
  · have : g = k := by simpa [Value.ownBlock] using hk
    subst this; exact hok
  · exact List.take_left' (by rw [flatP_len]; rfl)
set_option maxHeartbeats 2000000 in
theorem idxP_nil (fv : Value) (w : World) : Calls Try.prog 76 #[.slice none 0 0, fv] w fun e w' => e = .returned (.int .i64 (-1)) ∧ w' = w := by
  go_enter Try.func76, Try.ntmps76
  go_wp2
  go_loopg [5, 8] 0 (fun gg _ s8 wr => s8 = .int .i64 0 ∧ wr = w)
  case atStart => exact ⟨rfl, rfl⟩
  case round =>
    obtain ⟨rfl, rfl⟩ := hrel
    go_wp2
    go_ret
    exact ⟨rfl, rfl⟩
set_option maxHeartbeats 2000000 in
set_option maxRecDepth 100000 in
theorem delP_nil (fv : Value) (w : World) : Calls Try.prog 57 #[.slice none 0 0, fv] w fun e w' => e = .returned (.slice none 0 0) ∧ w' = w := by
  go_enter Try.func57, Try.ntmps57
  go_wp2_with (go_at_call 76; refine (idxP_nil fv w).mono ?_; rintro e w' ⟨rfl, rfl⟩)
  go_ret
  exact ⟨rfl, rfl⟩
theorem delAny (B g : Nat) (lb : Array Value) (p : S30 → Bool) (eg : ∀ args w, (callFunc g args).run Try.prog w = .ok (.enter g args) w) (v : Value) (xs : List S30) (w : World)
    (HR : Kd.R k30 30 w B (fun _ => True) v xs) (hsz : xs.length * 40 ≤ 140737488351232)
    (hp : ∀ (W : World) (x : S30), Below B w W → Calls Try.prog g (#[.agg #[.string x.f0, .int .i64 x.f1, .string x.f2]] ++ lb) W fun e w' => e = .returned (.bool (p x)) ∧ Below W.heap.size W w') :
    Calls Try.prog 57 #[v, .func (.func g) #[] lb] w fun e w' => ∃ v' : Value, e = .returned v' ∧ Kd.R k30 30 w' B (fun _ => True) v' (xs.filter fun x => !p x) ∧ Below B w w' := by
  by_cases hv : v = .slice none 0 0
  · subst hv
    have hx : xs = [] := by
      obtain ⟨_, inner, ho, _⟩ := HR
      rcases ho.2 with ⟨_, h⟩ | ⟨_, _, _, h, _⟩
      · exact List.eq_nil_of_length_eq_zero h
      · cases h
    subst hx
    refine (delP_nil _ w).mono ?_
    rintro e w' ⟨rfl, rfl⟩
    exact ⟨_, rfl, Kd.R_nil _ _ _ _ _, Below.refl _ _⟩
  · obtain ⟨gb, n, cap, rfl⟩ : ∃ gb n cap, v = .slice (some ⟨gb, 0, none⟩) n cap := by
      obtain ⟨_, inner, ho, _⟩ := HR
      rcases ho.2 with ⟨h, _⟩ | ⟨g', cap', cur, e0, _⟩
      · exact absurd h hv
      · exact ⟨_, _, _, e0⟩
    obtain ⟨rfl, hB, _, hn, hm, rest, hh, hl⟩ := row_open HR
    have hc := delP B g gb cap lb p eg xs.toArray rest w (by simpa using hh) hB (by simpa using hsz) (by simpa using hn) hp
    simp only [List.size_toArray] at hc
    refine hc.mono ?_
    rintro e w' ⟨rfl, hb, h9⟩
    have hle : (xs.filter fun x => !p x).length ≤ xs.length := List.length_filter_le _ _
    rw [flatP_app, List.append_assoc] at h9
    refine ⟨_, rfl, row_close hB trivial (by omega) hm h9 ?_, hb⟩
    rw [List.length_append, flatP_len] at hl
    simp only [List.length_append, flatP_len, List.length_replicate]
    omega
theorem paDel (w4 w5 : World) (Ba Bh : Nat) (A0 : Option Addr) (c0 : Nat) (l0 : List S30) (hour : Int) (ba : w4.heap[Ba]? = some (.cells #[.slice A0 l0.length c0] 25 (0, 0))) (bh : w4.heap[Bh]? = some (.cells #[.int .i64 hour] 3 (0, 0)))
    (hC : Kd.C k30 w4 A0 l0.length l0) (hreach : l0.length * 40 ≤ 140737488351232) (hb5 : Below w4.heap.size w4 w5) (v0 : Value) (hR : Kd.R k30 30 w5 w4.heap.size (fun _ => True) v0 l0) :
    Calls Try.prog 57 #[v0, .func (.func 59) #[] #[.pointer (some ⟨Ba, 0, none⟩), .pointer (some ⟨Bh, 0, none⟩)]] w5 fun e w6 => ∃ v6 : Value, e = .returned v6 ∧ Kd.R k30 30 w6 w4.heap.size (fun _ => True) v6 (l0.filter fun x => !prB l0 hour x) ∧ Below w4.heap.size w5 w6 := by
  refine delAny w4.heap.size 59 #[.pointer (some ⟨Ba, 0, none⟩), .pointer (some ⟨Bh, 0, none⟩)] (prB l0 hour) (enters_of Try.func59 (by kernel_rfl) rfl) v0 l0 w5 hR hreach (fun W x hW => ?_)
  have hW4 := hb5.trans hW
  have h1 := prClo W Ba Bh A0 c0 l0 hour (blk_below ba hW4) (blk_below bh hW4) (Kd.C_below hC hW4) hreach x
  have e : (#[Value.agg #[.string x.f0, .int .i64 x.f1, .string x.f2]] ++ #[Value.pointer (some ⟨Ba, 0, none⟩), .pointer (some ⟨Bh, 0, none⟩)] : Array Value) = #[Value.agg #[.string x.f0, .int .i64 x.f1, .string x.f2], .pointer (some ⟨Ba, 0, none⟩), .pointer (some ⟨Bh, 0, none⟩)] := by simp
  rw [e]
  exact h1
def impl_PruneArchive.f (k : Nat) (l0 : List S30) (a1 : Int) : Option (List S30 × Bool) :=
  (impl_IsValidArchive.f k l0).bind fun t => if t = true then (if 0 ≤ a1 ∧ a1 ≤ 240 then (if l0.length < 3518437208781 then some (l0.filter fun x => !prB l0 a1 x, true) else none) else some ([], false)) else some ([], false)
theorem withinV (x a b : Int) : impl_within.f x a b = some (decide (a ≤ x ∧ x ≤ b)) := by
  unfold impl_within.f
  by_cases h : x ≥ a
  · rw [if_pos h]; congr 1; simp; omega
  · rw [if_neg h]; congr 1; simp; omega
set_option maxHeartbeats 4000000 in
set_option maxRecDepth 1000000 in
theorem pa_calls (k : Nat) (A0 : Option Addr) (c0 : Nat) (l0 : List S30) (a1 : Int) (r1 : List S30) (r2 : Bool) (w : World) (hr0 : Kd.C k30 w A0 l0.length l0) (hc0 : l0.length ≤ c0) (h : impl_PruneArchive.f k l0 a1 = some (r1, r2)) :
    Calls Try.prog 31 #[.slice A0 l0.length c0, .int .i64 a1] w fun e w' => ∃ v0_ : Value, e = .returned (.tuple #[v0_, .bool r2]) ∧ Kd.R k30 30 w' w.heap.size (fun _ => True) v0_ r1 ∧ Below w.heap.size w w' := by
  unfold impl_PruneArchive.f at h
  obtain ⟨t, hv, h⟩ := Option.bind_eq_some_iff.mp h
  have hB2 : Below w.heap.size w ((w.alloc (.cells #[.slice A0 l0.length c0] 25 (0, 0))).alloc (.cells #[.int .i64 a1] 3 (0, 0))) := ((Below.refl _ w).alloc (Nat.le_refl _) _).alloc (by simp) _
  have ba : ((w.alloc (.cells #[.slice A0 l0.length c0] 25 (0, 0))).alloc (.cells #[.int .i64 a1] 3 (0, 0))).heap[w.heap.size]? = some (.cells #[.slice A0 l0.length c0] 25 (0, 0)) := blk_alloc (blk_new w _) _
  have bh : ((w.alloc (.cells #[.slice A0 l0.length c0] 25 (0, 0))).alloc (.cells #[.int .i64 a1] 3 (0, 0))).heap[w.heap.size + 1]? = some (.cells #[.int .i64 a1] 3 (0, 0)) := by
    have h := blk_new (w.alloc (.cells #[.slice A0 l0.length c0] 25 (0, 0))) (.cells #[.int .i64 a1] 3 (0, 0))
    rwa [World.size_alloc] at h
  have hval := impl_IsValidArchive.calls k A0 c0 l0 t _ (Kd.C_below hr0 hB2) hc0 hv
  have hwi := withinV a1 0 240
  have ya := blk_cell ba 0
  cases t with
  | false =>
    obtain ⟨rfl, rfl⟩ := Prod.mk.inj (Option.some.inj h)
    go_enter Try.func31, Try.ntmps31
    go_wp2_with (go_at_call 14; refine hval.mono ?_; rintro e w3 ⟨rfl, hb3⟩)
    go_ret2
    exact ⟨_, rfl, Kd.R_nil _ _ _ _ _, below_step hB2 hb3⟩
  | true =>
    rw [if_pos rfl] at h
    by_cases hc : 0 ≤ a1 ∧ a1 ≤ 240
    · rw [if_pos hc] at h
      by_cases hs : l0.length < 3518437208781
      · rw [if_pos hs] at h
        obtain ⟨rfl, rfl⟩ := Prod.mk.inj (Option.some.inj h)
        clear h
        rw [decide_eq_true hc] at hwi
        clear hv hc
        go_enter Try.func31, Try.ntmps31
        go_wp2_with (first | (go_at_call 14; refine hval.mono ?_; rintro e w3 ⟨rfl, hb3⟩; have ba3 := blk_below ba hb3; have bh3 := blk_below bh hb3; have z3 := blk_cell bh3 0) | (go_at_call 52; refine (impl_within.calls a1 0 240 true _ hwi).mono ?_; rintro e w4 ⟨rfl, ⟨q4, rfl⟩⟩; have ba4 := blk_drewN ba3 q4; have bh4 := blk_drewN bh3 q4; have z4 := blk_cell ba4 0; have hB4 := pw_below_drewN (below_step hB2 hb3) q4))
        refine (slices_Clone_impl_Product.calls A0 c0 l0 l0 _ (Kd.C_below hr0 hB4) hc0 (by unfold slices_Clone_impl_Product.f; rw [if_pos (by omega)])).mono ?_
        rintro e w5 ⟨v0, rfl, hR, hb5⟩
        have hdel := paDel (w3.drewN q4) w5 w.heap.size (w.heap.size + 1) A0 c0 l0 a1 ba4 bh4 (Kd.C_below hr0 hB4) (by omega) hb5 v0 hR
        clear hval
        go_wp2_with (go_at_call 57; refine hdel.mono ?_; rintro e w6 ⟨v6, rfl, hR6, hb6⟩)
        go_ret2
        exact ⟨_, rfl, Kd.R_lower hR6 hB4.size, below_step hB4 (hb5.trans hb6)⟩
      · rw [if_neg hs] at h; cases h
    · rw [if_neg hc] at h
      obtain ⟨rfl, rfl⟩ := Prod.mk.inj (Option.some.inj h)
      rw [decide_eq_false hc] at hwi
      go_enter Try.func31, Try.ntmps31
      go_wp2_with (first | (go_at_call 14; refine hval.mono ?_; rintro e w3 ⟨rfl, hb3⟩; have bh3 := blk_below bh hb3; have z3 := blk_cell bh3 0) | (go_at_call 52; refine (impl_within.calls a1 0 240 false _ hwi).mono ?_; rintro e w4 ⟨rfl, ⟨q4, rfl⟩⟩))
      go_ret2
      exact ⟨_, rfl, Kd.R_nil _ _ _ _ _, pw_below_drewN (below_step hB2 hb3) q4⟩
theorem impl_PruneArchive.mono : ∀ a0 a1 k, LeO (impl_PruneArchive.f k a0 a1) (impl_PruneArchive.f (k + 1) a0 a1) := by
  intro a0 a1 k
  unfold impl_PruneArchive.f
  exact LeO.bind (impl_IsValidArchive.mono _ _) fun _ => LeO.refl _
set_option maxHeartbeats 8000000 in
set_option maxRecDepth 100000 in
theorem impl_PruneArchive.calls (k : Nat) (A0 : Option Addr) (c0 : Nat) (l0 : List (S30)) (a1 : Int) (r1 : List (S30)) (r2 : Bool) (w : World) (hr0 : Kd.C k30 w A0 l0.length l0) (hc0 : l0.length ≤ c0) (h : impl_PruneArchive.f k l0 a1 = some (r1, r2)) :
    Calls Try.prog 31 #[.slice A0 l0.length c0, .int .i64 a1] w fun e w' => ∃ v0_ : Value, e = .returned (.tuple #[v0_, .bool r2]) ∧ Kd.R k30 30 w' w.heap.size (fun _ => True) v0_ r1 ∧ Below w.heap.size w w' := by
  exact pa_calls k A0 c0 l0 a1 r1 r2 w hr0 hc0 h

end Go.Proofs.Ytgmmanppmjlclaa.P
