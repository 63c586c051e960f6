-- Made by pp.py of this session out of the kit's print and of contracts proved by hand; Lean checks it.
import Derived.Lib.SlKept
import Derived.Lib.SliceRun
import Derived.Shelf.GgClosure.Gives
import Derived.Shelf.SlicesQ.Load
import Derived.Lib.OwnBridge
import Derived.Shelf.RegionOpen
import Derived.Deep.QuietTactic
import Derived.Test.YtgmmanppmjlclaaPx0
import Derived.Test.YtgmmanppmjlclaaPx10
import Derived.Test.YtgmmanppmjlclaaPx14
import Derived.Test.YtgmmanppmjlclaaPx17
namespace Go.Proofs.Ytgmmanppmjlclaa.P
open Go.RowKit Go.Proofs.YtgmmanppmjlclaaW.PrintWords Go.Proofs.YtgmmanppmjlclaaW.PrintLast Go.Proofs.YtgmmanppmjlclaaW.PrintMore
attribute [local go_sem] max2_int min2_int max_two min_two max_three min_three max_four min_four   -- for this text's walks alone
set_option linter.unusedVariables false
set_option linter.unusedSimpArgs false

-- ALONE
/-! ### impl_ChangedBetween: function 34 -/
def flS (xs : List ByteArray) : List Value := xs.map Value.string
theorem flS_len (xs : List ByteArray) : (flS xs).length = xs.length := by simp [flS]
theorem flS_get (xs : List ByteArray) (rest : List Value) (i : Nat) (h : i < xs.length) : (flS xs ++ rest)[i]? = some (.string (xs.getD i ⟨#[]⟩)) := by
 rw [List.getElem?_append_left (by rw [flS_len]; exact h)]
 simp [flS, h]
theorem flS_set (xs : List ByteArray) (rest : List Value) (i : Nat) (h : i < xs.length) (y : ByteArray) : (flS xs ++ rest).set i (.string y) = flS (xs.set i y) ++ rest := by
 rw [List.set_append_left _ _ (by rw [flS_len]; exact h)]
 simp [flS, List.map_set]
set_option maxHeartbeats 2000000 in
set_option maxRecDepth 100000 in
theorem idxS (B g blk cap : Nat) (lb : Array Value) (p : ByteArray → Bool) (eg : ∀ args w, (callFunc g args).run Try.prog w = .ok (.enter g args) w) (d : List ByteArray) (rest : List Value) (w : World)
  (hb : w.heap[blk]? = some (.cells (flS d ++ rest).toArray 9 (0, 0))) (hB : B ≤ w.heap.size) (hsz : d.length * 16 ≤ 140737488351232)
  (hp : ∀ (W : World) (x : ByteArray), Below B w W → Calls Try.prog g (#[.string x] ++ lb) W fun e w' => e = .returned (.bool (p x)) ∧ Below W.heap.size W w') :
  Calls Try.prog 77 #[.slice (some ⟨blk, 0, none⟩) d.length cap, .func (.func g) #[] lb] w fun e w' => Below w.heap.size w w' ∧
   ((e = .returned (.int .i64 (-1)) ∧ ∀ j : Nat, j < d.length → p (d.getD j ⟨#[]⟩) = false) ∨ (∃ k : Nat, k < d.length ∧ e = .returned (.int .i64 (k : Int)) ∧ p (d.getD k ⟨#[]⟩) = true ∧ ∀ j : Nat, j < k → p (d.getD j ⟨#[]⟩) = false)) := by
 have HP := Aside0.mk hp
 clear hp
 have HX := Aside0.mk hb
 clear hb
 go_enter Try.func77, Try.ntmps77
 go_wp2
 go_loopg [5, 8] d.length (fun gg _ s8 wr => ∃ kk : Nat, kk ≤ d.length ∧ d.length - kk ≤ gg ∧ s8 = .int .i64 kk ∧ Aside0 (Below w.heap.size w wr) ∧ Aside0 (∀ j : Nat, j < kk → p (d.getD j ⟨#[]⟩) = false))
 case atStart => exact ⟨0, Nat.zero_le _, by omega, rfl, ⟨Below.refl _ w⟩, ⟨fun j hj => absurd hj (Nat.not_lt_zero _)⟩⟩
 case round =>
  obtain ⟨kk, hkk, hg, rfl, BW, A⟩ := hrel
  by_cases hlt : kk < d.length
  rotate_left
  ·
   have hltz : ¬ (kk : Int) < (d.length : Int) := by omega
   have : kk = d.length := by omega
   subst this
   go_wp2
   go_ret
   exact ⟨BW.out, .inl ⟨rfl, A.out⟩⟩
  have hltz : (kk : Int) < (d.length : Int) := by omega
  have hw2 : IntKind.i64.wrap ((kk : Int) + 1) = ((kk + 1 : Nat) : Int) := by rw [i64_w]; unfold wrap64; omega
  have hbw := blk_below HX.out BW.out
  have l0 : wr.cell? ⟨blk, kk, none⟩ = some (.string (d.getD kk ⟨#[]⟩)) := (blk_cell hbw kk).trans ((List.getElem?_toArray).trans (flS_get d rest kk hlt))
  have hcall := HP.out wr (d.getD kk ⟨#[]⟩) (Below.mono BW.out hB)
  generalize hu : d.getD kk ⟨#[]⟩ = u at l0 hcall
  have C := Aside0.mk hu
  clear hu
  cases hq : p u with
  | true =>
   rw [hq] at hcall
   have HQ := Aside0.mk hq
   clear hq hbw
   go_wp2_with (go_at_fn g; refine hcall.mono ?_; rintro e w' ⟨rfl, hb'⟩)
   go_ret
   have hb2 := below_step BW.out hb'
   exact ⟨hb2, .inr ⟨kk, hlt, rfl, by rw [C.out]; exact HQ.out, A.out⟩⟩
  | false =>
   rw [hq] at hcall
   have HQ := Aside0.mk hq
   clear hq hbw
   go_wp2_with (go_at_fn g; refine hcall.mono ?_; rintro e w' ⟨rfl, hb'⟩)
   go_roundg (d.length - (kk + 1))
   case measure => omega
   case rel =>
    refine ⟨kk + 1, by omega, by omega, by go_num, ⟨below_step BW.out hb'⟩, ⟨fun j hj => ?_⟩⟩
    by_cases e : j = kk
    rotate_left
    ·
     exact A.out j (by omega)
    subst e; rw [C.out]; exact HQ.out
theorem least_of2 (P : Nat → Bool) : ∀ n : Nat, P n = true → ∃ k, k ≤ n ∧ P k = true ∧ ∀ j, j < k → P j = false := by
 intro n
 induction n using Nat.strongRecOn with
 | _ n ih =>
  intro h
  by_cases hx : ∃ m, m < n ∧ P m = true
  ·
   obtain ⟨m, hm, hp⟩ := hx
   obtain ⟨k, h1, h2, h3⟩ := ih m hm hp
   exact ⟨k, by omega, h2, h3⟩
  exact ⟨n, Nat.le_refl _, h, fun j hj => by cases e : P j with | false => rfl | true => exact absurd ⟨j, hj, e⟩ hx⟩
theorem setCells_blk2 {b t : Nat} : ∀ (vs : List Value) (o : Nat) (l : List Value) (W : World), W.heap[b]? = some (.cells l.toArray t (0, 0)) → o + vs.length ≤ l.length → (W.setCells b o vs).heap[b]? = some (.cells (l.take o ++ vs ++ l.drop (o + vs.length)).toArray t (0, 0))
 | [], o, l, W, h, _ => by simpa [World.setCells] using h
 | v :: r, o, l, W, h, hl => by
  have h1 := blk_set h o v
  rw [List.setIfInBounds_toArray] at h1
  have hl' : o + 1 + r.length ≤ l.length := by simp at hl; omega
  have h2 := setCells_blk2 r (o + 1) (l.set o v) _ h1 (by simpa using hl')
  simp only [World.setCells]
  rw [h2]
  have e1 : (l.set o v).take (o + 1) = l.take o ++ [v] := by
   rw [List.take_succ_eq_append_getElem (by simp; omega), List.take_set_of_le (Nat.le_refl o), List.getElem_set_self]
  have e2 : (l.set o v).drop (o + 1 + r.length) = l.drop (o + (r.length + 1)) := by
   rw [List.drop_set_of_lt (by omega), show o + 1 + r.length = o + (r.length + 1) by omega]
  rw [e1, e2]
  simp
theorem setCells_below2 {B b : Nat} {w : World} (hb : B ≤ b) : ∀ (vs : List Value) (o : Nat) (W : World), Below B w W → Below B w (W.setCells b o vs)
 | [], _, _, h => h
 | v :: r, o, W, h => setCells_below2 hb r (o + 1) _ (h.setCell (p := ⟨b, o, none⟩) hb v)
set_option maxHeartbeats 4000000 in
set_option maxRecDepth 1000000 in
theorem delS (B g blk cap : Nat) (lb : Array Value) (p : ByteArray → Bool) (eg : ∀ args w, (callFunc g args).run Try.prog w = .ok (.enter g args) w) (d : Array ByteArray) (rest : List Value) (w : World)
  (hb : w.heap[blk]? = some (.cells (flS d.toList ++ rest).toArray 9 (0, 0))) (hB : B ≤ blk) (hsz : d.size * 16 ≤ 140737488351232) (hcap : d.size ≤ cap)
  (hp : ∀ (W : World) (x : ByteArray), Below B w W → Calls Try.prog g (#[.string x] ++ lb) W fun e w' => e = .returned (.bool (p x)) ∧ Below W.heap.size W w') :
  Calls Try.prog 60 #[.slice (some ⟨blk, 0, none⟩) d.size cap, .func (.func g) #[] lb] w fun e w' => e = .returned (.slice (some ⟨blk, 0, none⟩) (d.toList.filter fun x => !p x).length cap) ∧ Below B w w' ∧
   w'.heap[blk]? = some (.cells (flS ((d.toList.filter fun x => !p x) ++ List.replicate (d.size - (d.toList.filter fun x => !p x).length) ⟨#[]⟩) ++ rest).toArray 9 (0, 0)) := by
 have hlt := blk_lt hb
 have tl : ∀ j : Nat, j < d.size → d.toList.getD j ⟨#[]⟩ = d[j]! := fun j hj => by rw [getElem!_pos d j hj]; simp [hj]
 have hIF := idxS B g blk cap lb p eg d.toList rest w hb (by omega) (by simpa using hsz) hp
 simp only [Array.length_toList] at hIF
 obtain ⟨kp, HK⟩ : ∃ kp : Nat → Bool, Aside0 (kp = fun j => !p d[j]!) := ⟨_, ⟨rfl⟩⟩
 have hfil : (d.toList.filter fun x => !p x) = Lib.keptUpTo kp d d.size := by rw [HK.out]; exact (Lib.keptUpTo_filter (fun x => !p x) d).symm
 rw [hfil]
 by_cases hall : ∀ j : Nat, j < d.size → p (d.toList.getD j ⟨#[]⟩) = false
 ·
  have hI1 : Calls Try.prog 77 #[.slice (some ⟨blk, 0, none⟩) d.size cap, .func (.func g) #[] lb] w fun e w' => e = .returned (.int .i64 (-1)) ∧ Below w.heap.size w w' := hIF.mono fun e w' h => by
   obtain ⟨h1, ⟨h2, _⟩ | ⟨k, hk, _, h3, _⟩⟩ := h
   ·
    exact ⟨h2, h1⟩
   rw [hall k hk] at h3; cases h3
  have hkeep : ∀ j, j < d.size → kp j = true := fun j hj => by rw [HK.out]; show (!p d[j]!) = true; rw [← tl j hj, hall j hj]; rfl
  have e3 : Lib.keptUpTo kp d d.size = d.toList := by rw [Lib.keptUpTo_all kp d _ hkeep, Lib.range_map_get]
  have HX := Aside0.mk hb
  rw [e3]
  clear hp hb hfil tl hIF hkeep e3 hall
  go_enter Try.func60, Try.ntmps60
  go_wp2_with (go_at_call 77; refine hI1.mono ?_; rintro e w' ⟨rfl, hb'⟩)
  go_ret
  refine ⟨by simp, Below.mono hb' (by omega), ?_⟩
  have h1 := blk_below HX.out hb'
  simpa using h1
 obtain ⟨n0, hn0, hp0⟩ : ∃ n0, n0 < d.size ∧ p (d.toList.getD n0 ⟨#[]⟩) = true := by
  apply Classical.byContradiction
  intro hx
  exact hall fun j hj => by cases e : p (d.toList.getD j ⟨#[]⟩) with | false => rfl | true => exact absurd ⟨j, hj, e⟩ hx
 obtain ⟨k0, hk0', ht, hl⟩ := least_of2 (fun j => p (d.toList.getD j ⟨#[]⟩)) n0 hp0
 have hk0 : k0 < d.size := by omega
 have ht : p (d.toList.getD k0 ⟨#[]⟩) = true := ht
 have hl : ∀ j : Nat, j < k0 → p (d.toList.getD j ⟨#[]⟩) = false := hl
 have hI1 : Calls Try.prog 77 #[.slice (some ⟨blk, 0, none⟩) d.size cap, .func (.func g) #[] lb] w fun e w' => e = .returned (.int .i64 (k0 : Int)) ∧ Below w.heap.size w w' := hIF.mono fun e w' h => by
  obtain ⟨h1, ⟨_, h2⟩ | ⟨k, hk, h2, h3, h4⟩⟩ := h
  ·
   rw [h2 k0 hk0] at ht; cases ht
  have : k = k0 := by
   rcases Nat.lt_trichotomy k k0 with h | h | h
   ·
    rw [hl k h] at h3; cases h3
   ·
    exact h
   rw [h4 k0 h] at ht; cases ht
  subst this
  exact ⟨h2, h1⟩
 have hkeep : ∀ j, j < k0 → kp j = true := fun j hj => by rw [HK.out]; show (!p d[j]!) = true; rw [← tl j (by omega), hl j hj]; rfl
 have hdrop : kp k0 = false := by rw [HK.out]; show (!p d[k0]!) = false; rw [← tl k0 hk0, ht]; rfl
 have hne1 : ((k0 : Int) == -1) = false := beq_eq_false_iff_ne.2 (by omega)
 have HP := Aside0.mk hp
 have HX := Aside0.mk hb
 have hw0 : IntKind.i64.wrap ((k0 : Int) + 1) = ((k0 + 1 : Nat) : Int) := by rw [i64_w]; unfold wrap64; omega
 clear hp hb hfil tl hIF hall hl ht hp0 hn0 hk0'
 go_enter Try.func60, Try.ntmps60
 go_wp2_with (go_at_call 77; refine hI1.mono ?_; rintro e w' ⟨rfl, hb'⟩)
 have HX' := Aside0.mk (blk_below HX.out hb')
 have HB' := Aside0.mk (Below.mono hb' (show B ≤ w.heap.size by omega))
 clear hI1 HX hb'
 go_loopg [5, 6, 7] d.size (fun gg s5 s6 _ wr => ∃ (i j : Nat) (dk : Array ByteArray), s5 = .int .i64 i ∧ s6 = .int .i64 j ∧ j ≤ d.size ∧ d.size - j ≤ gg ∧ Aside0 (Below B w wr) ∧ Aside0 (wr.heap[blk]? = some (.cells (flS dk.toList ++ rest).toArray 9 (0, 0))) ∧ Aside0 (Lib.KeptInv kp d j i dk))
 case atStart => exact ⟨k0, k0 + 1, d, rfl, by go_num, by omega, by omega, HB', HX', ⟨Lib.KeptInv.start hkeep hdrop⟩⟩
 case round =>
  obtain ⟨i, j, dk, rfl, rfl, hjd, hgg, HB, HX, I2⟩ := hrel
  have hI := I2.out
  have hij := hI.lt
  have hds := hI.size
  by_cases hlt : j < d.size
  rotate_left
  ·
   obtain rfl : j = d.size := by omega
   have hltz : ¬ (d.size : Int) < (d.size : Int) := by omega
   have hlen : (flS dk.toList ++ rest).length = d.size + rest.length := by rw [List.length_append, flS_len]; simp [hds]
   have hz9 : Try.t9.zero = some (.string ⟨#[]⟩) := by kernel_rfl
   have hcl : ∀ ty, (Builtin.clear_ #[42] ty #[.slice (some ⟨blk, i, none⟩) (d.size - i) (cap - i)]).run Try.prog wr = .ok (.tuple #[]) (wr.setCells blk i (List.replicate (d.size - i) (.string ⟨#[]⟩))) := fun ty =>
    Lib.run_clear_slice wr _ _ ty _ Try.underlying42 (fun w => by simp [zeroValue, hz9]) rfl rfl blk i _ _ (by omega) (fun q hq => by rw [blk_cell HX.out, Array.getElem?_eq_getElem (by simp only [List.size_toArray, hlen]; omega)]; rfl) (fun q _ => blk_frozen HX.out _)
   clear hI
   go_wp2
   go_ret
   have hI := I2.out
   refine ⟨by rw [hI.len]; rfl, setCells_below2 hB _ _ _ HB.out, ?_⟩
   rw [hI.len]
   have h9 := setCells_blk2 (List.replicate (d.size - i) (.string ⟨#[]⟩)) i (flS dk.toList ++ rest) wr HX.out (by rw [hlen]; simp; omega)
   rw [h9]
   have e9 : dk.toList.take i = Lib.keptUpTo kp d d.size := by
    apply List.ext_getElem?
    intro q
    by_cases hq : q < i
    rotate_left
    ·
     rw [List.getElem?_eq_none (by simp; omega), List.getElem?_eq_none (by rw [hI.len]; omega)]
    rw [hI.low q hq, List.getElem?_take, if_pos hq, List.getElem?_eq_getElem (by simp; omega), getElem!_pos dk q (by omega)]; simp
   rw [← e9]
   have e1 : (flS dk.toList ++ rest).take i = flS (dk.toList.take i) := by rw [List.take_append_of_le_length (by rw [flS_len]; simp; omega)]; simp [flS, List.map_take]
   have e2 : (flS dk.toList ++ rest).drop (i + (List.replicate (d.size - i) (Value.string ⟨#[]⟩)).length) = rest := by
    rw [List.length_replicate, show i + (d.size - i) = (flS dk.toList).length by rw [flS_len]; simp; omega]; simp
   rw [e1, e2]
   simp [flS]
  have hltz : (j : Int) < (d.size : Int) := by omega
  have hjs : dk.toList.getD j ⟨#[]⟩ = d[j]! := by
   rw [← hI.high j (by omega), getElem!_pos dk j (by omega)]; simp [show j < dk.size by omega]
  have l0 : wr.cell? ⟨blk, j, none⟩ = some (.string d[j]!) := by rw [← hjs]; exact (blk_cell HX.out j).trans ((List.getElem?_toArray).trans (flS_get dk.toList rest j (by simp; omega)))
  have hilt : i < dk.size := by omega
  generalize hu : d[j]! = u at l0
  have C := Aside0.mk hu
  clear hu hjs
  have hsB : B ≤ wr.heap.size := Nat.le_trans hB (Nat.le_of_lt (blk_lt HX.out))
  have hcall := HP.out wr u HB.out
  have hw1 : IntKind.i64.wrap ((j : Int) + 1) = ((j + 1 : Nat) : Int) := by rw [i64_w]; unfold wrap64; omega
  have hw2 : IntKind.i64.wrap ((i : Int) + 1) = ((i + 1 : Nat) : Int) := by rw [i64_w]; unfold wrap64; omega
  have hiz : (i : Int) < (d.size : Int) := by omega
  cases hq : p u with
  | true =>
   rw [hq] at hcall
   have HQ := Aside0.mk hq
   clear hq hI
   go_wp2_with (go_at_fn g; refine hcall.mono ?_; rintro e w' ⟨rfl, hb'⟩)
   go_roundg (d.size - (j + 1))
   case measure => omega
   case rel =>
    exact ⟨i, j + 1, dk, rfl, by go_num, by omega, Nat.le_refl _, ⟨HB.out.trans (Below.mono hb' hsB)⟩, ⟨blk_below HX.out hb'⟩, ⟨I2.out.skip (by rw [HK.out]; show (!p d[j]!) = false; rw [C.out, HQ.out]; rfl)⟩⟩
  | false =>
   rw [hq] at hcall
   have HQ := Aside0.mk hq
   clear hq hI
   have hcal2 : Calls Try.prog g (#[.string u] ++ lb) wr fun e w' => e = .returned (.bool false) ∧ Below B w w' ∧ w'.heap[blk]? = some (.cells (flS dk.toList ++ rest).toArray 9 (0, 0)) :=
    hcall.mono fun e w' h => ⟨h.1, HB.out.trans (Below.mono h.2 hsB), blk_below HX.out h.2⟩
   clear hcall
   go_wp2_with (go_at_fn g; refine hcal2.mono ?_; rintro e w' ⟨rfl, hB1, hx⟩; have y0 := (blk_cell hx i).trans ((List.getElem?_toArray).trans (flS_get dk.toList rest i (by simp; omega))); have y1 := blk_frozen hx i; have d3 := blk_set hx i (Value.string u))
   go_roundg (d.size - (j + 1))
   case measure => omega
   case rel =>
    have h9 := I2.out.keep hlt (by rw [HK.out]; show (!p d[j]!) = true; rw [C.out, HQ.out]; rfl)
    rw [C.out] at h9
    refine ⟨i + 1, j + 1, dk.setIfInBounds i u, by go_num, by go_num, by omega, Nat.le_refl _, ⟨hB1.setCell (p := ⟨blk, i, none⟩) hB _⟩, ⟨?_⟩, ⟨h9⟩⟩
    rw [List.setIfInBounds_toArray, flS_set dk.toList rest i (by simp; omega) u] at d3
    simpa using d3
def cbB (l0 : List S30) (a b : Int) (n : ByteArray) : Bool := !(vpOf n b l0.reverse).2 || ((vpOf n a l0.reverse).2 && ((vpOf n a l0.reverse).1.f2.toList == (vpOf n b l0.reverse).1.f2.toList))
theorem vp_calls2 (A0 : Option Addr) (c0 : Nat) (l0 : List S30) (a1 : ByteArray) (a2 : Int) (w : World) (hreach : l0.length * 40 ≤ 140737488351232) (hr0 : Kd.C k30 w A0 l0.length l0) (v : S30) (b : Bool) (hv : vpOf a1 a2 l0.reverse = (v, b)) :
  Calls Try.prog 53 #[.slice A0 l0.length c0, .string a1, .int .i64 a2] w fun e W' => e = .returned (.tuple #[.agg #[.string v.f0, .int .i64 v.f1, .string v.f2], .bool b]) ∧ Below w.heap.size w W' :=
 (vp_calls A0 c0 l0 a1 a2 w hreach hr0).mono fun e W' h => by
  obtain ⟨⟨p, b', e1, rfl⟩, h2⟩ := h
  rw [hv] at e1
  obtain ⟨rfl, rfl⟩ := Prod.mk.inj e1
  exact ⟨rfl, h2⟩
set_option maxHeartbeats 4000000 in
set_option maxRecDepth 1000000 in
theorem cbClo (W : World) (Ba Bf Bt : Nat) (A0 : Option Addr) (c0 : Nat) (l0 : List S30) (a b : Int) (hba : W.heap[Ba]? = some (.cells #[.slice A0 l0.length c0] 25 (0, 0))) (hbf : W.heap[Bf]? = some (.cells #[.int .i64 a] 3 (0, 0))) (hbt : W.heap[Bt]? = some (.cells #[.int .i64 b] 3 (0, 0)))
  (hr0 : Kd.C k30 W A0 l0.length l0) (hreach : l0.length * 40 ≤ 140737488351232) (x : ByteArray) :
  Calls Try.prog 61 #[.string x, .pointer (some ⟨Ba, 0, none⟩), .pointer (some ⟨Bf, 0, none⟩), .pointer (some ⟨Bt, 0, none⟩)] W fun e w' => e = .returned (.bool (cbB l0 a b x)) ∧ Below W.heap.size W w' := by
 rcases hv : vpOf x a l0.reverse with ⟨v, b1⟩
 rcases hu : vpOf x b l0.reverse with ⟨u, b2⟩
 have hca := blk_cell hba 0
 have hcf := blk_cell hbf 0
 have hcall1 := vp_calls2 A0 c0 l0 x a W hreach hr0 v b1 hv
 unfold cbB
 rw [hv, hu]
 clear hv
 cases b1 <;> cases b2
 all_goals
  go_enter Try.func61, Try.ntmps61
  go_wp2_with (first | (go_at_call 53; refine hcall1.mono ?_; clear hcall1; rintro e w' ⟨rfl, hb'⟩; have BA2 := blk_alloc (blk_below hba hb') (.cells #[.string v.f0, .int .i64 v.f1, .string v.f2] 30 (0, 0)); have BT2 := blk_alloc (blk_below hbt hb') (.cells #[.string v.f0, .int .i64 v.f1, .string v.f2] 30 (0, 0)); have za := blk_cell BA2 0; have zt := blk_cell BT2 0; have hB2 := hb'.alloc hb'.size (.cells #[.string v.f0, .int .i64 v.f1, .string v.f2] 30 (0, 0)); have hcall2 := vp_calls2 A0 c0 l0 x b _ hreach (Kd.C_below hr0 hB2) u _ hu; have bn := blk_new w' (.cells #[.string v.f0, .int .i64 v.f1, .string v.f2] 30 (0, 0))) | (go_at_call 53; refine hcall2.mono ?_; clear hcall2; rintro e w2 ⟨rfl, hb2⟩; have bx := blk_alloc (blk_below bn hb2) (.cells #[.string u.f0, .int .i64 u.f1, .string u.f2] 30 (0, 0)); have q2 := blk_cell bx 2; have r2 := blk_cell (blk_new w2 (.cells #[.string u.f0, .int .i64 u.f1, .string u.f2] 30 (0, 0))) 2))
 all_goals
  go_ret
  refine ⟨?_, ?_⟩
  rotate_left
  ·
   have h2 := below_step hB2 hb2
   exact h2.alloc h2.size _
  first | rfl | (simp; done) | (simp; rfl)
theorem rowS_open {w : World} {B g n cap : Nat} {ok : Nat → Prop} {xs : List ByteArray} (h : Kd.R Kd.string 9 w B ok (.slice (some ⟨g, 0, none⟩) n cap) xs) :
  n = xs.length ∧ B ≤ g ∧ ok g ∧ n ≤ cap ∧ cap ≤ maxLen ∧ ∃ rest, w.heap[g]? = some (.cells (flS xs ++ rest).toArray 9 (0, 0)) ∧ (flS xs ++ rest).length = cap := by
 have hok := h.1
 have ho := Kd.own_of_R (enc := Value.string) (h1 := fun _ => rfl) h
 rcases ho.2 with ⟨e0, _⟩ | ⟨g', cap', cur, e0, hb, hg, hn, hm, hs, ht⟩
 ·
  cases e0
 injection e0 with e1 e2 e3
 injection e1 with e1
 injection e1 with e1
 subst e1; subst e3
 rw [Nat.mul_one] at hs ht
 have h1 : cur.toList = flS xs ++ cur.toList.drop xs.length := by
  conv => lhs; rw [← List.take_append_drop xs.length cur.toList]
  congr 1
 have h2 : (flS xs ++ cur.toList.drop xs.length).toArray = cur := by rw [← h1]
 refine ⟨e2, hb, hok _ rfl, by omega, hm, cur.toList.drop xs.length, by rw [h2]; exact hg, by rw [← h1]; simpa using hs⟩
theorem rowS_close {w : World} {B g cap : Nat} {xs : List ByteArray} {rest : List Value} (hB : B ≤ g) (hn : xs.length ≤ cap) (hm : cap ≤ maxLen) (hh : w.heap[g]? = some (.cells (flS xs ++ rest).toArray 9 (0, 0))) (hl : (flS xs ++ rest).length = cap) :
  Kd.R Kd.string 9 w B (fun _ => True) (.slice (some ⟨g, 0, none⟩) xs.length cap) xs :=
 Kd.R_of_own (enc := Value.string) (h1 := fun _ => rfl) ⟨by simp [encs], .inr ⟨g, cap, _, rfl, hB, hh, hn, hm, by simpa using hl, by rw [Nat.mul_one]; exact List.take_left' (by rw [flS_len])⟩⟩ (fun _ _ => trivial)
set_option maxHeartbeats 2000000 in
theorem idxS_nil (fv : Value) (w : World) : Calls Try.prog 77 #[.slice none 0 0, fv] w fun e w' => e = .returned (.int .i64 (-1)) ∧ w' = w := by
 go_enter Try.func77, Try.ntmps77
 go_wp2
 go_loopg [5, 8] 0 (fun gg _ s8 wr => s8 = .int .i64 0 ∧ wr = w)
 case atStart => exact ⟨rfl, rfl⟩
 case round =>
  obtain ⟨rfl, rfl⟩ := hrel
  go_wp2
  go_ret
  exact ⟨rfl, rfl⟩
set_option maxHeartbeats 2000000 in
set_option maxRecDepth 100000 in
theorem delS_nil (fv : Value) (w : World) : Calls Try.prog 60 #[.slice none 0 0, fv] w fun e w' => e = .returned (.slice none 0 0) ∧ w' = w := by
 go_enter Try.func60, Try.ntmps60
 go_wp2_with (go_at_call 77; refine (idxS_nil fv w).mono ?_; rintro e w' ⟨rfl, rfl⟩)
 go_ret
 exact ⟨rfl, rfl⟩
theorem delSAny (B g : Nat) (lb : Array Value) (p : ByteArray → Bool) (eg : ∀ args w, (callFunc g args).run Try.prog w = .ok (.enter g args) w) (v : Value) (xs : List ByteArray) (w : World)
  (HR : Kd.R Kd.string 9 w B (fun _ => True) v xs) (hsz : xs.length * 16 ≤ 140737488351232)
  (hp : ∀ (W : World) (x : ByteArray), Below B w W → Calls Try.prog g (#[.string x] ++ lb) W fun e w' => e = .returned (.bool (p x)) ∧ Below W.heap.size W w') :
  Calls Try.prog 60 #[v, .func (.func g) #[] lb] w fun e w' => ∃ v' : Value, e = .returned v' ∧ Kd.R Kd.string 9 w' B (fun _ => True) v' (xs.filter fun x => !p x) ∧ Below B w w' := by
 by_cases hv : v = .slice none 0 0
 ·
  subst hv
  have hx : xs = [] := by
   obtain ⟨_, inner, ho, _⟩ := HR
   rcases ho.2 with ⟨_, h⟩ | ⟨_, _, _, h, _⟩
   rotate_left
   ·
    cases h
   exact List.eq_nil_of_length_eq_zero h
  subst hx
  refine (delS_nil _ w).mono ?_
  rintro e w' ⟨rfl, rfl⟩
  exact ⟨_, rfl, Kd.R_nil _ _ _ _ _, Below.refl _ _⟩
 obtain ⟨gb, n, cap, rfl⟩ : ∃ gb n cap, v = .slice (some ⟨gb, 0, none⟩) n cap := by
  obtain ⟨_, inner, ho, _⟩ := HR
  rcases ho.2 with ⟨h, _⟩ | ⟨g', cap', cur, e0, _⟩
  ·
   exact absurd h hv
  exact ⟨_, _, _, e0⟩
 obtain ⟨rfl, hB, _, hn, hm, rest, hh, hl⟩ := rowS_open HR
 have hc := delS B g gb cap lb p eg xs.toArray rest w (by simpa using hh) hB (by simpa using hsz) (by simpa using hn) hp
 simp only [List.size_toArray] at hc
 refine hc.mono ?_
 rintro e w' ⟨rfl, hb, h9⟩
 have hle : (xs.filter fun x => !p x).length ≤ xs.length := List.length_filter_le _ _
 rw [show flS ((xs.filter fun x => !p x) ++ List.replicate (xs.length - (xs.filter fun x => !p x).length) ⟨#[]⟩) = flS (xs.filter fun x => !p x) ++ flS (List.replicate (xs.length - (xs.filter fun x => !p x).length) ⟨#[]⟩) by simp [flS], List.append_assoc] at h9
 refine ⟨_, rfl, rowS_close hB (by omega) hm h9 ?_, hb⟩
 rw [List.length_append, flS_len] at hl
 simp only [List.length_append, flS_len, List.length_replicate]
 omega
theorem cbDel (w4 w5 : World) (Ba Bf Bt : Nat) (A0 : Option Addr) (c0 : Nat) (l0 : List S30) (a b : Int) (ba : w4.heap[Ba]? = some (.cells #[.slice A0 l0.length c0] 25 (0, 0))) (bf : w4.heap[Bf]? = some (.cells #[.int .i64 a] 3 (0, 0))) (bt : w4.heap[Bt]? = some (.cells #[.int .i64 b] 3 (0, 0)))
  (hC : Kd.C k30 w4 A0 l0.length l0) (hreach : l0.length * 40 ≤ 140737488351232) (hb5 : Below w4.heap.size w4 w5) (v0 : Value) (ns : List ByteArray) (hns : ns.length * 16 ≤ 140737488351232) (hR : Kd.R Kd.string 9 w5 w4.heap.size (fun _ => True) v0 ns) :
  Calls Try.prog 60 #[v0, .func (.func 61) #[] #[.pointer (some ⟨Ba, 0, none⟩), .pointer (some ⟨Bf, 0, none⟩), .pointer (some ⟨Bt, 0, none⟩)]] w5 fun e w6 => ∃ v6 : Value, e = .returned v6 ∧ Kd.R Kd.string 9 w6 w4.heap.size (fun _ => True) v6 (ns.filter fun x => !cbB l0 a b x) ∧ Below w4.heap.size w5 w6 := by
 refine delSAny w4.heap.size 61 #[.pointer (some ⟨Ba, 0, none⟩), .pointer (some ⟨Bf, 0, none⟩), .pointer (some ⟨Bt, 0, none⟩)] (cbB l0 a b) (enters_of Try.func61 (by kernel_rfl) rfl) v0 ns w5 hR hns (fun W x hW => ?_)
 have hW4 := hb5.trans hW
 have h1 := cbClo W Ba Bf Bt A0 c0 l0 a b (blk_below ba hW4) (blk_below bf hW4) (blk_below bt hW4) (Kd.C_below hC hW4) hreach x
 have e : (#[Value.string x] ++ #[Value.pointer (some ⟨Ba, 0, none⟩), .pointer (some ⟨Bf, 0, none⟩), .pointer (some ⟨Bt, 0, none⟩)] : Array Value) = #[Value.string x, .pointer (some ⟨Ba, 0, none⟩), .pointer (some ⟨Bf, 0, none⟩), .pointer (some ⟨Bt, 0, none⟩)] := by simp
 rw [e]
 exact h1
def impl_ChangedBetween.f (k : Nat) (l0 : List S30) (a1 a2 : Int) : Option (List ByteArray × Bool) :=
 (impl_IsValidArchive.f k l0).bind fun t => if t = true then (if 0 ≤ a1 ∧ a1 ≤ a2 ∧ a2 ≤ 240 then ((impl_namesOf.f k l0).bind fun ns => if l0.length < 3518437208781 ∧ ns.length < 8796093021952 then some (ns.filter fun n => !cbB l0 a1 a2 n, true) else none) else some ([], false)) else some ([], false)
set_option maxHeartbeats 4000000 in
set_option maxRecDepth 1000000 in
theorem cb_calls (k : Nat) (A0 : Option Addr) (c0 : Nat) (l0 : List S30) (a1 a2 : Int) (r1 : List ByteArray) (r2 : Bool) (w : World) (hr0 : Kd.C k30 w A0 l0.length l0) (hc0 : l0.length ≤ c0) (h : impl_ChangedBetween.f k l0 a1 a2 = some (r1, r2)) :
  Calls Try.prog 34 #[.slice A0 l0.length c0, .int .i64 a1, .int .i64 a2] w fun e w' => ∃ v0_ : Value, e = .returned (.tuple #[v0_, .bool r2]) ∧ Kd.R Kd.string 9 w' w.heap.size (fun _ => True) v0_ r1 ∧ Below w.heap.size w w' := by
 unfold impl_ChangedBetween.f at h
 obtain ⟨t, hv, h⟩ := Option.bind_eq_some_iff.mp h
 have hB2 : Below w.heap.size w (((w.alloc (.cells #[.slice A0 l0.length c0] 25 (0, 0))).alloc (.cells #[.int .i64 a1] 3 (0, 0))).alloc (.cells #[.int .i64 a2] 3 (0, 0))) := by exact (((Below.refl _ w).alloc (Nat.le_refl _) _).alloc (by simp) _).alloc (by simp; omega) _
 have ba : (((w.alloc (.cells #[.slice A0 l0.length c0] 25 (0, 0))).alloc (.cells #[.int .i64 a1] 3 (0, 0))).alloc (.cells #[.int .i64 a2] 3 (0, 0))).heap[w.heap.size]? = some (.cells #[.slice A0 l0.length c0] 25 (0, 0)) := by exact blk_alloc (blk_alloc (blk_new w _) _) _
 have bf : (((w.alloc (.cells #[.slice A0 l0.length c0] 25 (0, 0))).alloc (.cells #[.int .i64 a1] 3 (0, 0))).alloc (.cells #[.int .i64 a2] 3 (0, 0))).heap[w.heap.size + 1]? = some (.cells #[.int .i64 a1] 3 (0, 0)) := by
  have h := blk_new (w.alloc (.cells #[.slice A0 l0.length c0] 25 (0, 0))) (.cells #[.int .i64 a1] 3 (0, 0))
  rw [World.size_alloc] at h
  exact blk_alloc h _
 have bt : (((w.alloc (.cells #[.slice A0 l0.length c0] 25 (0, 0))).alloc (.cells #[.int .i64 a1] 3 (0, 0))).alloc (.cells #[.int .i64 a2] 3 (0, 0))).heap[w.heap.size + 1 + 1]? = some (.cells #[.int .i64 a2] 3 (0, 0)) := by
  have h := blk_new ((w.alloc (.cells #[.slice A0 l0.length c0] 25 (0, 0))).alloc (.cells #[.int .i64 a1] 3 (0, 0))) (.cells #[.int .i64 a2] 3 (0, 0))
  rwa [World.size_alloc, World.size_alloc] at h
 have hval := impl_IsValidArchive.calls k A0 c0 l0 t _ (Kd.C_below hr0 hB2) hc0 hv
 have ya := blk_cell ba 0
 cases t with
 | false =>
  obtain ⟨rfl, rfl⟩ := Prod.mk.inj (Option.some.inj h)
  go_enter Try.func34, Try.ntmps34
  go_wp2_with (go_at_call 14; refine hval.mono ?_; rintro e w3 ⟨rfl, hb3⟩)
  go_ret2
  exact ⟨_, rfl, Kd.R_nil _ _ _ _ _, below_step hB2 hb3⟩
 | true =>
  rw [if_pos rfl] at h
  by_cases hc : 0 ≤ a1 ∧ a1 ≤ a2 ∧ a2 ≤ 240
  rotate_left
  ·
   rw [if_neg hc] at h
   obtain ⟨rfl, rfl⟩ := Prod.mk.inj (Option.some.inj h)
   go_enter Try.func34, Try.ntmps34
   go_wp2_with (go_at_call 14; refine hval.mono ?_; rintro e w3 ⟨rfl, hb3⟩; have ba3 := blk_below ba hb3; have bf3 := blk_below bf hb3; have bt3 := blk_below bt hb3; have z3 := blk_cell bf3 0; have y3 := blk_cell bt3 0)
   all_goals first
    | exact absurd ‹_› (by omega)
    | (go_ret2; exact ⟨_, rfl, Kd.R_nil _ _ _ _ _, below_step hB2 hb3⟩)
    | skip
  rw [if_pos hc] at h
  obtain ⟨ns, hn, h⟩ := Option.bind_eq_some_iff.mp h
  by_cases hs : l0.length < 3518437208781 ∧ ns.length < 8796093021952
  rotate_left
  ·
   rw [if_neg hs] at h; cases h
  rw [if_pos hs] at h
  obtain ⟨rfl, rfl⟩ := Prod.mk.inj (Option.some.inj h)
  clear h
  go_enter Try.func34, Try.ntmps34
  go_wp2_with (go_at_call 14; refine hval.mono ?_; rintro e w3 ⟨rfl, hb3⟩; have ba3 := blk_below ba hb3; have bf3 := blk_below bf hb3; have bt3 := blk_below bt hb3; have z3 := blk_cell bf3 0; have y3 := blk_cell bt3 0; have x3 := blk_cell ba3 0)
  have hB3 := below_step hB2 hb3
  refine (impl_namesOf.calls k A0 c0 l0 ns _ (Kd.C_below hr0 hB3) hc0 hn).mono ?_
  rintro e w5 ⟨v0, rfl, hR, hb5⟩
  have hdel := cbDel w3 w5 w.heap.size (w.heap.size + 1) (w.heap.size + 1 + 1) A0 c0 l0 a1 a2 ba3 bf3 bt3 (Kd.C_below hr0 hB3) (by omega) hb5 v0 ns (by omega) hR
  clear hval
  go_wp2_with (go_at_call 60; refine hdel.mono ?_; rintro e w6 ⟨v6, rfl, hR6, hb6⟩)
  go_ret2
  exact ⟨_, rfl, Kd.R_lower hR6 hB3.size, below_step hB3 (hb5.trans hb6)⟩
set_option maxHeartbeats 8000000 in
set_option maxRecDepth 100000 in
theorem impl_ChangedBetween.calls (k : Nat) (A0 : Option Addr) (c0 : Nat) (l0 : List (S30)) (a1 : Int) (a2 : Int) (r1 : List ByteArray) (r2 : Bool) (w : World) (hr0 : Kd.C k30 w A0 l0.length l0) (hc0 : l0.length ≤ c0) (h : impl_ChangedBetween.f k l0 a1 a2 = some (r1, r2)) :
  Calls Try.prog 34 #[.slice A0 l0.length c0, .int .i64 a1, .int .i64 a2] w fun e w' => ∃ v0_ : Value, e = .returned (.tuple #[v0_, .bool r2]) ∧ Kd.R Kd.string 9 w' w.heap.size (fun _ => True) v0_ r1 ∧ Below w.heap.size w w' := by
 exact cb_calls k A0 c0 l0 a1 a2 r1 r2 w hr0 hc0 h

end Go.Proofs.Ytgmmanppmjlclaa.P
