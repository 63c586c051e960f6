-- Made by pp.py of this session out of the kit's print and of contracts proved by hand; Lean checks it.
import Derived.Test.YtdhdifoenladpaaPx0
import Derived.Test.YtdhdifoenladpaaPx2
import Derived.Test.YtdhdifoenladpaaPx4
namespace Go.Proofs.Ytdhdifoenladpaa.P
open Go.RowKit Go.Proofs.YtdhdifoenladpaaW.PrintWords Go.Proofs.YtdhdifoenladpaaW.PrintLast Go.Proofs.YtdhdifoenladpaaW.PrintMore
attribute [local go_sem] max2_int min2_int max_two min_two max_three min_three max_four min_four   -- for this text's walks alone
set_option linter.unusedVariables false
set_option linter.unusedSimpArgs false

-- ALONE
/-! ### impl_RecordDays: function 22 -/
/-- Is a day a record: a value, and none of the days before has as great a one. -/
def recordB (l : List Int) (i : Nat) : Bool := l.getD i 0 != -9999 && !((l.take i).any fun m => m != -9999 && decide (l.getD i 0 ≤ m))
def recs (l : List Int) (k : Nat) : List Int := ((List.range k).filter (recordB l)).map fun (i : Nat) => (i : Int)
theorem recs_succ (l : List Int) (k : Nat) : recs l (k + 1) = if recordB l k = true then recs l k ++ [(k : Int)] else recs l k := by
  unfold recs
  rw [List.range_succ, List.filter_append, List.map_append]
  by_cases h : recordB l k = true
  · simp [h]
  · simp [h]
theorem recs_len (l : List Int) (k : Nat) : (recs l k).length ≤ k := by
  unfold recs
  have := List.length_filter_le (recordB l) (List.range k)
  simpa using this
set_option maxHeartbeats 2000000 in
theorem record_pred (xs : List Int) (x : Int) (B : Nat) (w : World) (hc : w.cell? ⟨B, 0, none⟩ = some (.int .i64 x)) :
    PredInt 55 #[.pointer (some ⟨B, 0, none⟩)] (fun m => m != -9999 && decide (x ≤ m)) xs w := by
  rintro W m _ ⟨q, rfl⟩
  show Calls Try.prog 55 #[.int .i64 m, .pointer (some ⟨B, 0, none⟩)] (w.drewN q) fun e w' => e = .returned (.bool (m != -9999 && decide (x ≤ m))) ∧ Drawn0 (w.drewN q) w'
  by_cases h1 : m = -9999
  · have hb : (m == -9999) = true := beq_iff_eq.mpr h1
    have hb2 : (m != -9999) = false := bne_eq_false_iff_eq.mpr h1
    clear h1
    simp only [hb2, Bool.false_and]
    go_enter Try.func55, Try.ntmps55
    go_wp2
    go_ret
    exact ⟨by first | rfl | simp, by repeat (first | exact Drawn0.refl _ | apply Drawn0.step)⟩
  · have hb : (m == -9999) = false := beq_eq_false_iff_ne.mpr h1
    have hb2 : (m != -9999) = true := bne_iff_ne.mpr h1
    clear h1
    simp only [hb2, Bool.true_and]
    go_enter Try.func55, Try.ntmps55
    go_wp2
    go_ret
    exact ⟨by first | rfl | simp, by repeat (first | exact Drawn0.refl _ | apply Drawn0.step)⟩
def impl_RecordDays.f (l0 : List Int) : Option (List Int × Bool) := if seriesB l0 = true then some (recs l0 l0.length, true) else some ([], false)
set_option maxHeartbeats 8000000 in
set_option maxRecDepth 100000 in
theorem impl_RecordDays.calls (A0 : Option Addr) (c0 : Nat) (l0 : List Int) (r1 : List Int) (r2 : Bool) (w : World) (hr0 : Kd.C (Kd.int .i64) w A0 l0.length l0) (hc0 : l0.length ≤ c0) (h : impl_RecordDays.f l0 = some (r1, r2)) :
    Calls Try.prog 22 #[.slice A0 l0.length c0] w fun e w' => ∃ v0_ : Value, e = .returned (.tuple #[v0_, .bool r2]) ∧ Kd.R (Kd.int .i64) 3 w' w.heap.size (fun _ => True) v0_ r1 ∧ Below w.heap.size w w' := by
  have HR0 := Aside0.mk hr0
  have HC0 := Aside0.mk hc0
  have HB := Aside0.mk (Below.refl w.heap.size w)
  have hmx := Kd.C_max hr0
  have hv := impl_IsValidSeries.calls A0 c0 l0 (seriesB l0) w hr0 hc0 rfl
  clear hr0 hc0
  unfold impl_RecordDays.f at h
  by_cases hs : seriesB l0 = true
  · rw [if_pos hs] at h
    obtain ⟨rfl, rfl⟩ := Prod.mk.inj (Option.some.inj h)
    clear h
    rw [hs] at hv
    have h60 : l0.length ≤ 60 := by
      unfold seriesB at hs
      simp only [Bool.and_eq_true, decide_eq_true_eq] at hs
      omega
    clear hs
    go_enter Try.func22, Try.ntmps22
    go_wp2_with (go_at_call 17; refine hv.mono ?_; rintro e w' ⟨rfl, ⟨q', rfl⟩⟩)
    go_loopg [4, 12] l0.length (fun gg v4 s12 wr => ∃ kk : Nat, kk ≤ l0.length ∧ l0.length - kk ≤ gg ∧ s12 = .int .i64 kk ∧ Aside0 (Kd.R (Kd.int .i64) 3 wr w.heap.size (fun _ => True) v4 (recs l0 kk)) ∧ Aside0 (Below w.heap.size w wr))
    case atStart => exact ⟨0, by omega, by omega, rfl, ⟨Kd.R_nil _ _ _ _ _⟩, ⟨by repeat (first | (with_reducible first | exact HB.out | apply below_alloc | apply pw_below_drewN | apply below_drew1) | exact HB.out)⟩⟩
    case round =>
      clear HB
      obtain ⟨kk, hkk, hg, rfl, HO, HB⟩ := hrel
      by_cases hlt : kk < l0.length
      · have hltz : (kk : Int) < (l0.length : Int) := by omega
        have h0 : (0 : Int) ≤ (kk : Int) := by omega
        obtain ⟨ad, e1, hcell⟩ := Kd.at_int HR0.out (kk : Int) h0 hltz
        cases e1
        rw [Int.toNat_natCast] at hcell
        replace hcell := (HB.out.cell (World.block_lt_of_cell? w _ hcell)).trans hcell
        have E := Aside0.mk (recs_succ l0 kk)
        have hrd : rd l0 (kk : Int) = l0.getD kk 0 := by simp [rd]
        rw [hrd] at hcell
        clear hrd
        generalize hx : l0.getD kk 0 = x at hcell
        have X := Aside0.mk hx
        clear hx
        by_cases h1 : x = -9999
        · have hb : (x == -9999) = true := beq_iff_eq.mpr h1
          have hb2 : (x != -9999) = false := bne_eq_false_iff_eq.mpr h1
          have ER := Aside0.mk (show recs l0 (kk + 1) = recs l0 kk by rw [E.out, if_neg (by unfold recordB; rw [X.out, h1]; simp)])
          clear E h1
          go_wp2
          go_roundg (l0.length - (kk + 1))
          case measure => omega
          case rel => exact ⟨kk + 1, by omega, by omega, by go_num, ⟨by rw [ER.out]; (with_reducible repeat (first | apply Kd.R_alloc | apply Kd.R_drewN | apply Kd.R_drew)); exact HO.out⟩, ⟨(by repeat (first | (with_reducible first | exact HB.out | apply below_alloc | apply pw_below_drewN | apply below_drew1) | exact HB.out))⟩⟩
        · have hb : (x == -9999) = false := beq_eq_false_iff_ne.mpr h1
          have hb2 : (x != -9999) = true := bne_iff_ne.mpr h1
          clear h1
          have hlen : (l0.take kk).length = kk := by simp; omega
          have HRt := Aside0.mk (show Kd.C (Kd.int .i64) wr (some ad) kk (l0.take kk) by have := Kd.C_take (Kd.C_below HR0.out HB.out) (show kk ≤ l0.length by omega); rwa [hlen] at this)
          have hcon : ∀ W : World, W.cell? ⟨wr.heap.size, 0, none⟩ = some (.int .i64 x) → Kd.C (Kd.int .i64) W (some ad) kk (l0.take kk) → Calls Try.prog 50 #[.slice (some ad) kk c0, .func (.func 55) #[] #[.pointer (some ⟨wr.heap.size, 0, none⟩)]] W fun e w' => e = .returned (.bool ((l0.take kk).any fun m => m != -9999 && decide (x ≤ m))) ∧ Drawn0 W w' := by
            intro W hc hC
            have := lib_ContainsFunc_int 55 #[.pointer (some ⟨wr.heap.size, 0, none⟩)] (fun m => m != -9999 && decide (x ≤ m)) (some ad) c0 (l0.take kk) W (enters_of Try.func55 (by kernel_rfl) rfl) (by rw [hlen]; exact hC) (record_pred _ x wr.heap.size W hc)
            rwa [hlen] at this
          have HC := Aside0.mk hcon
          clear hcon hlen
          have hcc : (kk : Int) ≤ (c0 : Int) := by have := HC0.out; omega
          cases hany : ((l0.take kk).any fun m => m != -9999 && decide (x ≤ m)) with
          | true =>
            have HA := HC.out
            rw [hany] at HA
            have ER := Aside0.mk (show recs l0 (kk + 1) = recs l0 kk by rw [E.out, if_neg (by unfold recordB; rw [X.out, hany]; simp)])
            clear E hany HC
            go_wp2_with (go_at_call 50; refine (HA _ (by simp) (by (with_reducible repeat (first | apply Kd.C_alloc)); exact HRt.out)).mono ?_; rintro e w' ⟨rfl, ⟨q', rfl⟩⟩)
            go_roundg (l0.length - (kk + 1))
            case measure => omega
            case rel => exact ⟨kk + 1, by omega, by omega, by go_num, ⟨by rw [ER.out]; (with_reducible repeat (first | apply Kd.R_alloc | apply Kd.R_drewN | apply Kd.R_drew)); exact HO.out⟩, ⟨(by repeat (first | (with_reducible first | exact HB.out | apply below_alloc | apply pw_below_drewN | apply below_drew1) | exact HB.out))⟩⟩
          | false =>
            have HA := HC.out
            rw [hany] at HA
            have ER := Aside0.mk (show recs l0 (kk + 1) = recs l0 kk ++ [(kk : Int)] by rw [E.out, if_pos (by unfold recordB; rw [X.out, hany, hb2]; rfl)])
            have LM := Aside0.mk (recs_len l0 kk)
            clear E hany HC
            go_wp2_with (first | (go_at_call 50; refine (HA _ (by simp) (by (with_reducible repeat (first | apply Kd.C_alloc)); exact HRt.out)).mono ?_; rintro e w9 ⟨rfl, ⟨q', hq⟩⟩; have n0_ : Aside0 (Below w.heap.size w w9) := ⟨by rw [hq]; repeat (first | (with_reducible first | exact HB.out | apply below_alloc | apply pw_below_drewN | apply below_drew1) | exact HB.out)⟩; have n1_ : Aside0 (Kd.R (Kd.int .i64) 3 w9 w.heap.size (fun _ => True) u4 (recs l0 kk)) := ⟨by rw [hq]; (with_reducible repeat (first | apply Kd.R_alloc | apply Kd.R_drewN | apply Kd.R_drew)); exact HO.out⟩; clear hq HB HO; have HB := n0_; have HO := n1_; clear n0_ n1_) | ((with_reducible refine gate_builtin (b := .append) (xs := #[.tmp 27, .tmp 29]) rfl ?_); at_builtin; refine Kd.R_append (Kd.int .i64) (w0 := w) w.heap.size rfl (.tmp 27) (.tmp 29) 22 3 (.int .i64 0) 8 rfl Try.underlying22 info3 rfl (by decide) (by omega) u4 (recs l0 kk) (kk : Int) [.int .i64 (kk : Int)] (fun _ => True) (fun _ => False) rfl rfl ?aP (fun _ hk => hk.elim) ?aF ?aO ?aB ?aS ?aL ?_; (case aP => exact rfl); (case aB => exact (by repeat (first | (with_reducible first | exact HB.out | apply below_alloc | apply pw_below_drewN | apply below_drew1) | exact HB.out))); (case aF => exact (fun _ _ => trivial)); (case aO => exact (by (with_reducible repeat (first | apply Kd.R_alloc | apply Kd.R_drewN | apply Kd.R_drew)); exact HO.out)); (case aS => exact (below_size (by repeat (first | (with_reducible first | exact HB.out | apply below_alloc | apply pw_below_drewN | apply below_drew1) | exact HB.out)))); (case aL => have := LM.out; omega); intro v163 w10 ho hb hg hat; rw [← ER.out] at ho; have n0_ := Aside0.mk hb; have n1_ := Aside0.mk ho; clear HB; clear HO; have HB := n0_; have HO := n1_; clear n0_ n1_; clear ho hb hg hat))
            go_roundg (l0.length - (kk + 1))
            case measure => omega
            case rel => exact ⟨kk + 1, by omega, by omega, by go_num, ⟨by (with_reducible repeat (first | apply Kd.R_alloc | apply Kd.R_drewN | apply Kd.R_drew)); exact HO.out⟩, ⟨(by repeat (first | (with_reducible first | exact HB.out | apply below_alloc | apply pw_below_drewN | apply below_drew1) | exact HB.out))⟩⟩
      · have hltd : decide (kk < l0.length) = false := decide_eq_false hlt
        have E := Aside0.mk (show kk = l0.length by omega)
        go_wp2
        go_ret2
        exact ⟨_, rfl, by rw [← E.out]; exact HO.out, HB.out⟩
  · rw [if_neg hs] at h
    obtain ⟨rfl, rfl⟩ := Prod.mk.inj (Option.some.inj h)
    clear h
    rw [Bool.eq_false_iff.mpr hs] at hv
    clear hs
    go_enter Try.func22, Try.ntmps22
    go_wp2_with (go_at_call 17; refine hv.mono ?_; rintro e w' ⟨rfl, ⟨q', rfl⟩⟩)
    go_ret2
    exact ⟨_, rfl, Kd.R_nil _ _ _ _ _, by repeat (first | (with_reducible first | exact HB.out | apply below_alloc | apply pw_below_drewN | apply below_drew1) | exact HB.out)⟩

end Go.Proofs.Ytdhdifoenladpaa.P
