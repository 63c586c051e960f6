-- Made by pp.py of this session out of the kit's print and of contracts proved by hand; Lean checks it.
import Derived.Test.YtgmmanppmjlclaaGreatDoorMc
import Derived.Lib.ItoaLen
import Derived.Shelf.Strings.BuilderX
import Derived.Shelf.RegionOpenPlain
import Derived.Lib.Strings
import Derived.Lib.Slices
import Derived.Lib.Walk
import Derived.Lib.Builder
import Derived.Lib.AppendStr
import Derived.Lib.UnsafeStr
import Derived.Lib.MakeNoZero
import Derived.WalkKit
import Derived.Laws.Externs
import Derived.Laws.IdiomCopy
import Derived.Laws.BitsLemmas
import Derived.Shelf.Abstract
import Derived.Shelf.RegionOpen
import Derived.OwnWalkIn
import Derived.Deep.RegionWith
import Derived.Test.YtgmmanppmjlclaaGreatDoorShelf
import Derived.Test.YtgmmanppmjlclaaGreatDoorPx0
import Derived.Test.YtgmmanppmjlclaaGreatDoorPx26
namespace Go.Proofs.YtgmmanppmjlclaaGreatDoor.P
open Go.RowKit Go.Proofs.YtgmmanppmjlclaaGreatDoorW.PrintWords Go.Proofs.YtgmmanppmjlclaaGreatDoorW.PrintLast Go.Proofs.YtgmmanppmjlclaaGreatDoorW.PrintMore
attribute [local go_sem] max2_int min2_int max_two min_two max_three min_three max_four min_four   -- for this text's walks alone
set_option linter.unusedVariables false
set_option linter.unusedSimpArgs false

-- ALONE
/-! ### impl_archiveText: function 35 -/
section
open Go.Shelf
theorem sizeB : (Tryz.prog.info? 90).map (·.size) = some 2 := by kernel_rfl
theorem liesB : liesAt Tryz.prog Tryz.prog.depth 90 (2 / Tryz.prog.cellsOf 90) 0 90 1 = true := by kernel_rfl
theorem infoByte : (Tryz.prog.info? 5).map (fun i => (i.zero, i.size, i.bytes)) = some (some (.int .u8 0), 1, 1) := by kernel_rfl
set_option maxHeartbeats 1000000 in
set_option maxRecDepth 100000 in
theorem cc_used (b : Nat) (w : World) (h0 : w.cell? ⟨b, 0, none⟩ = some (.pointer (some ⟨b, 0, none⟩))) :
    Calls Tryz.prog 76 #[.pointer (some ⟨b, 0, none⟩)] w fun e w' => e = .returned (.tuple #[]) ∧ w' = w := by
  obtain ⟨j, hj, _⟩ := Option.map_eq_some_iff.1 sizeB
  go_enter Tryz.func76, Tryz.ntmps76
  go_wp2
  rw [Lib.run_neq_ptr_same w _ Tryz.underlying88 hj]
  go_wp2
  go_end0
  exact ⟨rfl, rfl⟩

set_option maxHeartbeats 1000000 in
set_option maxRecDepth 100000 in
theorem cc_fresh (b : Nat) (w : World) (h0 : w.cell? ⟨b, 0, none⟩ = some (.pointer none)) (hsh : w.shape? b = some (90, 2)) (hfz : w.frozen? ⟨b, 0, none⟩ = false) :
    Calls Tryz.prog 76 #[.pointer (some ⟨b, 0, none⟩)] w fun e w' => e = .returned (.tuple #[]) ∧ w' = w.setCell ⟨b, 0, none⟩ (.pointer (some ⟨b, 0, none⟩)) := by
  obtain ⟨j, hj, hjs⟩ := Option.map_eq_some_iff.1 sizeB
  go_enter Tryz.func76, Tryz.ntmps76
  go_wp2
  rw [Lib.run_to_unsafe w ⟨b, 0, none⟩ Tryz.underlying88 Tryz.underlying100 hj (by rw [hjs]; decide) hsh (Nat.zero_lt_succ 1)]
  simp only [Result.andThen]
  rw [Oper.upon_value]
  go_wp2
  rw [run_callFunc_extern Tryz.func86 kr_ kr_ kr_ (e := Extern.AbiNoEscape.same) kr_]
  rw [Lib.run_noEscape]
  simp only [Result.andThen]
  rw [Oper.upon_value]
  go_wp2
  rw [Lib.run_from_unsafe w ⟨b, 0, none⟩ Tryz.underlying100 Tryz.underlying88 hj hsh liesB]
  simp only [Result.andThen]
  rw [Oper.upon_value]
  go_wp2
  go_end0
  exact ⟨rfl, rfl⟩

theorem bld_copyCheck (B b : Nat) (bs : List Value) (w : World) (h : Lib.IsBuilder 90 5 B b bs w) :
    Calls Tryz.prog 76 #[.pointer (some ⟨b, 0, none⟩)] w fun e w' => e = .returned (.tuple #[]) ∧ (Lib.BuilderAt 90 5 B b (.pointer (some ⟨b, 0, none⟩)) bs w' ∧ Below B w w') := by
  rcases h with h | h
  · refine (cc_fresh b w h.cell0 h.shape h.frozen0).mono ?_
    rintro e w' ⟨rfl, rfl⟩
    exact ⟨rfl, h.used _, (Below.refl B w).setCell (p := ⟨b, 0, none⟩) h.1 _⟩
  · refine (cc_used b w h.cell0).mono ?_
    rintro e w' ⟨rfl, rfl⟩
    exact ⟨rfl, h, Below.refl B _⟩
set_option maxHeartbeats 2000000 in
set_option maxRecDepth 100000 in
theorem bld_WriteString (B b : Nat) (bs : List Value) (s : ByteArray) (w : World) (h : Lib.IsBuilder 90 5 B b bs w) (hlen : bs.length + s.size ≤ 140737488355328) (hBw : B ≤ w.heap.size) :
    Calls Tryz.prog 60 #[.pointer (some ⟨b, 0, none⟩), .string s] w fun e w' => e = .returned (.tuple #[.int .i64 s.size, .nilIface]) ∧ (Lib.BuilderAt 90 5 B b (.pointer (some ⟨b, 0, none⟩)) (bs ++ Lib.strCells s) w' ∧ Below B w w') := by
  obtain ⟨i0, hi, hz0, hz1, hz2⟩ := info_parts infoByte
  go_enter Tryz.func60, Tryz.ntmps60
  go_wp2_with (go_at_call 76; refine (bld_copyCheck B b bs _ h).mono ?_)
  rintro e w1 ⟨rfl, h1, hb1⟩
  obtain ⟨hB, v, hbk, hown, hne⟩ := h1
  have c0 : w1.cell? ⟨b, 0, none⟩ = some (.pointer (some ⟨b, 0, none⟩)) := by rw [Lib.cell_of_heap hbk]; rfl
  have c1 : w1.cell? ⟨b, 1, none⟩ = some v := by rw [Lib.cell_of_heap hbk]; rfl
  go_wp2_with (at_builtin; refine Lib.wpList_append_own_string _ rfl _ _ 22 9 rfl B 5 i0 Tryz.underlying22 Tryz.underlying9 hi hz0 hz1 hz2 _ _ _ rfl hown s rfl ?c3 ?c4 ?c5 ?_)
  case c3 => unfold maxLen; omega
  case c4 => omega
  case c5 => have := hb1.size; omega
  intro v' w2 hown' hgrow _
  have hlt : b < w1.heap.size := by
    rcases Nat.lt_or_ge b w1.heap.size with h' | h'
    · exact h'
    · simp [Array.getElem?_eq_none h'] at hbk
  have hb2 : w2.heap[b]? = some (.cells #[.pointer (some ⟨b, 0, none⟩), v] 90 (0, 0)) := by
    rw [hgrow.block b hlt (fun e => hne e.symm)]
    exact hbk
  have d0 : w2.cell? ⟨b, 0, none⟩ = some (.pointer (some ⟨b, 0, none⟩)) := by rw [Lib.cell_of_heap hb2]; rfl
  have d1 : w2.cell? ⟨b, 1, none⟩ = some v := by rw [Lib.cell_of_heap hb2]; rfl
  have f1 : w2.frozen? ⟨b, 1, none⟩ = false := Lib.frozen_of_heap hb2 1
  obtain ⟨ao, n', cap, rfl⟩ : ∃ ao n' cap, v' = .slice ao n' cap := by
    rcases hown'.2 with ⟨hv, _⟩ | ⟨g, cap, cur, hv, _⟩
    · exact ⟨_, _, _, hv⟩
    · exact ⟨_, _, _, hv⟩
  go_wp2
  go_ret2
  refine ⟨rfl, ?_, ?_⟩
  · exact Lib.BuilderAt.put (T := 90) (e := 5) hB hb2 (bs' := bs ++ Lib.strCells s) (by simpa [Lib.strCells_length] using hown') (by decide)
  · exact (hb1.grown hgrow (by have := hb1.size; omega) (fun k hk => (hown.lt k hk).1)).setCell (p := ⟨b, 1, none⟩) hB _

theorem ownsRow_low {w w' : World} {B : Nat} {e : TypeId} {v : Value} {n : Nat} {xs : List Value} (h : w.ownsRow B e 1 v n xs) (hb : Below w.heap.size w w') : w'.ownsRow B e 1 v n xs := by
  refine ⟨h.1, ?_⟩
  rcases h.2 with h1 | ⟨g, cap, cur, hv, hg, hc, h3⟩
  · exact .inl h1
  · have hlt : g < w.heap.size := by
      rcases Nat.lt_or_ge g w.heap.size with h' | h'
      · exact h'
      · simp [Array.getElem?_eq_none h'] at hc
    exact .inr ⟨g, cap, cur, hv, hg, by rw [hb.block _ hlt]; exact hc, h3⟩
theorem builderAt_low {w w' : World} {T e : TypeId} {B b : Nat} {p : Value} {bs : List Value} (h : Lib.BuilderAt T e B b p bs w) (hb : Below w.heap.size w w') : Lib.BuilderAt T e B b p bs w' := by
  have hlt := h.lt
  obtain ⟨h1, v, h2, h3, h4⟩ := h
  exact ⟨h1, v, by rw [hb.block _ hlt]; exact h2, ownsRow_low h3 hb, h4⟩
theorem isBuilder_low {w w' : World} {T e : TypeId} {B b : Nat} {bs : List Value} (h : Lib.IsBuilder T e B b bs w) (hb : Below w.heap.size w w') : Lib.IsBuilder T e B b bs w' := h.imp (fun h => builderAt_low h hb) (fun h => builderAt_low h hb)
/-- A product's line. -/
def archLine (z : S26) : ByteArray := ((((z.f0 ++ (⟨#[32]⟩ : ByteArray)) ++ (⟨(Lib.itoa z.f1).toArray⟩ : ByteArray)) ++ (⟨#[32]⟩ : ByteArray)) ++ z.f2) ++ (⟨#[10]⟩ : ByteArray)
/-- The first lines of an archive. -/
def archUp (l : List S26) : Nat → ByteArray
  | 0 => ⟨#[]⟩
  | k + 1 => archUp l k ++ archLine (rd_T26 l (k : Nat))
def archZ (z : S26) : Bool := decide (z.f0.size ≤ 1000) && decide (z.f2.size ≤ 1000) && decide (-9223372036854775808 ≤ z.f1) && decide (z.f1 ≤ 9223372036854775807)
def impl_archiveText.f (l0 : List S26) : Option ByteArray := if (decide (l0.length ≤ 1000) && l0.all archZ) = true then some (archUp l0 l0.length) else none
theorem strCells_app (a b : ByteArray) : Lib.strCells (a ++ b) = Lib.strCells a ++ Lib.strCells b := by
  rw [Lib.strCells_eq, Lib.strCells_eq, Lib.strCells_eq, ← Lib.byteCells_append]; congr 1
theorem archLine_size {z : S26} (h : archZ z = true) : (archLine z).size ≤ 2024 := by
  simp only [archZ, Bool.and_eq_true, decide_eq_true_eq] at h
  have hn := Lib.itoa_length_le z.f1 h.1.2 h.2
  have e1 : (⟨(Lib.itoa z.f1).toArray⟩ : ByteArray).size = (Lib.itoa z.f1).length := by simp [ByteArray.size]
  have e2 : (⟨#[32]⟩ : ByteArray).size = 1 := rfl
  have e3 : (⟨#[10]⟩ : ByteArray).size = 1 := rfl
  unfold archLine
  simp only [ByteArray.size_append, e1, e2, e3]
  omega
theorem archUp_size {l : List S26} (h : l.all archZ = true) : ∀ k, k ≤ l.length → (archUp l k).size ≤ 2024 * k
  | 0, _ => by simp only [archUp]; exact Nat.le_refl _
  | k + 1, hk => by
    have ih := archUp_size h k (by omega)
    have hz : archZ (rd_T26 l (k : Nat)) = true := by
      have e : rd_T26 l (k : Nat) = l[k]'(by omega) := by simp [rd_T26, List.getElem?_eq_getElem (show k < l.length by omega)]
      rw [e]
      exact List.all_eq_true.mp h _ (List.getElem_mem _)
    have := archLine_size hz
    simp only [archUp, ByteArray.size_append]
    omega
end
set_option maxHeartbeats 8000000 in
set_option maxRecDepth 100000 in
theorem impl_archiveText.calls (A0 : Option Addr) (c0 : Nat) (l0 : List (S26)) (r : ByteArray) (w : World) (hr0 : Kd.C k26 w A0 l0.length l0) (hc0 : l0.length ≤ c0) (h : impl_archiveText.f l0 = some r) (hG_ : GW w) :
    Calls Tryz.prog 35 #[.slice A0 l0.length c0] w fun e w' => e = .returned (.string r) ∧ Below w.heap.size w w' := by
  unfold impl_archiveText.f at h
  split at h
  case isFalse => cases h
  case isTrue hok =>
  obtain rfl := Option.some.inj h
  simp only [Bool.and_eq_true, decide_eq_true_eq] at hok
  obtain ⟨hlen, hall⟩ := hok
  go_enter Tryz.func35, Tryz.ntmps35
  go_wp2
  go_loopw [8] (fun v8 wr => ∃ k : Nat, k ≤ l0.length ∧ v8 = .int .i64 k ∧ Aside0 (Below w.heap.size w wr) ∧ Aside0 (Lib.IsBuilder 90 5 w.heap.size w.heap.size (Lib.strCells (archUp l0 k)) wr))
    (fun v8 _ => ((l0.length : Int) - intOf v8).toNat)
  case atStart => exact ⟨0, by omega, rfl, ⟨(Below.refl _ w).alloc (Nat.le_refl _) _⟩, ⟨Lib.fresh_isBuilder 90 5 w⟩⟩
  case round =>
    obtain ⟨k, hk, rfl, HB, HI⟩ := hrel
    by_cases hlt : k < l0.length
    · have c0 : decide ((k : Int) < (l0.length : Int)) = true := decide_eq_true (by omega)
      have hz : archZ (rd_T26 l0 (k : Nat)) = true := by
        have e : rd_T26 l0 (k : Nat) = l0[k]'(by omega) := by simp [rd_T26, List.getElem?_eq_getElem (show k < l0.length by omega)]
        rw [e]
        exact List.all_eq_true.mp hall _ (List.getElem_mem _)
      have hsz := archLine_size hz
      have hup := archUp_size hall k hk
      simp only [archZ, Bool.and_eq_true, decide_eq_true_eq] at hz
      obtain ⟨ad, e1, hx0, hx1, hx2⟩ := at_T26 hr0 (k : Int) (by omega) (by omega)
      subst e1
      simp only [Int.toNat_natCast] at hx0 hx1 hx2
      replace hx0 := (HB.out.cell (World.block_lt_of_cell? w _ hx0)).trans hx0
      replace hx1 := (HB.out.cell (World.block_lt_of_cell? w _ hx1)).trans hx1
      replace hx2 := (HB.out.cell (World.block_lt_of_cell? w _ hx2)).trans hx2
      generalize hu : rd_T26 l0 (k : Nat) = u at hx0 hx1 hx2 hsz hz
      have hI : strconv_Itoa.f u.f1 = some ⟨(Lib.itoa u.f1).toArray⟩ := by unfold strconv_Itoa.f; rw [if_pos hz.1.2, if_pos hz.2]
      have hn := Lib.itoa_length_le u.f1 hz.1.2 hz.2
      have e1 : (⟨(Lib.itoa u.f1).toArray⟩ : ByteArray).size = (Lib.itoa u.f1).length := by simp [ByteArray.size]
      have e2 : (⟨#[32]⟩ : ByteArray).size = 1 := rfl
      have e3 : (⟨#[10]⟩ : ByteArray).size = 1 := rfl
      go_wp2
      have hnew : (wr.alloc (.cells #[.string u.f0, .int .i64 u.f1, .string u.f2] 26)).heap[wr.heap.size]? = some (.cells #[.string u.f0, .int .i64 u.f1, .string u.f2] 26) := by show (wr.heap.push _)[wr.heap.size]? = _; exact Array.getElem?_push_size
      have HBx := A_ (HB.out.alloc (by have := HB.out.size; omega) (.cells #[.string u.f0, .int .i64 u.f1, .string u.f2] 26))
      have HIx := A_ (isBuilder_low HI.out ((Below.refl _ wr).alloc (Nat.le_refl _) (.cells #[.string u.f0, .int .i64 u.f1, .string u.f2] 26)))
      have hy0 : (wr.alloc (.cells #[.string u.f0, .int .i64 u.f1, .string u.f2] 26)).cell? ⟨wr.heap.size, 0, none⟩ = some (.string u.f0) := by rw [Lib.cell_of_heap hnew]; rfl
      have hy1 : (wr.alloc (.cells #[.string u.f0, .int .i64 u.f1, .string u.f2] 26)).cell? ⟨wr.heap.size, 1, none⟩ = some (.int .i64 u.f1) := by rw [Lib.cell_of_heap hnew]; rfl
      have hy2 : (wr.alloc (.cells #[.string u.f0, .int .i64 u.f1, .string u.f2] 26)).cell? ⟨wr.heap.size, 2, none⟩ = some (.string u.f2) := by rw [Lib.cell_of_heap hnew]; rfl
      generalize (wr.alloc (.cells #[.string u.f0, .int .i64 u.f1, .string u.f2] 26)) = W1 at hnew HBx HIx hy0 hy1 hy2 ⊢
      clear hnew
      clear HB HI hx0 hx1 hx2
      generalize hN : (⟨(Lib.itoa u.f1).toArray⟩ : ByteArray) = N at hI
      have hg1 := gw_below hG_ (HBx.out.drew)
      have hId := isBuilder_low HIx.out ((Below.refl _ W1).drew)
      have hBs : w.heap.size ≤ W1.drew.heap.size := HBx.out.drew.size
      have hNs : N.size ≤ 21 := by rw [← hN, e1]; exact hn
      have q0 : u.f0.size + (⟨#[32]⟩ : ByteArray).size ≤ 9223372036854775807 := by simp only [ByteArray.size_append, e2, e3]; omega
      have q0b1 : decide (u.f0.size + (⟨#[32]⟩ : ByteArray).size ≤ 9223372036854775807) = true := decide_eq_true q0
      have q0b2 : (9223372036854775807 < u.f0.size + (⟨#[32]⟩ : ByteArray).size) = False := eq_false (Nat.not_lt.2 q0)
      have q0z : decide (u.f0.size + 1 ≤ 9223372036854775807) = true := by have h_ := q0; simp only [ByteArray.size_append, e2, e3] at h_; exact decide_eq_true h_
      have q0y : (9223372036854775807 < u.f0.size + 1) = False := by have h_ := q0; simp only [ByteArray.size_append, e2, e3] at h_; exact eq_false (Nat.not_lt.2 h_)
      replace q0 := eq_true q0
      have q1 : (u.f0 ++ (⟨#[32]⟩ : ByteArray)).size + N.size ≤ 9223372036854775807 := by simp only [ByteArray.size_append, e2, e3]; omega
      have q1b1 : decide ((u.f0 ++ (⟨#[32]⟩ : ByteArray)).size + N.size ≤ 9223372036854775807) = true := decide_eq_true q1
      have q1b2 : (9223372036854775807 < (u.f0 ++ (⟨#[32]⟩ : ByteArray)).size + N.size) = False := eq_false (Nat.not_lt.2 q1)
      have q1z : decide (u.f0.size + 1 + N.size ≤ 9223372036854775807) = true := by have h_ := q1; simp only [ByteArray.size_append, e2, e3] at h_; exact decide_eq_true h_
      have q1y : (9223372036854775807 < u.f0.size + 1 + N.size) = False := by have h_ := q1; simp only [ByteArray.size_append, e2, e3] at h_; exact eq_false (Nat.not_lt.2 h_)
      replace q1 := eq_true q1
      have q2 : ((u.f0 ++ (⟨#[32]⟩ : ByteArray)) ++ N).size + (⟨#[32]⟩ : ByteArray).size ≤ 9223372036854775807 := by simp only [ByteArray.size_append, e2, e3]; omega
      have q2b1 : decide (((u.f0 ++ (⟨#[32]⟩ : ByteArray)) ++ N).size + (⟨#[32]⟩ : ByteArray).size ≤ 9223372036854775807) = true := decide_eq_true q2
      have q2b2 : (9223372036854775807 < ((u.f0 ++ (⟨#[32]⟩ : ByteArray)) ++ N).size + (⟨#[32]⟩ : ByteArray).size) = False := eq_false (Nat.not_lt.2 q2)
      have q2z : decide (u.f0.size + 1 + N.size + 1 ≤ 9223372036854775807) = true := by have h_ := q2; simp only [ByteArray.size_append, e2, e3] at h_; exact decide_eq_true h_
      have q2y : (9223372036854775807 < u.f0.size + 1 + N.size + 1) = False := by have h_ := q2; simp only [ByteArray.size_append, e2, e3] at h_; exact eq_false (Nat.not_lt.2 h_)
      replace q2 := eq_true q2
      have q3 : (((u.f0 ++ (⟨#[32]⟩ : ByteArray)) ++ N) ++ (⟨#[32]⟩ : ByteArray)).size + u.f2.size ≤ 9223372036854775807 := by simp only [ByteArray.size_append, e2, e3]; omega
      have q3b1 : decide ((((u.f0 ++ (⟨#[32]⟩ : ByteArray)) ++ N) ++ (⟨#[32]⟩ : ByteArray)).size + u.f2.size ≤ 9223372036854775807) = true := decide_eq_true q3
      have q3b2 : (9223372036854775807 < (((u.f0 ++ (⟨#[32]⟩ : ByteArray)) ++ N) ++ (⟨#[32]⟩ : ByteArray)).size + u.f2.size) = False := eq_false (Nat.not_lt.2 q3)
      have q3z : decide (u.f0.size + 1 + N.size + 1 + u.f2.size ≤ 9223372036854775807) = true := by have h_ := q3; simp only [ByteArray.size_append, e2, e3] at h_; exact decide_eq_true h_
      have q3y : (9223372036854775807 < u.f0.size + 1 + N.size + 1 + u.f2.size) = False := by have h_ := q3; simp only [ByteArray.size_append, e2, e3] at h_; exact eq_false (Nat.not_lt.2 h_)
      replace q3 := eq_true q3
      have q4 : ((((u.f0 ++ (⟨#[32]⟩ : ByteArray)) ++ N) ++ (⟨#[32]⟩ : ByteArray)) ++ u.f2).size + (⟨#[10]⟩ : ByteArray).size ≤ 9223372036854775807 := by simp only [ByteArray.size_append, e2, e3]; omega
      have q4b1 : decide (((((u.f0 ++ (⟨#[32]⟩ : ByteArray)) ++ N) ++ (⟨#[32]⟩ : ByteArray)) ++ u.f2).size + (⟨#[10]⟩ : ByteArray).size ≤ 9223372036854775807) = true := decide_eq_true q4
      have q4b2 : (9223372036854775807 < ((((u.f0 ++ (⟨#[32]⟩ : ByteArray)) ++ N) ++ (⟨#[32]⟩ : ByteArray)) ++ u.f2).size + (⟨#[10]⟩ : ByteArray).size) = False := eq_false (Nat.not_lt.2 q4)
      have q4z : decide (u.f0.size + 1 + N.size + 1 + u.f2.size + 1 ≤ 9223372036854775807) = true := by have h_ := q4; simp only [ByteArray.size_append, e2, e3] at h_; exact decide_eq_true h_
      have q4y : (9223372036854775807 < u.f0.size + 1 + N.size + 1 + u.f2.size + 1) = False := by have h_ := q4; simp only [ByteArray.size_append, e2, e3] at h_; exact eq_false (Nat.not_lt.2 h_)
      replace q4 := eq_true q4
      have hsum : (Lib.strCells (archUp l0 k)).length + (((((u.f0 ++ (⟨#[32]⟩ : ByteArray)) ++ N) ++ (⟨#[32]⟩ : ByteArray)) ++ u.f2) ++ (⟨#[10]⟩ : ByteArray)).size ≤ 140737488355328 := by
        have hsz' : (((((u.f0 ++ (⟨#[32]⟩ : ByteArray)) ++ N) ++ (⟨#[32]⟩ : ByteArray)) ++ u.f2) ++ (⟨#[10]⟩ : ByteArray)).size ≤ 2024 := by rw [← hN]; exact hsz
        rw [Lib.strCells_length]
        exact Nat.le_trans (Nat.add_le_add hup hsz') (by omega)
      have hup1 : Lib.strCells (archUp l0 (k + 1)) = Lib.strCells (archUp l0 k) ++ Lib.strCells (((((u.f0 ++ (⟨#[32]⟩ : ByteArray)) ++ N) ++ (⟨#[32]⟩ : ByteArray)) ++ u.f2) ++ (⟨#[10]⟩ : ByteArray)) := by rw [archUp, strCells_app, hu, archLine, hN]
      clear hG_
      replace hsum := A_ hsum
      clear hsz
      replace hup := A_ hup
      replace hN := A_ hN
      clear hn e1 hz hNs e2 e3
      replace hBs := A_ hBs
      go_region_with (first | (go_at_call 61; refine (strconv_Itoa.calls u.f1 _ _ hI hg1).mono ?_; rintro e w2 ⟨rfl, hb2⟩; have hz0 := (hb2.cell (World.block_lt_of_cell? W1.drew _ hy0)).trans hy0; have hz2 := (hb2.cell (World.block_lt_of_cell? W1.drew _ hy2)).trans hy2; have hI2 := A_ (isBuilder_low hId hb2); replace hb2 := A_ hb2) | (go_at_call 60; with_reducible refine (bld_WriteString w.heap.size w.heap.size (Lib.strCells (archUp l0 k)) (((((u.f0 ++ (⟨#[32]⟩ : ByteArray)) ++ N) ++ (⟨#[32]⟩ : ByteArray)) ++ u.f2) ++ (⟨#[10]⟩ : ByteArray)) w2 hI2.out hsum.out (Nat.le_trans hBs.out hb2.out.size)).mono ?_; rintro e w3 ⟨rfl, hI3, hb3⟩; replace hI3 := A_ hI3; replace hb3 := A_ hb3))
      all_goals
        have HB3 := A_ ((below_step HBx.out.drew hb2.out).trans hb3.out)
        have HI3 : Aside0 (Lib.IsBuilder 90 5 w.heap.size w.heap.size (Lib.strCells (archUp l0 (k + 1))) w3) := ⟨by rw [hup1]; exact .inr hI3.out⟩
        clear hI3 hb3 hb2
        go_wp2
        go_roundw
        case rel => exact ⟨k + 1, hlt, rfl, HB3, HI3⟩
        case measure => simp only [intOf]; omega
    · obtain rfl : k = l0.length := by omega
      have c0 : decide ((l0.length : Int) < (l0.length : Int)) = false := by simp
      have hstr := A_ (Tryz.Builder_String_any w.heap.size w.heap.size (archUp l0 l0.length).data.toList wr HI.out HB.out.size)
      go_wp2_with (first | (go_at_call 62; refine hstr.out.mono ?_; rintro e w3 ⟨rfl, hb3⟩))
      go_ret
      exact ⟨by simp, HB.out.trans hb3⟩

end Go.Proofs.YtgmmanppmjlclaaGreatDoor.P
