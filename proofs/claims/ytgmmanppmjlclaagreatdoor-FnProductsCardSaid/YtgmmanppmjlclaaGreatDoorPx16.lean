-- Made by pp.py of this session out of the kit's print and of contracts proved by hand; Lean checks it.
import Derived.Test.YtgmmanppmjlclaaGreatDoorMc
import Derived.Shelf.Abstract
import Derived.Shelf.RegionOpen
import Derived.Lib.SliceRun
import Derived.Lib.Overlaps
import Derived.Lib.AppendZerosOnto
import Derived.Laws.CopyRow
import Derived.Laws.CopyOwn
import Derived.Shelf.Spec.SlicesInsert
import Derived.Laws.AppendOwn
import Derived.Deep.QuietTactic
import Derived.Deep.RegionWith
import Derived.Deep.RegionHeld3
import Derived.Deep.RegionLaw
import Derived.BigQuiet
import Derived.Test.YtgmmanppmjlclaaGreatDoorPx0
import Derived.Test.YtgmmanppmjlclaaGreatDoorPx2
import Derived.Test.YtgmmanppmjlclaaGreatDoorPx11
import Derived.Test.YtgmmanppmjlclaaGreatDoorPx13
import Derived.Test.YtgmmanppmjlclaaGreatDoorPx14
import Derived.Test.YtgmmanppmjlclaaGreatDoorPx15
namespace Go.Proofs.YtgmmanppmjlclaaGreatDoor.P
open Go.RowKit Go.Proofs.YtgmmanppmjlclaaGreatDoorW.PrintWords Go.Proofs.YtgmmanppmjlclaaGreatDoorW.PrintLast Go.Proofs.YtgmmanppmjlclaaGreatDoorW.PrintMore
attribute [local go_sem] max2_int min2_int max_two min_two max_three min_three max_four min_four   -- for this text's walks alone
set_option linter.unusedVariables false
set_option linter.unusedSimpArgs false

-- ALONE
/-! ### impl_StoreProduct: function 6 -/
section
open Go.Shelf
/-- copy at elements of three cells. -/
theorem copy3 {P : Program} (w : World) (dT sT ty elem : TypeId) (g o dLen dCap : Nat) (a : Addr) (sLen sCap : Nat) (cur : List Value) (t : TypeId) (cs : List Value) (m : Nat)
    (hu : P.underlying dT = some (.slice elem)) (hs : (P.info? elem).map (·.size) = some 3)
    (hg : w.heap[g]? = some (.cells cur.toArray t (0, 0))) (hm : Nat.min sLen dLen = m) (hn : cs.length = m * 3)
    (hsrc : ∀ j v, cs[j]? = some v → w.cell? (a.add j) = some v) (hfit : o + cs.length ≤ cur.length) (h1 : ∀ v ∈ cs, v.oneCell' = true) :
    (Builtin.copy_ #[dT, sT] ty #[.slice (some ⟨g, o, none⟩) dLen dCap, .slice (some a) sLen sCap]).run P w =
      .ok (goInt m) (w.setRow g (cur.take o ++ (cs ++ cur.drop (o + cs.length))).toArray) := by
  have hl := run_loadCells_list (P := P) w a cs hsrc
  have hst := run_storeCells_at P g o t cs 0 cur.toArray w hg (by simpa using hfit) h1
  simp only [Nat.add_zero, List.append_assoc] at hst
  cases hq : P.info? elem with
  | none => simp [hq] at hs
  | some i =>
    have hi : i.size = 3 := by simpa [hq] using hs
    simp [Builtin.copy_, run_underlying hu, Builtin.lenOf, Builtin.firstCells, sizeOf, typeInfo, hq, hi, hm, ← hn, hl, hst]
theorem sizeP_ : (Tryz.prog.info? 26).map (·.size) = some 3 := by kernel_rfl
/-- The row behind the first copy, and behind the second. -/
def insX1 (X : List Value) (i n : Nat) (D : List Value) : List Value := X.take ((i + 1) * 3) ++ (D ++ X.drop ((i + 1) * 3 + D.length))
def insX2 (X : List Value) (i : Nat) (E : List Value) : List Value := X.take (i * 3) ++ (E ++ X.drop (i * 3 + E.length))
theorem ins_row (xs : List S26) (rest : List Value) (i : Nat) (p : S26) (hi : i ≤ xs.length) (hr3 : 3 ≤ rest.length) :
    insX2 (insX1 (flatP xs ++ rest) i xs.length (flatP (xs.drop i))) i (encP p) = flatP (xs.take i ++ p :: xs.drop i) ++ rest.drop 3 := by
  have hA : (flatP (xs.take i)).length = i * 3 := by rw [flatP_len, List.length_take, Nat.min_eq_left hi]
  have hD : (flatP (xs.drop i)).length = (xs.length - i) * 3 := by rw [flatP_len, List.length_drop]
  have hX : flatP xs ++ rest = flatP (xs.take i) ++ (flatP (xs.drop i) ++ rest) := by rw [← List.append_assoc, ← flatP_app, List.take_append_drop]
  have hE : (encP p).length = 3 := rfl
  generalize hA2 : flatP (xs.take i) = A at hA hX
  generalize hD2 : flatP (xs.drop i) = D at hD hX
  have h1 : (flatP xs ++ rest).length = i * 3 + D.length + rest.length := by rw [hX]; simp only [List.length_append, hA]; omega
  have h4 : (flatP xs ++ rest).drop ((i + 1) * 3 + D.length) = rest.drop 3 := by
    rw [hX, ← List.append_assoc, show (i + 1) * 3 + D.length = (A ++ D).length + 3 by rw [List.length_append, hA]; omega, ← List.drop_drop, List.drop_left]
  have h3 : ((flatP xs ++ rest).take ((i + 1) * 3)).take (i * 3) = A := by
    rw [List.take_take, Nat.min_eq_left (by omega), hX, List.take_left' hA]
  have h5 : ((flatP xs ++ rest).take ((i + 1) * 3)).length = (i + 1) * 3 := by rw [List.length_take, h1]; omega
  unfold insX2 insX1
  rw [flatP_app, hA2, show flatP (p :: xs.drop i) = encP p ++ D by rw [← hD2]; simp [flatP], h4]
  rw [hE, List.take_append_of_le_length (by rw [h5]; omega), h3, show i * 3 + 3 = ((flatP xs ++ rest).take ((i + 1) * 3)).length by rw [h5]; omega, List.drop_left]
  simp only [List.append_assoc]
/-- What is read from place i on. -/
theorem row_src {w : World} {g : Nat} {xs : List S26} {rest : List Value} (hx : w.heap[g]? = some (.cells (flatP xs ++ rest).toArray 26 (0, 0))) (i : Nat) (hi : i ≤ xs.length) :
    ∀ j v, (flatP (xs.drop i))[j]? = some v → w.cell? ((⟨g, i * 3, none⟩ : Addr).add j) = some v := by
  intro j v hj
  have hA : (flatP (xs.take i)).length = i * 3 := by rw [flatP_len, List.length_take, Nat.min_eq_left hi]
  have hX : flatP xs ++ rest = flatP (xs.take i) ++ (flatP (xs.drop i) ++ rest) := by rw [← List.append_assoc, ← flatP_app, List.take_append_drop]
  rw [Addr.add_lit, blk_cell hx, List.getElem?_toArray, hX, List.getElem?_append_right (by rw [hA]; omega), hA, Nat.add_sub_cancel_left, List.getElem?_append_left (List.getElem?_eq_some_iff.1 hj).1]
  exact hj
theorem enc_src {w : World} {vb : Nat} {p : S26} (hv : w.heap[vb]? = some (.cells #[.string p.f0, .int .i64 p.f1, .string p.f2] 26 (0, 0))) :
    ∀ j v, (encP p)[j]? = some v → w.cell? ((⟨vb, 0, none⟩ : Addr).add j) = some v := by
  intro j v hj
  rw [Addr.add_lit, Nat.zero_add, blk_cell hv]
  simpa [encP] using hj
theorem encP_ones (p : S26) : ∀ v ∈ encP p, v.oneCell' = true := fun v h => encP_one (xs := [p]) (by simpa [flatP] using h)
theorem blk_setRow {w : World} {g : Nat} {cs : Array Value} {t : TypeId} {cs' : Array Value} (h : w.heap[g]? = some (.cells cs t (0, 0))) : (w.setRow g cs').heap[g]? = some (.cells cs' t (0, 0)) := setRow_heap w g cs _ t _ h
theorem blk_setRow_other {w : World} {g k : Nat} {cs' : Array Value} {o : Obj} (h : w.heap[k]? = some o) (hk : k ≠ g) : (w.setRow g cs').heap[k]? = some o := by rw [setRow_other w g k _ hk]; exact h
theorem insX1_len {X : List Value} {i n : Nat} {D : List Value} (h : (i + 1) * 3 + D.length ≤ X.length) : (insX1 X i n D).length = X.length := by
  unfold insX1
  simp only [List.length_append, List.length_take, List.length_drop]
  omega
set_option maxHeartbeats 2000000 in
set_option maxRecDepth 100000 in
theorem ins_shift (g cap i vb : Nat) (xs : List S26) (p : S26) (rest : List Value) (w : World) (hi : i < xs.length) (hroom : xs.length + 1 ≤ cap) (hcap : cap ≤ maxLen)
    (hx : w.heap[g]? = some (.cells (flatP xs ++ rest).toArray 26 (0, 0))) (hl : (flatP xs ++ rest).length = cap * 3)
    (hv : w.heap[vb]? = some (.cells #[.string p.f0, .int .i64 p.f1, .string p.f2] 26 (0, 0))) (hvb : vb ≠ g) :
    Calls Tryz.prog 28 #[.slice (some ⟨g, 0, none⟩) xs.length cap, .int .i64 i, .slice (some ⟨vb, 0, none⟩) 1 1] w fun e w' =>
      e = .returned (.slice (some ⟨g, 0, none⟩) (xs.length + 1) cap) ∧ w'.heap[g]? = some (.cells (flatP (xs.take i ++ p :: xs.drop i) ++ rest.drop 3).toArray 26 (0, 0)) ∧ (∀ B, B ≤ g → Below B w w') := by
  have hc63 : cap ≤ 9223372036854775807 := by unfold maxLen at hcap; omega
  have hz2 : ¬ ((i : Int) = (xs.length : Int)) := by omega
  have hov : ∀ lb cb, (callFunc 56 #[.slice (some ⟨vb, 0, none⟩) 1 1, .slice (some ⟨g, (i + 1) * 3, none⟩) lb cb]).run Tryz.prog w = .ok (.value (.bool false)) w := fun lb cb => by
    rw [run_callFunc_extern Tryz.func56 kr_ kr_ kr_ (e := Extern.SlicesOverlaps.overlaps #[24, 24] #[4]) kr_,
      Lib.run_overlaps_apart w 24 4 26 Tryz.underlying24 3 Tryz.sizeOf26 ⟨vb, 0, none⟩ ⟨g, (i + 1) * 3, none⟩ 1 1 lb cb hvb 26 26 3 (cap * 3) (by simp [World.shape?, hv]) (by simp [World.shape?, hx]; simpa using hl) (by omega) (by simp [World.frozen?, hv]) (by simp [World.frozen?, hv])]
    rfl
  have hDl : (flatP (xs.drop i)).length = (xs.length - i) * 3 := by rw [flatP_len, List.length_drop]
  have hb1 : (0 : Int) ≤ (i : Int) + 1 := by omega
  have hw1 : IntKind.i64.wrap ((i : Int) + 1) = (i : Int) + 1 := by rw [IntKind.wrap_i64]; omega
  have hin : i ≤ xs.length := by omega
  have htn : ((i : Int) + 1).toNat = i + 1 := by omega
  have hb2 : ¬ (cap = i + 1) := by omega
  have hb3 : (i : Int) ≤ (xs.length : Int) + 1 := by omega
  have hb4 : ¬ (cap = i) := by omega
  have hroom2 : ¬ ((cap : Int) < (xs.length : Int) + 1) := by omega
  have hr3 : 3 ≤ rest.length := by rw [List.length_append, flatP_len] at hl; omega
  have hcp1 : ∀ ty dc sc, (Builtin.copy_ #[24, 24] ty #[.slice (some ⟨g, (i + 1) * 3, none⟩) (xs.length - i) dc, .slice (some ⟨g, i * 3, none⟩) (xs.length + 1 - i) sc]).run Tryz.prog w.drew = .ok (goInt (xs.length - i : Nat)) (w.drew.setRow g (insX1 (flatP xs ++ rest) i xs.length (flatP (xs.drop i))).toArray) := fun ty dc sc =>
    copy3 w.drew 24 24 ty 26 g ((i + 1) * 3) (xs.length - i) dc ⟨g, i * 3, none⟩ (xs.length + 1 - i) sc (flatP xs ++ rest) 26 (flatP (xs.drop i)) (xs.length - i) Tryz.underlying24 sizeP_ hx (by simp only [Nat.min_def]; split <;> omega) hDl
      (row_src (w := w.drew) hx i hin) (by rw [hDl, hl]; omega) (fun v hv => encP_one hv)
  have hlen1 : (insX1 (flatP xs ++ rest) i xs.length (flatP (xs.drop i))).length = cap * 3 := by rw [insX1_len (by rw [hDl, hl]; omega)]; exact hl
  have hrow := ins_row xs rest i p hin hr3
  generalize hX1 : insX1 (flatP xs ++ rest) i xs.length (flatP (xs.drop i)) = X1 at hcp1 hlen1 hrow
  have hcp2 : ∀ (W : World), W.heap[g]? = some (.cells X1.toArray 26 (0, 0)) → W.heap[vb]? = some (.cells #[.string p.f0, .int .i64 p.f1, .string p.f2] 26 (0, 0)) → ∀ ty dc, (Builtin.copy_ #[24, 24] ty #[.slice (some ⟨g, i * 3, none⟩) (xs.length + 1 - i) dc, .slice (some ⟨vb, 0, none⟩) 1 1]).run Tryz.prog W = .ok (goInt (1 : Nat)) (W.setRow g (insX2 X1 i (encP p)).toArray) := fun W hW hWv ty dc =>
    copy3 W 24 24 ty 26 g (i * 3) (xs.length + 1 - i) dc ⟨vb, 0, none⟩ 1 1 X1 26 (encP p) 1 Tryz.underlying24 sizeP_ hW (by simp only [Nat.min_def]; split <;> omega) rfl (enc_src hWv) (by rw [hlen1]; show i * 3 + 3 ≤ _; omega) (encP_ones p)
  have hgg := hcp2 ((w.drew.setRow g X1.toArray)) (blk_setRow (w := w.drew) hx) (blk_setRow_other (w := w.drew) hv hvb)
  have hfin : ((w.drew.setRow g X1.toArray).setRow g (insX2 X1 i (encP p)).toArray).heap[g]? = some (.cells (flatP (xs.take i ++ p :: xs.drop i) ++ rest.drop 3).toArray 26 (0, 0)) := by
    rw [← hrow]
    exact blk_setRow (blk_setRow (w := w.drew) hx)
  have hbel : ∀ B, B ≤ g → Below B w ((w.drew.setRow g X1.toArray).setRow g (insX2 X1 i (encP p)).toArray) := fun B hB => below_setRow (below_setRow ((Below.refl B w).drew) hB _) hB _
  generalize hW2 : ((w.drew.setRow g X1.toArray).setRow g (insX2 X1 i (encP p)).toArray) = W2 at hgg hfin hbel
  generalize hW1 : w.drew.setRow g X1.toArray = W1 at hcp1 hgg
  clear hcp2 hW2 hW1 hrow hlen1 hX1
  replace hfin := A_ hfin
  replace hbel := A_ hbel
  go_enter Tryz.func28, Tryz.ntmps28
  go_wp2_with (simp only [hov])
  go_region_law (refine step_copy_runI rfl _ _ 24 24 rfl _ _ (by simp [Act.eval, Act.put]) (by simp [Act.eval, Act.put]) (hcp1 _ _ _) ?_)
  go_wp2_with (at_builtin; refine wpList_copy_runI _ rfl _ _ 24 24 rfl _ _ rfl rfl (hgg _ _) ?_)
  go_ret
  exact ⟨rfl, hfin.out, hbel.out⟩
theorem flatP_drop (xs : List S26) (i : Nat) (hi : i ≤ xs.length) : (flatP xs).drop (i * 3) = flatP (xs.drop i) := by
  have hA : (flatP (xs.take i)).length = i * 3 := by rw [flatP_len, List.length_take, Nat.min_eq_left hi]
  conv => lhs; rw [← List.take_append_drop i xs, flatP_app, ← hA]
  rw [List.drop_left]
theorem flat_splice (Y Z : List S26) (a : Nat) (h : a + Z.length ≤ Y.length) : (flatP Y).take (a * 3) ++ (flatP Z ++ (flatP Y).drop (a * 3 + (flatP Z).length)) = flatP (Y.take a ++ (Z ++ Y.drop (a + Z.length))) := by
  rw [flatP_len, ← Nat.add_mul, flatP_take Y a (by omega), flatP_drop Y _ h, flatP_app, flatP_app]
set_option maxHeartbeats 2000000 in
set_option maxRecDepth 100000 in
theorem ins_grow (g cap i vb B : Nat) (xs : List S26) (p : S26) (rest : List Value) (w : World) (hi : i < xs.length) (hnc : xs.length ≤ cap) (hroom : cap < xs.length + 1) (hn : xs.length ≤ 1000000)
    (hx : w.heap[g]? = some (.cells (flatP xs ++ rest).toArray 26 (0, 0))) (hl : (flatP xs ++ rest).length = cap * 3) (hB : B ≤ w.heap.size)
    (hv : w.heap[vb]? = some (.cells #[.string p.f0, .int .i64 p.f1, .string p.f2] 26 (0, 0))) :
    Calls Tryz.prog 28 #[.slice (some ⟨g, 0, none⟩) xs.length cap, .int .i64 i, .slice (some ⟨vb, 0, none⟩) 1 1] w fun e w' =>
      ∃ v', e = .returned v' ∧ Kd.R k26 26 w' B (fun _ => True) v' (xs.take i ++ p :: xs.drop i) ∧ Below B w w' := by
  obtain ⟨i0, hi0, hz0, hzs, hzb⟩ := info_parts info26
  have hz2 : ¬ ((i : Int) = (xs.length : Int)) := by omega
  have hz3 : (cap : Int) < (xs.length : Int) + 1 := by omega
  have hkk : (xs.length : Int) + 1 - (i : Int) = ((xs.length + 1 - i : Nat) : Int) := by omega
  have hik : i + (xs.length + 1 - i) = xs.length + 1 := by omega
  have hin : i ≤ xs.length := by omega
  have hold : (Builtin.firstCells i0.size i (.slice (some ⟨g, 0, none⟩) i cap)).run Tryz.prog w.drew = .ok (flatP (xs.take i)).toArray w.drew := by
    rw [hzs]
    refine run_firstCells_some w.drew 3 i ⟨g, 0, none⟩ i cap (flatP (xs.take i)) (by rw [flatP_len, List.length_take, Nat.min_eq_left hin]) (fun j v hj => ?_)
    have hX : flatP xs ++ rest = flatP (xs.take i) ++ (flatP (xs.drop i) ++ rest) := by rw [← List.append_assoc, ← flatP_app, List.take_append_drop]
    rw [Addr.add_lit, Nat.zero_add, blk_cell (w := w.drew) hx, List.getElem?_toArray, hX, List.getElem?_append_left (List.getElem?_eq_some_iff.1 hj).1]
    exact hj
  have hrz : ∀ ty, (Builtin.append_ #[24, 3] ty #[.slice (some ⟨g, 0, none⟩) i cap, .int .i64 ((xs.length : Int) + 1 - (i : Int))]).run Tryz.prog w =
      .ok (.slice (some ⟨w.heap.size, 0, none⟩) (xs.length + 1) (grownCap w (xs.length + 1) cap 26)) (w.drew.alloc (.cells ((flatP (xs.take i)).toArray ++ Builtin.zeroCells (Value.agg #[.string ⟨#[]⟩, .int .i64 0, .string ⟨#[]⟩]).cells (xs.length + 1 - i) ++ Builtin.zeroCells (Value.agg #[.string ⟨#[]⟩, .int .i64 0, .string ⟨#[]⟩]).cells (grownCap w (xs.length + 1) cap 26 - (xs.length + 1))) 26)) := fun ty => by
    have h := Lib.run_append_grow_zeros w 24 3 ty 26 i0 _ .i64 .i64 Tryz.underlying24 Tryz.underlying3 hi0 hz0 (some ⟨g, 0, none⟩) i cap (flatP (xs.take i)) hold (xs.length + 1 - i) (by omega) (by rw [hzs]; omega) (by omega) (by omega) (by rw [hzb]; omega) (by rw [hzb, hik]; exact growslice_fits hroom (by omega))
    rw [hik] at h
    rw [hkk]
    exact h
  have hGn : xs.length + 1 ≤ grownCap w (xs.length + 1) cap 26 := grownCap_ge w _ _ _
  have hGm : grownCap w (xs.length + 1) cap 26 ≤ maxLen := grownCap_le_maxLen w (xs.length + 1) cap 26 (by unfold maxLen; omega)
  generalize grownCap w (xs.length + 1) cap 26 = G at hrz hGn hGm
  have hrow0 : (flatP (xs.take i)).toArray ++ Builtin.zeroCells (Value.agg #[.string ⟨#[]⟩, .int .i64 0, .string ⟨#[]⟩]).cells (xs.length + 1 - i) ++ Builtin.zeroCells (Value.agg #[.string ⟨#[]⟩, .int .i64 0, .string ⟨#[]⟩]).cells (G - (xs.length + 1)) = (flatP (xs.take i ++ List.replicate (G - i) z26)).toArray := by
    apply Array.toList_inj.1
    rw [Array.toList_append, Array.toList_append, zeroCells_P, zeroCells_P, flatP_app, show G - i = (xs.length + 1 - i) + (G - (xs.length + 1)) by omega, ← List.replicate_append_replicate, flatP_app, List.append_assoc]
  rw [hrow0] at hrz
  have hYl : (xs.take i ++ List.replicate (G - i) z26).length = G := by simp; omega
  have hYt : (xs.take i ++ List.replicate (G - i) z26).take i = xs.take i := List.take_left' (by simp; omega)
  generalize xs.take i ++ List.replicate (G - i) z26 = Y at hrz hYl hYt
  have hvw : vb < w.heap.size := blk_lt hv
  have hgw : g < w.heap.size := blk_lt hx
  have a1 : (w.drew.alloc (.cells (flatP Y).toArray 26)).heap[w.heap.size]? = some (.cells (flatP Y).toArray 26 (0, 0)) := blk_new w.drew _
  have a2 : (w.drew.alloc (.cells (flatP Y).toArray 26)).heap[vb]? = some (.cells #[.string p.f0, .int .i64 p.f1, .string p.f2] 26 (0, 0)) := blk_alloc (w := w.drew) hv _
  have a3 : (w.drew.alloc (.cells (flatP Y).toArray 26)).heap[g]? = some (.cells (flatP xs ++ rest).toArray 26 (0, 0)) := blk_alloc (w := w.drew) hx _
  have a4 : Below B w (w.drew.alloc (.cells (flatP Y).toArray 26)) := (Below.refl B w).drew.alloc hB _
  generalize (w.drew.alloc (.cells (flatP Y).toArray 26)) = W1 at hrz a1 a2 a3 a4
  have hs1 := flat_splice Y [p] i (by simp; omega)
  rw [hYt] at hs1
  have hY1l : (xs.take i ++ ([p] ++ Y.drop (i + 1))).length = G := by simp; omega
  have hcpA : ∀ ty dc, (Builtin.copy_ #[24, 24] ty #[.slice (some ⟨w.heap.size, i * 3, none⟩) (xs.length + 1 - i) dc, .slice (some ⟨vb, 0, none⟩) 1 1]).run Tryz.prog W1 = .ok (goInt (1 : Nat)) (W1.setRow w.heap.size (flatP (xs.take i ++ ([p] ++ Y.drop (i + 1)))).toArray) := fun ty dc => by
    have h := copy3 W1 24 24 ty 26 w.heap.size (i * 3) (xs.length + 1 - i) dc ⟨vb, 0, none⟩ 1 1 (flatP Y) 26 (flatP [p]) 1 Tryz.underlying24 sizeP_ a1 (by simp only [Nat.min_def]; split <;> omega) (by rw [flatP_len]; rfl) (by have := enc_src a2; simpa [flatP] using this) (by rw [flatP_len, flatP_len, hYl]; simp only [List.length_singleton]; omega) (fun v hv => encP_one hv)
    rw [hs1] at h
    exact h
  have b1 : (W1.setRow w.heap.size (flatP (xs.take i ++ ([p] ++ Y.drop (i + 1)))).toArray).heap[w.heap.size]? = some (.cells (flatP (xs.take i ++ ([p] ++ Y.drop (i + 1)))).toArray 26 (0, 0)) := blk_setRow a1
  have b3 : (W1.setRow w.heap.size (flatP (xs.take i ++ ([p] ++ Y.drop (i + 1)))).toArray).heap[g]? = some (.cells (flatP xs ++ rest).toArray 26 (0, 0)) := blk_setRow_other a3 (by omega)
  have b4 := below_setRow a4 hB (flatP (xs.take i ++ ([p] ++ Y.drop (i + 1)))).toArray
  generalize W1.setRow w.heap.size (flatP (xs.take i ++ ([p] ++ Y.drop (i + 1)))).toArray = W2 at hcpA b1 b3 b4
  have hs2 := flat_splice (xs.take i ++ ([p] ++ Y.drop (i + 1))) (xs.drop i) (i + 1) (by rw [hY1l, List.length_drop]; omega)
  have hDl : (flatP (xs.drop i)).length = (xs.length - i) * 3 := by rw [flatP_len, List.length_drop]
  have hfin : (xs.take i ++ ([p] ++ Y.drop (i + 1))).take (i + 1) ++ (xs.drop i ++ (xs.take i ++ ([p] ++ Y.drop (i + 1))).drop (i + 1 + (xs.drop i).length)) = (xs.take i ++ p :: xs.drop i) ++ Y.drop (xs.length + 1) := by
    have e1 : xs.take i ++ ([p] ++ Y.drop (i + 1)) = (xs.take i ++ [p]) ++ Y.drop (i + 1) := by simp
    have e2 : (xs.take i ++ [p]).length = i + 1 := by simp; omega
    rw [e1, List.take_left' e2, show i + 1 + (xs.drop i).length = (xs.take i ++ [p]).length + (xs.length - i) by rw [e2, List.length_drop], ← List.drop_drop, List.drop_left, List.drop_drop, show i + 1 + (xs.length - i) = xs.length + 1 by omega]
    simp
  replace hs2 := hs2.trans ((congrArg flatP hfin).trans (flatP_app _ _))
  have hcpB : ∀ ty dc sc, (Builtin.copy_ #[24, 24] ty #[.slice (some ⟨w.heap.size, (i + 1) * 3, none⟩) (xs.length - i) dc, .slice (some ⟨g, i * 3, none⟩) (xs.length - i) sc]).run Tryz.prog W2.drew = .ok (goInt (xs.length - i : Nat)) (W2.drew.setRow w.heap.size (flatP (xs.take i ++ p :: xs.drop i) ++ flatP (Y.drop (xs.length + 1))).toArray) := fun ty dc sc => by
    have h := copy3 W2.drew 24 24 ty 26 w.heap.size ((i + 1) * 3) (xs.length - i) dc ⟨g, i * 3, none⟩ (xs.length - i) sc (flatP (xs.take i ++ ([p] ++ Y.drop (i + 1)))) 26 (flatP (xs.drop i)) (xs.length - i) Tryz.underlying24 sizeP_ b1 (by simp only [Nat.min_def]; split <;> omega) hDl (row_src (w := W2.drew) b3 i hin) (by rw [hDl, flatP_len, hY1l]; omega) (fun v hv => encP_one hv)
    rw [hs2] at h
    exact h
  have c1 : (W2.drew.setRow w.heap.size (flatP (xs.take i ++ p :: xs.drop i) ++ flatP (Y.drop (xs.length + 1))).toArray).heap[w.heap.size]? = some (.cells (flatP (xs.take i ++ p :: xs.drop i) ++ flatP (Y.drop (xs.length + 1))).toArray 26 (0, 0)) := blk_setRow (w := W2.drew) b1
  have c4 := below_setRow b4.drew hB (flatP (xs.take i ++ p :: xs.drop i) ++ flatP (Y.drop (xs.length + 1))).toArray
  have hZl : (xs.take i ++ p :: xs.drop i).length = xs.length + 1 := by simp; omega
  have hR := row_close (B := B) (ok := fun _ => True) hB trivial (by rw [hZl]; exact hGn) hGm c1 (by rw [List.length_append, flatP_len, flatP_len, hZl, List.length_drop, hYl]; omega)
  rw [hZl] at hR
  generalize W2.drew.setRow w.heap.size (flatP (xs.take i ++ p :: xs.drop i) ++ flatP (Y.drop (xs.length + 1))).toArray = W3 at hcpB c1 c4 hR
  replace hR := A_ hR
  replace c4 := A_ c4
  have hw1 : IntKind.i64.wrap ((i : Int) + 1) = (i : Int) + 1 := by rw [IntKind.wrap_i64]; omega
  have hb1 : (0 : Int) ≤ (i : Int) + 1 := by omega
  have htn : ((i : Int) + 1).toNat = i + 1 := by omega
  have hb3 : (i : Int) ≤ (xs.length : Int) := by omega
  have hG63 : G ≤ 9223372036854775807 := by unfold maxLen at hGm; omega
  have hGi : ¬ (G = i) := by omega
  have hGim : ¬ (G = i + 1) := by omega
  have hci : ¬ (cap = i) := by omega
  clear hkk hik hold hrow0 hs1 hs2 hfin a1 a2 a3 a4 b1 b3 b4 c1 hYl hYt hY1l hDl hZl hx hv hl hi0 hz0 hzs hzb
  go_enter Tryz.func28, Tryz.ntmps28
  go_wp2_with (first
    | (at_builtin; refine Lib.wpList_append_run _ rfl _ _ _ _ rfl _ _ rfl rfl _ _ (hrz _) ?_)
    | (at_builtin; refine wpList_copy_runI _ rfl _ _ 24 24 rfl _ _ rfl rfl (hcpA _ _) ?_))
  go_region_law (refine step_copy_runI rfl _ _ 24 24 rfl _ _ (by simp [Act.eval, Act.put]) (by simp [Act.eval, Act.put]) (hcpB _ _ _) ?_)
  go_wp2
  go_ret
  exact ⟨_, rfl, hR.out, c4.out⟩
set_option maxHeartbeats 2000000 in
set_option maxRecDepth 100000 in
theorem ins_end (vb B : Nat) (v0 : Value) (xs : List S26) (p : S26) (w : World) (hR : Kd.R k26 26 w B (fun _ => True) v0 xs) (hB : B ≤ w.heap.size) (hn : xs.length ≤ 1000000)
    (hv : w.heap[vb]? = some (.cells #[.string p.f0, .int .i64 p.f1, .string p.f2] 26 (0, 0))) :
    Calls Tryz.prog 28 #[v0, .int .i64 xs.length, .slice (some ⟨vb, 0, none⟩) 1 1] w fun e w' =>
      ∃ v', e = .returned v' ∧ Kd.R k26 26 w' B (fun _ => True) v' (xs ++ [p]) ∧ Below B w w' := by
  obtain ⟨i0, hi0, hz0, hzs, hzb⟩ := info_parts info26
  obtain ⟨A, c, rfl⟩ := Kd.R_slice hR
  have hnc := (Kd.R_reads' hR).2.1
  obtain ⟨hok, inner, ho, hr⟩ := hR
  have hinn := reps_flat xs inner _ (fun x c hc => k26_openM hc) hr
  subst hinn
  have hlt := fun k hk => (World.ownsRow.lt ho k hk).1
  have hcore := fun (ops : Array Oper) (rest : List Oper) (o : Oper) (a : Act) (Q : Exit → Act → World → Prop) (hgd : o.guard = none) (s x : Operand) (hop : o.op = .call { callee := .builtin .append, args := #[s, x], argTypes := #[24, 24] }) (hs : a.eval s = .slice A xs.length c) (hx : a.eval x = .slice (some ⟨vb, 0, none⟩) 1 1) =>
    wpList_append_own (P := Tryz.prog) (ops := ops) (rest := rest) (o := o) (a := a) (Q := Q) w hgd s x 24 hop B 26 i0 _ 3 40 Tryz.underlying24 hi0 hz0 hzs hzb rfl (by omega) _ xs.length (flatP xs) hs ho ⟨vb, 0, none⟩ 1 1 (encP p) hx rfl (enc_src hv) (encP_ones p) (by unfold maxLen; omega) (by omega) hB
  have hfin : ∀ v' w', w'.ownsRow B 26 3 v' (xs.length + 1) (flatP xs ++ encP p) → Kd.R k26 26 w' B (fun _ => True) v' (xs ++ [p]) := fun v' w' h => by
    have e : flatP xs ++ encP p = flatP (xs ++ [p]) := by rw [flatP_app]; simp [flatP]
    rw [e] at h
    have h9 : w'.ownsRow B 26 k26.sz v' (xs ++ [p]).length (flatP (xs ++ [p])) := by rw [List.length_append]; exact h
    exact ⟨fun _ _ => trivial, flatP (xs ++ [p]), h9, flat_reps _ _ _ _⟩
  have hnone : A = none → c = xs.length := by
    rintro rfl
    rcases ho.2 with ⟨e0, e1⟩ | ⟨g', cap', cur, e0, _⟩
    · injection e0 with _ e2 e3
      omega
    · injection e0 with e1; cases e1
  clear hr hok ho
  by_cases hc : c = xs.length
  · subst hc
    cases A with
    | none =>
      go_enter Tryz.func28, Tryz.ntmps28
      go_wp2_with (at_builtin; refine hcore _ _ _ _ _ rfl _ _ rfl rfl rfl ?_)
      intro v' w2 h1 h2 h3
      go_wp2
      go_ret
      exact ⟨_, rfl, hfin _ _ h1, (Below.refl B w).grown h2 hB hlt⟩
    | some ad =>
      go_enter Tryz.func28, Tryz.ntmps28
      go_wp2_with (at_builtin; refine hcore _ _ _ _ _ rfl _ _ rfl rfl rfl ?_)
      intro v' w2 h1 h2 h3
      go_wp2
      go_ret
      exact ⟨_, rfl, hfin _ _ h1, (Below.refl B w).grown h2 hB hlt⟩
  · cases A with
    | none => exact absurd (hnone rfl) hc
    | some ad =>
      go_enter Tryz.func28, Tryz.ntmps28
      go_wp2_with (at_builtin; refine hcore _ _ _ _ _ rfl _ _ rfl rfl rfl ?_)
      intro v' w2 h1 h2 h3
      go_wp2
      go_ret
      exact ⟨_, rfl, hfin _ _ h1, (Below.refl B w).grown h2 hB hlt⟩
/-- The search: the place of the first element that does not come before p. -/
def bsP (k : Nat) (xs : List S26) (p : S26) : Nat → Nat → Nat → Option Nat
  | 0, _, _ => none
  | q + 1, i, j => if i < j then (impl_compareProducts.f k (rd_T26 xs (((i + j) / 2 : Nat) : Int)).f0 (rd_T26 xs (((i + j) / 2 : Nat) : Int)).f1 (rd_T26 xs (((i + j) / 2 : Nat) : Int)).f2 p.f0 p.f1 p.f2).bind fun r => if r < 0 then bsP k xs p q ((i + j) / 2 + 1) j else bsP k xs p q i ((i + j) / 2) else some i
def bsF (k : Nat) (xs : List S26) (p : S26) (i : Nat) : Option Bool := if i < xs.length then (impl_compareProducts.f k (rd_T26 xs (i : Int)).f0 (rd_T26 xs (i : Int)).f1 (rd_T26 xs (i : Int)).f2 p.f0 p.f1 p.f2).bind fun r => some (r == 0) else some false
set_option maxHeartbeats 2000000 in
set_option maxRecDepth 100000 in
theorem bs_calls (k : Nat) (A : Option Addr) (c : Nat) (xs : List S26) (p : S26) (at_ : Nat) (found : Bool) (w : World) (hr : Kd.C k26 w A xs.length xs) (hc : xs.length ≤ c) (hl : xs.length ≤ 1000000) (h1 : bsP k xs p k 0 xs.length = some at_) (h2 : bsF k xs p at_ = some found) :
    Calls Tryz.prog 26 #[.slice A xs.length c, .agg #[.string p.f0, .int .i64 p.f1, .string p.f2], .func (.func 27) #[] #[]] w fun e w' => e = .returned (.tuple #[.int .i64 at_, .bool found]) ∧ Below w.heap.size w w' := by
  have H1 := A_ h1
  have H2 := A_ h2
  have HR := A_ hr
  clear h1 h2 hr
  have hbx : (w.alloc (.cells #[.string p.f0, .int .i64 p.f1, .string p.f2] 26)).heap[w.heap.size]? = some (.cells #[.string p.f0, .int .i64 p.f1, .string p.f2] 26 (0, 0)) := blk_new w _
  have HB0 := A_ ((Below.refl w.heap.size w).alloc (Nat.le_refl _) (.cells #[.string p.f0, .int .i64 p.f1, .string p.f2] 26))
  go_enter Tryz.func26, Tryz.ntmps26
  go_wp2
  generalize (w.alloc (.cells #[.string p.f0, .int .i64 p.f1, .string p.f2] 26)) = W0 at hbx HB0 ⊢
  replace hbx := A_ hbx
  go_loopg [9, 10] k (fun kq v9 v10 w' => ∃ (i j : Nat), v9 = .int .i64 i ∧ v10 = .int .i64 j ∧ Aside0 (i ≤ j ∧ j ≤ xs.length) ∧ Aside0 (bsP k xs p kq i j = some at_) ∧ Aside0 (kq ≤ k) ∧ Aside0 (Below w.heap.size w w') ∧ Aside0 (w'.heap[w.heap.size]? = some (.cells #[.string p.f0, .int .i64 p.f1, .string p.f2] 26 (0, 0))))
  case atStart => exact ⟨0, xs.length, rfl, rfl, ⟨⟨Nat.zero_le _, Nat.le_refl _⟩⟩, H1, ⟨Nat.le_refl _⟩, HB0, hbx⟩
  case round =>
    clear hbx HB0 H1
    obtain ⟨i, j, rfl, rfl, HIJ, HA, HK, HB, HX⟩ := hrel
    cases gk with
    | zero => exact absurd HA.out (by simp [bsP])
    | succ k1 =>
      have H := HA.out
      clear HA
      simp only [bsP] at H
      have hcell0 := blk_cell HX.out 0
      have hcell1 := blk_cell HX.out 1
      have hcell2 := blk_cell HX.out 2
      by_cases hlt : i < j
      · rw [if_pos hlt] at H
        have hin := HIJ.out
        have c0 : decide ((i : Int) < (j : Int)) = true := decide_eq_true (by omega)
        have hw1 : IntKind.i64.wrap ((i : Int) + (j : Int)) = (i : Int) + (j : Int) := by rw [IntKind.wrap_i64]; omega
        obtain ⟨r, hcmp, H⟩ := Option.bind_eq_some_iff.mp H
        obtain ⟨m, hm⟩ : ∃ m : Nat, m = (i + j) / 2 := ⟨_, rfl⟩
        rw [← hm] at hcmp H
        have hmr : i ≤ m ∧ m < j := by omega
        obtain ⟨ad, e1, hx0, hx1, hx2⟩ := at_T26 HR.out (m : Int) (by omega) (by omega)
        subst e1
        simp only [Int.toNat_natCast] at hx0 hx1 hx2
        replace hx0 := (HB.out.cell (World.block_lt_of_cell? w _ hx0)).trans hx0
        replace hx1 := (HB.out.cell (World.block_lt_of_cell? w _ hx1)).trans hx1
        replace hx2 := (HB.out.cell (World.block_lt_of_cell? w _ hx2)).trans hx2
        replace hcmp := A_ hcmp
        replace H := A_ H
        go_wp2
        have hmi : ((i : Int) + (j : Int)) / 2 = (m : Int) := by omega
        rw [hmi]
        have hml : (m : Int) < xs.length := by omega
        have hml2 : m < xs.length := by omega
        have him := hmr.1
        have hmj := hmr.2
        clear hin hmr hm hmi hw1
        by_cases hr0 : r < 0
        · have cr : decide (r < 0) = true := decide_eq_true hr0
          have H1 : bsP k xs p k1 (m + 1) j = some at_ := by have := H.out; rwa [if_pos hr0] at this
          have H1' := A_ H1
          clear H1 H hr0
          have hw2 : IntKind.i64.wrap ((m : Int) + 1) = ((m + 1 : Nat) : Int) := by rw [IntKind.wrap_i64]; omega
          go_region_with (go_at_call 27; refine (impl_compareProducts.calls k _ _ _ _ _ _ r _ hcmp.out).mono ?_; rintro e w3 ⟨rfl, hb3⟩; replace hb3 := A_ hb3)
          all_goals
            have HB3 := A_ (below_step HB.out.drew hb3.out)
            have HX3 : Aside0 (w3.heap[w.heap.size]? = some (.cells #[.string p.f0, .int .i64 p.f1, .string p.f2] 26 (0, 0))) := ⟨blk_below (w := wr.drew) HX.out hb3.out⟩
            go_wp2
            go_roundg k1
            case measure => have := HK.out; omega
            case rel => exact ⟨m + 1, j, rfl, rfl, ⟨by have := HIJ.out; omega⟩, H1', ⟨by have := HK.out; omega⟩, HB3, HX3⟩
        · have cr : decide (r < 0) = false := decide_eq_false hr0
          have H1 : bsP k xs p k1 i m = some at_ := by have := H.out; rwa [if_neg hr0] at this
          have H1' := A_ H1
          clear H1 H hr0
          go_region_with (go_at_call 27; refine (impl_compareProducts.calls k _ _ _ _ _ _ r _ hcmp.out).mono ?_; rintro e w3 ⟨rfl, hb3⟩; replace hb3 := A_ hb3)
          all_goals
            have HB3 := A_ (below_step HB.out.drew hb3.out)
            have HX3 : Aside0 (w3.heap[w.heap.size]? = some (.cells #[.string p.f0, .int .i64 p.f1, .string p.f2] 26 (0, 0))) := ⟨blk_below (w := wr.drew) HX.out hb3.out⟩
            go_wp2
            go_roundg k1
            case measure => have := HK.out; omega
            case rel => exact ⟨i, m, rfl, rfl, ⟨by have := HIJ.out; omega⟩, H1', ⟨by have := HK.out; omega⟩, HB3, HX3⟩
      · rw [if_neg hlt] at H
        obtain rfl := Option.some.inj H
        have hin := HIJ.out
        have c0 : decide ((i : Int) < (j : Int)) = false := decide_eq_false (by omega)
        have H2' := H2.out
        unfold bsF at H2'
        by_cases hil : i < xs.length
        · rw [if_pos hil] at H2'
          obtain ⟨r, hcmp, hf⟩ := Option.bind_eq_some_iff.mp H2'
          obtain rfl := Option.some.inj hf
          clear hf H2' H2
          have hil2 : (i : Int) < xs.length := by omega
          have c1 : decide ((i : Int) < (xs.length : Int)) = true := decide_eq_true hil2
          obtain ⟨ad, e1, hx0, hx1, hx2⟩ := at_T26 HR.out (i : Int) (by omega) (by omega)
          subst e1
          simp only [Int.toNat_natCast] at hx0 hx1 hx2
          replace hx0 := (HB.out.cell (World.block_lt_of_cell? w _ hx0)).trans hx0
          replace hx1 := (HB.out.cell (World.block_lt_of_cell? w _ hx1)).trans hx1
          replace hx2 := (HB.out.cell (World.block_lt_of_cell? w _ hx2)).trans hx2
          replace hcmp := A_ hcmp
          clear hin
          generalize rd_T26 xs (i : Int) = u at hx0 hx1 hx2 hcmp
          go_wp2
          go_region_held3 (fun w' => w'.cell? (ad.add (i * 3)) = some (.string u.f0) ∧ w'.cell? ⟨(ad.add (i * 3)).block, (ad.add (i * 3)).off + 1, none⟩ = some (.int .i64 u.f1) ∧ w'.cell? ⟨(ad.add (i * 3)).block, (ad.add (i * 3)).off + 2, none⟩ = some (.string u.f2) ∧ w'.cell? ⟨w.heap.size, 0, none⟩ = some (.string p.f0) ∧ w'.cell? ⟨w.heap.size, 1, none⟩ = some (.int .i64 p.f1) ∧ w'.cell? ⟨w.heap.size, 2, none⟩ = some (.string p.f2))
            (first | go_keep | (refine ⟨?_, ?_, ?_, ?_, ?_, ?_⟩ <;> assumption))
            ((go_at_call 27; refine (impl_compareProducts.calls k _ _ _ _ _ _ r _ hcmp.out).mono ?_; rintro e w3 ⟨rfl, hb3⟩; have hz0 := (hb3.cell (World.block_lt_of_cell? _ _ hx0)).trans hx0; have hz1 := (hb3.cell (World.block_lt_of_cell? _ _ hx1)).trans hx1; have hz2 := (hb3.cell (World.block_lt_of_cell? _ _ hx2)).trans hx2; have hy0 := (hb3.cell (World.block_lt_of_cell? _ _ hcell0)).trans hcell0; have hy1 := (hb3.cell (World.block_lt_of_cell? _ _ hcell1)).trans hcell1; have hy2 := (hb3.cell (World.block_lt_of_cell? _ _ hcell2)).trans hcell2; replace hb3 := A_ hb3))
          all_goals
            have HB3 := A_ (below_step HB.out.drew hb3.out)
            go_wp2
            go_ret2
            exact ⟨rfl, HB3.out⟩
        · rw [if_neg hil] at H2'
          obtain rfl := Option.some.inj H2'
          clear H2' H2
          have c1 : decide ((i : Int) < (xs.length : Int)) = false := decide_eq_false (by omega)
          clear hin
          go_wp2
          go_quiet (fail)
          go_wp2
          go_ret2
          exact ⟨rfl, pw_below_drewN HB.out _⟩
theorem row_form {w : World} {B : Nat} {ok : Nat → Prop} {A : Option Addr} {c : Nat} {xs : List S26} (hR : Kd.R k26 26 w B ok (.slice A xs.length c) xs) (hn : 0 < xs.length) : ∃ g, A = some ⟨g, 0, none⟩ := by
  obtain ⟨_, inner, ho, _⟩ := hR
  rcases ho.2 with ⟨e0, e1⟩ | ⟨g', cap', cur, e0, _⟩
  · omega
  · injection e0 with e1
    exact ⟨g', e1⟩
theorem insAny (i vb B : Nat) (v0 : Value) (xs : List S26) (p : S26) (w : World) (hR : Kd.R k26 26 w B (fun _ => True) v0 xs) (hB : B ≤ w.heap.size) (hn : xs.length ≤ 1000000) (hi : i ≤ xs.length)
    (hv : w.heap[vb]? = some (.cells #[.string p.f0, .int .i64 p.f1, .string p.f2] 26 (0, 0))) (hvb : ∀ g, v0.ownBlock = some g → vb ≠ g) :
    Calls Tryz.prog 28 #[v0, .int .i64 i, .slice (some ⟨vb, 0, none⟩) 1 1] w fun e w' =>
      ∃ v', e = .returned v' ∧ Kd.R k26 26 w' B (fun _ => True) v' (xs.take i ++ p :: xs.drop i) ∧ Below B w w' := by
  rcases Nat.lt_or_ge i xs.length with hlt | hge
  · obtain ⟨A, c, rfl⟩ := Kd.R_slice hR
    obtain ⟨g, rfl⟩ := row_form hR (by omega)
    obtain ⟨_, hBg, _, hnc, hm, rest, hx, hl⟩ := row_open hR
    rcases Nat.lt_or_ge c (xs.length + 1) with hr | hr
    · exact ins_grow g c i vb B xs p rest w hlt hnc hr hn hx hl hB hv
    · refine (ins_shift g c i vb xs p rest w hlt hr hm hx hl hv (hvb g rfl)).mono ?_
      rintro e w' ⟨rfl, h1, h2⟩
      have hZl : (xs.take i ++ p :: xs.drop i).length = xs.length + 1 := by simp; omega
      have hR2 := row_close (B := B) (ok := fun _ => True) hBg trivial (by rw [hZl]; exact hr) hm h1 (by
        rw [List.length_append, flatP_len] at hl
        rw [List.length_append, flatP_len, hZl, List.length_drop]; omega)
      rw [hZl] at hR2
      exact ⟨_, rfl, hR2, h2 B hBg⟩
  · obtain rfl : i = xs.length := by omega
    refine (ins_end vb B v0 xs p w hR hB hn hv).mono ?_
    rintro e w' ⟨v', rfl, h1, h2⟩
    exact ⟨v', rfl, by rw [List.take_length, List.drop_length]; exact h1, h2⟩
def storeOut (l0 : List S26) (p : S26) (n : Nat) (found : Bool) : List S26 := if found = true then l0.set n p else l0.take n ++ p :: l0.drop n
def impl_StoreProduct.f (k : Nat) (l0 : List S26) (a0 : ByteArray) (a1 : Int) (a2 : ByteArray) : Option (List S26 × Bool) :=
  (impl_IsValidArchive.f k l0).bind fun t => if t = true then ((impl_isProduct.f k a0 a1 a2).bind fun t2 => if t2 = true then (if l0.length ≤ 1000000 then (bsP k l0 ⟨a0, a1, a2⟩ k 0 l0.length).bind fun n => (bsF k l0 ⟨a0, a1, a2⟩ n).bind fun b => (impl_IsValidArchive.f k (storeOut l0 ⟨a0, a1, a2⟩ n b)).bind fun t3 => if t3 = true then some (storeOut l0 ⟨a0, a1, a2⟩ n b, true) else some ([], false) else none) else some ([], false)) else some ([], false)
theorem bsP_le (k : Nat) (xs : List S26) (p : S26) : ∀ q i j n, i ≤ j → bsP k xs p q i j = some n → n ≤ j
  | 0, _, _, _, _, h => by simp [bsP] at h
  | q + 1, i, j, n, hij, h => by
    simp only [bsP] at h
    by_cases hlt : i < j
    · rw [if_pos hlt] at h
      obtain ⟨r, _, h⟩ := Option.bind_eq_some_iff.mp h
      by_cases hr : r < 0
      · rw [if_pos hr] at h
        exact bsP_le k xs p q _ _ n (by omega) h
      · rw [if_neg hr] at h
        have := bsP_le k xs p q _ _ n (by omega) h
        omega
    · rw [if_neg hlt] at h
      have := Option.some.inj h
      omega
theorem bsF_lt {k : Nat} {xs : List S26} {p : S26} {n : Nat} (h : bsF k xs p n = some true) : n < xs.length := by
  unfold bsF at h
  by_cases hl : n < xs.length
  · exact hl
  · rw [if_neg hl] at h; cases h
set_option maxHeartbeats 4000000 in
set_option maxRecDepth 100000 in
theorem sto_calls (k : Nat) (A0 : Option Addr) (c0 : Nat) (l0 : List S26) (p : S26) (r1 : List S26) (r2 : Bool) (w : World) (hr0 : Kd.C k26 w A0 l0.length l0) (hc0 : l0.length ≤ c0) (h : impl_StoreProduct.f k l0 p.f0 p.f1 p.f2 = some (r1, r2)) :
    Calls Tryz.prog 6 #[.slice A0 l0.length c0, .agg #[.string p.f0, .int .i64 p.f1, .string p.f2]] w fun e w' => ∃ v0_ : Value, e = .returned (.tuple #[v0_, .bool r2]) ∧ Kd.R k26 26 w' w.heap.size (fun _ => True) v0_ r1 ∧ Below w.heap.size w w' := by
  unfold impl_StoreProduct.f at h
  obtain ⟨t, hv, h⟩ := Option.bind_eq_some_iff.mp h
  have hB0 : Below w.heap.size w (w.alloc (.cells #[.string p.f0, .int .i64 p.f1, .string p.f2] 26)) := (Below.refl _ w).alloc (Nat.le_refl _) _
  have bx : (w.alloc (.cells #[.string p.f0, .int .i64 p.f1, .string p.f2] 26)).heap[w.heap.size]? = some (.cells #[.string p.f0, .int .i64 p.f1, .string p.f2] 26 (0, 0)) := blk_new w _
  have hval := impl_IsValidArchive.calls k A0 c0 l0 t _ (Kd.C_below hr0 hB0) hc0 hv
  cases t with
  | false =>
    obtain ⟨rfl, rfl⟩ := Prod.mk.inj (Option.some.inj h)
    go_enter Tryz.func6, Tryz.ntmps6
    go_wp2_with (go_at_call 12; refine hval.mono ?_; rintro e w3 ⟨rfl, hb3⟩)
    go_ret2
    exact ⟨_, rfl, Kd.R_nil _ _ _ _ _, below_step hB0 hb3⟩
  | true =>
    rw [if_pos rfl] at h
    obtain ⟨t2, hp, h⟩ := Option.bind_eq_some_iff.mp h
    cases t2 with
    | false =>
      obtain ⟨rfl, rfl⟩ := Prod.mk.inj (Option.some.inj h)
      go_enter Tryz.func6, Tryz.ntmps6
      go_wp2_with (first | (go_at_call 12; refine hval.mono ?_; rintro e w3 ⟨rfl, hb3⟩; have bx3 := blk_below bx hb3; have z0 := blk_cell bx3 0; have z1 := blk_cell bx3 1; have z2 := blk_cell bx3 2) | (go_at_call 24; refine (impl_isProduct.calls k p.f0 p.f1 p.f2 false _ hp).mono ?_; rintro e w4 ⟨rfl, hb4⟩))
      go_ret2
      exact ⟨_, rfl, Kd.R_nil _ _ _ _ _, below_step (below_step hB0 hb3) hb4⟩
    | true =>
      rw [if_pos rfl] at h
      by_cases hn : l0.length ≤ 1000000
      · rw [if_pos hn] at h
        obtain ⟨n, h1, h⟩ := Option.bind_eq_some_iff.mp h
        obtain ⟨b, h2, h⟩ := Option.bind_eq_some_iff.mp h
        obtain ⟨t3, h3, h⟩ := Option.bind_eq_some_iff.mp h
        have hnl := bsP_le k l0 _ k 0 l0.length n (Nat.zero_le _) h1
        replace h := A_ h
        replace h1 := A_ h1
        replace h2 := A_ h2
        replace h3 := A_ h3
        go_enter Tryz.func6, Tryz.ntmps6
        go_wp2_with (first | (go_at_call 12; refine hval.mono ?_; rintro e w3 ⟨rfl, hb3⟩; have bx3 := blk_below bx hb3; have z0 := blk_cell bx3 0; have z1 := blk_cell bx3 1; have z2 := blk_cell bx3 2) | (go_at_call 24; refine (impl_isProduct.calls k p.f0 p.f1 p.f2 true _ hp).mono ?_; rintro e w4 ⟨rfl, hb4⟩; have bx4 := blk_below bx3 hb4; have hB4 := below_step (below_step hB0 hb3) hb4))
        refine (slices_Clone_impl_Product.calls A0 c0 l0 l0 _ (Kd.C_below hr0 hB4) hc0 (by unfold slices_Clone_impl_Product.f; rw [if_pos (by omega)])).mono ?_
        rintro e w5 ⟨v0, rfl, hR5, hb5⟩
        obtain ⟨A5, c5, rfl⟩ := Kd.R_slice hR5
        obtain ⟨_, hc5, hC5⟩ := Kd.R_reads' hR5
        have bx5 := blk_below bx4 hb5
        have y0 := blk_cell bx5 0
        have y1 := blk_cell bx5 1
        have y2 := blk_cell bx5 2
        have hbs := bs_calls k A5 c5 l0 p n b w5 hC5 hc5 hn h1.out h2.out
        clear hval z0 z1 z2 bx3 bx
        have hR6 := fun (w6 : World) (hb6 : Below w5.heap.size w5 w6) => Kd.R_below hR5 hb6
        cases b with
        | true =>
          have hlt := bsF_lt h2.out
          obtain ⟨g, rfl⟩ := row_form hR5 (by omega)
          have hst := fun (w6 : World) (hb6 : Below w5.heap.size w5 w6) => row_open (Kd.R_below hR5 hb6)
          have hnlt : (n : Int) < (l0.length : Int) := by omega
          have hn0 : (0 : Int) ≤ (n : Int) := by omega
          go_wp2_with (go_at_call 26; refine hbs.mono ?_; rintro e w6 ⟨rfl, hb6⟩; have bx6 := blk_below bx5 hb6; have x0 := blk_cell bx6 0; have x1 := blk_cell bx6 1; have x2 := blk_cell bx6 2; obtain ⟨_, hBg, _, hnc, hm, rest, hx, hl⟩ := hst w6 hb6; obtain ⟨v0, v1, v2, s0, s1, s2, s3, s4, s5, d3⟩ := row_store hx n hlt p)
          have hlen : (l0.set n p).length = l0.length := List.length_set
          have hR7 := row_close (B := w4.heap.size) (ok := fun _ => True) hBg trivial (by rw [hlen]; exact hnc) hm d3 (by rw [List.length_append, flatP_len] at hl; rw [List.length_append, flatP_len, hlen]; exact hl)
          have hset : Below w4.heap.size w6 (((w6.setCell ⟨g, n * 3, none⟩ (.string p.f0)).setCell ⟨g, n * 3 + 1, none⟩ (.int .i64 p.f1)).setCell ⟨g, n * 3 + 2, none⟩ (.string p.f2)) := (((Below.refl _ w6).setCell (p := ⟨g, n * 3, none⟩) hBg _).setCell (p := ⟨g, n * 3 + 1, none⟩) hBg _).setCell (p := ⟨g, n * 3 + 2, none⟩) hBg _
          generalize ((w6.setCell ⟨g, n * 3, none⟩ (.string p.f0)).setCell ⟨g, n * 3 + 1, none⟩ (.int .i64 p.f1)).setCell ⟨g, n * 3 + 2, none⟩ (.string p.f2) = w7 at hR7 hset ⊢
          obtain ⟨_, hc7, hC7⟩ := Kd.R_reads' hR7
          have hval2 := impl_IsValidArchive.calls k _ _ (l0.set n p) t3 w7 hC7 hc7 h3.out
          rw [hlen] at hval2
          have hB7 : Below w.heap.size w w7 := (below_step (below_step hB4 hb5) hb6).trans (hset.mono hB4.size)
          refine hval2.mono ?_
          rintro e w8 ⟨rfl, hb8⟩
          have hout := h.out
          clear h h1 h2 h3 s0 s1 s2 s3 s4 s5 d3 x0 x1 x2 y0 y1 y2 hx hl
          rw [hlen] at hR7
          cases t3 with
          | true =>
            obtain ⟨rfl, rfl⟩ := Prod.mk.inj (Option.some.inj hout)
            go_wp2
            go_ret2
            exact ⟨_, rfl, Kd.R_lower (Kd.R_below hR7 hb8) hB4.size, below_step hB7 hb8⟩
          | false =>
            obtain ⟨rfl, rfl⟩ := Prod.mk.inj (Option.some.inj hout)
            go_wp2
            go_ret2
            exact ⟨_, rfl, Kd.R_nil _ _ _ _ _, below_step hB7 hb8⟩
        | false =>
          go_wp2_with (go_at_call 26; refine hbs.mono ?_; rintro e w6 ⟨rfl, hb6⟩; have bx6 := blk_below bx5 hb6; have x0 := blk_cell bx6 0; have x1 := blk_cell bx6 1; have x2 := blk_cell bx6 2)
          have h3' := h3.out
          have hout := h.out
          change impl_IsValidArchive.f k (l0.take n ++ p :: l0.drop n) = some t3 at h3'
          change (if t3 = true then some (l0.take n ++ p :: l0.drop n, true) else some ([], false)) = some (r1, r2) at hout
          have hB6 := below_step (below_step hB4 hb5) hb6
          have hsz : w4.heap.size ≤ w6.heap.size := Nat.le_trans hb5.size hb6.size
          have hins := insAny n w6.heap.size w4.heap.size (.slice A5 l0.length c5) l0 p (w6.alloc (.cells #[.string p.f0, .int .i64 p.f1, .string p.f2] 26)) (Kd.R_alloc (hR6 w6 hb6) _) (by rw [World.size_alloc]; omega) hn hnl (blk_new w6 _) (fun g hg e => by have := Kd.R_lt (hR6 w6 hb6) g hg; omega)
          have hB7 : Below w.heap.size w (w6.alloc (.cells #[.string p.f0, .int .i64 p.f1, .string p.f2] 26)) := hB6.alloc hB6.size _
          generalize w6.alloc (.cells #[.string p.f0, .int .i64 p.f1, .string p.f2] 26) = w7 at hins hB7 ⊢
          generalize l0.take n ++ p :: l0.drop n = out at hins h3' hout
          clear h h1 h2 h3
          refine hins.mono ?_
          rintro e w8 ⟨v8, rfl, hR8, hb8⟩
          obtain ⟨A8, c8, rfl⟩ := Kd.R_slice hR8
          obtain ⟨_, hc8, hC8⟩ := Kd.R_reads' hR8
          have hval2 := impl_IsValidArchive.calls k A8 c8 out t3 w8 hC8 hc8 h3'
          have hB8 : Below w.heap.size w w8 := hB7.trans (hb8.mono hB4.size)
          clear x0 x1 x2 y0 y1 y2
          cases t3 with
          | true =>
            obtain ⟨rfl, rfl⟩ := Prod.mk.inj (Option.some.inj hout)
            go_wp2_with (go_at_call 12; refine hval2.mono ?_; rintro e w9 ⟨rfl, hb9⟩)
            go_ret2
            exact ⟨_, rfl, Kd.R_lower (Kd.R_below hR8 hb9) hB4.size, below_step hB8 hb9⟩
          | false =>
            obtain ⟨rfl, rfl⟩ := Prod.mk.inj (Option.some.inj hout)
            go_wp2_with (go_at_call 12; refine hval2.mono ?_; rintro e w9 ⟨rfl, hb9⟩)
            go_ret2
            exact ⟨_, rfl, Kd.R_nil _ _ _ _ _, below_step hB8 hb9⟩
      · rw [if_neg hn] at h; cases h
end
set_option maxHeartbeats 8000000 in
set_option maxRecDepth 100000 in
theorem impl_StoreProduct.calls (k : Nat) (A0 : Option Addr) (c0 : Nat) (l0 : List (S26)) (a1_0 : ByteArray) (a1_1 : Int) (a1_2 : ByteArray) (r1 : List (S26)) (r2 : Bool) (w : World) (hr0 : Kd.C k26 w A0 l0.length l0) (hc0 : l0.length ≤ c0) (h : impl_StoreProduct.f k l0 a1_0 a1_1 a1_2 = some (r1, r2)) :
    Calls Tryz.prog 6 #[.slice A0 l0.length c0, .agg #[.string a1_0, .int .i64 a1_1, .string a1_2]] w fun e w' => ∃ v0_ : Value, e = .returned (.tuple #[v0_, .bool r2]) ∧ Kd.R k26 26 w' w.heap.size (fun _ => True) v0_ r1 ∧ Below w.heap.size w w' := by
  exact sto_calls k A0 c0 l0 ⟨a1_0, a1_1, a1_2⟩ r1 r2 w hr0 hc0 h

end Go.Proofs.YtgmmanppmjlclaaGreatDoor.P
