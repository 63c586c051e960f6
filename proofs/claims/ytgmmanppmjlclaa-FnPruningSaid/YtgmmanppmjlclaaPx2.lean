-- Made by pp.py of this session out of the kit's print and of contracts proved by hand; Lean checks it.
import Derived.Shelf.GgSortFunc.RowK
import Derived.Lib.OwnBridge
import Derived.Test.YtgmmanppmjlclaaPx0
namespace Go.Proofs.Ytgmmanppmjlclaa.P
open Go.RowKit Go.Proofs.YtgmmanppmjlclaaW.PrintWords Go.Proofs.YtgmmanppmjlclaaW.PrintLast Go.Proofs.YtgmmanppmjlclaaW.PrintMore
attribute [local go_sem] max2_int min2_int max_two min_two max_three min_three max_four min_four   -- for this text's walks alone
set_option linter.unusedVariables false
set_option linter.unusedSimpArgs false

-- ALONE
/-! ### lib rowsK -/
section
open Go.Sort Go.Lib
variable {α : Type} [Inhabited α]
/-- A kind whose elements' cells are told by the element alone. -/
structure FlatK (kd : Kd α) (enc : α → List Value) (k : Nat) : Prop where
  sz : kd.sz = k
  pos : 0 < k
  len : ∀ x, (enc x).length = k
  M1 : ∀ {w : World} {base : Nat} {ok : Nat → Prop} {x : α} {cs : List Value}, kd.M w base ok x cs → cs = enc x
  M2 : ∀ (w : World) (base : Nat) (ok : Nat → Prop) (x : α), kd.M w base ok x (enc x)
variable {kd : Kd α} {enc : α → List Value} {k : Nat}
theorem FlatK.inner (F : FlatK kd enc k) {w : World} {base : Nat} {ok : Nat → Prop} {xs : List α} {inner : List Value} (h : Reps (kd.M w base ok) kd.sz xs inner) : inner.toArray = flatK enc k xs.toArray := by
  obtain ⟨hl, hr⟩ := h
  rw [F.sz] at hl hr
  have hk := F.pos
  refine ext_get! (by simp [hl]) fun t ht => ?_
  have ht' : t < xs.length * k := by simpa [hl] using ht
  rw [get_flatK _ _ _ _ (by simpa using ht')]
  have hj : t / k < xs.length := (Nat.div_lt_iff_lt_mul hk).2 ht'
  have h1 := F.M1 (hr (t / k) _ (List.getElem?_eq_getElem hj))
  have hm : t % k < k := Nat.mod_lt _ hk
  have e1 : t / k * k + t % k = t := Nat.div_add_mod' t k
  have h2 : ((inner.drop (t / k * k)).take k)[t % k]? = (enc xs[t / k])[t % k]? := by rw [h1]
  rw [List.getElem?_take, if_pos hm, List.getElem?_drop, e1] at h2
  have h3 : t < inner.length := by omega
  have h4 : t % k < (enc xs[t / k]).length := by rw [F.len]; exact hm
  rw [List.getElem?_eq_getElem h3, List.getElem?_eq_getElem h4] at h2
  rw [getElem!_pos inner.toArray t (by simpa using h3), getElem!_pos xs.toArray (t / k) (by simpa using hj)]
  simp only [List.getElem_toArray]
  rw [getElem!_pos (enc xs[t / k]) (t % k) h4]
  exact Option.some.inj h2
theorem FlatK.holds (F : FlatK kd enc k) {e base g n cap : Nat} {ok : Nat → Prop} {w : World} {xs : List α} (h : kd.R e w base ok (.slice (some ⟨g, 0, none⟩) n cap) xs) : HoldsK enc k w g 0 xs.toArray := by
  obtain ⟨_, inner, ho, hr⟩ := h
  have hi := F.inner hr
  rw [F.sz] at ho
  rcases ho.2 with ⟨e0, _⟩ | ⟨g', cap', cur, e0, hb, hg, hn, hm, hs, ht⟩
  · cases e0
  · injection e0 with e1 e2 e3
    injection e1 with e1
    injection e1 with e1
    subst e1; subst e3
    intro t htt
    have htn : t < xs.length * k := by simpa using htt
    refine ⟨?_, by simp [World.frozen?, hg]⟩
    rw [← hi]
    have hl : t < inner.length := by rw [ho.1]; exact htn
    have e4 : (cur.toList.take (xs.length * k))[t]? = inner[t]? := by rw [ht]
    rw [List.getElem?_take, if_pos htn, Array.getElem?_toList, List.getElem?_eq_getElem hl] at e4
    simp only [World.cell?, hg, Nat.zero_add]
    simp only [Option.isSome_none, Bool.false_eq_true, if_false]
    rw [e4, getElem!_pos inner.toArray t (by simpa using hl)]
    simp
theorem own_putFlat {w : World} {base e g n cap q : Nat} {inner : List Value} (k : Nat) (Fl : Array Value) (hF : Fl.size = n * k) (h : w.ownsRow base e k (.slice (some ⟨g, 0, none⟩) n cap) n inner) :
    (putRow id (Sort.ahead w q) g 0 Fl).ownsRow base e k (.slice (some ⟨g, 0, none⟩) n cap) n Fl.toList := by
  rcases h.2 with ⟨e0, _⟩ | ⟨g', cap', cur, e0, hb, hg, hn, hm, hs, ht⟩
  · cases e0
  · injection e0 with e1 _ e3
    injection e1 with e1
    injection e1 with e1
    subst e1; subst e3
    refine ⟨by simpa using hF, .inr ⟨g, cap, putCells id 0 Fl cur, rfl, hb, ?_, hn, hm, by simpa [putCells] using hs, ?_⟩⟩
    · simp [putRow, mapBlock, Sort.ahead, Array.getElem?_modify, hg, onCells]
    · apply List.ext_getElem?
      intro j
      rw [List.getElem?_take, Array.getElem?_toList, Array.getElem?_toList]
      by_cases hj : j < n * k
      · have hjc : j < cur.size := by
          have := Nat.mul_le_mul_right k hn
          omega
        simp only [if_pos hj, putCells, Array.getElem?_mapIdx, Array.getElem?_eq_getElem hjc, Option.map_some]
        rw [if_pos (by simp; omega), Array.getElem?_eq_getElem (by omega)]
        simp [getElem!_pos, show j < Fl.size by omega]
      · simp [hj, hF]
omit [Inhabited α] in
theorem R_growS {d : Kd α} {e base : Nat} {ok : Nat → Prop} {w : World} {v : Value} {xs : List α} (h : d.R e w base ok v xs) (os : Array Obj) : d.R e (grow w os) base ok v xs := Kd.R_step h (fun _ _ hk => heap_grow_old w os hk)
theorem FlatK.put (F : FlatK kd enc k) {e base g n cap : Nat} {ok : Nat → Prop} {w : World} {xs ys : List α} (h : kd.R e w base ok (.slice (some ⟨g, 0, none⟩) n cap) xs) (hy : ys.length = xs.length) (m : Nat) (os : Array Obj) :
    kd.R e (grow (putRowK enc k (Sort.ahead w m) g 0 ys.toArray) os) base ok (.slice (some ⟨g, 0, none⟩) n cap) ys := by
  refine R_growS ?_ os
  obtain ⟨hok, inner, ho, hr⟩ := h
  have hn : n = xs.length := by
    rcases ho.2 with ⟨e0, _⟩ | ⟨_, _, _, e0, _⟩
    · cases e0
    · injection e0
  subst hn
  rw [F.sz] at ho
  have hp := own_putFlat (q := m) k (flatK enc k ys.toArray) (by simp [hy]) ho
  refine ⟨hok, (flatK enc k ys.toArray).toList, by rw [F.sz, hy]; exact hp, by simp [F.sz], fun j p hj => ?_⟩
  obtain ⟨hjl, hjp⟩ := List.getElem?_eq_some_iff.1 hj
  have hk := F.pos
  have : ((flatK enc k ys.toArray).toList.drop (j * kd.sz)).take kd.sz = enc p := by
    rw [F.sz]
    apply List.ext_getElem?
    intro t
    rw [List.getElem?_take]
    by_cases ht : t < k
    · rw [if_pos ht, List.getElem?_drop, Array.getElem?_toList]
      have hlt : j * k + t < ys.toArray.size * k := by
        have := Nat.mul_le_mul_right k (show j + 1 ≤ ys.length from hjl)
        rw [Nat.add_mul, Nat.one_mul] at this
        simp; omega
      have e1 : (j * k + t) / k = j := (blk_iff k j _ hk).1 ⟨by omega, by omega⟩
      have e2 : (j * k + t) % k = t := by rw [Nat.mod_eq_sub_div_mul, e1]; omega
      have h1 := get_flatK enc k ys.toArray (j * k + t) hlt
      rw [e1, e2, getElem!_pos ys.toArray j (by simpa using hjl)] at h1
      rw [getElem!_pos _ _ (by simpa using hlt)] at h1
      rw [Array.getElem?_eq_getElem (by simpa using hlt), h1]
      simp only [List.getElem_toArray, hjp]
      rw [getElem!_pos (enc p) t (by rw [F.len]; exact ht), List.getElem?_eq_getElem (by rw [F.len]; exact ht)]
    · rw [if_neg ht, List.getElem?_eq_none (by rw [F.len]; omega)]
  rw [this]
  exact F.M2 _ _ _ _
omit [Inhabited α] in
theorem below_putGrow {β : Type} [Inhabited β] {enc : β → Value} {B : Nat} {w0 w : World} {g q : Nat} {d : Array β} (h : Below B w0 w) (hB0 : B ≤ w0.heap.size) (hg : B ≤ g) (os : Array Obj) : Below B w0 (grow (putRow enc (Sort.ahead w q) g 0 d) os) := by
  have h1 := Lib.below_putRow (enc := enc) (q := q) (d := d) h hg
  exact ⟨h1.os, h1.tape, h1.output, by have := h1.size; rw [size_grow]; omega, fun k hk => by rw [heap_grow_old _ _ (by have := h1.size; omega)]; exact h1.block k hk⟩
omit [Inhabited α] in
theorem kept_putGrow {β : Type} [Inhabited β] {enc : β → Value} {w : World} {g q : Nat} {d : Array β} (P : Nat → Prop) (hP : P g) (os : Array Obj) : Kept w (grow (putRow enc (Sort.ahead w q) g 0 d) os) P := by
  refine ⟨by simp [putRow, mapBlock, Sort.ahead], fun i hi hn => ?_⟩
  have hne : g ≠ i := fun e => hn (e ▸ hP)
  rw [heap_grow_old _ _ (by simpa [putRow, mapBlock, Sort.ahead] using hi)]
  simp [putRow, mapBlock, Sort.ahead, Array.getElem?_modify, hne]
end

end Go.Proofs.Ytgmmanppmjlclaa.P
