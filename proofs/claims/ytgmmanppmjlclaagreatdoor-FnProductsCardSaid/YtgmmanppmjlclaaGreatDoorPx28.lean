-- Made by pp.py of this session out of the kit's print and of contracts proved by hand; Lean checks it.
import Derived.Test.YtgmmanppmjlclaaGreatDoorMc
import Derived.Test.YtgmmanppmjlclaaGreatDoorShelf
import Derived.RangeFuncNested
import Derived.RangeFuncBound
import Derived.RangeFuncCalls
import Derived.RangeFuncLeaves
import Derived.Shelf.Abstract
import Derived.Shelf.RegionOpen
import Derived.WalkKit
import Derived.OwnWalkIn
import Derived.TacticsInMore
import Derived.LoopNIn
import Derived.LoopIn
import Derived.Lib.Bytealg
import Derived.Laws.AppendOwn
import Derived.Laws.OwnMore
import Derived.Lib.SmallJoins
import Derived.Deep.Onto
import Derived.Lib.OwnKind
import Derived.Test.YtgmmanppmjlclaaGreatDoorPx0
import Derived.Test.YtgmmanppmjlclaaGreatDoorPx14
import Derived.Test.YtgmmanppmjlclaaGreatDoorPx20
import Derived.Test.YtgmmanppmjlclaaGreatDoorPx25
import Derived.Test.YtgmmanppmjlclaaGreatDoorPx26
import Derived.Test.YtgmmanppmjlclaaGreatDoorPx27
namespace Go.Proofs.YtgmmanppmjlclaaGreatDoor.P
open Go.RowKit Go.Proofs.YtgmmanppmjlclaaGreatDoorW.PrintWords Go.Proofs.YtgmmanppmjlclaaGreatDoorW.PrintLast Go.Proofs.YtgmmanppmjlclaaGreatDoorW.PrintMore
attribute [local go_sem] max2_int min2_int max_two min_two max_three min_three max_four min_four   -- for this text's walks alone
set_option linter.unusedVariables false
set_option linter.unusedSimpArgs false

-- ALONE
/-! ### impl_ParseArchive: function 16 -/
section
open Go.Shelf
set_option linter.unusedVariables false
section
variable {F : Fence} {n : Nat} {P : Program}
/-- What holds abides a write of the variable in block B. -/
def CellOk {β : Type} (B : Nat) (J : β → World → Prop) : Prop := ∀ s W v, J s W → J s (W.setCell ⟨B, 0, none⟩ v)
/-- What an iterator answers that keeps its state in the variable of block B: the caller's word abides its writes. -/
def SeqCell {α : Type} (F : Fence) (n : Nat) (P : Program) (g : Nat) (lb : Array Value) (enc : α → Value) (B : Nat) (S Sp : List α → Prop) (N : Nat) (w : World) : Prop :=
  ∀ (l : Nat) (J Jx : List α → World → Prop) (W : World), W.heap[B]? = w.heap[B]? → AbidesFrom W.heap.size J → AbidesFrom W.heap.size Jx → CellOk B J → CellOk B Jx →
    (∀ pre x W1, J pre W1 → pre.length < N → YieldAt F (n - 1) P l #[enc x] W1 fun e W' =>
      (e = .returned (.bool true) ∧ J (pre ++ [x]) W' ∧ W'.heap[B]? = W1.heap[B]?) ∨ (e = .returned (.bool false) ∧ Jx (pre ++ [x]) W')) →
    J [] W → CallsIn F n P g (#[.func (.yield l) #[] #[]] ++ lb) W fun e W' => (∃ v, e = .returned v) ∧ ((∃ xs, S xs ∧ J xs W') ∨ (∃ pre, Sp pre ∧ Jx pre W'))
theorem obj_cell (W : World) (B l : Nat) (v : Value) {o : Obj} (h : W.heap[l]? = some o) (ho : o.isCells = false) : (W.setCell ⟨B, 0, none⟩ v).heap[l]? = some o := (KeepsOthers.setCell W ⟨B, 0, none⟩ v).same l o h ho
/-- The range over such an iterator (its loop variable is not boxed). -/
theorem range_cell {α : Type} (B : Nat) {g : Operand} {ps : Array Tmp} {assign body : Code} {Q : Exit → Act → World → Prop} {a : Act} {w : World}
    (hro : F.round = none) (h1 : 1 ≤ n) {gf : Nat} {lb : Array Value} (hg : a.eval g = .func (.func gf) #[] lb) (hFg : F.fn gf) (eg : ∀ args w, (callFunc gf args).run P w = .ok (.enter gf args) w)
    {enc : α → Value} {S Sp : List α → Prop} {N : Nat} (hB : B < w.heap.size) (hseq : SeqCell F (n - 1) P gf lb enc B S Sp N w) (hps : ps.size = 1)
    (I : List α → World → Prop) (Ix : Code → List α → World → Prop) (hI : OwnFrom w.heap.size I) (hIx : ∀ c, OwnFrom w.heap.size (Ix c)) (kI : CellOk B I) (kIx : ∀ c, CellOk B (Ix c)) (h0 : I [] w) (a₁ : α → Act)
    (hassign : ∀ (l : Nat) (x : α) (W : World) (K : Act → World → Prop), K (a₁ x) W →
      assign.wpIn (F.inRound l) (n - 1 - 1) P (Exit.then K (fun _ _ _ => False)) { tmps := (ps.zip #[enc x]).foldl (fun t (p, v) => t.setIfInBounds p v) a.tmps, defers := [] } W)
    (hbody : ∀ (l : Nat) (pre : List α) (x : α) (W : World), I pre W → pre.length < N → body.wpIn (F.inRound l) (n - 1 - 1) P (ownPostG w.heap.size (fun A C => C.heap[B]? = A.heap[B]?) I Ix (pre ++ [x]) W) (a₁ x) W)
    (hdone : ∀ (D : Nat) (xs : List α) (W : World), w.heap.size ≤ D → S xs → I xs W → W.heap[D]? = some (.deferred (some [])) → Q .normal { a with defers := { target := .collected D, args := #[] } :: a.defers } W)
    (hstop : ∀ (D : Nat) (c : Code) (pre : List α) (W : World), w.heap.size ≤ D → Sp pre → Ix c pre W → W.heap[D]? = some (.deferred (some [])) → c.wpIn F n P Q { a with defers := { target := .collected D, args := #[] } :: a.defers } W) :
    (Code.rangeFunc g ps assign body).wpIn F n P Q a w := by
  refine wpIn_rangeFunc fun fn hfn => ?_
  rw [hro]
  generalize hr : (fun (st : LoopState) (pe : Option Code) => ({ state := st, pending := pe, fn, tmps := a.tmps, params := ps, assign, body, defers := w.heap.size } : Loop)) = R
  have hR : ∀ st pe, R st pe = { state := st, pending := pe, fn, tmps := a.tmps, params := ps, assign, body, defers := w.heap.size } := fun st pe => by rw [← hr]
  generalize hW : (w.alloc (.deferred (some []))).alloc (.loop (R .ready none)) = V
  have hs : V.heap.size = w.heap.size + 2 := by rw [← hW]; simp
  have vl : V.heap[w.heap.size + 1]? = some (.loop (R .ready none)) := by
    have h := World.alloc_heap_new (w.alloc (.deferred (some []))) (.loop (R .ready none))
    rw [World.size_alloc, hW] at h; exact h
  have vd : V.heap[w.heap.size]? = some (.deferred (some [])) := by
    rw [← hW]; exact (Below.heap_alloc _ _ _ (by simp)).trans (World.alloc_heap_new w _)
  have vb : V.heap[B]? = w.heap[B]? := by
    rw [← hW]; exact (Below.heap_alloc _ _ _ (by simp; omega)).trans (Below.heap_alloc _ _ _ hB)
  have vi : I [] V := by rw [← hW]; exact hI.alloc _ (hI.alloc _ h0)
  refine ⟨w.heap.size + 1, [{ target := .collected w.heap.size, args := #[] }], V, { target := .fn (.func gf) lb, args := #[.func (.yield (w.heap.size + 1)) #[] #[]] }, V, gf,
    #[.func (.yield (w.heap.size + 1)) #[] #[]] ++ lb, V, by rw [← hW, hR]; exact run_enterLoop_outer _ _ _ _ _, ?_, fun f' hf' => ?_, ?_, fun _ => h1, ?_⟩
  · simp only [resolve, hg]
    simp [go_sem]
  · simp [Target.leads] at hf'; subst hf'; exact hFg
  · simp [invoke, go_sem, eg]
  have hwalk : ∀ {A : World} {row : Option Nat}, (∀ r, row = some r → V.heap.size ≤ r ∧ ∃ o : Obj, A.heap[r]? = some o ∧ o.isWalk = true) → ∀ r, row = some r → w.heap.size ≤ r ∧ ∃ o : Obj, A.heap[r]? = some o ∧ o.isCells = false :=
    fun h r e => by obtain ⟨h2, o, ho, hw⟩ := h r e; exact ⟨by omega, o, ho, Obj.not_cells_of_walk hw⟩
  refine (hseq (w.heap.size + 1)
    (fun pre W => I pre W ∧ W.heap[w.heap.size + 1]? = some (.loop (R .ready none)) ∧ W.heap[w.heap.size]? = some (.deferred (some [])))
    (fun pre W => ∃ c, Ix c pre W ∧ W.heap[w.heap.size + 1]? = some (.loop (R .done (some c))) ∧ W.heap[w.heap.size]? = some (.deferred (some [])))
    V vb ?_ ?_ ?_ ?_ ?_ ⟨vi, vl, vd⟩).mono ?_
  · intro s X Y row hs' hg' hr'
    exact ⟨hI s X Y row hs'.1 hg' (hwalk hr'), (grownBy_keeps hg' (fun r e => (hr' r e).2) hs'.2.1 rfl).trans hs'.2.1, (grownBy_keeps hg' (fun r e => (hr' r e).2) hs'.2.2 rfl).trans hs'.2.2⟩
  · rintro s X Y row ⟨c, k1, k2, k3⟩ hg' hr'
    exact ⟨c, hIx c s X Y row k1 hg' (hwalk hr'), (grownBy_keeps hg' (fun r e => (hr' r e).2) k2 rfl).trans k2, (grownBy_keeps hg' (fun r e => (hr' r e).2) k3 rfl).trans k3⟩
  · rintro s X v ⟨k1, k2, k3⟩
    exact ⟨kI s X v k1, obj_cell X B _ v k2 rfl, obj_cell X B _ v k3 rfl⟩
  · rintro s X v ⟨c, k1, k2, k3⟩
    exact ⟨c, kIx c s X v k1, obj_cell X B _ v k2 rfl, obj_cell X B _ v k3 rfl⟩
  · -- a round
    rintro pre x X ⟨ki, kl, kd⟩ hN
    have hlt : w.heap.size + 1 < X.heap.size := (Array.getElem?_eq_some_iff.1 kl).1
    have hy := run_yield (P := P) (args := #[enc x]) kl (by rw [hR]; simp [hps])
    rw [hR] at hy
    refine ⟨fn, _, assign, body, hy, roundIn_of_wpIn hfn (hassign _ x X _ ?_)⟩
    clear hy
    refine ⟨_, run_beginRound kl (by rw [hR]), ?_⟩
    generalize hY : X.putObj (w.heap.size + 1) (.loop { R .ready none with state := .busy }) = Y
    have yl : Y.heap[w.heap.size + 1]? = some (.loop { R .ready none with state := .busy }) := by rw [← hY]; exact World.putObj_heap_same hlt
    have yd : Y.heap[w.heap.size]? = some (.deferred (some [])) := by rw [← hY]; exact (World.putObj_heap_other (by omega)).trans kd
    have yb : Y.heap[B]? = X.heap[B]? := by rw [← hY]; exact World.putObj_heap_other (by omega)
    have yi : I pre Y := by rw [← hY]; exact hI.putObj _ ki (by omega) kl rfl
    refine wpIn_mono (hbody _ pre x Y yi hN) ?_
    have fin : ∀ (jump : Option Code) (Z : World), KeepsFrom w.heap.size Y Z →
        (Instr.endRound (w.heap.size + 1) jump).run P Z = .ok (.bool jump.isNone) (Z.putObj (w.heap.size + 1) (.loop (R (if jump.isNone then .ready else .done) jump))) ∧
        Z.heap[w.heap.size + 1]? = some (.loop { R .ready none with state := .busy }) ∧
        (Z.putObj (w.heap.size + 1) (.loop (R (if jump.isNone then .ready else .done) jump))).heap[w.heap.size + 1]? = some (.loop (R (if jump.isNone then .ready else .done) jump)) ∧
        (Z.putObj (w.heap.size + 1) (.loop (R (if jump.isNone then .ready else .done) jump))).heap[w.heap.size]? = some (.deferred (some [])) := by
      intro jump Z hk
      have zl := hk.same _ _ (by omega) yl rfl
      refine ⟨?_, zl, World.putObj_heap_same (Array.getElem?_eq_some_iff.1 zl).1, (World.putObj_heap_other (by omega)).trans (hk.same _ _ (Nat.le_refl _) yd rfl)⟩
      have := run_endRound (P := P) jump zl
      rw [hR] at this
      rw [hR]; exact this
    rintro e a3 Z hp
    cases e with
    | normal =>
      obtain ⟨hk, hb, hi⟩ := hp
      obtain ⟨f1, f2, f3, f4⟩ := fin none Z hk
      exact ⟨_, _, f1, .inl ⟨rfl, ⟨hI.putObj _ hi (by omega) f2 rfl, f3, f4⟩, ((World.putObj_heap_other (by omega)).trans hb).trans yb⟩⟩
    | ret =>
      obtain ⟨hk, hi⟩ := hp
      obtain ⟨f1, f2, f3, f4⟩ := fin (some .ret) Z hk
      exact ⟨_, _, f1, .inr ⟨rfl, .ret, (hIx _).putObj _ hi (by omega) f2 rfl, f3, f4⟩⟩
    | exit id =>
      obtain ⟨hk, hi⟩ := hp
      obtain ⟨f1, f2, f3, f4⟩ := fin (some (.exit id)) Z hk
      exact ⟨_, _, f1, .inr ⟨rfl, .exit id, (hIx _).putObj _ hi (by omega) f2 rfl, f3, f4⟩⟩
    | goto t =>
      obtain ⟨hk, hi⟩ := hp
      obtain ⟨f1, f2, f3, f4⟩ := fin (some (.goto t)) Z hk
      exact ⟨_, _, f1, .inr ⟨rfl, .goto t, (hIx _).putObj _ hi (by omega) f2 rfl, f3, f4⟩⟩
    | panic ch => exact hp.elim
    | outgrown => exact hp.elim
  · -- behind the iterator
    rintro e X ⟨⟨v, rfl⟩, (⟨xs, hS, ki, kl, kd⟩ | ⟨pre, hSp, c, ki, kl, kd⟩)⟩
    · have h := run_endLoop (P := P) kl (by rw [hR]; simp)
      rw [hR] at h
      exact ⟨none, _, h, hdone _ xs _ (Nat.le_refl _) hS (hI.putObj _ ki (by omega) kl rfl) ((World.putObj_heap_other (by omega)).trans kd)⟩
    · have h := run_endLoop (P := P) kl (by rw [hR]; simp)
      rw [hR] at h
      exact ⟨some c, _, h, hstop _ c pre _ (Nat.le_refl _) hSp ((hIx c).putObj _ ki (by omega) kl rfl) ((World.putObj_heap_other (by omega)).trans kd)⟩
end
attribute [local go_sem] Oper.semAt_some
/-- Where the first line of a text ends. -/
def lnEnd (s : ByteArray) : Int := Lib.indexByte s.data.toList 10
def lnHead (s : ByteArray) : ByteArray := if 0 ≤ lnEnd s then s.extract 0 (lnEnd s + 1).toNat else s
def lnTail (s : ByteArray) : ByteArray := if 0 ≤ lnEnd s then s.extract (lnEnd s + 1).toNat s.size else ⟨#[]⟩
def lnK : Nat → ByteArray → List ByteArray
  | 0, _ => []
  | k + 1, s => if 0 < s.size then lnHead s :: lnK k (lnTail s) else []
/-- The lines of a text, each with the newline that ends it. -/
def lnS (s : ByteArray) : List ByteArray := lnK s.size s
theorem indexByte_lt : ∀ (l : List UInt8) (c : UInt8), Lib.indexByte l c < (l.length : Int) ∧ -1 ≤ Lib.indexByte l c
  | [], _ => by simp [Lib.indexByte]
  | b :: l, c => by
    have h := indexByte_lt l c
    unfold Lib.indexByte
    split
    · simp only [List.length_cons]; omega
    · split
      · simp only [List.length_cons]; omega
      · simp only [List.length_cons]; omega
theorem lnEnd_lt (s : ByteArray) : lnEnd s < (s.size : Int) ∧ -1 ≤ lnEnd s := by
  have h := indexByte_lt s.data.toList 10
  have e : s.data.toList.length = s.size := by rw [Array.length_toList]; rfl
  rw [e] at h; exact h
theorem lnTail_size (s : ByteArray) (h : 0 < s.size) : (lnTail s).size < s.size := by
  have h1 := lnEnd_lt s
  unfold lnTail
  split
  · rw [ByteArray.size_extract]; omega
  · show 0 < s.size; exact h
def szAt (B : Nat) (w : World) : Nat := match w.cell? ⟨B, 0, none⟩ with
  | some (.string r) => r.size
  | _ => 0
theorem szAt_eq {B : Nat} {w : World} {r : ByteArray} (h : w.cell? ⟨B, 0, none⟩ = some (.string r)) : szAt B w = r.size := by unfold szAt; rw [h]
theorem cut_ {G T : Prop} (f : G → T) (g : G) : T := f g
set_option maxRecDepth 100000 in
set_option maxHeartbeats 4000000 in
theorem lines_cell (p : ByteArray → Prop) (n : Nat) (hn : 1 ≤ n) (Bs : Nat) (s : ByteArray) (hs : s.size ≤ 1073741824) (hp : ∀ x ∈ lnS s, p x) (w0 : World) (hb0 : w0.heap[Bs]? = some (.cells #[.string s] 9 (0, 0))) :
    SeqCell Fence.wide n Tryz.prog 63 #[.pointer (some ⟨Bs, 0, none⟩)] (fun x : {x : ByteArray // p x} => Value.string x.1) Bs (fun xs => xs.map (·.1) = lnS s) (fun pre => ∃ t, pre.map (·.1) ++ t = lnS s) (lnS s).length w0 := by
  intro l J Jx W hW hJ hJx cJ cJx hY h0
  have hbW := hW.trans hb0
  refine callsIn_of_wp Tryz.func63 rfl trivial ?_ rfl
  simp only [Tryz.ntmps63, List.size_toArray, List.length_cons, List.length_nil, Nat.reduceAdd, Nat.reduceSub, Array.replicate_succ, Array.replicate_zero, List.push_toArray, List.append_toArray, List.nil_append, List.cons_append]
  gi_wp2
  gi_loopw [3, 4] (fun _ _ wr => ∃ (k : Nat) (pre : List {x : ByteArray // p x}) (rest : ByteArray), rest.size ≤ k ∧ k ≤ s.size ∧ pre.map (·.1) ++ lnK k rest = lnS s ∧ J pre wr ∧ wr.heap[Bs]? = some (.cells #[.string rest] 9 (0, 0)))
    (fun _ _ wr => szAt Bs wr)
  case atStart => exact ⟨s.size, [], s, Nat.le_refl _, Nat.le_refl _, rfl, h0, hbW⟩
  case round =>
    obtain ⟨k, pre, rest, hrk, hks, hpre, hj, bS⟩ := hrel
    have hc := blk_cell bS 0
    have hf := blk_frozen bS 0
    have hJd : ∀ W', J pre W' → J pre W'.drew := fun W' h => hJ pre W' W'.drew none h ⟨rfl, rfl, rfl, Nat.le_refl _, fun k hk _ => rfl⟩ (fun r e => by cases e)
    obtain ⟨hl1, hl2⟩ := lnEnd_lt rest
    by_cases hlt : 0 < rest.size
    · have hk0 : k ≠ 0 := by omega
      obtain ⟨k', rfl⟩ : ∃ k', k = k' + 1 := ⟨k - 1, by omega⟩
      have hpre0 : (pre.map (·.1) ++ [lnHead rest]) ++ lnK k' (lnTail rest) = lnS s := by rw [← hpre, lnK, if_pos hlt]; simp
      have hph : p (lnHead rest) := hp _ (by rw [← hpre0]; simp)
      have hpre1 : (pre ++ [(⟨lnHead rest, hph⟩ : {x : ByteArray // p x})]).map (·.1) ++ lnK k' (lnTail rest) = lnS s := by rw [← hpre0]; simp
      have hN : pre.length < (lnS s).length := by rw [← hpre0]; simp
      have hts := lnTail_size rest hlt
      have hY1 := fun (w2 : World) (hj : J pre w2) => hY pre ⟨lnHead rest, hph⟩ w2 hj hN
      have d0 : decide ((rest.size : Int) > 0) = true := decide_eq_true (by omega)
      have hz : (rest.size : Int) ≤ 1073741824 := by omega
      have PP := A_ hpre1
      have HT := A_ hts
      have HK := A_ hrk
      have HKs := A_ hks
      have HX := A_ (fun W => Tryz.strings_IndexByte rest 10 W)
      clear hpre0 hpre hY hrk hks hN hts h0 hb0 hW hbW
      dsimp only at hY1
      generalize (⟨lnHead rest, hph⟩ : {x : ByteArray // p x}) = X at hY1 PP
      by_cases hi : 0 ≤ lnEnd rest
      · have eh : lnHead rest = rest.extract 0 (lnEnd rest + 1).toNat := by unfold lnHead; rw [if_pos hi]
        have et : lnTail rest = rest.extract (lnEnd rest + 1).toNat rest.size := by unfold lnTail; rw [if_pos hi]
        have hx : Lib.indexByte rest.data.toList (10 : Int).toNat.toUInt8 = lnEnd rest := rfl
        rw [hx] at HX
        rw [eh] at hY1
        rw [et] at PP HT
        clear eh et
        generalize lnEnd rest = j at *
        have hw1 : IntKind.i64.wrap (j + 1) = j + 1 := by rw [i64_w]; unfold wrap64; omega
        have hw2 : wrap64 (j + 1) = j + 1 := by unfold wrap64; omega
        have c1 : decide (j ≥ 0) = true := decide_eq_true hi
        have c2 : (0 : Int) ≤ j + 1 := by omega
        have c3 : j + 1 ≤ (rest.size : Int) := by omega
        obtain ⟨fn, tmps, assign, body, hy, hR⟩ := hY1 ((wr.setCell ⟨Bs, 0, none⟩ (.string (rest.extract (j + 1).toNat rest.size))).drew) (hJd _ (cJ _ _ _ hj))
        have bS1 := A_ (blk_drew (blk_set bS 0 (Value.string (rest.extract (j + 1).toNat rest.size))))
        have hm0 := A_ (szAt_eq (show wr.cell? ⟨Bs, 0, none⟩ = some (.string rest) from hc))
        clear hY1 hj hJd
        gi_wp2_with (first | (refine ⟨trivial, ?_⟩; gi_at_call 64; refine (callsIn_wide.2 (HX.out _)).mono ?_; rintro e w' ⟨rfl, rfl⟩))
        apply cut_
        · intro hh
          gi_region
          all_goals exact hh
        ·
          gi_wp2
          refine hR.mono ?_
          rintro e W3 (⟨rfl, hJ3, hk3⟩ | ⟨rfl, hJx3⟩)
          · have bS3 := hk3.trans bS1.out
            simp only [List.setIfInBounds_toArray, List.set_cons_zero] at bS3
            have hs3 := blk_cell bS3 0
            gi_wp2
            go_roundw
            case rel => exact ⟨k', _, _, by have := HT.out; have := HK.out; omega, by have := HKs.out; omega, PP.out, hJ3, bS3⟩
            case measure => rw [szAt_eq (show W3.cell? ⟨Bs, 0, none⟩ = some (.string (rest.extract (j + 1).toNat rest.size)) from hs3), hm0.out]; exact HT.out
          · gi_wp2
            refine bodyPost_ret (results_none rfl _ _ _) rfl ?_
            exact ⟨⟨_, rfl⟩, .inr ⟨_, ⟨_, PP.out⟩, hJx3⟩⟩
      · have eh : lnHead rest = rest := by unfold lnHead; rw [if_neg hi]
        have et : lnTail rest = ⟨#[]⟩ := by unfold lnTail; rw [if_neg hi]
        have hx : Lib.indexByte rest.data.toList (10 : Int).toNat.toUInt8 = lnEnd rest := rfl
        rw [hx] at HX
        rw [eh] at hY1
        rw [et] at PP HT
        clear eh et
        generalize lnEnd rest = j at *
        have c1 : decide (j ≥ 0) = false := decide_eq_false hi
        obtain ⟨fn, tmps, assign, body, hy, hR⟩ := hY1 (wr.setCell ⟨Bs, 0, none⟩ (.string ⟨#[]⟩)) (cJ _ _ _ hj)
        have bS1 := A_ (blk_set bS 0 (Value.string ⟨#[]⟩))
        have hm0 := A_ (szAt_eq (show wr.cell? ⟨Bs, 0, none⟩ = some (.string rest) from hc))
        clear hY1 hj hJd
        gi_wp2_with (first | (refine ⟨trivial, ?_⟩; gi_at_call 64; refine (callsIn_wide.2 (HX.out _)).mono ?_; rintro e w' ⟨rfl, rfl⟩))
        refine hR.mono ?_
        rintro e W3 (⟨rfl, hJ3, hk3⟩ | ⟨rfl, hJx3⟩)
        · have bS3 := hk3.trans bS1.out
          simp only [List.setIfInBounds_toArray, List.set_cons_zero] at bS3
          have hs3 := blk_cell bS3 0
          gi_wp2
          go_roundw
          case rel => exact ⟨k', _, _, by have := HT.out; have := HK.out; omega, by have := HKs.out; omega, PP.out, hJ3, bS3⟩
          case measure => rw [szAt_eq (show W3.cell? ⟨Bs, 0, none⟩ = some (.string ⟨#[]⟩) from hs3), hm0.out]; exact HT.out
        · gi_wp2
          refine bodyPost_ret (results_none rfl _ _ _) rfl ?_
          exact ⟨⟨_, rfl⟩, .inr ⟨_, ⟨_, PP.out⟩, hJx3⟩⟩
    · have d0 : decide ((rest.size : Int) > 0) = false := decide_eq_false (by omega)
      have hE : pre.map (·.1) = lnS s := by
        rw [← hpre]
        cases k with
        | zero => simp [lnK]
        | succ k => simp [lnK, hlt]
      gi_wp2
      go_end0
      exact ⟨⟨_, rfl⟩, .inl ⟨_, hE, hj⟩⟩
def encA (x : S26) : List Value := [.string x.f0, .int .i64 x.f1, .string x.f2]
def flatA (xs : List S26) : List Value := xs.flatMap encA
theorem flatA_len (xs : List S26) : (flatA xs).length = xs.length * 3 := by
  induction xs with
  | nil => rfl
  | cons x xs ih => simp [flatA, encA] at ih ⊢; omega
theorem flatA_app (xs ys : List S26) : flatA (xs ++ ys) = flatA xs ++ flatA ys := by simp [flatA]
theorem flatA_reps (w : World) (B : Nat) (ok : Nat → Prop) (xs : List S26) : Reps (k26.M w B ok) 3 xs (flatA xs) := by
  refine ⟨by rw [flatA_len], fun j p hj => ?_⟩
  obtain ⟨hjl, hjp⟩ := List.getElem?_eq_some_iff.1 hj
  have : ((flatA xs).drop (j * 3)).take 3 = encA p := by
    conv => lhs; rw [← List.take_append_drop j xs, flatA_app, List.drop_eq_getElem_cons hjl, hjp]
    rw [List.drop_append_of_le_length (by rw [flatA_len]; simp; omega), List.drop_of_length_le (by rw [flatA_len]; simp; omega)]
    simp [flatA, encA]
  rw [this]
  exact k26_mkM w B ok p
/-- A row of products, as the walk of an append keeps it. -/
theorem rowA {w : World} {B : Nat} {v : Value} {xs : List S26} (h : w.ownsRow B 26 3 v xs.length (flatA xs)) : Kd.R k26 26 w B (fun _ => True) v xs :=
  ⟨fun _ _ => trivial, flatA xs, h, flatA_reps _ _ _ _⟩
/-- What a line becomes: a product, or none if its hour is no number. -/
def paStep (x : ByteArray) : Option (Option S26) := (strings_TrimSuffix.f x ⟨#[10]⟩).bind fun t => (strings_Cut.f t ⟨#[32]⟩).bind fun c => (strings_Cut.f c.2.1 ⟨#[32]⟩).bind fun d => (impl_ParseInt.f d.1).bind fun n => some (if n.2 = true then some ⟨c.1, n.1, d.2.1⟩ else none)
/-- The same from behind: what stands when the lines pre are read. -/
def paFold : List ByteArray → List S26 → Option (List S26)
  | [], acc => some acc
  | x :: r, acc => match paStep x with
    | some (some p) => paFold r (acc ++ [p])
    | _ => none
theorem paFold_app : ∀ (a b : List ByteArray) (acc : List S26), paFold (a ++ b) acc = (paFold a acc).bind (paFold b)
  | [], b, acc => rfl
  | x :: a, b, acc => by
    simp only [List.cons_append, paFold]
    split
    · exact paFold_app a b _
    · rfl
def impl_ParseArchive.f (k : Nat) (s : ByteArray) : Option (List S26 × Bool) :=
  if s.size > 4000 then some ([], false) else
  if (lnS s).all (fun x => (paStep x).isSome) = true then (match paFold (lnS s) [] with
    | none => some ([], false)
    | some l => (impl_IsValidArchive.f k l).bind fun b => if b = true then (impl_archiveText.f l).bind fun t => (if (t.toList == s.toList) = true then some (l, true) else some ([], false)) else some ([], false)) else none
set_option maxHeartbeats 1000000 in
theorem lines_mk (n : Nat) (s : ByteArray) (w : World) :
    CallsIn Fence.wide n Tryz.prog 37 #[.string s] w fun e w' => e = .returned (.func (.func 63) #[] #[.pointer (some ⟨w.heap.size, 0, none⟩)]) ∧ w' = w.alloc (.cells #[.string s] 9) := by
  refine callsIn_of_wp Tryz.func37 rfl trivial ?_ rfl
  simp only [Tryz.ntmps37, List.size_toArray, List.length_cons, List.length_nil, Nat.reduceAdd, Nat.reduceSub, Array.replicate_succ, Array.replicate_zero, List.push_toArray, List.append_toArray, List.nil_append, List.cons_append]
  gi_wp2
  go_ret
  exact ⟨rfl, rfl⟩
theorem objK {A B : World} {row : Option Nat} {g : Nat} {cs : Array Value} {t : TypeId} (h : A.heap[g]? = some (.cells cs t (0, 0))) (hg : A.grownBy B row) (hr : ∀ r, row = some r → ∃ o : Obj, A.heap[r]? = some o ∧ o.isCells = false) : B.heap[g]? = some (.cells cs t (0, 0)) :=
  blk_grown h hg (fun e => by obtain ⟨o, ho, hc⟩ := hr g e.symm; rw [h] at ho; cases ho; cases hc)
theorem rowK {A B : World} {row : Option Nat} {n0 e size n : Nat} {v : Value} {xs : List Value} (h : A.ownsRow n0 e size v n xs) (hg : A.grownBy B row) (hr : ∀ r, row = some r → ∃ o : Obj, A.heap[r]? = some o ∧ o.isCells = false) : B.ownsRow n0 e size v n xs := by
  refine h.kept hg ?_
  cases hv : v.ownBlock with
  | none => exact .inl rfl
  | some g =>
    refine .inr (fun e => ?_)
    obtain ⟨c, fz, hc⟩ := Lib.ownsRow_kind h g hv
    obtain ⟨o, ho, hn⟩ := hr g e.symm
    rw [hc] at ho
    cases ho
    cases hn
theorem infoPp_ : (Tryz.prog.info? 26).map (fun i => (i.zero, i.size, i.bytes)) = some (some (.agg #[.string ⟨#[]⟩, .int .i64 0, .string ⟨#[]⟩]), 3, 40) := by kernel_rfl
theorem lnK_len : ∀ (k : Nat) (s : ByteArray), (lnK k s).length ≤ k
  | 0, _ => by simp [lnK]
  | k + 1, s => by
    have := lnK_len k (lnTail s)
    simp only [lnK]
    split
    · simp; omega
    · simp
theorem ad_cell {W : World} {cs : Array Value} {j : Nat} {u : Value} (h : cs[j]? = some u) : (W.alloc (.cells cs 26)).cell? ((⟨W.heap.size, 0, none⟩ : Addr).add j) = some u := by
  rw [Addr.add_lit, Nat.zero_add, blk_cell (blk_new W (.cells cs 26 (0, 0)))]
  exact h
theorem pa_end {w W1 W WA w3 : World} {v v1 : Value} {acc : List S26} {p : S26} (hsz : W1.heap.size = w.heap.size + 4) (hsW : W1.heap.size ≤ W.heap.size) (hBW : Below w.heap.size w W) (BKA : Below W.heap.size W WA)
    (b0 : W.heap[w.heap.size]? = some (.cells #[.slice none 0 0] 24 (0, 0))) (b1 : W.heap[w.heap.size + 1]? = some (.cells #[.bool false] 4 (0, 0))) (b2 : W.heap[w.heap.size + 2]? = some (.cells #[v] 24 (0, 0)))
    (how : W.ownsRow W1.heap.size 26 3 v acc.length (flatA acc)) (hown : w3.ownsRow W1.heap.size 26 3 v1 (acc.length + 1) (flatA acc ++ encA p)) (hg : (WA.alloc (.cells #[.string p.f0, .int .i64 p.f1, .string p.f2] 26)).grownBy w3 v.ownBlock) :
    w3.heap[w.heap.size + 2]? = some (.cells #[v] 24 (0, 0)) ∧ KeepsFrom W1.heap.size W (w3.setCell ⟨w.heap.size + 2, 0, none⟩ v1) ∧ (w3.setCell ⟨w.heap.size + 2, 0, none⟩ v1).heap[w.heap.size + 3]? = W.heap[w.heap.size + 3]? ∧
      (w3.setCell ⟨w.heap.size + 2, 0, none⟩ v1).heap[w.heap.size]? = some (.cells #[.slice none 0 0] 24 (0, 0)) ∧ (w3.setCell ⟨w.heap.size + 2, 0, none⟩ v1).heap[w.heap.size + 1]? = some (.cells #[.bool false] 4 (0, 0)) ∧
      (w3.setCell ⟨w.heap.size + 2, 0, none⟩ v1).heap[w.heap.size + 2]? = some (.cells #[v1] 24 (0, 0)) ∧ (w3.setCell ⟨w.heap.size + 2, 0, none⟩ v1).ownsRow W1.heap.size 26 3 v1 (acc ++ [p]).length (flatA (acc ++ [p])) ∧
      W1.heap.size ≤ (w3.setCell ⟨w.heap.size + 2, 0, none⟩ v1).heap.size ∧ Below w.heap.size w (w3.setCell ⟨w.heap.size + 2, 0, none⟩ v1) := by
  have hrow : ∀ g, v.ownBlock = some g → W1.heap.size ≤ g := fun g hg => (how.lt g hg).1
  have hBA := below_alloc BKA (.cells #[.string p.f0, .int .i64 p.f1, .string p.f2] 26)
  have hsA := hBA.size
  have hs3 := hg.size
  have keep : ∀ g, g < W1.heap.size → w3.heap[g]? = W.heap[g]? := fun g hgl => (hg.block g (by omega) (fun e => by have := hrow g e.symm; omega)).trans (hBA.block g (by omega))
  have k1 : KeepsOthers W (WA.alloc (.cells #[.string p.f0, .int .i64 p.f1, .string p.f2] 26)) := ⟨hsA, fun k o hk _ => (hBA.block k (Array.getElem?_eq_some_iff.1 hk).1).trans hk⟩
  have k2 : KeepsOthers (WA.alloc (.cells #[.string p.f0, .int .i64 p.f1, .string p.f2] 26)) w3 := KeepsOthers.of_grownBy hg (fun j o e ho => by
    obtain ⟨c, fz, hc⟩ := Lib.ownsRow_kind how j e
    have := (hBA.block j (Array.getElem?_eq_some_iff.1 hc).1).trans hc
    rw [this] at ho; cases ho; rfl)
  have k3 := (k1.trans k2).trans (KeepsOthers.setCell w3 ⟨w.heap.size + 2, 0, none⟩ v1)
  have hb3 : Below w.heap.size w w3 := (hBW.trans (Below.mono hBA (by omega))).grown hg (by have := hBW.size; omega) (fun k e => by have := hrow k e; omega)
  have b3 := (keep (w.heap.size + 2) (by omega)).trans b2
  have d1 := blk_set b3 0 v1
  refine ⟨b3, k3.from _, (Below.heap_setCell _ _ _ _ (by simp)).trans (keep _ (by omega)), blk_far ((keep w.heap.size (by omega)).trans b0) (p := ⟨w.heap.size + 2, 0, none⟩) (by simp) v1, blk_far ((keep (w.heap.size + 1) (by omega)).trans b1) (p := ⟨w.heap.size + 2, 0, none⟩) (by simp) v1,
    by simpa using d1, ?_, by have := k3.size; omega, hb3.setCell (by simp) _⟩
  have e : flatA (acc ++ [p]) = flatA acc ++ encA p := by rw [flatA_app]; simp [flatA]
  rw [List.length_append, e]
  exact ownsRow_setCell_below hown (by rw [hsz]; simp) v1
abbrev PL := {x : ByteArray // (paStep x).isSome = true}
/-- What holds between two lines. -/
def paI (w : World) (n0 : Nat) (pre : List PL) (W : World) : Prop :=
  (∃ acc v, paFold (pre.map (·.1)) [] = some acc ∧ acc.length = pre.length ∧ W.heap[w.heap.size]? = some (.cells #[.slice none 0 0] 24 (0, 0)) ∧ W.heap[w.heap.size + 1]? = some (.cells #[.bool false] 4 (0, 0)) ∧
    W.heap[w.heap.size + 2]? = some (.cells #[v] 24 (0, 0)) ∧ W.ownsRow n0 26 3 v acc.length (flatA acc) ∧ n0 ≤ W.heap.size) ∧ Below w.heap.size w W
/-- What holds where a line's hour was no number. -/
def paX (w : World) (c : Code) (pre : List PL) (W : World) : Prop :=
  (c = .ret ∧ paFold (pre.map (·.1)) [] = none ∧ W.heap[w.heap.size]? = some (.cells #[.slice none 0 0] 24 (0, 0)) ∧ W.heap[w.heap.size + 1]? = some (.cells #[.bool false] 4 (0, 0))) ∧ Below w.heap.size w W
set_option maxRecDepth 100000 in
set_option maxHeartbeats 4000000 in
theorem pa_in (k n : Nat) (hn : 3 ≤ n) (s : ByteArray) (r1 : List S26) (r2 : Bool) (w : World) (hG : GW w) (h4 : ¬ s.size > 4000) (hall : (lnS s).all (fun x => (paStep x).isSome) = true) (h : impl_ParseArchive.f k s = some (r1, r2)) :
    CallsIn Fence.wide n Tryz.prog 16 #[.string s] w fun e W' => ∃ v : Value, e = .returned (.tuple #[v, .bool r2]) ∧ Kd.R k26 26 W' w.heap.size (fun _ => True) v r1 ∧ Below w.heap.size w W' := by
  have h1 : 1 ≤ n := by omega
  have c0 : decide ((s.size : Int) > 4000) = false := decide_eq_false (by omega)
  refine callsIn_of_wp_marks Tryz.func16 rfl trivial ?_ rfl
  simp only [Tryz.ntmps16, List.size_toArray, List.length_cons, List.length_nil, Nat.reduceAdd, Nat.reduceSub, Array.replicate_succ, Array.replicate_zero, List.push_toArray, List.append_toArray, List.nil_append, List.cons_append]
  gi_wp2_with (first | (refine ⟨trivial, ?_⟩; gi_at_call 37; refine (lines_mk (n - 1) _ _).mono ?_; rintro e w' ⟨rfl, rfl⟩))
  obtain ⟨W1, hW1⟩ : ∃ W1, ((((w.alloc (Obj.cells #[Value.slice none 0 0] 24)).alloc (Obj.cells #[Value.bool false] 4)).alloc (Obj.cells #[Value.slice none 0 0] 24)).alloc (Obj.cells #[Value.string s] 9)) = W1 := ⟨_, rfl⟩
  have b0 : W1.heap[w.heap.size]? = some (.cells #[.slice none 0 0] 24 (0, 0)) := by
    rw [← hW1]; exact blk_alloc (blk_alloc (blk_alloc (blk_new w _) _) _) _
  have b1 : W1.heap[w.heap.size + 1]? = some (.cells #[.bool false] 4 (0, 0)) := by
    rw [← hW1]; exact blk_alloc (blk_alloc (by have h := blk_new (w.alloc (Obj.cells #[Value.slice none 0 0] 24)) (.cells #[.bool false] 4 (0, 0)); rwa [World.size_alloc] at h) _) _
  have b2 : W1.heap[w.heap.size + 2]? = some (.cells #[.slice none 0 0] 24 (0, 0)) := by
    rw [← hW1]; exact blk_alloc (by have h := blk_new ((w.alloc (Obj.cells #[Value.slice none 0 0] 24)).alloc (Obj.cells #[Value.bool false] 4)) (.cells #[.slice none 0 0] 24 (0, 0)); simpa only [World.size_alloc, Nat.add_assoc, Nat.reduceAdd] using h) _
  have b3 : W1.heap[w.heap.size + 3]? = some (.cells #[.string s] 9 (0, 0)) := by
    rw [← hW1]; have h := blk_new (((w.alloc (Obj.cells #[Value.slice none 0 0] 24)).alloc (Obj.cells #[Value.bool false] 4)).alloc (Obj.cells #[Value.slice none 0 0] 24)) (.cells #[.string s] 9 (0, 0)); simpa only [World.size_alloc, Nat.add_assoc, Nat.reduceAdd] using h
  have hsz : W1.heap.size = w.heap.size + 4 := by rw [← hW1]; simp [World.size_alloc]
  have hB0 : Below w.heap.size w W1 := by
    rw [← hW1]
    exact ((((Below.refl _ w).alloc (Nat.le_refl _) _).alloc (by simp) _).alloc (by simp; omega) _).alloc (by simp; omega) _
  rw [hW1]
  clear hW1
  simp only [Nat.add_assoc, Nat.reduceAdd]
  refine range_cell (w.heap.size + 3) rfl h1 (gf := 63) (lb := #[.pointer (some ⟨w.heap.size + 3, 0, none⟩)]) rfl trivial (enters_of Tryz.func63 kr_ rfl) (by omega)
    (lines_cell (fun x => (paStep x).isSome = true) (n - 1) (by omega) (w.heap.size + 3) s (by omega) (fun x hx => List.all_eq_true.1 hall x hx) W1 b3) rfl (paI w W1.heap.size) (paX w)
    ?hI ?hIx ?kI ?kIx ?h0 (fun x => { tmps := #[.string s, undef, .pointer (some ⟨w.heap.size, 0, none⟩), .pointer (some ⟨w.heap.size + 1, 0, none⟩), .pointer (some ⟨w.heap.size + 2, 0, none⟩), .string x.1, undef, undef, undef, undef, undef, undef, undef, undef, .string s, .int .i64 s.size, .bool false, .string s, .func (.func 63) #[] #[.pointer (some ⟨w.heap.size + 3, 0, none⟩)], .string x.1, undef, undef, undef, undef, undef, undef, undef, undef, undef, undef, undef, undef, undef, undef, undef, undef, undef, undef, undef, undef, undef, undef, undef, undef, undef, undef, undef, undef, undef, undef, undef, undef, undef, undef, undef, undef, undef], defers := [] }) ?assign ?body ?done ?stop
  case hI => exact OwnFrom.and (Own.from (fun s A B row hs hg hr => by
      obtain ⟨acc, v, e1, e2, e3, e4, e5, e6, e7⟩ := hs
      exact ⟨acc, v, e1, e2, objK e3 hg hr, objK e4 hg hr, objK e5 hg hr, rowK e6 hg hr, Nat.le_trans e7 hg.size⟩) _) (ownFrom_below (Nat.le_refl _) (by omega))
  case hIx => exact fun c => OwnFrom.and (Own.from (fun s A B row hs hg hr => by
      obtain ⟨e1, e2, e3, e4⟩ := hs
      exact ⟨e1, e2, objK e3 hg hr, objK e4 hg hr⟩) _) (ownFrom_below (Nat.le_refl _) (by omega))
  case kI =>
    rintro pre X u ⟨⟨acc, v, e1, e2, e3, e4, e5, e6, e7⟩, hB⟩
    exact ⟨⟨acc, v, e1, e2, blk_far e3 (p := ⟨w.heap.size + 3, 0, none⟩) (by simp) u, blk_far e4 (p := ⟨w.heap.size + 3, 0, none⟩) (by simp) u, blk_far e5 (p := ⟨w.heap.size + 3, 0, none⟩) (by simp) u, ownsRow_setCell_below e6 (by rw [hsz]; simp) u, by simpa using e7⟩, hB.setCell (p := ⟨w.heap.size + 3, 0, none⟩) (by simp) u⟩
  case kIx =>
    rintro c pre X u ⟨⟨e1, e2, e3, e4⟩, hB⟩
    exact ⟨⟨e1, e2, blk_far e3 (p := ⟨w.heap.size + 3, 0, none⟩) (by simp) u, blk_far e4 (p := ⟨w.heap.size + 3, 0, none⟩) (by simp) u⟩, hB.setCell (p := ⟨w.heap.size + 3, 0, none⟩) (by simp) u⟩
  case h0 => exact ⟨⟨[], .slice none 0 0, rfl, rfl, b0, b1, b2, World.ownsRow_nil _ _ _ _, Nat.le_refl _⟩, hB0⟩
  case assign =>
    intro l x W K hK
    gi_wp2
    exact hK
  case body =>
    rintro l pre x W ⟨⟨acc, v, hp, hal, c0', c1, c2, hrow, hsW⟩, hB⟩ hlt
    obtain ⟨o, ho⟩ := Option.isSome_iff_exists.1 x.2
    have ho' := A_ ho
    unfold paStep at ho
    obtain ⟨t, ht, ho⟩ := Option.bind_eq_some_iff.1 ho
    obtain ⟨⟨d1, d2, d3⟩, hd, ho⟩ := Option.bind_eq_some_iff.1 ho
    obtain ⟨⟨e1, e2, e3⟩, he, ho⟩ := Option.bind_eq_some_iff.1 ho
    obtain ⟨⟨m1, m2⟩, hm, ho⟩ := Option.bind_eq_some_iff.1 ho
    replace ho := Option.some.inj ho
    have T1 := A_ (fun W => strings_TrimSuffix.calls x.1 ⟨#[10]⟩ t W ht)
    have T2 := A_ (fun W => strings_Cut.calls t ⟨#[32]⟩ d1 d2 d3 W hd)
    have T3 := A_ (fun W => strings_Cut.calls d2 ⟨#[32]⟩ e1 e2 e3 W he)
    have T4 := A_ (fun W hG => impl_ParseInt.calls e1 m1 m2 W hm hG)
    have HG := A_ (gw_below hG hB)
    have HB := A_ hB
    have HR := A_ hrow
    have HP := A_ hp
    clear ht hd he hm hG hB hrow hp hall h b0 b1 b2 b3 hB0
    have ML := A_ (show (acc.length + 1) * 40 ≤ 140737488355328 by have := lnK_len s.size s; unfold lnS at hlt; omega)
    have HAL := A_ hal
    clear hlt hal
    cases m2 with
    | false =>
      have PX := A_ (show paFold ((pre ++ [x]).map (·.1)) [] = none by
        rw [List.map_append, paFold_app, HP.out]
        show paFold [x.1] acc = none
        unfold paFold
        rw [ho'.out, ← ho]; rfl)
      clear ho
      gi_wp2_with (first | (refine ⟨trivial, fun _ => (by omega), ?_⟩; gi_at_call 39; refine (CallsIn.inRound l (callsIn_wide.2 (T1.out _))).mono ?_; rintro e w' ⟨rfl, q1, rfl⟩) | (refine ⟨trivial, fun _ => (by omega), ?_⟩; gi_at_call 38; refine (CallsIn.inRound l (callsIn_wide.2 (T2.out _))).mono ?_; rintro e w' ⟨rfl, q2, rfl⟩; clear T2) | (refine ⟨trivial, fun _ => (by omega), ?_⟩; gi_at_call 38; refine (CallsIn.inRound l (callsIn_wide.2 (T3.out _))).mono ?_; rintro e w' ⟨rfl, q3, rfl⟩) | (refine ⟨trivial, fun _ => (by omega), ?_⟩; gi_at_call 40; refine (CallsIn.inRound l (callsIn_wide.2 (T4.out _ (gw_below HG.out (pw_below_drewN (Below.refl _ _) _))))).mono ?_; rintro e w2 ⟨rfl, hb⟩; have HW2 := A_ (below_step (pw_below_drewN (Below.refl _ W) _) hb); clear hb; have k0 := blk_below c0' HW2.out; have k1 := blk_below c1 HW2.out; have s0 := blk_cell k0 0; have z0 := blk_frozen k0 0; have f1 := blk_far k1 (p := ⟨w.heap.size, 0, none⟩) (by simp) (Value.slice none 0 0); have s1 := blk_cell f1 0; have z1 := blk_frozen f1 0))
      have d0 := blk_set k0 0 (Value.slice none 0 0)
      have d0' := blk_far d0 (p := ⟨w.heap.size + 1, 0, none⟩) (by simp) (Value.bool false)
      have d1' := blk_set f1 0 (Value.bool false)
      simp only [List.setIfInBounds_toArray, List.set_cons_zero] at d0' d1'
      have hk1 : KeepsOthers W w2 := ⟨HW2.out.size, fun k o hk _ => (HW2.out.block k (Array.getElem?_eq_some_iff.1 hk).1).trans hk⟩
      exact ⟨((hk1.trans (KeepsOthers.setCell _ _ _)).trans (KeepsOthers.setCell _ _ _)).from _, ⟨rfl, PX.out, d0', d1'⟩, ((HB.out.trans (Below.mono HW2.out (by have := HB.out.size; omega))).setCell (p := ⟨w.heap.size, 0, none⟩) (by simp) _).setCell (p := ⟨w.heap.size + 1, 0, none⟩) (by simp) _⟩
    | true =>
      have PX := A_ (show paFold ((pre ++ [x]).map (·.1)) [] = some (acc ++ [⟨d1, m1, e2⟩]) by
        rw [List.map_append, paFold_app, HP.out]
        show paFold [x.1] acc = _
        unfold paFold
        rw [ho'.out, ← ho]; rfl)
      have PL_ := A_ (show (acc ++ [(⟨d1, m1, e2⟩ : S26)]).length = (pre ++ [x]).length by have := HAL.out; simp [this])
      clear ho
      obtain ⟨i3, hi3, hz0, hz1, hz2⟩ := info_parts infoPp_
      gi_wp2_with (first | (refine ⟨trivial, fun _ => (by omega), ?_⟩; gi_at_call 39; refine (CallsIn.inRound l (callsIn_wide.2 (T1.out _))).mono ?_; rintro e w' ⟨rfl, q1, rfl⟩) | (refine ⟨trivial, fun _ => (by omega), ?_⟩; gi_at_call 38; refine (CallsIn.inRound l (callsIn_wide.2 (T2.out _))).mono ?_; rintro e w' ⟨rfl, q2, rfl⟩; clear T2) | (refine ⟨trivial, fun _ => (by omega), ?_⟩; gi_at_call 38; refine (CallsIn.inRound l (callsIn_wide.2 (T3.out _))).mono ?_; rintro e w' ⟨rfl, q3, rfl⟩) | (refine ⟨trivial, fun _ => (by omega), ?_⟩; gi_at_call 40; refine (CallsIn.inRound l (callsIn_wide.2 (T4.out _ (gw_below HG.out (pw_below_drewN (Below.refl _ _) _))))).mono ?_; rintro e w2 ⟨rfl, hb⟩; have HW2 := A_ (below_step (pw_below_drewN (Below.refl _ W) _) hb); clear hb; have k2 := blk_below c2 HW2.out; have s2 := blk_cell k2 0; have HRW := A_ (pw_own_below HR.out HW2.out)) | (gi_at_builtin; refine wpListIn_append_own _ rfl _ _ 24 rfl W1.heap.size 26 i3 (.agg #[.string ⟨#[]⟩, .int .i64 0, .string ⟨#[]⟩]) 3 40 Tryz.underlying24 hi3 hz0 hz1 hz2 rfl (by decide) v acc.length (flatA acc) rfl (World.ownsRow.alloc HRW.out _) ⟨w2.heap.size, 0, none⟩ 1 1 [.string d1, .int .i64 m1, .string e2] rfl rfl (fun j u hj => ad_cell (by simpa using hj)) (by simp [Value.oneCell']) (by unfold maxLen; have := ML.out; omega) (by have := ML.out; omega) (by simp; have := HW2.out.size; omega) ?_; intro v1 w3 hown' hg3 hnil3; obtain ⟨g1, cap1, rfl⟩ := ownsRow_succ hown'; have FIN := A_ (pa_end (p := ⟨d1, m1, e2⟩) hsz hsW HB.out HW2.out c0' c1 c2 HR.out hown' hg3); have q0 := blk_cell FIN.out.1 0; have q1 := blk_frozen FIN.out.1 0; clear hown' hg3 hnil3))
      exact ⟨FIN.out.2.1, FIN.out.2.2.1, ⟨_, _, PX.out, PL_.out, FIN.out.2.2.2.1, FIN.out.2.2.2.2.1, FIN.out.2.2.2.2.2.1, FIN.out.2.2.2.2.2.2.1, FIN.out.2.2.2.2.2.2.2.1⟩, FIN.out.2.2.2.2.2.2.2.2⟩
  case done =>
    rintro D ys W hD hys ⟨⟨acc, v, hp, hal, c0', c1, c2, hrow, hszW⟩, hB⟩ hK
    rw [hys] at hp
    replace h : ((impl_IsValidArchive.f k acc).bind fun b => if b = true then (impl_archiveText.f acc).bind fun t => (if (t.toList == s.toList) = true then some (acc, true) else some ([], false)) else some ([], false)) = some (r1, r2) := by
      rw [← h]; unfold impl_ParseArchive.f; rw [if_neg h4, if_pos hall, hp]
    obtain ⟨b, hv, h⟩ := Option.bind_eq_some_iff.1 h
    have HR := A_ (rowA (World.ownsRow.mono hrow (show w.heap.size ≤ W1.heap.size by omega)))
    have HR0 := A_ hrow
    obtain ⟨A, c, rfl⟩ := Kd.R_slice HR.out
    have HC := A_ (Kd.R_reads' HR.out)
    have HV := A_ (fun hC hc => impl_IsValidArchive.calls k A c acc b W hC hc hv)
    have HG := A_ (gw_below hG hB)
    have HB := A_ hB
    have HK := A_ hK
    have hDl : D < W.heap.size := (Array.getElem?_eq_some_iff.1 hK).1
    have s2 := blk_cell c2 0
    clear hp hal hrow hys b0 b1 b2 b3 hB0 hall hv hG hB hK
    cases b with
    | false =>
      obtain ⟨rfl, rfl⟩ := Prod.mk.inj (Option.some.inj h)
      gi_wp2_with (first | (refine ⟨trivial, ?_⟩; gi_at_call 12; refine (callsIn_wide.2 (HV.out HC.out.2.2 HC.out.2.1)).mono ?_; rintro e w2 ⟨rfl, hb⟩; have HW2 := A_ hb; clear hb; have k0 := blk_below c0' HW2.out; have k1 := blk_below c1 HW2.out; have s0 := blk_cell k0 0; have z0 := blk_frozen k0 0; have f1 := blk_far k1 (p := ⟨w.heap.size, 0, none⟩) (by simp) (Value.slice none 0 0); have s1 := blk_cell f1 0; have z1 := blk_frozen f1 0))
      refine ⟨trivial, ?_⟩
      gi_wp2
      have hK2 : w2.heap[D]? = some (.deferred (some [])) := (HW2.out.block D hDl).trans HK.out
      have hK3 := obj_cell (w2.setCell ⟨w.heap.size, 0, none⟩ (Value.slice none 0 0)) (w.heap.size + 1) D (Value.bool false) (obj_cell w2 w.heap.size D (Value.slice none 0 0) hK2 rfl) rfl
      have d0 := blk_far (blk_set k0 0 (Value.slice none 0 0)) (p := ⟨w.heap.size + 1, 0, none⟩) (by simp) (Value.bool false)
      have d1 := blk_set f1 0 (Value.bool false)
      simp only [List.setIfInBounds_toArray, List.set_cons_zero] at d0 d1
      have hB9 := ((HB.out.trans (Below.mono HW2.out (by have := HB.out.size; omega))).setCell (p := ⟨w.heap.size, 0, none⟩) (by simp) (Value.slice none 0 0)).setCell (p := ⟨w.heap.size + 1, 0, none⟩) (by simp) (Value.bool false)
      refine ⟨by simp, .inl ⟨_, _, rfl, run_takeDeferred hK3, ?_⟩⟩
      have q0 := blk_cell (objK d0 (grownBy_putObj' _ D (.deferred none)) (fun r e => by cases e; exact ⟨_, hK3, rfl⟩)) 0
      have q1 := blk_cell (objK d1 (grownBy_putObj' _ D (.deferred none)) (fun r e => by cases e; exact ⟨_, hK3, rfl⟩)) 0
      refine ⟨.tuple #[.slice none 0 0, .bool false], ?_, ⟨_, rfl, Kd.R_nil _ _ _ _ _, hB9.trans (belowK_b (w := w) (Nat.le_refl _) _ D _ _ (by omega) hK3 rfl rfl)⟩⟩
      simp [results, Tryz.f16, go_sem, q0, q1]
    | true =>
      obtain ⟨tx, htx, h⟩ := Option.bind_eq_some_iff.1 h
      have HT := A_ (fun W2 hC hc hG => impl_archiveText.calls A c acc tx W2 hC hc htx hG)
      clear htx
      have HVC := A_ (HV.out HC.out.2.2 HC.out.2.1)
      clear HV
      by_cases he : (tx.toList == s.toList) = true
      · replace h : some (acc, true) = some (r1, r2) := by rw [← h]; exact (if_pos he).symm
        obtain ⟨rfl, rfl⟩ := Prod.mk.inj (Option.some.inj h)
        clear h
        gi_wp2_with (first | (refine ⟨trivial, ?_⟩; gi_at_call 12; refine (callsIn_wide.2 HVC.out).mono ?_; rintro e w2 ⟨rfl, hb⟩; have HW2 := A_ hb; clear hb; have t2 := blk_cell (blk_below c2 HW2.out) 0) | (refine ⟨trivial, ?_⟩; gi_at_call 35; refine (callsIn_wide.2 (HT.out _ (Kd.C_below HC.out.2.2 HW2.out) HC.out.2.1 (gw_below HG.out HW2.out))).mono ?_; rintro e w3 ⟨rfl, hb⟩; have HW3 := A_ (HW2.out.trans (Below.mono hb HW2.out.size)); clear hb; have k0 := blk_below c0' HW3.out; have k1 := blk_below c1 HW3.out; have k2 := blk_below c2 HW3.out; have u2 := blk_cell k2 0; have s0 := blk_cell k0 0; have z0 := blk_frozen k0 0; have f1 := blk_far k1 (p := ⟨w.heap.size, 0, none⟩) (by simp) (Value.slice A acc.length c); have s1 := blk_cell f1 0; have z1 := blk_frozen f1 0))
        have hK2 : w3.heap[D]? = some (.deferred (some [])) := (HW3.out.block D hDl).trans HK.out
        have hK3 := obj_cell (w3.setCell ⟨w.heap.size, 0, none⟩ (Value.slice A acc.length c)) (w.heap.size + 1) D (Value.bool true) (obj_cell w3 w.heap.size D (Value.slice A acc.length c) hK2 rfl) rfl
        have d0 := blk_far (blk_set k0 0 (Value.slice A acc.length c)) (p := ⟨w.heap.size + 1, 0, none⟩) (by simp) (Value.bool true)
        have d1 := blk_set f1 0 (Value.bool true)
        simp only [List.setIfInBounds_toArray, List.set_cons_zero] at d0 d1
        have hB9 := ((HB.out.trans (Below.mono HW3.out (by have := HB.out.size; omega))).setCell (p := ⟨w.heap.size, 0, none⟩) (by simp) (Value.slice A acc.length c)).setCell (p := ⟨w.heap.size + 1, 0, none⟩) (by simp) (Value.bool true)
        have hR9 := ownsRow_setCell_below (ownsRow_setCell_below (pw_own_below HR0.out HW3.out) (a := ⟨w.heap.size, 0, none⟩) (by rw [hsz]; simp) (Value.slice A acc.length c)) (a := ⟨w.heap.size + 1, 0, none⟩) (by rw [hsz]; simp) (Value.bool true)
        refine ⟨by simp, .inl ⟨_, _, rfl, run_takeDeferred hK3, ?_⟩⟩
        have q0 := blk_cell (objK d0 (grownBy_putObj' _ D (.deferred none)) (fun r e => by cases e; exact ⟨_, hK3, rfl⟩)) 0
        have q1 := blk_cell (objK d1 (grownBy_putObj' _ D (.deferred none)) (fun r e => by cases e; exact ⟨_, hK3, rfl⟩)) 0
        have q2 := rowK hR9 (grownBy_putObj' _ D (.deferred none)) (fun r e => by cases e; exact ⟨_, hK3, rfl⟩)
        refine ⟨.tuple #[.slice A acc.length c, .bool true], ?_, ⟨_, rfl, rowA (World.ownsRow.mono q2 (by omega)), hB9.trans (belowK_b (w := w) (Nat.le_refl _) _ D _ _ (by omega) hK3 rfl rfl)⟩⟩
        simp [results, Tryz.f16, go_sem, q0, q1]
      · replace h : some ([], false) = some (r1, r2) := by rw [← h]; exact (if_neg he).symm
        obtain ⟨rfl, rfl⟩ := Prod.mk.inj (Option.some.inj h)
        clear h
        replace he := Bool.eq_false_iff.mpr he
        gi_wp2_with (first | (refine ⟨trivial, ?_⟩; gi_at_call 12; refine (callsIn_wide.2 HVC.out).mono ?_; rintro e w2 ⟨rfl, hb⟩; have HW2 := A_ hb; clear hb; have t2 := blk_cell (blk_below c2 HW2.out) 0) | (refine ⟨trivial, ?_⟩; gi_at_call 35; refine (callsIn_wide.2 (HT.out _ (Kd.C_below HC.out.2.2 HW2.out) HC.out.2.1 (gw_below HG.out HW2.out))).mono ?_; rintro e w3 ⟨rfl, hb⟩; have HW3 := A_ (HW2.out.trans (Below.mono hb HW2.out.size)); clear hb; have k0 := blk_below c0' HW3.out; have k1 := blk_below c1 HW3.out; have s0 := blk_cell k0 0; have z0 := blk_frozen k0 0; have f1 := blk_far k1 (p := ⟨w.heap.size, 0, none⟩) (by simp) (Value.slice none 0 0); have s1 := blk_cell f1 0; have z1 := blk_frozen f1 0))
        have hK2 : w3.heap[D]? = some (.deferred (some [])) := (HW3.out.block D hDl).trans HK.out
        have hK3 := obj_cell (w3.setCell ⟨w.heap.size, 0, none⟩ (Value.slice none 0 0)) (w.heap.size + 1) D (Value.bool false) (obj_cell w3 w.heap.size D (Value.slice none 0 0) hK2 rfl) rfl
        have d0 := blk_far (blk_set k0 0 (Value.slice none 0 0)) (p := ⟨w.heap.size + 1, 0, none⟩) (by simp) (Value.bool false)
        have d1 := blk_set f1 0 (Value.bool false)
        simp only [List.setIfInBounds_toArray, List.set_cons_zero] at d0 d1
        have hB9 := ((HB.out.trans (Below.mono HW3.out (by have := HB.out.size; omega))).setCell (p := ⟨w.heap.size, 0, none⟩) (by simp) (Value.slice none 0 0)).setCell (p := ⟨w.heap.size + 1, 0, none⟩) (by simp) (Value.bool false)
        refine ⟨by simp, .inl ⟨_, _, rfl, run_takeDeferred hK3, ?_⟩⟩
        have q0 := blk_cell (objK d0 (grownBy_putObj' _ D (.deferred none)) (fun r e => by cases e; exact ⟨_, hK3, rfl⟩)) 0
        have q1 := blk_cell (objK d1 (grownBy_putObj' _ D (.deferred none)) (fun r e => by cases e; exact ⟨_, hK3, rfl⟩)) 0
        refine ⟨.tuple #[.slice none 0 0, .bool false], ?_, ⟨_, rfl, Kd.R_nil _ _ _ _ _, hB9.trans (belowK_b (w := w) (Nat.le_refl _) _ D _ _ (by omega) hK3 rfl rfl)⟩⟩
        simp [results, Tryz.f16, go_sem, q0, q1]
  case stop =>
    rintro D c pre W hD ⟨tl, htl⟩ ⟨⟨rfl, hno, c0', c1⟩, hB⟩ hK
    have hn : paFold (lnS s) [] = none := by rw [← htl, paFold_app, hno]; rfl
    have hf : some (([] : List S26), false) = some (r1, r2) := by rw [← h]; unfold impl_ParseArchive.f; rw [if_neg h4, if_pos hall, hn]
    obtain ⟨rfl, rfl⟩ := Prod.mk.inj (Option.some.inj hf)
    gi_wp2
    refine ⟨by simp, .inl ⟨_, _, rfl, run_takeDeferred hK, ?_⟩⟩
    have g2 := objK c0' (grownBy_putObj' _ D (.deferred none)) (fun r e => by cases e; exact ⟨_, hK, rfl⟩)
    have g3 := objK c1 (grownBy_putObj' _ D (.deferred none)) (fun r e => by cases e; exact ⟨_, hK, rfl⟩)
    have q0 := blk_cell g2 0
    have q1 := blk_cell g3 0
    refine ⟨.tuple #[.slice none 0 0, .bool false], ?_, ⟨_, rfl, Kd.R_nil _ _ _ _ _, hB.trans (belowK_b (w := w) (Nat.le_refl _) _ D _ _ (by omega) hK rfl rfl)⟩⟩
    simp [results, Tryz.f16, go_sem, q0, q1]
set_option maxRecDepth 100000 in
set_option maxHeartbeats 1000000 in
theorem pa_long (s : ByteArray) (w : World) (h4 : s.size > 4000) : Calls Tryz.prog 16 #[.string s] w fun e W' => ∃ v : Value, e = .returned (.tuple #[v, .bool false]) ∧ Kd.R k26 26 W' w.heap.size (fun _ => True) v [] ∧ Below w.heap.size w W' := by
  have c0 : decide ((s.size : Int) > 4000) = true := decide_eq_true (by omega)
  go_enter Tryz.func16, Tryz.ntmps16
  go_wp2
  have q0 := blk_cell (blk_alloc (blk_new w (.cells #[.slice none 0 0] 24)) (.cells #[.bool false] 4)) 0
  have q1 := blk_cell (by have h := blk_new (w.alloc (.cells #[.slice none 0 0] 24)) (.cells #[.bool false] 4); rwa [World.size_alloc] at h : ((w.alloc (.cells #[.slice none 0 0] 24)).alloc (.cells #[.bool false] 4)).heap[w.heap.size + 1]? = some (.cells #[.bool false] 4 (0, 0))) 0
  refine bodyPost_ret (v := .tuple #[.slice none 0 0, .bool false]) ?_ rfl ⟨_, rfl, Kd.R_nil _ _ _ _ _, ((Below.refl _ w).alloc (Nat.le_refl _) _).alloc (by simp) _⟩
  simp [results, Tryz.f16, go_sem, q0, q1]
theorem pp_calls (k : Nat) (s : ByteArray) (r1 : List S26) (r2 : Bool) (w : World) (hG : GW w) (h : impl_ParseArchive.f k s = some (r1, r2)) :
    Calls Tryz.prog 16 #[.string s] w fun e W' => ∃ v : Value, e = .returned (.tuple #[v, .bool r2]) ∧ Kd.R k26 26 W' w.heap.size (fun _ => True) v r1 ∧ Below w.heap.size w W' := by
  by_cases h4 : s.size > 4000
  · have h' := h
    unfold impl_ParseArchive.f at h'
    rw [if_pos h4] at h'
    obtain ⟨rfl, rfl⟩ := Prod.mk.inj (Option.some.inj h')
    exact pa_long s w h4
  · by_cases hall : (lnS s).all (fun x => (paStep x).isSome) = true
    · exact (callsIn_wide (n := 3)).1 (pa_in k 3 (Nat.le_refl _) s r1 r2 w hG h4 hall h)
    · unfold impl_ParseArchive.f at h
      rw [if_neg h4, if_neg hall] at h
      cases h
end
set_option maxHeartbeats 8000000 in
set_option maxRecDepth 100000 in
theorem impl_ParseArchive.calls (k : Nat) (a0 : ByteArray) (r1 : List (S26)) (r2 : Bool) (w : World) (h : impl_ParseArchive.f k a0 = some (r1, r2)) (hG_ : GW w) :
    Calls Tryz.prog 16 #[.string a0] w fun e w' => ∃ v0_ : Value, e = .returned (.tuple #[v0_, .bool r2]) ∧ Kd.R k26 26 w' w.heap.size (fun _ => True) v0_ r1 ∧ Below w.heap.size w w' := by
  exact pp_calls k a0 r1 r2 w hG_ h

end Go.Proofs.YtgmmanppmjlclaaGreatDoor.P
