-- Made by pp.py of this session out of the kit's print and of contracts proved by hand; Lean checks it.
import Derived.Test.YtlnlabndaikbnaaGreatDoorMc
import Derived.Test.YtlnlabndaikbnaaGreatDoorPx0
namespace Go.Proofs.YtlnlabndaikbnaaGreatDoor.P
open Go.RowKit Go.Proofs.YtlnlabndaikbnaaGreatDoorW.PrintWords Go.Proofs.YtlnlabndaikbnaaGreatDoorW.PrintLast Go.Proofs.YtlnlabndaikbnaaGreatDoorW.PrintMore
attribute [local go_sem] max2_int min2_int max_two min_two max_three min_three max_four min_four   -- for this text's walks alone
set_option linter.unusedVariables false
set_option linter.unusedSimpArgs false

-- ALONE
/-! ### lib gwx -/
/-- The words of the levels and of the topics, as the program's text lays them. -/
def levelL : List ByteArray := [⟨#[]⟩, ⟨#[89, 101, 108, 108, 111, 119]⟩, ⟨#[79, 114, 97, 110, 103, 101]⟩, ⟨#[82, 101, 100]⟩]
def topicL : List ByteArray := [⟨#[]⟩, ⟨#[119, 105, 110, 100]⟩, ⟨#[114, 97, 105, 110]⟩, ⟨#[115, 110, 111, 119]⟩, ⟨#[104, 101, 97, 116]⟩, ⟨#[115, 116, 111, 114, 109]⟩]
theorem var_below {w w' : World} {n : String} {g : Nat} {cs : Array Value} (hg : Tryz.prog.globalNamed n = some g) (h : w.var? Tryz.prog n = some cs) (hb : Below w.heap.size w w') : w'.var? Tryz.prog n = some cs := by
  unfold World.var? at h ⊢
  rw [hg] at h ⊢
  simp only [Option.bind_some] at h ⊢
  have hlt : g < w.heap.size := by
    rcases Nat.lt_or_ge g w.heap.size with h' | h'
    · exact h'
    · rw [Array.getElem?_eq_none h'] at h; cases h
  rw [hb.block _ hlt]
  exact h
def GWx (w : World) : Prop := w.var? Tryz.prog "loop.example/g00889/impl.levelWords" = some (levelL.map Value.string).toArray ∧ w.var? Tryz.prog "loop.example/g00889/impl.topicWords" = some (topicL.map Value.string).toArray
theorem gwx_below {w w' : World} (h : GWx w) (hb : Below w.heap.size w w') : GWx w' :=
  ⟨var_below (g := 0) kr_ h.1 hb, var_below (g := 1) kr_ h.2 hb⟩
theorem gwx_list {w : World} {n : String} {g : Nat} (L : List ByteArray) (hg : Tryz.prog.globalNamed n = some g) (h : w.var? Tryz.prog n = some (L.map Value.string).toArray) (hn : L.length ≤ 1000) : Kd.C Kd.string w (some ⟨g, 0, none⟩) L.length L := by
  refine Kd.C_of_reads (d := ByteArray.empty) ⟨rfl, Nat.le_trans hn (by decide), fun _ => ⟨_, rfl, fun j hj => ?_⟩⟩
  rw [add_plain, World.var?_cell hg h j]
  simp [List.getD_eq_getElem?_getD, hj]
theorem gwx_level {w : World} (h : GWx w) : Kd.C Kd.string w (some ⟨0, 0, none⟩) levelL.length levelL := gwx_list levelL kr_ h.1 (by decide)
theorem gwx_topic {w : World} (h : GWx w) : Kd.C Kd.string w (some ⟨1, 0, none⟩) topicL.length topicL := gwx_list topicL kr_ h.2 (by decide)

end Go.Proofs.YtlnlabndaikbnaaGreatDoor.P
