/-
  DERIVED. GIVEN WITH THE SEED: THE CARDS: each row of YtgmmanppmjlclaaDoorRows.lean that lists a variable, with what it lists TIED to the program's text (the seventh form; the later family's looks); each row that meets fmt, with fmt's text TOLD by the authors' own Lean function (tested against real Go, not proved from fmt's source: count such statements apart). THE CARD IS WHAT COUNTS. Prove the row's statement (the work); the ties are given (YtgmmanppmjlclaaDoorTie.lean); close each card by the builder's one call (the guide's Derived/Test/ToyasCard.lean, 'card_holds'). Laid BY PROGRAM, IN A SANDBOX (cutbox-door.mjs). By AI agents, Wed Nov 11 2026. No macro, syntax, notation, axiom, sorry.
-/
import Derived.Test.YtgmmanppmjlclaaDoorRows
import GoSem.ClaimSeven
namespace Go.Proofs.YtgmmanppmjlclaaDoor
namespace Rows

/-- THE TIED CARD OF 'laws.FnExactArchiveText'. -/
def fnExactArchiveTextCard : Claim7 := { stood := { row := fnExactArchiveTextRow, standIns := [], harness := (true, "a4bf65ae43fd4478f6ad9cfaea87d046629d00a38888a2cc8ba6ccde1c90a168"), looks := true }, kinds := [], alts := [], laidByText := true, laidKinds := [.data, .data, .data], laidTests := true, laidLooks := .later }
def FnExactArchiveTextCardSaid : Prop := Claim7.holds Tryd.pinned (.plain (OpenSpec.ofChange fnExactArchiveTextSpec)) fnExactArchiveTextCard

/-- THE TIED CARD OF 'laws.FnExactParseArchive'. -/
def fnExactParseArchiveCard : Claim7 := { stood := { row := fnExactParseArchiveRow, standIns := [], harness := (true, "a4bf65ae43fd4478f6ad9cfaea87d046629d00a38888a2cc8ba6ccde1c90a168"), looks := true }, kinds := [], alts := [], laidByText := true, laidKinds := [.data, .data, .data, .sentinel, .sentinel], laidTests := true, laidLooks := .later }
def FnExactParseArchiveCardSaid : Prop := Claim7.holds Tryd.pinned (.plain (OpenSpec.ofChange fnExactParseArchiveSpec)) fnExactParseArchiveCard

/-- THE SECOND FORM's CARD OF 'laws.FnExactArchiveText'. -/
def fnExactArchiveTextUptoCard : Claim7 := { stood := { row := fnExactArchiveTextUptoRow, standIns := [], harness := (true, "a4bf65ae43fd4478f6ad9cfaea87d046629d00a38888a2cc8ba6ccde1c90a168"), looks := true }, kinds := [], alts := [], laidByText := true, laidKinds := [.data, .data, .data], laidTests := true, laidLooks := .later }
def FnExactArchiveTextUptoCardSaid : Prop := Claim7.holds Tryd.pinned (.plain (OpenSpec.upto fnExactArchiveTextSpec)) fnExactArchiveTextUptoCard

/-- THE SECOND FORM's CARD OF 'laws.FnExactParseArchive'. -/
def fnExactParseArchiveUptoCard : Claim7 := { stood := { row := fnExactParseArchiveUptoRow, standIns := [], harness := (true, "a4bf65ae43fd4478f6ad9cfaea87d046629d00a38888a2cc8ba6ccde1c90a168"), looks := true }, kinds := [], alts := [], laidByText := true, laidKinds := [.data, .data, .data, .sentinel, .sentinel], laidTests := true, laidLooks := .later }
def FnExactParseArchiveUptoCardSaid : Prop := Claim7.holds Tryd.pinned (.plain (OpenSpec.upto fnExactParseArchiveSpec)) fnExactParseArchiveUptoCard
end Rows
end Go.Proofs.YtgmmanppmjlclaaDoor
