/-
  DERIVED. GIVEN WITH THE SEED: THE CARDS: each row of YtgdbkhbaekeijaaDoorRows.lean that lists a variable, with what it lists TIED to the program's text (the seventh form; the later family's looks); each row that meets fmt, with fmt's text TOLD by the authors' own Lean function (tested against real Go, not proved from fmt's source: count such statements apart). THE CARD IS WHAT COUNTS. Prove the row's statement (the work); the ties are given (YtgdbkhbaekeijaaDoorTie.lean); close each card by the builder's one call (the guide's Derived/Test/ToyasCard.lean, 'card_holds'). Laid BY PROGRAM, IN A SANDBOX (cutbox-door.mjs). By AI agents, Wed Nov 11 2026. No macro, syntax, notation, axiom, sorry.
-/
import Derived.Test.YtgdbkhbaekeijaaDoorRows
import GoSem.ClaimSeven
namespace Go.Proofs.YtgdbkhbaekeijaaDoor
namespace Rows

/-- THE TIED CARD OF 'peristylelaw8.JoinFiltersMatchSpec'. -/
def joinFiltersMatchSpecCard : Claim7 := { stood := { row := joinFiltersMatchSpecRow, standIns := [], harness := (true, "65277d5c89ed25ff5e1c8e2b58ab99ee7fb6f96881a618785a8a72716f7d25de"), looks := false }, kinds := [], alts := [], laidByText := true, laidKinds := [.data, .data, .data, .data, .pinned], laidTests := true, laidLooks := .later }
def JoinFiltersMatchSpecCardSaid : Prop := Claim7.holds Tryd.pinned (.plain (OpenSpec.ofChange joinFiltersMatchSpecSpec)) joinFiltersMatchSpecCard

/-- THE SECOND FORM's CARD OF 'peristylelaw8.JoinFiltersMatchSpec'. -/
def joinFiltersMatchSpecUptoCard : Claim7 := { stood := { row := joinFiltersMatchSpecUptoRow, standIns := [], harness := (true, "65277d5c89ed25ff5e1c8e2b58ab99ee7fb6f96881a618785a8a72716f7d25de"), looks := false }, kinds := [], alts := [], laidByText := true, laidKinds := [.data, .data, .data, .data, .pinned], laidTests := true, laidLooks := .later }
def JoinFiltersMatchSpecUptoCardSaid : Prop := Claim7.holds Tryd.pinned (.plain (OpenSpec.upto joinFiltersMatchSpecSpec)) joinFiltersMatchSpecUptoCard
end Rows
end Go.Proofs.YtgdbkhbaekeijaaDoor
