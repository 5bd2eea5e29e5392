/-
  DERIVED. GIVEN WITH THE SEED: THE CARDS: each row of YtgcijejmmhjibaaDoorRows.lean that lists a variable, with what it lists TIED to the program's text (the seventh form; the later family's looks); each row that meets fmt, with fmt's text TOLD by the authors' own Lean function (tested against real Go, not proved from fmt's source: count such statements apart). THE CARD IS WHAT COUNTS. Prove the row's statement (the work); the ties are given (YtgcijejmmhjibaaDoorTie.lean); close each card by the builder's one call (the guide's Derived/Test/ToyasCard.lean, 'card_holds'). Laid BY PROGRAM, IN A SANDBOX (cutbox-door.mjs). By AI agents, Wed Nov 11 2026. No macro, syntax, notation, axiom, sorry.
-/
import Derived.Test.YtgcijejmmhjibaaDoorRows
import GoSem.ClaimSeven
namespace Go.Proofs.YtgcijejmmhjibaaDoor
namespace Rows

/-- THE TIED CARD OF 'peristylelaw10.CostTreesMatchSpec'. -/
def costTreesMatchSpecCard : Claim7 := { stood := { row := costTreesMatchSpecRow, standIns := [], harness := (true, "aa68b2f94afb3aaa2f5b2f836d69f388ad7b35e471de56ddddf3aefa16189c9b"), looks := false }, kinds := [], alts := [], laidByText := true, laidKinds := [.data, .data], laidTests := true, laidLooks := .later }
def CostTreesMatchSpecCardSaid : Prop := Claim7.holds Tryd.pinned (.plain (OpenSpec.ofChange costTreesMatchSpecSpec)) costTreesMatchSpecCard

/-- THE TIED CARD OF 'peristylelaw10.CostOrdersMatchSpec'. -/
def costOrdersMatchSpecCard : Claim7 := { stood := { row := costOrdersMatchSpecRow, standIns := [], harness := (true, "aa68b2f94afb3aaa2f5b2f836d69f388ad7b35e471de56ddddf3aefa16189c9b"), looks := false }, kinds := [], alts := [], laidByText := true, laidKinds := [.data, .data], laidTests := true, laidLooks := .later }
def CostOrdersMatchSpecCardSaid : Prop := Claim7.holds Tryd.pinned (.plain (OpenSpec.ofChange costOrdersMatchSpecSpec)) costOrdersMatchSpecCard

/-- THE TIED CARD OF 'peristylelaw10.CostBestIsBest'. -/
def costBestIsBestCard : Claim7 := { stood := { row := costBestIsBestRow, standIns := [], harness := (true, "aa68b2f94afb3aaa2f5b2f836d69f388ad7b35e471de56ddddf3aefa16189c9b"), looks := false }, kinds := [], alts := [], laidByText := true, laidKinds := [.data, .data], laidTests := true, laidLooks := .later }
def CostBestIsBestCardSaid : Prop := Claim7.holds Tryd.pinned (.plain (OpenSpec.ofChange costBestIsBestSpec)) costBestIsBestCard

/-- THE TIED CARD OF 'peristylelaw10.CostWaysMatchSpec'. -/
def costWaysMatchSpecCard : Claim7 := { stood := { row := costWaysMatchSpecRow, standIns := [], harness := (true, "aa68b2f94afb3aaa2f5b2f836d69f388ad7b35e471de56ddddf3aefa16189c9b"), looks := false }, kinds := [], alts := [], laidByText := true, laidKinds := [.data, .data], laidTests := true, laidLooks := .later }
def CostWaysMatchSpecCardSaid : Prop := Claim7.holds Tryd.pinned (.plain (OpenSpec.ofChange costWaysMatchSpecSpec)) costWaysMatchSpecCard

/-- THE TIED CARD OF 'peristylelaw10.StatsJoinsMatchSpec'. -/
def statsJoinsMatchSpecCard : Claim7 := { stood := { row := statsJoinsMatchSpecRow, standIns := [], harness := (true, "aa68b2f94afb3aaa2f5b2f836d69f388ad7b35e471de56ddddf3aefa16189c9b"), looks := false }, kinds := [], alts := [], laidByText := true, laidKinds := [.data, .data], laidTests := true, laidLooks := .later }
def StatsJoinsMatchSpecCardSaid : Prop := Claim7.holds Tryd.pinned (.plain (OpenSpec.ofChange statsJoinsMatchSpecSpec)) statsJoinsMatchSpecCard

/-- THE TIED CARD OF 'peristylelaw10.StatsRowsMatchSpec'. -/
def statsRowsMatchSpecCard : Claim7 := { stood := { row := statsRowsMatchSpecRow, standIns := [], harness := (true, "aa68b2f94afb3aaa2f5b2f836d69f388ad7b35e471de56ddddf3aefa16189c9b"), looks := false }, kinds := [], alts := [], laidByText := true, laidKinds := [.data, .data], laidTests := true, laidLooks := .later }
def StatsRowsMatchSpecCardSaid : Prop := Claim7.holds Tryd.pinned (.plain (OpenSpec.ofChange statsRowsMatchSpecSpec)) statsRowsMatchSpecCard

/-- THE TIED CARD OF 'peristylelaw10.StatsAreRight'. -/
def statsAreRightCard : Claim7 := { stood := { row := statsAreRightRow, standIns := [], harness := (true, "aa68b2f94afb3aaa2f5b2f836d69f388ad7b35e471de56ddddf3aefa16189c9b"), looks := false }, kinds := [], alts := [], laidByText := true, laidKinds := [.data, .data], laidTests := true, laidLooks := .later }
def StatsAreRightCardSaid : Prop := Claim7.holds Tryd.pinned (.plain (OpenSpec.ofChange statsAreRightSpec)) statsAreRightCard

/-- THE TIED CARD OF 'peristylelaw10.StatsMatchSpec'. -/
def statsMatchSpecCard : Claim7 := { stood := { row := statsMatchSpecRow, standIns := [], harness := (true, "aa68b2f94afb3aaa2f5b2f836d69f388ad7b35e471de56ddddf3aefa16189c9b"), looks := false }, kinds := [], alts := [], laidByText := true, laidKinds := [.data, .data], laidTests := true, laidLooks := .later }
def StatsMatchSpecCardSaid : Prop := Claim7.holds Tryd.pinned (.plain (OpenSpec.ofChange statsMatchSpecSpec)) statsMatchSpecCard

/-- THE TIED CARD OF 'peristylelaw10.StatsBoundsHold'. -/
def statsBoundsHoldCard : Claim7 := { stood := { row := statsBoundsHoldRow, standIns := [], harness := (true, "aa68b2f94afb3aaa2f5b2f836d69f388ad7b35e471de56ddddf3aefa16189c9b"), looks := false }, kinds := [], alts := [], laidByText := true, laidKinds := [.data, .data], laidTests := true, laidLooks := .later }
def StatsBoundsHoldCardSaid : Prop := Claim7.holds Tryd.pinned (.plain (OpenSpec.ofChange statsBoundsHoldSpec)) statsBoundsHoldCard

/-- THE SECOND FORM's CARD OF 'peristylelaw10.CostTreesMatchSpec'. -/
def costTreesMatchSpecUptoCard : Claim7 := { stood := { row := costTreesMatchSpecUptoRow, standIns := [], harness := (true, "aa68b2f94afb3aaa2f5b2f836d69f388ad7b35e471de56ddddf3aefa16189c9b"), looks := false }, kinds := [], alts := [], laidByText := true, laidKinds := [.data, .data], laidTests := true, laidLooks := .later }
def CostTreesMatchSpecUptoCardSaid : Prop := Claim7.holds Tryd.pinned (.plain (OpenSpec.upto costTreesMatchSpecSpec)) costTreesMatchSpecUptoCard

/-- THE SECOND FORM's CARD OF 'peristylelaw10.CostOrdersMatchSpec'. -/
def costOrdersMatchSpecUptoCard : Claim7 := { stood := { row := costOrdersMatchSpecUptoRow, standIns := [], harness := (true, "aa68b2f94afb3aaa2f5b2f836d69f388ad7b35e471de56ddddf3aefa16189c9b"), looks := false }, kinds := [], alts := [], laidByText := true, laidKinds := [.data, .data], laidTests := true, laidLooks := .later }
def CostOrdersMatchSpecUptoCardSaid : Prop := Claim7.holds Tryd.pinned (.plain (OpenSpec.upto costOrdersMatchSpecSpec)) costOrdersMatchSpecUptoCard

/-- THE SECOND FORM's CARD OF 'peristylelaw10.CostBestIsBest'. -/
def costBestIsBestUptoCard : Claim7 := { stood := { row := costBestIsBestUptoRow, standIns := [], harness := (true, "aa68b2f94afb3aaa2f5b2f836d69f388ad7b35e471de56ddddf3aefa16189c9b"), looks := false }, kinds := [], alts := [], laidByText := true, laidKinds := [.data, .data], laidTests := true, laidLooks := .later }
def CostBestIsBestUptoCardSaid : Prop := Claim7.holds Tryd.pinned (.plain (OpenSpec.upto costBestIsBestSpec)) costBestIsBestUptoCard

/-- THE SECOND FORM's CARD OF 'peristylelaw10.CostWaysMatchSpec'. -/
def costWaysMatchSpecUptoCard : Claim7 := { stood := { row := costWaysMatchSpecUptoRow, standIns := [], harness := (true, "aa68b2f94afb3aaa2f5b2f836d69f388ad7b35e471de56ddddf3aefa16189c9b"), looks := false }, kinds := [], alts := [], laidByText := true, laidKinds := [.data, .data], laidTests := true, laidLooks := .later }
def CostWaysMatchSpecUptoCardSaid : Prop := Claim7.holds Tryd.pinned (.plain (OpenSpec.upto costWaysMatchSpecSpec)) costWaysMatchSpecUptoCard

/-- THE SECOND FORM's CARD OF 'peristylelaw10.StatsJoinsMatchSpec'. -/
def statsJoinsMatchSpecUptoCard : Claim7 := { stood := { row := statsJoinsMatchSpecUptoRow, standIns := [], harness := (true, "aa68b2f94afb3aaa2f5b2f836d69f388ad7b35e471de56ddddf3aefa16189c9b"), looks := false }, kinds := [], alts := [], laidByText := true, laidKinds := [.data, .data], laidTests := true, laidLooks := .later }
def StatsJoinsMatchSpecUptoCardSaid : Prop := Claim7.holds Tryd.pinned (.plain (OpenSpec.upto statsJoinsMatchSpecSpec)) statsJoinsMatchSpecUptoCard

/-- THE SECOND FORM's CARD OF 'peristylelaw10.StatsRowsMatchSpec'. -/
def statsRowsMatchSpecUptoCard : Claim7 := { stood := { row := statsRowsMatchSpecUptoRow, standIns := [], harness := (true, "aa68b2f94afb3aaa2f5b2f836d69f388ad7b35e471de56ddddf3aefa16189c9b"), looks := false }, kinds := [], alts := [], laidByText := true, laidKinds := [.data, .data], laidTests := true, laidLooks := .later }
def StatsRowsMatchSpecUptoCardSaid : Prop := Claim7.holds Tryd.pinned (.plain (OpenSpec.upto statsRowsMatchSpecSpec)) statsRowsMatchSpecUptoCard

/-- THE SECOND FORM's CARD OF 'peristylelaw10.StatsAreRight'. -/
def statsAreRightUptoCard : Claim7 := { stood := { row := statsAreRightUptoRow, standIns := [], harness := (true, "aa68b2f94afb3aaa2f5b2f836d69f388ad7b35e471de56ddddf3aefa16189c9b"), looks := false }, kinds := [], alts := [], laidByText := true, laidKinds := [.data, .data], laidTests := true, laidLooks := .later }
def StatsAreRightUptoCardSaid : Prop := Claim7.holds Tryd.pinned (.plain (OpenSpec.upto statsAreRightSpec)) statsAreRightUptoCard

/-- THE SECOND FORM's CARD OF 'peristylelaw10.StatsMatchSpec'. -/
def statsMatchSpecUptoCard : Claim7 := { stood := { row := statsMatchSpecUptoRow, standIns := [], harness := (true, "aa68b2f94afb3aaa2f5b2f836d69f388ad7b35e471de56ddddf3aefa16189c9b"), looks := false }, kinds := [], alts := [], laidByText := true, laidKinds := [.data, .data], laidTests := true, laidLooks := .later }
def StatsMatchSpecUptoCardSaid : Prop := Claim7.holds Tryd.pinned (.plain (OpenSpec.upto statsMatchSpecSpec)) statsMatchSpecUptoCard

/-- THE SECOND FORM's CARD OF 'peristylelaw10.StatsBoundsHold'. -/
def statsBoundsHoldUptoCard : Claim7 := { stood := { row := statsBoundsHoldUptoRow, standIns := [], harness := (true, "aa68b2f94afb3aaa2f5b2f836d69f388ad7b35e471de56ddddf3aefa16189c9b"), looks := false }, kinds := [], alts := [], laidByText := true, laidKinds := [.data, .data], laidTests := true, laidLooks := .later }
def StatsBoundsHoldUptoCardSaid : Prop := Claim7.holds Tryd.pinned (.plain (OpenSpec.upto statsBoundsHoldSpec)) statsBoundsHoldUptoCard
end Rows
end Go.Proofs.YtgcijejmmhjibaaDoor
