/-
  DERIVED. GIVEN WITH THE SEED: THE CARDS: each row of YthdhdfolblhhgaaDoorRows.lean that lists a variable, with what it lists TIED to the program's text (the seventh form; the later family's looks); each row that meets fmt, with fmt's text TOLD by the authors' own Lean function (tested against real Go, not proved from fmt's source: count such statements apart). THE CARD IS WHAT COUNTS. Prove the row's statement (the work); the ties are given (YthdhdfolblhhgaaDoorTie.lean); close each card by the builder's one call (the guide's Derived/Test/ToyasCard.lean, 'card_holds'). Laid BY PROGRAM, IN A SANDBOX (cutbox-door.mjs). By AI agents, Wed Nov 11 2026. No macro, syntax, notation, axiom, sorry.
-/
import Derived.Test.YthdhdfolblhhgaaDoorRows
import GoSem.ClaimSeven
namespace Go.Proofs.YthdhdfolblhhgaaDoor
namespace Rows

/-- THE TIED CARD OF 'peristylelaw8.JoinHashMatchesSpec'. -/
def joinHashMatchesSpecCard : Claim7 := { stood := { row := joinHashMatchesSpecRow, standIns := [], harness := (true, "9d0c26701611b0b7811c101b78a56ca47b81980cbc17f23cda65c0106db2971b"), looks := false }, kinds := [], alts := [], laidByText := true, laidKinds := [.data, .data, .data, .data, .pinned], laidTests := true, laidLooks := .later }
def JoinHashMatchesSpecCardSaid : Prop := Claim7.holds Tryd.pinned (.plain (OpenSpec.ofChange joinHashMatchesSpecSpec)) joinHashMatchesSpecCard

/-- THE SECOND FORM's CARD OF 'peristylelaw8.JoinHashMatchesSpec'. -/
def joinHashMatchesSpecUptoCard : Claim7 := { stood := { row := joinHashMatchesSpecUptoRow, standIns := [], harness := (true, "9d0c26701611b0b7811c101b78a56ca47b81980cbc17f23cda65c0106db2971b"), looks := false }, kinds := [], alts := [], laidByText := true, laidKinds := [.data, .data, .data, .data, .pinned], laidTests := true, laidLooks := .later }
def JoinHashMatchesSpecUptoCardSaid : Prop := Claim7.holds Tryd.pinned (.plain (OpenSpec.upto joinHashMatchesSpecSpec)) joinHashMatchesSpecUptoCard
end Rows
end Go.Proofs.YthdhdfolblhhgaaDoor
