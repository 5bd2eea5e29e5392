/-
  NARROWER THAN 'FOR EVERY INPUT', by the rows' own cells (each row's printed sentence says how): CostTreesMatchSpec: laid · CostOrdersMatchSpec: laid · CostBestIsBest: laid · CostWaysMatchSpec: laid · StatsJoinsMatchSpec: laid · StatsRowsMatchSpec: laid · StatsAreRight: laid · StatsMatchSpec: laid · StatsBoundsHold: laid.
  DERIVED. THE GIVEN ROWS OF THIS SEAT. 9 by the template 'for every input the law returns true; each argument reads behind the call as it read before'; 0 by the template 'total and deterministic' (their statements: YtgcijejmmhjibaaDoorTotals.lean).
  GIVEN WITH THE SEED: the statements are not yours to turn. If you find one false, say at which input.
  Laid BY PROGRAM, IN A SANDBOX (cutbox-rows.mjs): the forced cells as the released guide's own fill.sh prints them over the translation 364455a4beff5cc8… (all of the seat's roots in one cut). By AI agents, Wed Nov 11 2026. No macro, syntax, notation, axiom, sorry.
-/
import Derived.Test.YtgcijejmmhjibaaDoorChecked
import GoSem.Claim
import GoSem.ClaimJoined
import GoSem.ClaimMapViews
import Derived.JoinedTies
import Derived.KernelRfl
namespace Go.Proofs.YtgcijejmmhjibaaDoor
/- THE CELL 'sum', in the pinned program and in every row, IS THE sha256 OF THE DUMP (.gsa) THAT YtgcijejmmhjibaaDoorProg.lean LOADS. Nothing in Lean hashes anything: it is a label: what it is worth is what the hold of that sum in a sandbox is worth. -/
noncomputable def Tryd.pinned : Pinned := { name := "ytgcijejmmhjibaadoor", sum := "364455a4beff5cc8aa2b0ee4f153df2c8ea2693671a82f99265068d119918173", checked := Tryd.checked }
namespace Rows
def none {H : Type} : Left H := { results := [], args := [] }

/- WHAT THE LISTED PACKAGE-LEVEL VARIABLES READ AS WHEN THE CALL BEGINS. Each datum BY PROGRAM (the guide's laid-datum.mjs) off the statement by which the dump's own 'gosem.cut.vars' lays the variable. In a bare row this is a premise. The card (YtgcijejmmhjibaaDoorCards.lean) ties it to the program's text. -/
def laid_math_bits_deBruijn32tab {H : Type} : DataW H := .agg [.lit (.int .u8 0), .lit (.int .u8 1), .lit (.int .u8 28), .lit (.int .u8 2), .lit (.int .u8 29), .lit (.int .u8 14), .lit (.int .u8 24), .lit (.int .u8 3), .lit (.int .u8 30), .lit (.int .u8 22), .lit (.int .u8 20), .lit (.int .u8 15), .lit (.int .u8 25), .lit (.int .u8 17), .lit (.int .u8 4), .lit (.int .u8 8), .lit (.int .u8 31), .lit (.int .u8 27), .lit (.int .u8 13), .lit (.int .u8 23), .lit (.int .u8 21), .lit (.int .u8 19), .lit (.int .u8 16), .lit (.int .u8 7), .lit (.int .u8 26), .lit (.int .u8 12), .lit (.int .u8 18), .lit (.int .u8 6), .lit (.int .u8 11), .lit (.int .u8 5), .lit (.int .u8 10), .lit (.int .u8 9)]
def laid_math_bits_deBruijn64tab {H : Type} : DataW H := .agg [.lit (.int .u8 0), .lit (.int .u8 1), .lit (.int .u8 56), .lit (.int .u8 2), .lit (.int .u8 57), .lit (.int .u8 49), .lit (.int .u8 28), .lit (.int .u8 3), .lit (.int .u8 61), .lit (.int .u8 58), .lit (.int .u8 42), .lit (.int .u8 50), .lit (.int .u8 38), .lit (.int .u8 29), .lit (.int .u8 17), .lit (.int .u8 4), .lit (.int .u8 62), .lit (.int .u8 47), .lit (.int .u8 59), .lit (.int .u8 36), .lit (.int .u8 45), .lit (.int .u8 43), .lit (.int .u8 51), .lit (.int .u8 22), .lit (.int .u8 53), .lit (.int .u8 39), .lit (.int .u8 33), .lit (.int .u8 30), .lit (.int .u8 24), .lit (.int .u8 18), .lit (.int .u8 12), .lit (.int .u8 5), .lit (.int .u8 63), .lit (.int .u8 55), .lit (.int .u8 48), .lit (.int .u8 27), .lit (.int .u8 60), .lit (.int .u8 41), .lit (.int .u8 37), .lit (.int .u8 16), .lit (.int .u8 46), .lit (.int .u8 35), .lit (.int .u8 44), .lit (.int .u8 21), .lit (.int .u8 52), .lit (.int .u8 32), .lit (.int .u8 23), .lit (.int .u8 11), .lit (.int .u8 54), .lit (.int .u8 26), .lit (.int .u8 40), .lit (.int .u8 15), .lit (.int .u8 34), .lit (.int .u8 20), .lit (.int .u8 31), .lit (.int .u8 10), .lit (.int .u8 25), .lit (.int .u8 14), .lit (.int .u8 19), .lit (.int .u8 9), .lit (.int .u8 13), .lit (.int .u8 8), .lit (.int .u8 7), .lit (.int .u8 6)]

/-- 'peristylelaw10.CostTreesMatchSpec': WHATEVER THE INPUT: true; the input reads as it did. -/
def costTreesMatchSpecSpec : ChangeSpec := { name := "costTreesMatchSpec", fn := fun _ => fun
  | [d1, d2, d3, d4] => { results := [.lit (.bool true)], args := [d1, d2, d3, d4] }
  | _ => none }
def costTreesMatchSpecRow : OpenClaim := { program := "ytgcijejmmhjibaadoor", sum := "364455a4beff5cc8aa2b0ee4f153df2c8ea2693671a82f99265068d119918173", func := "peristyle/peristylelaw10.CostTreesMatchSpec", spec := "costTreesMatchSpec", named := ["math/bits.deBruijn32tab", "math/bits.deBruijn64tab"], plainKeys := false, apart := false, laid := [("math/bits.deBruijn32tab", laid_math_bits_deBruijn32tab), ("math/bits.deBruijn64tab", laid_math_bits_deBruijn64tab)] }
def CostTreesMatchSpecSaid : Prop := costTreesMatchSpecRow.holds Tryd.pinned (OpenSpec.ofChange costTreesMatchSpecSpec)

/-- ITS FALSE NEIGHBOUR: 'it returns false'. Refute it at one input. -/
def costTreesMatchSpecWrong : ChangeSpec := { name := "costTreesMatchSpec", fn := fun _ => fun
  | [d1, d2, d3, d4] => { results := [.lit (.bool false)], args := [d1, d2, d3, d4] }
  | _ => none }
def CostTreesMatchSpecWrongFalsely : Prop := costTreesMatchSpecRow.holds Tryd.pinned (OpenSpec.ofChange costTreesMatchSpecWrong)

/-- 'peristylelaw10.CostOrdersMatchSpec': WHATEVER THE INPUT: true; the input reads as it did. -/
def costOrdersMatchSpecSpec : ChangeSpec := { name := "costOrdersMatchSpec", fn := fun _ => fun
  | [d1, d2] => { results := [.lit (.bool true)], args := [d1, d2] }
  | _ => none }
def costOrdersMatchSpecRow : OpenClaim := { program := "ytgcijejmmhjibaadoor", sum := "364455a4beff5cc8aa2b0ee4f153df2c8ea2693671a82f99265068d119918173", func := "peristyle/peristylelaw10.CostOrdersMatchSpec", spec := "costOrdersMatchSpec", named := ["math/bits.deBruijn32tab", "math/bits.deBruijn64tab"], plainKeys := false, apart := false, laid := [("math/bits.deBruijn32tab", laid_math_bits_deBruijn32tab), ("math/bits.deBruijn64tab", laid_math_bits_deBruijn64tab)] }
def CostOrdersMatchSpecSaid : Prop := costOrdersMatchSpecRow.holds Tryd.pinned (OpenSpec.ofChange costOrdersMatchSpecSpec)

/-- ITS FALSE NEIGHBOUR: 'it returns false'. Refute it at one input. -/
def costOrdersMatchSpecWrong : ChangeSpec := { name := "costOrdersMatchSpec", fn := fun _ => fun
  | [d1, d2] => { results := [.lit (.bool false)], args := [d1, d2] }
  | _ => none }
def CostOrdersMatchSpecWrongFalsely : Prop := costOrdersMatchSpecRow.holds Tryd.pinned (OpenSpec.ofChange costOrdersMatchSpecWrong)

/-- 'peristylelaw10.CostBestIsBest': WHATEVER THE INPUT: true; the input reads as it did. -/
def costBestIsBestSpec : ChangeSpec := { name := "costBestIsBest", fn := fun _ => fun
  | [d1, d2, d3] => { results := [.lit (.bool true)], args := [d1, d2, d3] }
  | _ => none }
def costBestIsBestRow : OpenClaim := { program := "ytgcijejmmhjibaadoor", sum := "364455a4beff5cc8aa2b0ee4f153df2c8ea2693671a82f99265068d119918173", func := "peristyle/peristylelaw10.CostBestIsBest", spec := "costBestIsBest", named := ["math/bits.deBruijn32tab", "math/bits.deBruijn64tab"], plainKeys := false, apart := false, laid := [("math/bits.deBruijn32tab", laid_math_bits_deBruijn32tab), ("math/bits.deBruijn64tab", laid_math_bits_deBruijn64tab)] }
def CostBestIsBestSaid : Prop := costBestIsBestRow.holds Tryd.pinned (OpenSpec.ofChange costBestIsBestSpec)

/-- ITS FALSE NEIGHBOUR: 'it returns false'. Refute it at one input. -/
def costBestIsBestWrong : ChangeSpec := { name := "costBestIsBest", fn := fun _ => fun
  | [d1, d2, d3] => { results := [.lit (.bool false)], args := [d1, d2, d3] }
  | _ => none }
def CostBestIsBestWrongFalsely : Prop := costBestIsBestRow.holds Tryd.pinned (OpenSpec.ofChange costBestIsBestWrong)

/-- 'peristylelaw10.CostWaysMatchSpec': WHATEVER THE INPUT: true; the input reads as it did. -/
def costWaysMatchSpecSpec : ChangeSpec := { name := "costWaysMatchSpec", fn := fun _ => fun
  | [d1, d2, d3, d4] => { results := [.lit (.bool true)], args := [d1, d2, d3, d4] }
  | _ => none }
def costWaysMatchSpecRow : OpenClaim := { program := "ytgcijejmmhjibaadoor", sum := "364455a4beff5cc8aa2b0ee4f153df2c8ea2693671a82f99265068d119918173", func := "peristyle/peristylelaw10.CostWaysMatchSpec", spec := "costWaysMatchSpec", named := ["math/bits.deBruijn32tab", "math/bits.deBruijn64tab"], plainKeys := false, apart := false, laid := [("math/bits.deBruijn32tab", laid_math_bits_deBruijn32tab), ("math/bits.deBruijn64tab", laid_math_bits_deBruijn64tab)] }
def CostWaysMatchSpecSaid : Prop := costWaysMatchSpecRow.holds Tryd.pinned (OpenSpec.ofChange costWaysMatchSpecSpec)

/-- ITS FALSE NEIGHBOUR: 'it returns false'. Refute it at one input. -/
def costWaysMatchSpecWrong : ChangeSpec := { name := "costWaysMatchSpec", fn := fun _ => fun
  | [d1, d2, d3, d4] => { results := [.lit (.bool false)], args := [d1, d2, d3, d4] }
  | _ => none }
def CostWaysMatchSpecWrongFalsely : Prop := costWaysMatchSpecRow.holds Tryd.pinned (OpenSpec.ofChange costWaysMatchSpecWrong)

/-- 'peristylelaw10.StatsJoinsMatchSpec': WHATEVER THE INPUT: true; the input reads as it did. -/
def statsJoinsMatchSpecSpec : ChangeSpec := { name := "statsJoinsMatchSpec", fn := fun _ => fun
  | [d1, d2, d3] => { results := [.lit (.bool true)], args := [d1, d2, d3] }
  | _ => none }
def statsJoinsMatchSpecRow : OpenClaim := { program := "ytgcijejmmhjibaadoor", sum := "364455a4beff5cc8aa2b0ee4f153df2c8ea2693671a82f99265068d119918173", func := "peristyle/peristylelaw10.StatsJoinsMatchSpec", spec := "statsJoinsMatchSpec", inPlace := ["internal/bytealg.abigen_runtime_cmpstring"], unfollowed := true, recurses := true, named := ["math/bits.deBruijn32tab", "math/bits.deBruijn64tab"], plainKeys := false, apart := false, laid := [("math/bits.deBruijn32tab", laid_math_bits_deBruijn32tab), ("math/bits.deBruijn64tab", laid_math_bits_deBruijn64tab)] }
def StatsJoinsMatchSpecSaid : Prop := statsJoinsMatchSpecRow.holds Tryd.pinned (OpenSpec.ofChange statsJoinsMatchSpecSpec)

/-- ITS FALSE NEIGHBOUR: 'it returns false'. Refute it at one input. -/
def statsJoinsMatchSpecWrong : ChangeSpec := { name := "statsJoinsMatchSpec", fn := fun _ => fun
  | [d1, d2, d3] => { results := [.lit (.bool false)], args := [d1, d2, d3] }
  | _ => none }
def StatsJoinsMatchSpecWrongFalsely : Prop := statsJoinsMatchSpecRow.holds Tryd.pinned (OpenSpec.ofChange statsJoinsMatchSpecWrong)

/-- 'peristylelaw10.StatsRowsMatchSpec': WHATEVER THE INPUT: true; the input reads as it did. -/
def statsRowsMatchSpecSpec : ChangeSpec := { name := "statsRowsMatchSpec", fn := fun _ => fun
  | [d1, d2, d3] => { results := [.lit (.bool true)], args := [d1, d2, d3] }
  | _ => none }
def statsRowsMatchSpecRow : OpenClaim := { program := "ytgcijejmmhjibaadoor", sum := "364455a4beff5cc8aa2b0ee4f153df2c8ea2693671a82f99265068d119918173", func := "peristyle/peristylelaw10.StatsRowsMatchSpec", spec := "statsRowsMatchSpec", inPlace := ["internal/bytealg.abigen_runtime_cmpstring"], unfollowed := true, recurses := true, named := ["math/bits.deBruijn32tab", "math/bits.deBruijn64tab"], plainKeys := false, apart := false, laid := [("math/bits.deBruijn32tab", laid_math_bits_deBruijn32tab), ("math/bits.deBruijn64tab", laid_math_bits_deBruijn64tab)] }
def StatsRowsMatchSpecSaid : Prop := statsRowsMatchSpecRow.holds Tryd.pinned (OpenSpec.ofChange statsRowsMatchSpecSpec)

/-- ITS FALSE NEIGHBOUR: 'it returns false'. Refute it at one input. -/
def statsRowsMatchSpecWrong : ChangeSpec := { name := "statsRowsMatchSpec", fn := fun _ => fun
  | [d1, d2, d3] => { results := [.lit (.bool false)], args := [d1, d2, d3] }
  | _ => none }
def StatsRowsMatchSpecWrongFalsely : Prop := statsRowsMatchSpecRow.holds Tryd.pinned (OpenSpec.ofChange statsRowsMatchSpecWrong)

/-- 'peristylelaw10.StatsAreRight': WHATEVER THE INPUT: true; the input reads as it did. -/
def statsAreRightSpec : ChangeSpec := { name := "statsAreRight", fn := fun _ => fun
  | [d1, d2, d3, d4] => { results := [.lit (.bool true)], args := [d1, d2, d3, d4] }
  | _ => none }
def statsAreRightRow : OpenClaim := { program := "ytgcijejmmhjibaadoor", sum := "364455a4beff5cc8aa2b0ee4f153df2c8ea2693671a82f99265068d119918173", func := "peristyle/peristylelaw10.StatsAreRight", spec := "statsAreRight", inPlace := ["internal/bytealg.abigen_runtime_cmpstring"], unfollowed := true, recurses := true, named := ["math/bits.deBruijn32tab", "math/bits.deBruijn64tab"], plainKeys := false, apart := false, laid := [("math/bits.deBruijn32tab", laid_math_bits_deBruijn32tab), ("math/bits.deBruijn64tab", laid_math_bits_deBruijn64tab)] }
def StatsAreRightSaid : Prop := statsAreRightRow.holds Tryd.pinned (OpenSpec.ofChange statsAreRightSpec)

/-- ITS FALSE NEIGHBOUR: 'it returns false'. Refute it at one input. -/
def statsAreRightWrong : ChangeSpec := { name := "statsAreRight", fn := fun _ => fun
  | [d1, d2, d3, d4] => { results := [.lit (.bool false)], args := [d1, d2, d3, d4] }
  | _ => none }
def StatsAreRightWrongFalsely : Prop := statsAreRightRow.holds Tryd.pinned (OpenSpec.ofChange statsAreRightWrong)

/-- 'peristylelaw10.StatsMatchSpec': WHATEVER THE INPUT: true; the input reads as it did. -/
def statsMatchSpecSpec : ChangeSpec := { name := "statsMatchSpec", fn := fun _ => fun
  | [d1, d2, d3, d4, d5, d6] => { results := [.lit (.bool true)], args := [d1, d2, d3, d4, d5, d6] }
  | _ => none }
def statsMatchSpecRow : OpenClaim := { program := "ytgcijejmmhjibaadoor", sum := "364455a4beff5cc8aa2b0ee4f153df2c8ea2693671a82f99265068d119918173", func := "peristyle/peristylelaw10.StatsMatchSpec", spec := "statsMatchSpec", inPlace := ["internal/bytealg.abigen_runtime_cmpstring", "slices.overlaps[peristyle/api.Frequent]"], unfollowed := true, recurses := true, named := ["math/bits.deBruijn32tab", "math/bits.deBruijn64tab"], plainKeys := false, apart := false, laid := [("math/bits.deBruijn32tab", laid_math_bits_deBruijn32tab), ("math/bits.deBruijn64tab", laid_math_bits_deBruijn64tab)] }
def StatsMatchSpecSaid : Prop := statsMatchSpecRow.holds Tryd.pinned (OpenSpec.ofChange statsMatchSpecSpec)

/-- ITS FALSE NEIGHBOUR: 'it returns false'. Refute it at one input. -/
def statsMatchSpecWrong : ChangeSpec := { name := "statsMatchSpec", fn := fun _ => fun
  | [d1, d2, d3, d4, d5, d6] => { results := [.lit (.bool false)], args := [d1, d2, d3, d4, d5, d6] }
  | _ => none }
def StatsMatchSpecWrongFalsely : Prop := statsMatchSpecRow.holds Tryd.pinned (OpenSpec.ofChange statsMatchSpecWrong)

/-- 'peristylelaw10.StatsBoundsHold': WHATEVER THE INPUT: true; the input reads as it did. -/
def statsBoundsHoldSpec : ChangeSpec := { name := "statsBoundsHold", fn := fun _ => fun
  | [d1, d2, d3, d4, d5] => { results := [.lit (.bool true)], args := [d1, d2, d3, d4, d5] }
  | _ => none }
def statsBoundsHoldRow : OpenClaim := { program := "ytgcijejmmhjibaadoor", sum := "364455a4beff5cc8aa2b0ee4f153df2c8ea2693671a82f99265068d119918173", func := "peristyle/peristylelaw10.StatsBoundsHold", spec := "statsBoundsHold", inPlace := ["internal/bytealg.abigen_runtime_cmpstring"], unfollowed := true, recurses := true, named := ["math/bits.deBruijn32tab", "math/bits.deBruijn64tab"], plainKeys := false, apart := false, laid := [("math/bits.deBruijn32tab", laid_math_bits_deBruijn32tab), ("math/bits.deBruijn64tab", laid_math_bits_deBruijn64tab)] }
def StatsBoundsHoldSaid : Prop := statsBoundsHoldRow.holds Tryd.pinned (OpenSpec.ofChange statsBoundsHoldSpec)

/-- ITS FALSE NEIGHBOUR: 'it returns false'. Refute it at one input. -/
def statsBoundsHoldWrong : ChangeSpec := { name := "statsBoundsHold", fn := fun _ => fun
  | [d1, d2, d3, d4, d5] => { results := [.lit (.bool false)], args := [d1, d2, d3, d4, d5] }
  | _ => none }
def StatsBoundsHoldWrongFalsely : Prop := statsBoundsHoldRow.holds Tryd.pinned (OpenSpec.ofChange statsBoundsHoldWrong)

/- THE SECOND FORM. 'bulk': how many values and letters a reading holds, each counted each time it is reached (what is shared counts as often as it is met; a slice's spare places count too). A statement '..UptoSaid' is the law's where the arguments, and the package variables that the reading takes, are together of bulk at most 1048576: NARROWER than '..Said'. Prove '..Said' where nothing that the law and all that it calls make is longer than what came in: it says more and counts as full. Else prove '..UptoSaid'. A law counts once. -/
mutual
def uptoBulk {H : Type} : DataW H → Nat
  | .lit (.string bytes) => bytes.length + 1
  | .lit _ => 1
  | .nil => 1
  | .ptr d => uptoBulk d + 1
  | .slice elems spare => uptoBulkAll elems + uptoBulkAll spare + 1
  | .agg parts => uptoBulkAll parts + 1
  | .iface _ d => uptoBulk d + 1
  | .map entries => uptoBulkEntries entries + 1
  | .held _ => 1
def uptoBulkAll {H : Type} : List (DataW H) → Nat
  | [] => 0
  | d :: r => uptoBulk d + uptoBulkAll r
def uptoBulkEntries {H : Type} : List (Lit × DataW H) → Nat
  | [] => 0
  | x :: r => uptoBulkEntry x + uptoBulkEntries r
def uptoBulkEntry {H : Type} : Lit × DataW H → Nat
  | (.string bytes, d) => bytes.length + uptoBulk d + 1
  | (_, d) => uptoBulk d + 1
 end
def uptoSmall : (H : Type) → List (DataW H) → Bool := fun _ ds => decide (uptoBulkAll ds ≤ 1048576)
def OpenSpec.upto (s : _root_.Go.ChangeSpec) : _root_.Go.OpenSpec := { _root_.Go.OpenSpec.ofChange s with cond := some uptoSmall }

/-- 'peristylelaw10.CostTreesMatchSpec', WHERE WHAT IT READS IS OF BULK AT MOST 1048576: true; the input reads as it did. -/
def costTreesMatchSpecUptoRow : OpenClaim := { program := "ytgcijejmmhjibaadoor", sum := "364455a4beff5cc8aa2b0ee4f153df2c8ea2693671a82f99265068d119918173", func := "peristyle/peristylelaw10.CostTreesMatchSpec", spec := "costTreesMatchSpec", named := ["math/bits.deBruijn32tab", "math/bits.deBruijn64tab"], plainKeys := false, apart := false, laid := [("math/bits.deBruijn32tab", laid_math_bits_deBruijn32tab), ("math/bits.deBruijn64tab", laid_math_bits_deBruijn64tab)], narrowed := true }
def CostTreesMatchSpecUptoSaid : Prop := costTreesMatchSpecUptoRow.holds Tryd.pinned (OpenSpec.upto costTreesMatchSpecSpec)

/-- 'peristylelaw10.CostOrdersMatchSpec', WHERE WHAT IT READS IS OF BULK AT MOST 1048576: true; the input reads as it did. -/
def costOrdersMatchSpecUptoRow : OpenClaim := { program := "ytgcijejmmhjibaadoor", sum := "364455a4beff5cc8aa2b0ee4f153df2c8ea2693671a82f99265068d119918173", func := "peristyle/peristylelaw10.CostOrdersMatchSpec", spec := "costOrdersMatchSpec", named := ["math/bits.deBruijn32tab", "math/bits.deBruijn64tab"], plainKeys := false, apart := false, laid := [("math/bits.deBruijn32tab", laid_math_bits_deBruijn32tab), ("math/bits.deBruijn64tab", laid_math_bits_deBruijn64tab)], narrowed := true }
def CostOrdersMatchSpecUptoSaid : Prop := costOrdersMatchSpecUptoRow.holds Tryd.pinned (OpenSpec.upto costOrdersMatchSpecSpec)

/-- 'peristylelaw10.CostBestIsBest', WHERE WHAT IT READS IS OF BULK AT MOST 1048576: true; the input reads as it did. -/
def costBestIsBestUptoRow : OpenClaim := { program := "ytgcijejmmhjibaadoor", sum := "364455a4beff5cc8aa2b0ee4f153df2c8ea2693671a82f99265068d119918173", func := "peristyle/peristylelaw10.CostBestIsBest", spec := "costBestIsBest", named := ["math/bits.deBruijn32tab", "math/bits.deBruijn64tab"], plainKeys := false, apart := false, laid := [("math/bits.deBruijn32tab", laid_math_bits_deBruijn32tab), ("math/bits.deBruijn64tab", laid_math_bits_deBruijn64tab)], narrowed := true }
def CostBestIsBestUptoSaid : Prop := costBestIsBestUptoRow.holds Tryd.pinned (OpenSpec.upto costBestIsBestSpec)

/-- 'peristylelaw10.CostWaysMatchSpec', WHERE WHAT IT READS IS OF BULK AT MOST 1048576: true; the input reads as it did. -/
def costWaysMatchSpecUptoRow : OpenClaim := { program := "ytgcijejmmhjibaadoor", sum := "364455a4beff5cc8aa2b0ee4f153df2c8ea2693671a82f99265068d119918173", func := "peristyle/peristylelaw10.CostWaysMatchSpec", spec := "costWaysMatchSpec", named := ["math/bits.deBruijn32tab", "math/bits.deBruijn64tab"], plainKeys := false, apart := false, laid := [("math/bits.deBruijn32tab", laid_math_bits_deBruijn32tab), ("math/bits.deBruijn64tab", laid_math_bits_deBruijn64tab)], narrowed := true }
def CostWaysMatchSpecUptoSaid : Prop := costWaysMatchSpecUptoRow.holds Tryd.pinned (OpenSpec.upto costWaysMatchSpecSpec)

/-- 'peristylelaw10.StatsJoinsMatchSpec', WHERE WHAT IT READS IS OF BULK AT MOST 1048576: true; the input reads as it did. -/
def statsJoinsMatchSpecUptoRow : OpenClaim := { program := "ytgcijejmmhjibaadoor", sum := "364455a4beff5cc8aa2b0ee4f153df2c8ea2693671a82f99265068d119918173", func := "peristyle/peristylelaw10.StatsJoinsMatchSpec", spec := "statsJoinsMatchSpec", inPlace := ["internal/bytealg.abigen_runtime_cmpstring"], unfollowed := true, recurses := true, named := ["math/bits.deBruijn32tab", "math/bits.deBruijn64tab"], plainKeys := false, apart := false, laid := [("math/bits.deBruijn32tab", laid_math_bits_deBruijn32tab), ("math/bits.deBruijn64tab", laid_math_bits_deBruijn64tab)], narrowed := true }
def StatsJoinsMatchSpecUptoSaid : Prop := statsJoinsMatchSpecUptoRow.holds Tryd.pinned (OpenSpec.upto statsJoinsMatchSpecSpec)

/-- 'peristylelaw10.StatsRowsMatchSpec', WHERE WHAT IT READS IS OF BULK AT MOST 1048576: true; the input reads as it did. -/
def statsRowsMatchSpecUptoRow : OpenClaim := { program := "ytgcijejmmhjibaadoor", sum := "364455a4beff5cc8aa2b0ee4f153df2c8ea2693671a82f99265068d119918173", func := "peristyle/peristylelaw10.StatsRowsMatchSpec", spec := "statsRowsMatchSpec", inPlace := ["internal/bytealg.abigen_runtime_cmpstring"], unfollowed := true, recurses := true, named := ["math/bits.deBruijn32tab", "math/bits.deBruijn64tab"], plainKeys := false, apart := false, laid := [("math/bits.deBruijn32tab", laid_math_bits_deBruijn32tab), ("math/bits.deBruijn64tab", laid_math_bits_deBruijn64tab)], narrowed := true }
def StatsRowsMatchSpecUptoSaid : Prop := statsRowsMatchSpecUptoRow.holds Tryd.pinned (OpenSpec.upto statsRowsMatchSpecSpec)

/-- 'peristylelaw10.StatsAreRight', WHERE WHAT IT READS IS OF BULK AT MOST 1048576: true; the input reads as it did. -/
def statsAreRightUptoRow : OpenClaim := { program := "ytgcijejmmhjibaadoor", sum := "364455a4beff5cc8aa2b0ee4f153df2c8ea2693671a82f99265068d119918173", func := "peristyle/peristylelaw10.StatsAreRight", spec := "statsAreRight", inPlace := ["internal/bytealg.abigen_runtime_cmpstring"], unfollowed := true, recurses := true, named := ["math/bits.deBruijn32tab", "math/bits.deBruijn64tab"], plainKeys := false, apart := false, laid := [("math/bits.deBruijn32tab", laid_math_bits_deBruijn32tab), ("math/bits.deBruijn64tab", laid_math_bits_deBruijn64tab)], narrowed := true }
def StatsAreRightUptoSaid : Prop := statsAreRightUptoRow.holds Tryd.pinned (OpenSpec.upto statsAreRightSpec)

/-- 'peristylelaw10.StatsMatchSpec', WHERE WHAT IT READS IS OF BULK AT MOST 1048576: true; the input reads as it did. -/
def statsMatchSpecUptoRow : OpenClaim := { program := "ytgcijejmmhjibaadoor", sum := "364455a4beff5cc8aa2b0ee4f153df2c8ea2693671a82f99265068d119918173", func := "peristyle/peristylelaw10.StatsMatchSpec", spec := "statsMatchSpec", inPlace := ["internal/bytealg.abigen_runtime_cmpstring", "slices.overlaps[peristyle/api.Frequent]"], unfollowed := true, recurses := true, named := ["math/bits.deBruijn32tab", "math/bits.deBruijn64tab"], plainKeys := false, apart := false, laid := [("math/bits.deBruijn32tab", laid_math_bits_deBruijn32tab), ("math/bits.deBruijn64tab", laid_math_bits_deBruijn64tab)], narrowed := true }
def StatsMatchSpecUptoSaid : Prop := statsMatchSpecUptoRow.holds Tryd.pinned (OpenSpec.upto statsMatchSpecSpec)

/-- 'peristylelaw10.StatsBoundsHold', WHERE WHAT IT READS IS OF BULK AT MOST 1048576: true; the input reads as it did. -/
def statsBoundsHoldUptoRow : OpenClaim := { program := "ytgcijejmmhjibaadoor", sum := "364455a4beff5cc8aa2b0ee4f153df2c8ea2693671a82f99265068d119918173", func := "peristyle/peristylelaw10.StatsBoundsHold", spec := "statsBoundsHold", inPlace := ["internal/bytealg.abigen_runtime_cmpstring"], unfollowed := true, recurses := true, named := ["math/bits.deBruijn32tab", "math/bits.deBruijn64tab"], plainKeys := false, apart := false, laid := [("math/bits.deBruijn32tab", laid_math_bits_deBruijn32tab), ("math/bits.deBruijn64tab", laid_math_bits_deBruijn64tab)], narrowed := true }
def StatsBoundsHoldUptoSaid : Prop := statsBoundsHoldUptoRow.holds Tryd.pinned (OpenSpec.upto statsBoundsHoldSpec)

end Rows
end Go.Proofs.YtgcijejmmhjibaaDoor
