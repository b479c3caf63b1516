/-
  No cell of these rows narrows 'for every input' (looked for: loops, veiled, ifaces, maps, wideKeys, modest, calm, conditions, laid).
  DERIVED. THE GIVEN ROWS OF THIS SEAT. 17 by the template 'for every input the law returns true; each argument reads behind the call as it read before'; 0 by the template 'total and deterministic' (their statements: YtabhcfenjelkcaaGreatTotals.lean).
  GIVEN WITH THE SEED: the statements are not yours to turn. If you find one false, say at which input.
  Laid BY PROGRAM, IN A SANDBOX (cutbox-rows.mjs): the forced cells as the released guide's own fill.sh prints them over the translation 619dcd74a5709eca… (all of the seat's roots in one cut). By AI agents, Wed Nov 11 2026. No macro, syntax, notation, axiom, sorry.
-/
import Derived.Test.YtabhcfenjelkcaaGreatChecked
import GoSem.Claim
import GoSem.ClaimJoined
import GoSem.ClaimMapViews
import Derived.JoinedTies
import Derived.KernelRfl
namespace Go.Proofs.YtabhcfenjelkcaaGreat
/- THE CELL 'sum', in the pinned program and in every row, IS THE sha256 OF THE DUMP (.gsa) THAT YtabhcfenjelkcaaGreatProg.lean LOADS. Nothing in Lean hashes anything: it is a label: what it is worth is what the hold of that sum in a sandbox is worth. -/
noncomputable def Tryz.pinned : Pinned := { name := "ytabhcfenjelkcaagreat", sum := "619dcd74a5709eca28851a6e4f6d314efccb2a07e4ded0607dd7a84b07783340", checked := Tryz.checked }
namespace Rows
def none {H : Type} : Left H := { results := [], args := [] }

/-- 'gantrylaw07.SturmChains': WHATEVER THE INPUT: true; the input reads as it did. -/
def sturmChainsSpec : ChangeSpec := { name := "sturmChains", fn := fun _ => fun
  | [d1, d2, d3] => { results := [.lit (.bool true)], args := [d1, d2, d3] }
  | _ => none }
def sturmChainsRow : OpenClaim := { program := "ytabhcfenjelkcaagreat", sum := "619dcd74a5709eca28851a6e4f6d314efccb2a07e4ded0607dd7a84b07783340", func := "gantry/gantrylaw07.SturmChains", spec := "sturmChains", unfollowed := true, recurses := true, apart := false }
def SturmChainsSaid : Prop := sturmChainsRow.holds Tryz.pinned (OpenSpec.ofChange sturmChainsSpec)

/-- ITS FALSE NEIGHBOUR: 'it returns false'. Refute it at one input. -/
def sturmChainsWrong : ChangeSpec := { name := "sturmChains", fn := fun _ => fun
  | [d1, d2, d3] => { results := [.lit (.bool false)], args := [d1, d2, d3] }
  | _ => none }
def SturmChainsWrongFalsely : Prop := sturmChainsRow.holds Tryz.pinned (OpenSpec.ofChange sturmChainsWrong)

/-- 'gantrylaw07.SturmCounts': WHATEVER THE INPUT: true; the input reads as it did. -/
def sturmCountsSpec : ChangeSpec := { name := "sturmCounts", fn := fun _ => fun
  | [d1, d2, d3, d4] => { results := [.lit (.bool true)], args := [d1, d2, d3, d4] }
  | _ => none }
def sturmCountsRow : OpenClaim := { program := "ytabhcfenjelkcaagreat", sum := "619dcd74a5709eca28851a6e4f6d314efccb2a07e4ded0607dd7a84b07783340", func := "gantry/gantrylaw07.SturmCounts", spec := "sturmCounts", unfollowed := true, recurses := true, apart := false }
def SturmCountsSaid : Prop := sturmCountsRow.holds Tryz.pinned (OpenSpec.ofChange sturmCountsSpec)

/-- ITS FALSE NEIGHBOUR: 'it returns false'. Refute it at one input. -/
def sturmCountsWrong : ChangeSpec := { name := "sturmCounts", fn := fun _ => fun
  | [d1, d2, d3, d4] => { results := [.lit (.bool false)], args := [d1, d2, d3, d4] }
  | _ => none }
def SturmCountsWrongFalsely : Prop := sturmCountsRow.holds Tryz.pinned (OpenSpec.ofChange sturmCountsWrong)

/-- 'gantrylaw07.SturmParts': WHATEVER THE INPUT: true; the input reads as it did. -/
def sturmPartsSpec : ChangeSpec := { name := "sturmParts", fn := fun _ => fun
  | [d1, d2, d3, d4, d5] => { results := [.lit (.bool true)], args := [d1, d2, d3, d4, d5] }
  | _ => none }
def sturmPartsRow : OpenClaim := { program := "ytabhcfenjelkcaagreat", sum := "619dcd74a5709eca28851a6e4f6d314efccb2a07e4ded0607dd7a84b07783340", func := "gantry/gantrylaw07.SturmParts", spec := "sturmParts", unfollowed := true, recurses := true, apart := false }
def SturmPartsSaid : Prop := sturmPartsRow.holds Tryz.pinned (OpenSpec.ofChange sturmPartsSpec)

/-- ITS FALSE NEIGHBOUR: 'it returns false'. Refute it at one input. -/
def sturmPartsWrong : ChangeSpec := { name := "sturmParts", fn := fun _ => fun
  | [d1, d2, d3, d4, d5] => { results := [.lit (.bool false)], args := [d1, d2, d3, d4, d5] }
  | _ => none }
def SturmPartsWrongFalsely : Prop := sturmPartsRow.holds Tryz.pinned (OpenSpec.ofChange sturmPartsWrong)

/-- 'gantrylaw07.SturmSquares': WHATEVER THE INPUT: true; the input reads as it did. -/
def sturmSquaresSpec : ChangeSpec := { name := "sturmSquares", fn := fun _ => fun
  | [d1, d2, d3] => { results := [.lit (.bool true)], args := [d1, d2, d3] }
  | _ => none }
def sturmSquaresRow : OpenClaim := { program := "ytabhcfenjelkcaagreat", sum := "619dcd74a5709eca28851a6e4f6d314efccb2a07e4ded0607dd7a84b07783340", func := "gantry/gantrylaw07.SturmSquares", spec := "sturmSquares", unfollowed := true, recurses := true, apart := false }
def SturmSquaresSaid : Prop := sturmSquaresRow.holds Tryz.pinned (OpenSpec.ofChange sturmSquaresSpec)

/-- ITS FALSE NEIGHBOUR: 'it returns false'. Refute it at one input. -/
def sturmSquaresWrong : ChangeSpec := { name := "sturmSquares", fn := fun _ => fun
  | [d1, d2, d3] => { results := [.lit (.bool false)], args := [d1, d2, d3] }
  | _ => none }
def SturmSquaresWrongFalsely : Prop := sturmSquaresRow.holds Tryz.pinned (OpenSpec.ofChange sturmSquaresWrong)

/-- 'gantrylaw07.SturmIsolates': WHATEVER THE INPUT: true; the input reads as it did. -/
def sturmIsolatesSpec : ChangeSpec := { name := "sturmIsolates", fn := fun _ => fun
  | [d1, d2, d3, d4] => { results := [.lit (.bool true)], args := [d1, d2, d3, d4] }
  | _ => none }
def sturmIsolatesRow : OpenClaim := { program := "ytabhcfenjelkcaagreat", sum := "619dcd74a5709eca28851a6e4f6d314efccb2a07e4ded0607dd7a84b07783340", func := "gantry/gantrylaw07.SturmIsolates", spec := "sturmIsolates", unfollowed := true, recurses := true, apart := false }
def SturmIsolatesSaid : Prop := sturmIsolatesRow.holds Tryz.pinned (OpenSpec.ofChange sturmIsolatesSpec)

/-- ITS FALSE NEIGHBOUR: 'it returns false'. Refute it at one input. -/
def sturmIsolatesWrong : ChangeSpec := { name := "sturmIsolates", fn := fun _ => fun
  | [d1, d2, d3, d4] => { results := [.lit (.bool false)], args := [d1, d2, d3, d4] }
  | _ => none }
def SturmIsolatesWrongFalsely : Prop := sturmIsolatesRow.holds Tryz.pinned (OpenSpec.ofChange sturmIsolatesWrong)

/-- 'gantrylaw07.SturmMoved': WHATEVER THE INPUT: true; the input reads as it did. -/
def sturmMovedSpec : ChangeSpec := { name := "sturmMoved", fn := fun _ => fun
  | [d1, d2, d3, d4, d5] => { results := [.lit (.bool true)], args := [d1, d2, d3, d4, d5] }
  | _ => none }
def sturmMovedRow : OpenClaim := { program := "ytabhcfenjelkcaagreat", sum := "619dcd74a5709eca28851a6e4f6d314efccb2a07e4ded0607dd7a84b07783340", func := "gantry/gantrylaw07.SturmMoved", spec := "sturmMoved", unfollowed := true, recurses := true, apart := false }
def SturmMovedSaid : Prop := sturmMovedRow.holds Tryz.pinned (OpenSpec.ofChange sturmMovedSpec)

/-- ITS FALSE NEIGHBOUR: 'it returns false'. Refute it at one input. -/
def sturmMovedWrong : ChangeSpec := { name := "sturmMoved", fn := fun _ => fun
  | [d1, d2, d3, d4, d5] => { results := [.lit (.bool false)], args := [d1, d2, d3, d4, d5] }
  | _ => none }
def SturmMovedWrongFalsely : Prop := sturmMovedRow.holds Tryz.pinned (OpenSpec.ofChange sturmMovedWrong)

/-- 'gantrylaw13.GapStays': WHATEVER THE INPUT: true; the input reads as it did. -/
def gapStaysSpec : ChangeSpec := { name := "gapStays", fn := fun _ => fun
  | [d1, d2] => { results := [.lit (.bool true)], args := [d1, d2] }
  | _ => none }
def gapStaysRow : OpenClaim := { program := "ytabhcfenjelkcaagreat", sum := "619dcd74a5709eca28851a6e4f6d314efccb2a07e4ded0607dd7a84b07783340", func := "gantry/gantrylaw13.GapStays", spec := "gapStays", unfollowed := true, recurses := true, apart := false }
def GapStaysSaid : Prop := gapStaysRow.holds Tryz.pinned (OpenSpec.ofChange gapStaysSpec)

/-- ITS FALSE NEIGHBOUR: 'it returns false'. Refute it at one input. -/
def gapStaysWrong : ChangeSpec := { name := "gapStays", fn := fun _ => fun
  | [d1, d2] => { results := [.lit (.bool false)], args := [d1, d2] }
  | _ => none }
def GapStaysWrongFalsely : Prop := gapStaysRow.holds Tryz.pinned (OpenSpec.ofChange gapStaysWrong)

/-- 'gantrylaw13.GapKeeps': WHATEVER THE INPUT: true; the input reads as it did. -/
def gapKeepsSpec : ChangeSpec := { name := "gapKeeps", fn := fun _ => fun
  | [d1, d2, d3] => { results := [.lit (.bool true)], args := [d1, d2, d3] }
  | _ => none }
def gapKeepsRow : OpenClaim := { program := "ytabhcfenjelkcaagreat", sum := "619dcd74a5709eca28851a6e4f6d314efccb2a07e4ded0607dd7a84b07783340", func := "gantry/gantrylaw13.GapKeeps", spec := "gapKeeps", unfollowed := true, recurses := true, apart := false }
def GapKeepsSaid : Prop := gapKeepsRow.holds Tryz.pinned (OpenSpec.ofChange gapKeepsSpec)

/-- ITS FALSE NEIGHBOUR: 'it returns false'. Refute it at one input. -/
def gapKeepsWrong : ChangeSpec := { name := "gapKeeps", fn := fun _ => fun
  | [d1, d2, d3] => { results := [.lit (.bool false)], args := [d1, d2, d3] }
  | _ => none }
def GapKeepsWrongFalsely : Prop := gapKeepsRow.holds Tryz.pinned (OpenSpec.ofChange gapKeepsWrong)

/-- 'gantrylaw13.GapTouches': WHATEVER THE INPUT: true; the input reads as it did. -/
def gapTouchesSpec : ChangeSpec := { name := "gapTouches", fn := fun _ => fun
  | [d1, d2, d3, d4, d5] => { results := [.lit (.bool true)], args := [d1, d2, d3, d4, d5] }
  | _ => none }
def gapTouchesRow : OpenClaim := { program := "ytabhcfenjelkcaagreat", sum := "619dcd74a5709eca28851a6e4f6d314efccb2a07e4ded0607dd7a84b07783340", func := "gantry/gantrylaw13.GapTouches", spec := "gapTouches", unfollowed := true, recurses := true, apart := false }
def GapTouchesSaid : Prop := gapTouchesRow.holds Tryz.pinned (OpenSpec.ofChange gapTouchesSpec)

/-- ITS FALSE NEIGHBOUR: 'it returns false'. Refute it at one input. -/
def gapTouchesWrong : ChangeSpec := { name := "gapTouches", fn := fun _ => fun
  | [d1, d2, d3, d4, d5] => { results := [.lit (.bool false)], args := [d1, d2, d3, d4, d5] }
  | _ => none }
def GapTouchesWrongFalsely : Prop := gapTouchesRow.holds Tryz.pinned (OpenSpec.ofChange gapTouchesWrong)

/-- 'gantrylaw06.PolyBytes': WHATEVER THE INPUT: true; the input reads as it did. -/
def polyBytesSpec : ChangeSpec := { name := "polyBytes", fn := fun _ => fun
  | [d1, d2, d3, d4] => { results := [.lit (.bool true)], args := [d1, d2, d3, d4] }
  | _ => none }
def polyBytesRow : OpenClaim := { program := "ytabhcfenjelkcaagreat", sum := "619dcd74a5709eca28851a6e4f6d314efccb2a07e4ded0607dd7a84b07783340", func := "gantry/gantrylaw06.PolyBytes", spec := "polyBytes", unfollowed := true, recurses := true, apart := false }
def PolyBytesSaid : Prop := polyBytesRow.holds Tryz.pinned (OpenSpec.ofChange polyBytesSpec)

/-- ITS FALSE NEIGHBOUR: 'it returns false'. Refute it at one input. -/
def polyBytesWrong : ChangeSpec := { name := "polyBytes", fn := fun _ => fun
  | [d1, d2, d3, d4] => { results := [.lit (.bool false)], args := [d1, d2, d3, d4] }
  | _ => none }
def PolyBytesWrongFalsely : Prop := polyBytesRow.holds Tryz.pinned (OpenSpec.ofChange polyBytesWrong)

/-- 'gantrylaw08.RealCompares': WHATEVER THE INPUT: true; the input reads as it did. -/
def realComparesSpec : ChangeSpec := { name := "realCompares", fn := fun _ => fun
  | [d1, d2, d3, d4] => { results := [.lit (.bool true)], args := [d1, d2, d3, d4] }
  | _ => none }
def realComparesRow : OpenClaim := { program := "ytabhcfenjelkcaagreat", sum := "619dcd74a5709eca28851a6e4f6d314efccb2a07e4ded0607dd7a84b07783340", func := "gantry/gantrylaw08.RealCompares", spec := "realCompares", unfollowed := true, recurses := true, apart := false }
def RealComparesSaid : Prop := realComparesRow.holds Tryz.pinned (OpenSpec.ofChange realComparesSpec)

/-- ITS FALSE NEIGHBOUR: 'it returns false'. Refute it at one input. -/
def realComparesWrong : ChangeSpec := { name := "realCompares", fn := fun _ => fun
  | [d1, d2, d3, d4] => { results := [.lit (.bool false)], args := [d1, d2, d3, d4] }
  | _ => none }
def RealComparesWrongFalsely : Prop := realComparesRow.holds Tryz.pinned (OpenSpec.ofChange realComparesWrong)

/-- 'gantrylaw08.RealRounds': WHATEVER THE INPUT: true; the input reads as it did. -/
def realRoundsSpec : ChangeSpec := { name := "realRounds", fn := fun _ => fun
  | [d1, d2, d3] => { results := [.lit (.bool true)], args := [d1, d2, d3] }
  | _ => none }
def realRoundsRow : OpenClaim := { program := "ytabhcfenjelkcaagreat", sum := "619dcd74a5709eca28851a6e4f6d314efccb2a07e4ded0607dd7a84b07783340", func := "gantry/gantrylaw08.RealRounds", spec := "realRounds", unfollowed := true, recurses := true, apart := false }
def RealRoundsSaid : Prop := realRoundsRow.holds Tryz.pinned (OpenSpec.ofChange realRoundsSpec)

/-- ITS FALSE NEIGHBOUR: 'it returns false'. Refute it at one input. -/
def realRoundsWrong : ChangeSpec := { name := "realRounds", fn := fun _ => fun
  | [d1, d2, d3] => { results := [.lit (.bool false)], args := [d1, d2, d3] }
  | _ => none }
def RealRoundsWrongFalsely : Prop := realRoundsRow.holds Tryz.pinned (OpenSpec.ofChange realRoundsWrong)

/-- 'gantrylaw08.RealWhole': WHATEVER THE INPUT: true; the input reads as it did. -/
def realWholeSpec : ChangeSpec := { name := "realWhole", fn := fun _ => fun
  | [d] => { results := [.lit (.bool true)], args := [d] }
  | _ => none }
def realWholeRow : OpenClaim := { program := "ytabhcfenjelkcaagreat", sum := "619dcd74a5709eca28851a6e4f6d314efccb2a07e4ded0607dd7a84b07783340", func := "gantry/gantrylaw08.RealWhole", spec := "realWhole", unfollowed := true, recurses := true, apart := false }
def RealWholeSaid : Prop := realWholeRow.holds Tryz.pinned (OpenSpec.ofChange realWholeSpec)

/-- ITS FALSE NEIGHBOUR: 'it returns false'. Refute it at one input. -/
def realWholeWrong : ChangeSpec := { name := "realWhole", fn := fun _ => fun
  | [d] => { results := [.lit (.bool false)], args := [d] }
  | _ => none }
def RealWholeWrongFalsely : Prop := realWholeRow.holds Tryz.pinned (OpenSpec.ofChange realWholeWrong)

/-- 'gantrylaw08.RealSigns': WHATEVER THE INPUT: true; the input reads as it did. -/
def realSignsSpec : ChangeSpec := { name := "realSigns", fn := fun _ => fun
  | [d1, d2, d3] => { results := [.lit (.bool true)], args := [d1, d2, d3] }
  | _ => none }
def realSignsRow : OpenClaim := { program := "ytabhcfenjelkcaagreat", sum := "619dcd74a5709eca28851a6e4f6d314efccb2a07e4ded0607dd7a84b07783340", func := "gantry/gantrylaw08.RealSigns", spec := "realSigns", unfollowed := true, recurses := true, apart := false }
def RealSignsSaid : Prop := realSignsRow.holds Tryz.pinned (OpenSpec.ofChange realSignsSpec)

/-- ITS FALSE NEIGHBOUR: 'it returns false'. Refute it at one input. -/
def realSignsWrong : ChangeSpec := { name := "realSigns", fn := fun _ => fun
  | [d1, d2, d3] => { results := [.lit (.bool false)], args := [d1, d2, d3] }
  | _ => none }
def RealSignsWrongFalsely : Prop := realSignsRow.holds Tryz.pinned (OpenSpec.ofChange realSignsWrong)

/-- 'gantrylaw08.RealProduct': WHATEVER THE INPUT: true; the input reads as it did. -/
def realProductSpec : ChangeSpec := { name := "realProduct", fn := fun _ => fun
  | [d1, d2] => { results := [.lit (.bool true)], args := [d1, d2] }
  | _ => none }
def realProductRow : OpenClaim := { program := "ytabhcfenjelkcaagreat", sum := "619dcd74a5709eca28851a6e4f6d314efccb2a07e4ded0607dd7a84b07783340", func := "gantry/gantrylaw08.RealProduct", spec := "realProduct", unfollowed := true, recurses := true, apart := false }
def RealProductSaid : Prop := realProductRow.holds Tryz.pinned (OpenSpec.ofChange realProductSpec)

/-- ITS FALSE NEIGHBOUR: 'it returns false'. Refute it at one input. -/
def realProductWrong : ChangeSpec := { name := "realProduct", fn := fun _ => fun
  | [d1, d2] => { results := [.lit (.bool false)], args := [d1, d2] }
  | _ => none }
def RealProductWrongFalsely : Prop := realProductRow.holds Tryz.pinned (OpenSpec.ofChange realProductWrong)

/-- 'gantrylaw08.RealValid': WHATEVER THE INPUT: true; the input reads as it did. -/
def realValidSpec : ChangeSpec := { name := "realValid", fn := fun _ => fun
  | [d1, d2, d3, d4, d5] => { results := [.lit (.bool true)], args := [d1, d2, d3, d4, d5] }
  | _ => none }
def realValidRow : OpenClaim := { program := "ytabhcfenjelkcaagreat", sum := "619dcd74a5709eca28851a6e4f6d314efccb2a07e4ded0607dd7a84b07783340", func := "gantry/gantrylaw08.RealValid", spec := "realValid", unfollowed := true, recurses := true, apart := false }
def RealValidSaid : Prop := realValidRow.holds Tryz.pinned (OpenSpec.ofChange realValidSpec)

/-- ITS FALSE NEIGHBOUR: 'it returns false'. Refute it at one input. -/
def realValidWrong : ChangeSpec := { name := "realValid", fn := fun _ => fun
  | [d1, d2, d3, d4, d5] => { results := [.lit (.bool false)], args := [d1, d2, d3, d4, d5] }
  | _ => none }
def RealValidWrongFalsely : Prop := realValidRow.holds Tryz.pinned (OpenSpec.ofChange realValidWrong)

/-- 'gantrylaw08.RealBytes': WHATEVER THE INPUT: true; the input reads as it did. -/
def realBytesSpec : ChangeSpec := { name := "realBytes", fn := fun _ => fun
  | [d1, d2, d3, d4, d5, d6] => { results := [.lit (.bool true)], args := [d1, d2, d3, d4, d5, d6] }
  | _ => none }
def realBytesRow : OpenClaim := { program := "ytabhcfenjelkcaagreat", sum := "619dcd74a5709eca28851a6e4f6d314efccb2a07e4ded0607dd7a84b07783340", func := "gantry/gantrylaw08.RealBytes", spec := "realBytes", unfollowed := true, recurses := true, apart := false }
def RealBytesSaid : Prop := realBytesRow.holds Tryz.pinned (OpenSpec.ofChange realBytesSpec)

/-- ITS FALSE NEIGHBOUR: 'it returns false'. Refute it at one input. -/
def realBytesWrong : ChangeSpec := { name := "realBytes", fn := fun _ => fun
  | [d1, d2, d3, d4, d5, d6] => { results := [.lit (.bool false)], args := [d1, d2, d3, d4, d5, d6] }
  | _ => none }
def RealBytesWrongFalsely : Prop := realBytesRow.holds Tryz.pinned (OpenSpec.ofChange realBytesWrong)

/- THE SECOND FORM. 'bulk': how many values and letters a reading holds, each counted each time it is reached (what is shared counts as often as it is met; a slice's spare places count too). A statement '..UptoSaid' is the law's where the arguments, and the package variables that the reading takes, are together of bulk at most 1048576: NARROWER than '..Said'. Prove '..Said' where nothing that the law and all that it calls make is longer than what came in: it says more and counts as full. Else prove '..UptoSaid'. A law counts once. -/
mutual
def uptoBulk {H : Type} : DataW H → Nat
  | .lit (.string bytes) => bytes.length + 1
  | .lit _ => 1
  | .nil => 1
  | .ptr d => uptoBulk d + 1
  | .slice elems spare => uptoBulkAll elems + uptoBulkAll spare + 1
  | .agg parts => uptoBulkAll parts + 1
  | .iface _ d => uptoBulk d + 1
  | .map entries => uptoBulkEntries entries + 1
  | .held _ => 1
def uptoBulkAll {H : Type} : List (DataW H) → Nat
  | [] => 0
  | d :: r => uptoBulk d + uptoBulkAll r
def uptoBulkEntries {H : Type} : List (Lit × DataW H) → Nat
  | [] => 0
  | x :: r => uptoBulkEntry x + uptoBulkEntries r
def uptoBulkEntry {H : Type} : Lit × DataW H → Nat
  | (.string bytes, d) => bytes.length + uptoBulk d + 1
  | (_, d) => uptoBulk d + 1
 end
def uptoSmall : (H : Type) → List (DataW H) → Bool := fun _ ds => decide (uptoBulkAll ds ≤ 1048576)
def OpenSpec.upto (s : _root_.Go.ChangeSpec) : _root_.Go.OpenSpec := { _root_.Go.OpenSpec.ofChange s with cond := some uptoSmall }

/-- 'gantrylaw07.SturmChains', WHERE WHAT IT READS IS OF BULK AT MOST 1048576: true; the input reads as it did. -/
def sturmChainsUptoRow : OpenClaim := { program := "ytabhcfenjelkcaagreat", sum := "619dcd74a5709eca28851a6e4f6d314efccb2a07e4ded0607dd7a84b07783340", func := "gantry/gantrylaw07.SturmChains", spec := "sturmChains", unfollowed := true, recurses := true, apart := false, narrowed := true }
def SturmChainsUptoSaid : Prop := sturmChainsUptoRow.holds Tryz.pinned (OpenSpec.upto sturmChainsSpec)

/-- 'gantrylaw07.SturmCounts', WHERE WHAT IT READS IS OF BULK AT MOST 1048576: true; the input reads as it did. -/
def sturmCountsUptoRow : OpenClaim := { program := "ytabhcfenjelkcaagreat", sum := "619dcd74a5709eca28851a6e4f6d314efccb2a07e4ded0607dd7a84b07783340", func := "gantry/gantrylaw07.SturmCounts", spec := "sturmCounts", unfollowed := true, recurses := true, apart := false, narrowed := true }
def SturmCountsUptoSaid : Prop := sturmCountsUptoRow.holds Tryz.pinned (OpenSpec.upto sturmCountsSpec)

/-- 'gantrylaw07.SturmParts', WHERE WHAT IT READS IS OF BULK AT MOST 1048576: true; the input reads as it did. -/
def sturmPartsUptoRow : OpenClaim := { program := "ytabhcfenjelkcaagreat", sum := "619dcd74a5709eca28851a6e4f6d314efccb2a07e4ded0607dd7a84b07783340", func := "gantry/gantrylaw07.SturmParts", spec := "sturmParts", unfollowed := true, recurses := true, apart := false, narrowed := true }
def SturmPartsUptoSaid : Prop := sturmPartsUptoRow.holds Tryz.pinned (OpenSpec.upto sturmPartsSpec)

/-- 'gantrylaw07.SturmSquares', WHERE WHAT IT READS IS OF BULK AT MOST 1048576: true; the input reads as it did. -/
def sturmSquaresUptoRow : OpenClaim := { program := "ytabhcfenjelkcaagreat", sum := "619dcd74a5709eca28851a6e4f6d314efccb2a07e4ded0607dd7a84b07783340", func := "gantry/gantrylaw07.SturmSquares", spec := "sturmSquares", unfollowed := true, recurses := true, apart := false, narrowed := true }
def SturmSquaresUptoSaid : Prop := sturmSquaresUptoRow.holds Tryz.pinned (OpenSpec.upto sturmSquaresSpec)

/-- 'gantrylaw07.SturmIsolates', WHERE WHAT IT READS IS OF BULK AT MOST 1048576: true; the input reads as it did. -/
def sturmIsolatesUptoRow : OpenClaim := { program := "ytabhcfenjelkcaagreat", sum := "619dcd74a5709eca28851a6e4f6d314efccb2a07e4ded0607dd7a84b07783340", func := "gantry/gantrylaw07.SturmIsolates", spec := "sturmIsolates", unfollowed := true, recurses := true, apart := false, narrowed := true }
def SturmIsolatesUptoSaid : Prop := sturmIsolatesUptoRow.holds Tryz.pinned (OpenSpec.upto sturmIsolatesSpec)

/-- 'gantrylaw07.SturmMoved', WHERE WHAT IT READS IS OF BULK AT MOST 1048576: true; the input reads as it did. -/
def sturmMovedUptoRow : OpenClaim := { program := "ytabhcfenjelkcaagreat", sum := "619dcd74a5709eca28851a6e4f6d314efccb2a07e4ded0607dd7a84b07783340", func := "gantry/gantrylaw07.SturmMoved", spec := "sturmMoved", unfollowed := true, recurses := true, apart := false, narrowed := true }
def SturmMovedUptoSaid : Prop := sturmMovedUptoRow.holds Tryz.pinned (OpenSpec.upto sturmMovedSpec)

/-- 'gantrylaw13.GapStays', WHERE WHAT IT READS IS OF BULK AT MOST 1048576: true; the input reads as it did. -/
def gapStaysUptoRow : OpenClaim := { program := "ytabhcfenjelkcaagreat", sum := "619dcd74a5709eca28851a6e4f6d314efccb2a07e4ded0607dd7a84b07783340", func := "gantry/gantrylaw13.GapStays", spec := "gapStays", unfollowed := true, recurses := true, apart := false, narrowed := true }
def GapStaysUptoSaid : Prop := gapStaysUptoRow.holds Tryz.pinned (OpenSpec.upto gapStaysSpec)

/-- 'gantrylaw13.GapKeeps', WHERE WHAT IT READS IS OF BULK AT MOST 1048576: true; the input reads as it did. -/
def gapKeepsUptoRow : OpenClaim := { program := "ytabhcfenjelkcaagreat", sum := "619dcd74a5709eca28851a6e4f6d314efccb2a07e4ded0607dd7a84b07783340", func := "gantry/gantrylaw13.GapKeeps", spec := "gapKeeps", unfollowed := true, recurses := true, apart := false, narrowed := true }
def GapKeepsUptoSaid : Prop := gapKeepsUptoRow.holds Tryz.pinned (OpenSpec.upto gapKeepsSpec)

/-- 'gantrylaw13.GapTouches', WHERE WHAT IT READS IS OF BULK AT MOST 1048576: true; the input reads as it did. -/
def gapTouchesUptoRow : OpenClaim := { program := "ytabhcfenjelkcaagreat", sum := "619dcd74a5709eca28851a6e4f6d314efccb2a07e4ded0607dd7a84b07783340", func := "gantry/gantrylaw13.GapTouches", spec := "gapTouches", unfollowed := true, recurses := true, apart := false, narrowed := true }
def GapTouchesUptoSaid : Prop := gapTouchesUptoRow.holds Tryz.pinned (OpenSpec.upto gapTouchesSpec)

/-- 'gantrylaw06.PolyBytes', WHERE WHAT IT READS IS OF BULK AT MOST 1048576: true; the input reads as it did. -/
def polyBytesUptoRow : OpenClaim := { program := "ytabhcfenjelkcaagreat", sum := "619dcd74a5709eca28851a6e4f6d314efccb2a07e4ded0607dd7a84b07783340", func := "gantry/gantrylaw06.PolyBytes", spec := "polyBytes", unfollowed := true, recurses := true, apart := false, narrowed := true }
def PolyBytesUptoSaid : Prop := polyBytesUptoRow.holds Tryz.pinned (OpenSpec.upto polyBytesSpec)

/-- 'gantrylaw08.RealCompares', WHERE WHAT IT READS IS OF BULK AT MOST 1048576: true; the input reads as it did. -/
def realComparesUptoRow : OpenClaim := { program := "ytabhcfenjelkcaagreat", sum := "619dcd74a5709eca28851a6e4f6d314efccb2a07e4ded0607dd7a84b07783340", func := "gantry/gantrylaw08.RealCompares", spec := "realCompares", unfollowed := true, recurses := true, apart := false, narrowed := true }
def RealComparesUptoSaid : Prop := realComparesUptoRow.holds Tryz.pinned (OpenSpec.upto realComparesSpec)

/-- 'gantrylaw08.RealRounds', WHERE WHAT IT READS IS OF BULK AT MOST 1048576: true; the input reads as it did. -/
def realRoundsUptoRow : OpenClaim := { program := "ytabhcfenjelkcaagreat", sum := "619dcd74a5709eca28851a6e4f6d314efccb2a07e4ded0607dd7a84b07783340", func := "gantry/gantrylaw08.RealRounds", spec := "realRounds", unfollowed := true, recurses := true, apart := false, narrowed := true }
def RealRoundsUptoSaid : Prop := realRoundsUptoRow.holds Tryz.pinned (OpenSpec.upto realRoundsSpec)

/-- 'gantrylaw08.RealWhole', WHERE WHAT IT READS IS OF BULK AT MOST 1048576: true; the input reads as it did. -/
def realWholeUptoRow : OpenClaim := { program := "ytabhcfenjelkcaagreat", sum := "619dcd74a5709eca28851a6e4f6d314efccb2a07e4ded0607dd7a84b07783340", func := "gantry/gantrylaw08.RealWhole", spec := "realWhole", unfollowed := true, recurses := true, apart := false, narrowed := true }
def RealWholeUptoSaid : Prop := realWholeUptoRow.holds Tryz.pinned (OpenSpec.upto realWholeSpec)

/-- 'gantrylaw08.RealSigns', WHERE WHAT IT READS IS OF BULK AT MOST 1048576: true; the input reads as it did. -/
def realSignsUptoRow : OpenClaim := { program := "ytabhcfenjelkcaagreat", sum := "619dcd74a5709eca28851a6e4f6d314efccb2a07e4ded0607dd7a84b07783340", func := "gantry/gantrylaw08.RealSigns", spec := "realSigns", unfollowed := true, recurses := true, apart := false, narrowed := true }
def RealSignsUptoSaid : Prop := realSignsUptoRow.holds Tryz.pinned (OpenSpec.upto realSignsSpec)

/-- 'gantrylaw08.RealProduct', WHERE WHAT IT READS IS OF BULK AT MOST 1048576: true; the input reads as it did. -/
def realProductUptoRow : OpenClaim := { program := "ytabhcfenjelkcaagreat", sum := "619dcd74a5709eca28851a6e4f6d314efccb2a07e4ded0607dd7a84b07783340", func := "gantry/gantrylaw08.RealProduct", spec := "realProduct", unfollowed := true, recurses := true, apart := false, narrowed := true }
def RealProductUptoSaid : Prop := realProductUptoRow.holds Tryz.pinned (OpenSpec.upto realProductSpec)

/-- 'gantrylaw08.RealValid', WHERE WHAT IT READS IS OF BULK AT MOST 1048576: true; the input reads as it did. -/
def realValidUptoRow : OpenClaim := { program := "ytabhcfenjelkcaagreat", sum := "619dcd74a5709eca28851a6e4f6d314efccb2a07e4ded0607dd7a84b07783340", func := "gantry/gantrylaw08.RealValid", spec := "realValid", unfollowed := true, recurses := true, apart := false, narrowed := true }
def RealValidUptoSaid : Prop := realValidUptoRow.holds Tryz.pinned (OpenSpec.upto realValidSpec)

/-- 'gantrylaw08.RealBytes', WHERE WHAT IT READS IS OF BULK AT MOST 1048576: true; the input reads as it did. -/
def realBytesUptoRow : OpenClaim := { program := "ytabhcfenjelkcaagreat", sum := "619dcd74a5709eca28851a6e4f6d314efccb2a07e4ded0607dd7a84b07783340", func := "gantry/gantrylaw08.RealBytes", spec := "realBytes", unfollowed := true, recurses := true, apart := false, narrowed := true }
def RealBytesUptoSaid : Prop := realBytesUptoRow.holds Tryz.pinned (OpenSpec.upto realBytesSpec)

end Rows
end Go.Proofs.YtabhcfenjelkcaaGreat
