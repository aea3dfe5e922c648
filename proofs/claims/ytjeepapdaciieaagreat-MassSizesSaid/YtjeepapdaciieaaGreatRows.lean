/-
  No cell of these rows narrows 'for every input' (looked for: loops, veiled, ifaces, maps, wideKeys, modest, calm, conditions, laid).
  DERIVED. THE GIVEN ROWS OF THIS SEAT. 11 by the template 'for every input the law returns true; each argument reads behind the call as it read before'; 0 by the template 'total and deterministic' (their statements: YtjeepapdaciieaaGreatTotals.lean).
  GIVEN WITH THE SEED: the statements are not yours to turn. If you find one false, say at which input.
  Laid BY PROGRAM, IN A SANDBOX (cutbox-rows.mjs): the forced cells as the released guide's own fill.sh prints them over the translation f42a531f64780f91… (all of the seat's roots in one cut). By AI agents, Wed Nov 11 2026. No macro, syntax, notation, axiom, sorry.
-/
import Derived.Test.YtjeepapdaciieaaGreatChecked
import GoSem.Claim
import GoSem.ClaimJoined
import GoSem.ClaimMapViews
import Derived.JoinedTies
import Derived.KernelRfl
namespace Go.Proofs.YtjeepapdaciieaaGreat
/- THE CELL 'sum', in the pinned program and in every row, IS THE sha256 OF THE DUMP (.gsa) THAT YtjeepapdaciieaaGreatProg.lean LOADS. Nothing in Lean hashes anything: it is a label: what it is worth is what the hold of that sum in a sandbox is worth. -/
noncomputable def Tryz.pinned : Pinned := { name := "ytjeepapdaciieaagreat", sum := "f42a531f64780f91d256714a7a5191597927b619073678ff90a4e8b3a6f0eeaa", checked := Tryz.checked }
namespace Rows
def none {H : Type} : Left H := { results := [], args := [] }

/-- 'artesianlaw23.MassSets': WHATEVER THE INPUT: true; the input reads as it did. -/
def massSetsSpec : ChangeSpec := { name := "massSets", fn := fun _ => fun
  | [d1, d2] => { results := [.lit (.bool true)], args := [d1, d2] }
  | _ => none }
def massSetsRow : OpenClaim := { program := "ytjeepapdaciieaagreat", sum := "f42a531f64780f91d256714a7a5191597927b619073678ff90a4e8b3a6f0eeaa", func := "artesian/artesianlaw23.MassSets", spec := "massSets", inPlace := ["math/bits.Add64", "math/bits.Sub64"], unfollowed := true, recurses := true, named := ["math/bits.divideError", "math/bits.overflowError"], apart := false }
def MassSetsSaid : Prop := massSetsRow.holds Tryz.pinned (OpenSpec.ofChange massSetsSpec)

/-- ITS FALSE NEIGHBOUR: 'it returns false'. Refute it at one input. -/
def massSetsWrong : ChangeSpec := { name := "massSets", fn := fun _ => fun
  | [d1, d2] => { results := [.lit (.bool false)], args := [d1, d2] }
  | _ => none }
def MassSetsWrongFalsely : Prop := massSetsRow.holds Tryz.pinned (OpenSpec.ofChange massSetsWrong)

/-- 'artesianlaw23.MassSizes': WHATEVER THE INPUT: true; the input reads as it did. -/
def massSizesSpec : ChangeSpec := { name := "massSizes", fn := fun _ => fun
  | [d1, d2] => { results := [.lit (.bool true)], args := [d1, d2] }
  | _ => none }
def massSizesRow : OpenClaim := { program := "ytjeepapdaciieaagreat", sum := "f42a531f64780f91d256714a7a5191597927b619073678ff90a4e8b3a6f0eeaa", func := "artesian/artesianlaw23.MassSizes", spec := "massSizes", inPlace := ["math/bits.Add64", "math/bits.Sub64"], unfollowed := true, recurses := true, named := ["math/bits.divideError", "math/bits.overflowError"], apart := false }
def MassSizesSaid : Prop := massSizesRow.holds Tryz.pinned (OpenSpec.ofChange massSizesSpec)

/-- ITS FALSE NEIGHBOUR: 'it returns false'. Refute it at one input. -/
def massSizesWrong : ChangeSpec := { name := "massSizes", fn := fun _ => fun
  | [d1, d2] => { results := [.lit (.bool false)], args := [d1, d2] }
  | _ => none }
def MassSizesWrongFalsely : Prop := massSizesRow.holds Tryz.pinned (OpenSpec.ofChange massSizesWrong)

/-- 'artesianlaw23.MassWhole': WHATEVER THE INPUT: true; the input reads as it did. -/
def massWholeSpec : ChangeSpec := { name := "massWhole", fn := fun _ => fun
  | [d1, d2, d3] => { results := [.lit (.bool true)], args := [d1, d2, d3] }
  | _ => none }
def massWholeRow : OpenClaim := { program := "ytjeepapdaciieaagreat", sum := "f42a531f64780f91d256714a7a5191597927b619073678ff90a4e8b3a6f0eeaa", func := "artesian/artesianlaw23.MassWhole", spec := "massWhole", inPlace := ["math/bits.Add64", "math/bits.Sub64"], unfollowed := true, recurses := true, named := ["math/bits.divideError", "math/bits.overflowError"], apart := false }
def MassWholeSaid : Prop := massWholeRow.holds Tryz.pinned (OpenSpec.ofChange massWholeSpec)

/-- ITS FALSE NEIGHBOUR: 'it returns false'. Refute it at one input. -/
def massWholeWrong : ChangeSpec := { name := "massWhole", fn := fun _ => fun
  | [d1, d2, d3] => { results := [.lit (.bool false)], args := [d1, d2, d3] }
  | _ => none }
def MassWholeWrongFalsely : Prop := massWholeRow.holds Tryz.pinned (OpenSpec.ofChange massWholeWrong)

/-- 'artesianlaw17.RowChance': WHATEVER THE INPUT: true; the input reads as it did. -/
def rowChanceSpec : ChangeSpec := { name := "rowChance", fn := fun _ => fun
  | [d1, d2] => { results := [.lit (.bool true)], args := [d1, d2] }
  | _ => none }
def rowChanceRow : OpenClaim := { program := "ytjeepapdaciieaagreat", sum := "f42a531f64780f91d256714a7a5191597927b619073678ff90a4e8b3a6f0eeaa", func := "artesian/artesianlaw17.RowChance", spec := "rowChance", inPlace := ["math/bits.Add64", "math/bits.Sub64"], unfollowed := true, recurses := true, named := ["math/bits.divideError", "math/bits.overflowError"], apart := false }
def RowChanceSaid : Prop := rowChanceRow.holds Tryz.pinned (OpenSpec.ofChange rowChanceSpec)

/-- ITS FALSE NEIGHBOUR: 'it returns false'. Refute it at one input. -/
def rowChanceWrong : ChangeSpec := { name := "rowChance", fn := fun _ => fun
  | [d1, d2] => { results := [.lit (.bool false)], args := [d1, d2] }
  | _ => none }
def RowChanceWrongFalsely : Prop := rowChanceRow.holds Tryz.pinned (OpenSpec.ofChange rowChanceWrong)

/-- 'artesianlaw17.RowWhole': WHATEVER THE INPUT: true; the input reads as it did. -/
def rowWholeSpec : ChangeSpec := { name := "rowWhole", fn := fun _ => fun
  | [d1, d2] => { results := [.lit (.bool true)], args := [d1, d2] }
  | _ => none }
def rowWholeRow : OpenClaim := { program := "ytjeepapdaciieaagreat", sum := "f42a531f64780f91d256714a7a5191597927b619073678ff90a4e8b3a6f0eeaa", func := "artesian/artesianlaw17.RowWhole", spec := "rowWhole", inPlace := ["math/bits.Add64", "math/bits.Sub64"], unfollowed := true, recurses := true, named := ["math/bits.divideError", "math/bits.overflowError"], apart := false }
def RowWholeSaid : Prop := rowWholeRow.holds Tryz.pinned (OpenSpec.ofChange rowWholeSpec)

/-- ITS FALSE NEIGHBOUR: 'it returns false'. Refute it at one input. -/
def rowWholeWrong : ChangeSpec := { name := "rowWhole", fn := fun _ => fun
  | [d1, d2] => { results := [.lit (.bool false)], args := [d1, d2] }
  | _ => none }
def RowWholeWrongFalsely : Prop := rowWholeRow.holds Tryz.pinned (OpenSpec.ofChange rowWholeWrong)

/-- 'artesianlaw25.RippleTrue': WHATEVER THE INPUT: true; the input reads as it did. -/
def rippleTrueSpec : ChangeSpec := { name := "rippleTrue", fn := fun _ => fun
  | [d1, d2, d3] => { results := [.lit (.bool true)], args := [d1, d2, d3] }
  | _ => none }
def rippleTrueRow : OpenClaim := { program := "ytjeepapdaciieaagreat", sum := "f42a531f64780f91d256714a7a5191597927b619073678ff90a4e8b3a6f0eeaa", func := "artesian/artesianlaw25.RippleTrue", spec := "rippleTrue", inPlace := ["math/bits.Add64", "math/bits.Sub64"], unfollowed := true, recurses := true, named := ["math/bits.divideError", "math/bits.overflowError"], apart := false }
def RippleTrueSaid : Prop := rippleTrueRow.holds Tryz.pinned (OpenSpec.ofChange rippleTrueSpec)

/-- ITS FALSE NEIGHBOUR: 'it returns false'. Refute it at one input. -/
def rippleTrueWrong : ChangeSpec := { name := "rippleTrue", fn := fun _ => fun
  | [d1, d2, d3] => { results := [.lit (.bool false)], args := [d1, d2, d3] }
  | _ => none }
def RippleTrueWrongFalsely : Prop := rippleTrueRow.holds Tryz.pinned (OpenSpec.ofChange rippleTrueWrong)

/-- 'artesianlaw26.CurveTruth': WHATEVER THE INPUT: true; the input reads as it did. -/
def curveTruthSpec : ChangeSpec := { name := "curveTruth", fn := fun _ => fun
  | [d1, d2, d3] => { results := [.lit (.bool true)], args := [d1, d2, d3] }
  | _ => none }
def curveTruthRow : OpenClaim := { program := "ytjeepapdaciieaagreat", sum := "f42a531f64780f91d256714a7a5191597927b619073678ff90a4e8b3a6f0eeaa", func := "artesian/artesianlaw26.CurveTruth", spec := "curveTruth", inPlace := ["math/bits.Add64", "math/bits.Sub64"], unfollowed := true, recurses := true, named := ["math/bits.divideError", "math/bits.overflowError"], apart := false }
def CurveTruthSaid : Prop := curveTruthRow.holds Tryz.pinned (OpenSpec.ofChange curveTruthSpec)

/-- ITS FALSE NEIGHBOUR: 'it returns false'. Refute it at one input. -/
def curveTruthWrong : ChangeSpec := { name := "curveTruth", fn := fun _ => fun
  | [d1, d2, d3] => { results := [.lit (.bool false)], args := [d1, d2, d3] }
  | _ => none }
def CurveTruthWrongFalsely : Prop := curveTruthRow.holds Tryz.pinned (OpenSpec.ofChange curveTruthWrong)

/-- 'artesianlaw23.MassFails': WHATEVER THE INPUT: true; the input reads as it did. -/
def massFailsSpec : ChangeSpec := { name := "massFails", fn := fun _ => fun
  | [d1, d2, d3] => { results := [.lit (.bool true)], args := [d1, d2, d3] }
  | _ => none }
def massFailsRow : OpenClaim := { program := "ytjeepapdaciieaagreat", sum := "f42a531f64780f91d256714a7a5191597927b619073678ff90a4e8b3a6f0eeaa", func := "artesian/artesianlaw23.MassFails", spec := "massFails", inPlace := ["math/bits.Add64", "math/bits.Sub64"], unfollowed := true, recurses := true, named := ["math/bits.divideError", "math/bits.overflowError"], apart := false }
def MassFailsSaid : Prop := massFailsRow.holds Tryz.pinned (OpenSpec.ofChange massFailsSpec)

/-- ITS FALSE NEIGHBOUR: 'it returns false'. Refute it at one input. -/
def massFailsWrong : ChangeSpec := { name := "massFails", fn := fun _ => fun
  | [d1, d2, d3] => { results := [.lit (.bool false)], args := [d1, d2, d3] }
  | _ => none }
def MassFailsWrongFalsely : Prop := massFailsRow.holds Tryz.pinned (OpenSpec.ofChange massFailsWrong)

/-- 'artesianlaw23.MassKnown': WHATEVER THE INPUT: true; the input reads as it did. -/
def massKnownSpec : ChangeSpec := { name := "massKnown", fn := fun _ => fun
  | [] => { results := [.lit (.bool true)], args := [] }
  | _ => none }
def massKnownRow : OpenClaim := { program := "ytjeepapdaciieaagreat", sum := "f42a531f64780f91d256714a7a5191597927b619073678ff90a4e8b3a6f0eeaa", func := "artesian/artesianlaw23.MassKnown", spec := "massKnown", inPlace := ["math/bits.Add64", "math/bits.Sub64"], unfollowed := true, recurses := true, named := ["math/bits.divideError", "math/bits.overflowError"], apart := false }
def MassKnownSaid : Prop := massKnownRow.holds Tryz.pinned (OpenSpec.ofChange massKnownSpec)

/-- ITS FALSE NEIGHBOUR: 'it returns false'. Refute it at one input. -/
def massKnownWrong : ChangeSpec := { name := "massKnown", fn := fun _ => fun
  | [] => { results := [.lit (.bool false)], args := [] }
  | _ => none }
def MassKnownWrongFalsely : Prop := massKnownRow.holds Tryz.pinned (OpenSpec.ofChange massKnownWrong)

/-- 'artesianlaw23.MassDrawn': WHATEVER THE INPUT: true; the input reads as it did. -/
def massDrawnSpec : ChangeSpec := { name := "massDrawn", fn := fun _ => fun
  | [d1, d2, d3] => { results := [.lit (.bool true)], args := [d1, d2, d3] }
  | _ => none }
def massDrawnRow : OpenClaim := { program := "ytjeepapdaciieaagreat", sum := "f42a531f64780f91d256714a7a5191597927b619073678ff90a4e8b3a6f0eeaa", func := "artesian/artesianlaw23.MassDrawn", spec := "massDrawn", inPlace := ["math/bits.Add64", "math/bits.Sub64"], unfollowed := true, recurses := true, named := ["math/bits.divideError", "math/bits.overflowError"], apart := false }
def MassDrawnSaid : Prop := massDrawnRow.holds Tryz.pinned (OpenSpec.ofChange massDrawnSpec)

/-- ITS FALSE NEIGHBOUR: 'it returns false'. Refute it at one input. -/
def massDrawnWrong : ChangeSpec := { name := "massDrawn", fn := fun _ => fun
  | [d1, d2, d3] => { results := [.lit (.bool false)], args := [d1, d2, d3] }
  | _ => none }
def MassDrawnWrongFalsely : Prop := massDrawnRow.holds Tryz.pinned (OpenSpec.ofChange massDrawnWrong)

/-- 'artesianlaw25.RippleMass': WHATEVER THE INPUT: true; the input reads as it did. -/
def rippleMassSpec : ChangeSpec := { name := "rippleMass", fn := fun _ => fun
  | [d1, d2, d3] => { results := [.lit (.bool true)], args := [d1, d2, d3] }
  | _ => none }
def rippleMassRow : OpenClaim := { program := "ytjeepapdaciieaagreat", sum := "f42a531f64780f91d256714a7a5191597927b619073678ff90a4e8b3a6f0eeaa", func := "artesian/artesianlaw25.RippleMass", spec := "rippleMass", inPlace := ["math/bits.Add64", "math/bits.Sub64"], unfollowed := true, recurses := true, named := ["math/bits.divideError", "math/bits.overflowError"], apart := false }
def RippleMassSaid : Prop := rippleMassRow.holds Tryz.pinned (OpenSpec.ofChange rippleMassSpec)

/-- ITS FALSE NEIGHBOUR: 'it returns false'. Refute it at one input. -/
def rippleMassWrong : ChangeSpec := { name := "rippleMass", fn := fun _ => fun
  | [d1, d2, d3] => { results := [.lit (.bool false)], args := [d1, d2, d3] }
  | _ => none }
def RippleMassWrongFalsely : Prop := rippleMassRow.holds Tryz.pinned (OpenSpec.ofChange rippleMassWrong)

/- THE SECOND FORM. 'bulk': how many values and letters a reading holds, each counted each time it is reached (what is shared counts as often as it is met; a slice's spare places count too). A statement '..UptoSaid' is the law's where the arguments, and the package variables that the reading takes, are together of bulk at most 1048576: NARROWER than '..Said'. Prove '..Said' where nothing that the law and all that it calls make is longer than what came in: it says more and counts as full. Else prove '..UptoSaid'. A law counts once. -/
mutual
def uptoBulk {H : Type} : DataW H → Nat
  | .lit (.string bytes) => bytes.length + 1
  | .lit _ => 1
  | .nil => 1
  | .ptr d => uptoBulk d + 1
  | .slice elems spare => uptoBulkAll elems + uptoBulkAll spare + 1
  | .agg parts => uptoBulkAll parts + 1
  | .iface _ d => uptoBulk d + 1
  | .map entries => uptoBulkEntries entries + 1
  | .held _ => 1
def uptoBulkAll {H : Type} : List (DataW H) → Nat
  | [] => 0
  | d :: r => uptoBulk d + uptoBulkAll r
def uptoBulkEntries {H : Type} : List (Lit × DataW H) → Nat
  | [] => 0
  | x :: r => uptoBulkEntry x + uptoBulkEntries r
def uptoBulkEntry {H : Type} : Lit × DataW H → Nat
  | (.string bytes, d) => bytes.length + uptoBulk d + 1
  | (_, d) => uptoBulk d + 1
 end
def uptoSmall : (H : Type) → List (DataW H) → Bool := fun _ ds => decide (uptoBulkAll ds ≤ 1048576)
def OpenSpec.upto (s : _root_.Go.ChangeSpec) : _root_.Go.OpenSpec := { _root_.Go.OpenSpec.ofChange s with cond := some uptoSmall }

/-- 'artesianlaw23.MassSets', WHERE WHAT IT READS IS OF BULK AT MOST 1048576: true; the input reads as it did. -/
def massSetsUptoRow : OpenClaim := { program := "ytjeepapdaciieaagreat", sum := "f42a531f64780f91d256714a7a5191597927b619073678ff90a4e8b3a6f0eeaa", func := "artesian/artesianlaw23.MassSets", spec := "massSets", inPlace := ["math/bits.Add64", "math/bits.Sub64"], unfollowed := true, recurses := true, named := ["math/bits.divideError", "math/bits.overflowError"], apart := false, narrowed := true }
def MassSetsUptoSaid : Prop := massSetsUptoRow.holds Tryz.pinned (OpenSpec.upto massSetsSpec)

/-- 'artesianlaw23.MassSizes', WHERE WHAT IT READS IS OF BULK AT MOST 1048576: true; the input reads as it did. -/
def massSizesUptoRow : OpenClaim := { program := "ytjeepapdaciieaagreat", sum := "f42a531f64780f91d256714a7a5191597927b619073678ff90a4e8b3a6f0eeaa", func := "artesian/artesianlaw23.MassSizes", spec := "massSizes", inPlace := ["math/bits.Add64", "math/bits.Sub64"], unfollowed := true, recurses := true, named := ["math/bits.divideError", "math/bits.overflowError"], apart := false, narrowed := true }
def MassSizesUptoSaid : Prop := massSizesUptoRow.holds Tryz.pinned (OpenSpec.upto massSizesSpec)

/-- 'artesianlaw23.MassWhole', WHERE WHAT IT READS IS OF BULK AT MOST 1048576: true; the input reads as it did. -/
def massWholeUptoRow : OpenClaim := { program := "ytjeepapdaciieaagreat", sum := "f42a531f64780f91d256714a7a5191597927b619073678ff90a4e8b3a6f0eeaa", func := "artesian/artesianlaw23.MassWhole", spec := "massWhole", inPlace := ["math/bits.Add64", "math/bits.Sub64"], unfollowed := true, recurses := true, named := ["math/bits.divideError", "math/bits.overflowError"], apart := false, narrowed := true }
def MassWholeUptoSaid : Prop := massWholeUptoRow.holds Tryz.pinned (OpenSpec.upto massWholeSpec)

/-- 'artesianlaw17.RowChance', WHERE WHAT IT READS IS OF BULK AT MOST 1048576: true; the input reads as it did. -/
def rowChanceUptoRow : OpenClaim := { program := "ytjeepapdaciieaagreat", sum := "f42a531f64780f91d256714a7a5191597927b619073678ff90a4e8b3a6f0eeaa", func := "artesian/artesianlaw17.RowChance", spec := "rowChance", inPlace := ["math/bits.Add64", "math/bits.Sub64"], unfollowed := true, recurses := true, named := ["math/bits.divideError", "math/bits.overflowError"], apart := false, narrowed := true }
def RowChanceUptoSaid : Prop := rowChanceUptoRow.holds Tryz.pinned (OpenSpec.upto rowChanceSpec)

/-- 'artesianlaw17.RowWhole', WHERE WHAT IT READS IS OF BULK AT MOST 1048576: true; the input reads as it did. -/
def rowWholeUptoRow : OpenClaim := { program := "ytjeepapdaciieaagreat", sum := "f42a531f64780f91d256714a7a5191597927b619073678ff90a4e8b3a6f0eeaa", func := "artesian/artesianlaw17.RowWhole", spec := "rowWhole", inPlace := ["math/bits.Add64", "math/bits.Sub64"], unfollowed := true, recurses := true, named := ["math/bits.divideError", "math/bits.overflowError"], apart := false, narrowed := true }
def RowWholeUptoSaid : Prop := rowWholeUptoRow.holds Tryz.pinned (OpenSpec.upto rowWholeSpec)

/-- 'artesianlaw25.RippleTrue', WHERE WHAT IT READS IS OF BULK AT MOST 1048576: true; the input reads as it did. -/
def rippleTrueUptoRow : OpenClaim := { program := "ytjeepapdaciieaagreat", sum := "f42a531f64780f91d256714a7a5191597927b619073678ff90a4e8b3a6f0eeaa", func := "artesian/artesianlaw25.RippleTrue", spec := "rippleTrue", inPlace := ["math/bits.Add64", "math/bits.Sub64"], unfollowed := true, recurses := true, named := ["math/bits.divideError", "math/bits.overflowError"], apart := false, narrowed := true }
def RippleTrueUptoSaid : Prop := rippleTrueUptoRow.holds Tryz.pinned (OpenSpec.upto rippleTrueSpec)

/-- 'artesianlaw26.CurveTruth', WHERE WHAT IT READS IS OF BULK AT MOST 1048576: true; the input reads as it did. -/
def curveTruthUptoRow : OpenClaim := { program := "ytjeepapdaciieaagreat", sum := "f42a531f64780f91d256714a7a5191597927b619073678ff90a4e8b3a6f0eeaa", func := "artesian/artesianlaw26.CurveTruth", spec := "curveTruth", inPlace := ["math/bits.Add64", "math/bits.Sub64"], unfollowed := true, recurses := true, named := ["math/bits.divideError", "math/bits.overflowError"], apart := false, narrowed := true }
def CurveTruthUptoSaid : Prop := curveTruthUptoRow.holds Tryz.pinned (OpenSpec.upto curveTruthSpec)

/-- 'artesianlaw23.MassFails', WHERE WHAT IT READS IS OF BULK AT MOST 1048576: true; the input reads as it did. -/
def massFailsUptoRow : OpenClaim := { program := "ytjeepapdaciieaagreat", sum := "f42a531f64780f91d256714a7a5191597927b619073678ff90a4e8b3a6f0eeaa", func := "artesian/artesianlaw23.MassFails", spec := "massFails", inPlace := ["math/bits.Add64", "math/bits.Sub64"], unfollowed := true, recurses := true, named := ["math/bits.divideError", "math/bits.overflowError"], apart := false, narrowed := true }
def MassFailsUptoSaid : Prop := massFailsUptoRow.holds Tryz.pinned (OpenSpec.upto massFailsSpec)

/-- 'artesianlaw23.MassKnown', WHERE WHAT IT READS IS OF BULK AT MOST 1048576: true; the input reads as it did. -/
def massKnownUptoRow : OpenClaim := { program := "ytjeepapdaciieaagreat", sum := "f42a531f64780f91d256714a7a5191597927b619073678ff90a4e8b3a6f0eeaa", func := "artesian/artesianlaw23.MassKnown", spec := "massKnown", inPlace := ["math/bits.Add64", "math/bits.Sub64"], unfollowed := true, recurses := true, named := ["math/bits.divideError", "math/bits.overflowError"], apart := false, narrowed := true }
def MassKnownUptoSaid : Prop := massKnownUptoRow.holds Tryz.pinned (OpenSpec.upto massKnownSpec)

/-- 'artesianlaw23.MassDrawn', WHERE WHAT IT READS IS OF BULK AT MOST 1048576: true; the input reads as it did. -/
def massDrawnUptoRow : OpenClaim := { program := "ytjeepapdaciieaagreat", sum := "f42a531f64780f91d256714a7a5191597927b619073678ff90a4e8b3a6f0eeaa", func := "artesian/artesianlaw23.MassDrawn", spec := "massDrawn", inPlace := ["math/bits.Add64", "math/bits.Sub64"], unfollowed := true, recurses := true, named := ["math/bits.divideError", "math/bits.overflowError"], apart := false, narrowed := true }
def MassDrawnUptoSaid : Prop := massDrawnUptoRow.holds Tryz.pinned (OpenSpec.upto massDrawnSpec)

/-- 'artesianlaw25.RippleMass', WHERE WHAT IT READS IS OF BULK AT MOST 1048576: true; the input reads as it did. -/
def rippleMassUptoRow : OpenClaim := { program := "ytjeepapdaciieaagreat", sum := "f42a531f64780f91d256714a7a5191597927b619073678ff90a4e8b3a6f0eeaa", func := "artesian/artesianlaw25.RippleMass", spec := "rippleMass", inPlace := ["math/bits.Add64", "math/bits.Sub64"], unfollowed := true, recurses := true, named := ["math/bits.divideError", "math/bits.overflowError"], apart := false, narrowed := true }
def RippleMassUptoSaid : Prop := rippleMassUptoRow.holds Tryz.pinned (OpenSpec.upto rippleMassSpec)

end Rows
end Go.Proofs.YtjeepapdaciieaaGreat
