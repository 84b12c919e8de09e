/-
  No cell of these rows narrows 'for every input' (looked for: loops, veiled, ifaces, maps, wideKeys, modest, calm, conditions, laid).
  DERIVED. THE GIVEN ROWS OF THIS SEAT. 26 by the template 'for every input the law returns true; each argument reads behind the call as it read before'; 0 by the template 'total and deterministic' (their statements: YtpbembafpnknhaaGreatTotals.lean).
  GIVEN WITH THE SEED: the statements are not yours to turn. If you find one false, say at which input.
  Laid BY PROGRAM, IN A SANDBOX (cutbox-rows.mjs): the forced cells as the released guide's own fill.sh prints them over the translation 347121739ab040dd… (all of the seat's roots in one cut). By AI agents, Wed Nov 11 2026. No macro, syntax, notation, axiom, sorry.
-/
import Derived.Test.YtpbembafpnknhaaGreatChecked
import GoSem.Claim
import GoSem.ClaimJoined
import GoSem.ClaimMapViews
import Derived.JoinedTies
import Derived.KernelRfl
namespace Go.Proofs.YtpbembafpnknhaaGreat
/- THE CELL 'sum', in the pinned program and in every row, IS THE sha256 OF THE DUMP (.gsa) THAT YtpbembafpnknhaaGreatProg.lean LOADS. Nothing in Lean hashes anything: it is a label: what it is worth is what the hold of that sum in a sandbox is worth. -/
noncomputable def Tryz.pinned : Pinned := { name := "ytpbembafpnknhaagreat", sum := "347121739ab040dd4c7942d490ae30a0dac81d9fd1ddb8d7e41728a5dce207b0", checked := Tryz.checked }
namespace Rows
def none {H : Type} : Left H := { results := [], args := [] }

/-- 'sentrylaw7.NormTells': WHATEVER THE INPUT: true; the input reads as it did. -/
def normTellsSpec : ChangeSpec := { name := "normTells", fn := fun _ => fun
  | [d1, d2, d3] => { results := [.lit (.bool true)], args := [d1, d2, d3] }
  | _ => none }
def normTellsRow : OpenClaim := { program := "ytpbembafpnknhaagreat", sum := "347121739ab040dd4c7942d490ae30a0dac81d9fd1ddb8d7e41728a5dce207b0", func := "sentry/sentrylaw7.NormTells", spec := "normTells", unfollowed := true, recurses := true, apart := false }
def NormTellsSaid : Prop := normTellsRow.holds Tryz.pinned (OpenSpec.ofChange normTellsSpec)

/-- ITS FALSE NEIGHBOUR: 'it returns false'. Refute it at one input. -/
def normTellsWrong : ChangeSpec := { name := "normTells", fn := fun _ => fun
  | [d1, d2, d3] => { results := [.lit (.bool false)], args := [d1, d2, d3] }
  | _ => none }
def NormTellsWrongFalsely : Prop := normTellsRow.holds Tryz.pinned (OpenSpec.ofChange normTellsWrong)

/-- 'sentrylaw7.NormOnce': WHATEVER THE INPUT: true; the input reads as it did. -/
def normOnceSpec : ChangeSpec := { name := "normOnce", fn := fun _ => fun
  | [d] => { results := [.lit (.bool true)], args := [d] }
  | _ => none }
def normOnceRow : OpenClaim := { program := "ytpbembafpnknhaagreat", sum := "347121739ab040dd4c7942d490ae30a0dac81d9fd1ddb8d7e41728a5dce207b0", func := "sentry/sentrylaw7.NormOnce", spec := "normOnce", unfollowed := true, recurses := true, apart := false }
def NormOnceSaid : Prop := normOnceRow.holds Tryz.pinned (OpenSpec.ofChange normOnceSpec)

/-- ITS FALSE NEIGHBOUR: 'it returns false'. Refute it at one input. -/
def normOnceWrong : ChangeSpec := { name := "normOnce", fn := fun _ => fun
  | [d] => { results := [.lit (.bool false)], args := [d] }
  | _ => none }
def NormOnceWrongFalsely : Prop := normOnceRow.holds Tryz.pinned (OpenSpec.ofChange normOnceWrong)

/-- 'sentrylaw7.NormOrders': WHATEVER THE INPUT: true; the input reads as it did. -/
def normOrdersSpec : ChangeSpec := { name := "normOrders", fn := fun _ => fun
  | [d1, d2, d3] => { results := [.lit (.bool true)], args := [d1, d2, d3] }
  | _ => none }
def normOrdersRow : OpenClaim := { program := "ytpbembafpnknhaagreat", sum := "347121739ab040dd4c7942d490ae30a0dac81d9fd1ddb8d7e41728a5dce207b0", func := "sentry/sentrylaw7.NormOrders", spec := "normOrders", unfollowed := true, recurses := true, apart := false }
def NormOrdersSaid : Prop := normOrdersRow.holds Tryz.pinned (OpenSpec.ofChange normOrdersSpec)

/-- ITS FALSE NEIGHBOUR: 'it returns false'. Refute it at one input. -/
def normOrdersWrong : ChangeSpec := { name := "normOrders", fn := fun _ => fun
  | [d1, d2, d3] => { results := [.lit (.bool false)], args := [d1, d2, d3] }
  | _ => none }
def NormOrdersWrongFalsely : Prop := normOrdersRow.holds Tryz.pinned (OpenSpec.ofChange normOrdersWrong)

/-- 'sentrylaw7.NormRuns': WHATEVER THE INPUT: true; the input reads as it did. -/
def normRunsSpec : ChangeSpec := { name := "normRuns", fn := fun _ => fun
  | [d1, d2] => { results := [.lit (.bool true)], args := [d1, d2] }
  | _ => none }
def normRunsRow : OpenClaim := { program := "ytpbembafpnknhaagreat", sum := "347121739ab040dd4c7942d490ae30a0dac81d9fd1ddb8d7e41728a5dce207b0", func := "sentry/sentrylaw7.NormRuns", spec := "normRuns", unfollowed := true, recurses := true, apart := false }
def NormRunsSaid : Prop := normRunsRow.holds Tryz.pinned (OpenSpec.ofChange normRunsSpec)

/-- ITS FALSE NEIGHBOUR: 'it returns false'. Refute it at one input. -/
def normRunsWrong : ChangeSpec := { name := "normRuns", fn := fun _ => fun
  | [d1, d2] => { results := [.lit (.bool false)], args := [d1, d2] }
  | _ => none }
def NormRunsWrongFalsely : Prop := normRunsRow.holds Tryz.pinned (OpenSpec.ofChange normRunsWrong)

/-- 'sentrylaw7.NormTurns': WHATEVER THE INPUT: true; the input reads as it did. -/
def normTurnsSpec : ChangeSpec := { name := "normTurns", fn := fun _ => fun
  | [d] => { results := [.lit (.bool true)], args := [d] }
  | _ => none }
def normTurnsRow : OpenClaim := { program := "ytpbembafpnknhaagreat", sum := "347121739ab040dd4c7942d490ae30a0dac81d9fd1ddb8d7e41728a5dce207b0", func := "sentry/sentrylaw7.NormTurns", spec := "normTurns", unfollowed := true, recurses := true, apart := false }
def NormTurnsSaid : Prop := normTurnsRow.holds Tryz.pinned (OpenSpec.ofChange normTurnsSpec)

/-- ITS FALSE NEIGHBOUR: 'it returns false'. Refute it at one input. -/
def normTurnsWrong : ChangeSpec := { name := "normTurns", fn := fun _ => fun
  | [d] => { results := [.lit (.bool false)], args := [d] }
  | _ => none }
def NormTurnsWrongFalsely : Prop := normTurnsRow.holds Tryz.pinned (OpenSpec.ofChange normTurnsWrong)

/-- 'sentrylaw7.NormOwn': WHATEVER THE INPUT: true; the input reads as it did. -/
def normOwnSpec : ChangeSpec := { name := "normOwn", fn := fun _ => fun
  | [d] => { results := [.lit (.bool true)], args := [d] }
  | _ => none }
def normOwnRow : OpenClaim := { program := "ytpbembafpnknhaagreat", sum := "347121739ab040dd4c7942d490ae30a0dac81d9fd1ddb8d7e41728a5dce207b0", func := "sentry/sentrylaw7.NormOwn", spec := "normOwn", unfollowed := true, recurses := true, apart := false }
def NormOwnSaid : Prop := normOwnRow.holds Tryz.pinned (OpenSpec.ofChange normOwnSpec)

/-- ITS FALSE NEIGHBOUR: 'it returns false'. Refute it at one input. -/
def normOwnWrong : ChangeSpec := { name := "normOwn", fn := fun _ => fun
  | [d] => { results := [.lit (.bool false)], args := [d] }
  | _ => none }
def NormOwnWrongFalsely : Prop := normOwnRow.holds Tryz.pinned (OpenSpec.ofChange normOwnWrong)

/-- 'sentrylaw7.NormSame': WHATEVER THE INPUT: true; the input reads as it did. -/
def normSameSpec : ChangeSpec := { name := "normSame", fn := fun _ => fun
  | [d1, d2] => { results := [.lit (.bool true)], args := [d1, d2] }
  | _ => none }
def normSameRow : OpenClaim := { program := "ytpbembafpnknhaagreat", sum := "347121739ab040dd4c7942d490ae30a0dac81d9fd1ddb8d7e41728a5dce207b0", func := "sentry/sentrylaw7.NormSame", spec := "normSame", unfollowed := true, recurses := true, apart := false }
def NormSameSaid : Prop := normSameRow.holds Tryz.pinned (OpenSpec.ofChange normSameSpec)

/-- ITS FALSE NEIGHBOUR: 'it returns false'. Refute it at one input. -/
def normSameWrong : ChangeSpec := { name := "normSame", fn := fun _ => fun
  | [d1, d2] => { results := [.lit (.bool false)], args := [d1, d2] }
  | _ => none }
def NormSameWrongFalsely : Prop := normSameRow.holds Tryz.pinned (OpenSpec.ofChange normSameWrong)

/-- 'sentrylaw7.NormTwice': WHATEVER THE INPUT: true; the input reads as it did. -/
def normTwiceSpec : ChangeSpec := { name := "normTwice", fn := fun _ => fun
  | [d] => { results := [.lit (.bool true)], args := [d] }
  | _ => none }
def normTwiceRow : OpenClaim := { program := "ytpbembafpnknhaagreat", sum := "347121739ab040dd4c7942d490ae30a0dac81d9fd1ddb8d7e41728a5dce207b0", func := "sentry/sentrylaw7.NormTwice", spec := "normTwice", unfollowed := true, recurses := true, apart := false }
def NormTwiceSaid : Prop := normTwiceRow.holds Tryz.pinned (OpenSpec.ofChange normTwiceSpec)

/-- ITS FALSE NEIGHBOUR: 'it returns false'. Refute it at one input. -/
def normTwiceWrong : ChangeSpec := { name := "normTwice", fn := fun _ => fun
  | [d] => { results := [.lit (.bool false)], args := [d] }
  | _ => none }
def NormTwiceWrongFalsely : Prop := normTwiceRow.holds Tryz.pinned (OpenSpec.ofChange normTwiceWrong)

/-- 'sentrylaw7.NormIDs': WHATEVER THE INPUT: true; the input reads as it did. -/
def normIDsSpec : ChangeSpec := { name := "normIDs", fn := fun _ => fun
  | [d] => { results := [.lit (.bool true)], args := [d] }
  | _ => none }
def normIDsRow : OpenClaim := { program := "ytpbembafpnknhaagreat", sum := "347121739ab040dd4c7942d490ae30a0dac81d9fd1ddb8d7e41728a5dce207b0", func := "sentry/sentrylaw7.NormIDs", spec := "normIDs", unfollowed := true, recurses := true, apart := false }
def NormIDsSaid : Prop := normIDsRow.holds Tryz.pinned (OpenSpec.ofChange normIDsSpec)

/-- ITS FALSE NEIGHBOUR: 'it returns false'. Refute it at one input. -/
def normIDsWrong : ChangeSpec := { name := "normIDs", fn := fun _ => fun
  | [d] => { results := [.lit (.bool false)], args := [d] }
  | _ => none }
def NormIDsWrongFalsely : Prop := normIDsRow.holds Tryz.pinned (OpenSpec.ofChange normIDsWrong)

/-- 'sentrylaw13.DiffTells': WHATEVER THE INPUT: true; the input reads as it did. -/
def diffTellsSpec : ChangeSpec := { name := "diffTells", fn := fun _ => fun
  | [d1, d2] => { results := [.lit (.bool true)], args := [d1, d2] }
  | _ => none }
def diffTellsRow : OpenClaim := { program := "ytpbembafpnknhaagreat", sum := "347121739ab040dd4c7942d490ae30a0dac81d9fd1ddb8d7e41728a5dce207b0", func := "sentry/sentrylaw13.DiffTells", spec := "diffTells", unfollowed := true, recurses := true, apart := false }
def DiffTellsSaid : Prop := diffTellsRow.holds Tryz.pinned (OpenSpec.ofChange diffTellsSpec)

/-- ITS FALSE NEIGHBOUR: 'it returns false'. Refute it at one input. -/
def diffTellsWrong : ChangeSpec := { name := "diffTells", fn := fun _ => fun
  | [d1, d2] => { results := [.lit (.bool false)], args := [d1, d2] }
  | _ => none }
def DiffTellsWrongFalsely : Prop := diffTellsRow.holds Tryz.pinned (OpenSpec.ofChange diffTellsWrong)

/-- 'sentrylaw13.DiffOne': WHATEVER THE INPUT: true; the input reads as it did. -/
def diffOneSpec : ChangeSpec := { name := "diffOne", fn := fun _ => fun
  | [d1, d2, d3] => { results := [.lit (.bool true)], args := [d1, d2, d3] }
  | _ => none }
def diffOneRow : OpenClaim := { program := "ytpbembafpnknhaagreat", sum := "347121739ab040dd4c7942d490ae30a0dac81d9fd1ddb8d7e41728a5dce207b0", func := "sentry/sentrylaw13.DiffOne", spec := "diffOne", unfollowed := true, recurses := true, apart := false }
def DiffOneSaid : Prop := diffOneRow.holds Tryz.pinned (OpenSpec.ofChange diffOneSpec)

/-- ITS FALSE NEIGHBOUR: 'it returns false'. Refute it at one input. -/
def diffOneWrong : ChangeSpec := { name := "diffOne", fn := fun _ => fun
  | [d1, d2, d3] => { results := [.lit (.bool false)], args := [d1, d2, d3] }
  | _ => none }
def DiffOneWrongFalsely : Prop := diffOneRow.holds Tryz.pinned (OpenSpec.ofChange diffOneWrong)

/-- 'sentrylaw14.MergeTells': WHATEVER THE INPUT: true; the input reads as it did. -/
def mergeTellsSpec : ChangeSpec := { name := "mergeTells", fn := fun _ => fun
  | [d1, d2, d3] => { results := [.lit (.bool true)], args := [d1, d2, d3] }
  | _ => none }
def mergeTellsRow : OpenClaim := { program := "ytpbembafpnknhaagreat", sum := "347121739ab040dd4c7942d490ae30a0dac81d9fd1ddb8d7e41728a5dce207b0", func := "sentry/sentrylaw14.MergeTells", spec := "mergeTells", unfollowed := true, recurses := true, apart := false }
def MergeTellsSaid : Prop := mergeTellsRow.holds Tryz.pinned (OpenSpec.ofChange mergeTellsSpec)

/-- ITS FALSE NEIGHBOUR: 'it returns false'. Refute it at one input. -/
def mergeTellsWrong : ChangeSpec := { name := "mergeTells", fn := fun _ => fun
  | [d1, d2, d3] => { results := [.lit (.bool false)], args := [d1, d2, d3] }
  | _ => none }
def MergeTellsWrongFalsely : Prop := mergeTellsRow.holds Tryz.pinned (OpenSpec.ofChange mergeTellsWrong)

/-- 'sentrylaw14.MergeAlone': WHATEVER THE INPUT: true; the input reads as it did. -/
def mergeAloneSpec : ChangeSpec := { name := "mergeAlone", fn := fun _ => fun
  | [d1, d2] => { results := [.lit (.bool true)], args := [d1, d2] }
  | _ => none }
def mergeAloneRow : OpenClaim := { program := "ytpbembafpnknhaagreat", sum := "347121739ab040dd4c7942d490ae30a0dac81d9fd1ddb8d7e41728a5dce207b0", func := "sentry/sentrylaw14.MergeAlone", spec := "mergeAlone", unfollowed := true, recurses := true, apart := false }
def MergeAloneSaid : Prop := mergeAloneRow.holds Tryz.pinned (OpenSpec.ofChange mergeAloneSpec)

/-- ITS FALSE NEIGHBOUR: 'it returns false'. Refute it at one input. -/
def mergeAloneWrong : ChangeSpec := { name := "mergeAlone", fn := fun _ => fun
  | [d1, d2] => { results := [.lit (.bool false)], args := [d1, d2] }
  | _ => none }
def MergeAloneWrongFalsely : Prop := mergeAloneRow.holds Tryz.pinned (OpenSpec.ofChange mergeAloneWrong)

/-- 'sentrylaw14.MergeTurned': WHATEVER THE INPUT: true; the input reads as it did. -/
def mergeTurnedSpec : ChangeSpec := { name := "mergeTurned", fn := fun _ => fun
  | [d1, d2, d3] => { results := [.lit (.bool true)], args := [d1, d2, d3] }
  | _ => none }
def mergeTurnedRow : OpenClaim := { program := "ytpbembafpnknhaagreat", sum := "347121739ab040dd4c7942d490ae30a0dac81d9fd1ddb8d7e41728a5dce207b0", func := "sentry/sentrylaw14.MergeTurned", spec := "mergeTurned", unfollowed := true, recurses := true, apart := false }
def MergeTurnedSaid : Prop := mergeTurnedRow.holds Tryz.pinned (OpenSpec.ofChange mergeTurnedSpec)

/-- ITS FALSE NEIGHBOUR: 'it returns false'. Refute it at one input. -/
def mergeTurnedWrong : ChangeSpec := { name := "mergeTurned", fn := fun _ => fun
  | [d1, d2, d3] => { results := [.lit (.bool false)], args := [d1, d2, d3] }
  | _ => none }
def MergeTurnedWrongFalsely : Prop := mergeTurnedRow.holds Tryz.pinned (OpenSpec.ofChange mergeTurnedWrong)

/-- 'sentrylaw14.MergeEither': WHATEVER THE INPUT: true; the input reads as it did. -/
def mergeEitherSpec : ChangeSpec := { name := "mergeEither", fn := fun _ => fun
  | [d1, d2, d3] => { results := [.lit (.bool true)], args := [d1, d2, d3] }
  | _ => none }
def mergeEitherRow : OpenClaim := { program := "ytpbembafpnknhaagreat", sum := "347121739ab040dd4c7942d490ae30a0dac81d9fd1ddb8d7e41728a5dce207b0", func := "sentry/sentrylaw14.MergeEither", spec := "mergeEither", unfollowed := true, recurses := true, apart := false }
def MergeEitherSaid : Prop := mergeEitherRow.holds Tryz.pinned (OpenSpec.ofChange mergeEitherSpec)

/-- ITS FALSE NEIGHBOUR: 'it returns false'. Refute it at one input. -/
def mergeEitherWrong : ChangeSpec := { name := "mergeEither", fn := fun _ => fun
  | [d1, d2, d3] => { results := [.lit (.bool false)], args := [d1, d2, d3] }
  | _ => none }
def MergeEitherWrongFalsely : Prop := mergeEitherRow.holds Tryz.pinned (OpenSpec.ofChange mergeEitherWrong)

/-- 'sentrylaw14.MergeSides': WHATEVER THE INPUT: true; the input reads as it did. -/
def mergeSidesSpec : ChangeSpec := { name := "mergeSides", fn := fun _ => fun
  | [d1, d2, d3] => { results := [.lit (.bool true)], args := [d1, d2, d3] }
  | _ => none }
def mergeSidesRow : OpenClaim := { program := "ytpbembafpnknhaagreat", sum := "347121739ab040dd4c7942d490ae30a0dac81d9fd1ddb8d7e41728a5dce207b0", func := "sentry/sentrylaw14.MergeSides", spec := "mergeSides", unfollowed := true, recurses := true, apart := false }
def MergeSidesSaid : Prop := mergeSidesRow.holds Tryz.pinned (OpenSpec.ofChange mergeSidesSpec)

/-- ITS FALSE NEIGHBOUR: 'it returns false'. Refute it at one input. -/
def mergeSidesWrong : ChangeSpec := { name := "mergeSides", fn := fun _ => fun
  | [d1, d2, d3] => { results := [.lit (.bool false)], args := [d1, d2, d3] }
  | _ => none }
def MergeSidesWrongFalsely : Prop := mergeSidesRow.holds Tryz.pinned (OpenSpec.ofChange mergeSidesWrong)

/-- 'sentrylaw14.MergeClash': WHATEVER THE INPUT: true; the input reads as it did. -/
def mergeClashSpec : ChangeSpec := { name := "mergeClash", fn := fun _ => fun
  | [d] => { results := [.lit (.bool true)], args := [d] }
  | _ => none }
def mergeClashRow : OpenClaim := { program := "ytpbembafpnknhaagreat", sum := "347121739ab040dd4c7942d490ae30a0dac81d9fd1ddb8d7e41728a5dce207b0", func := "sentry/sentrylaw14.MergeClash", spec := "mergeClash", unfollowed := true, recurses := true, apart := false }
def MergeClashSaid : Prop := mergeClashRow.holds Tryz.pinned (OpenSpec.ofChange mergeClashSpec)

/-- ITS FALSE NEIGHBOUR: 'it returns false'. Refute it at one input. -/
def mergeClashWrong : ChangeSpec := { name := "mergeClash", fn := fun _ => fun
  | [d] => { results := [.lit (.bool false)], args := [d] }
  | _ => none }
def MergeClashWrongFalsely : Prop := mergeClashRow.holds Tryz.pinned (OpenSpec.ofChange mergeClashWrong)

/-- 'sentrylaw14.MergeApart': WHATEVER THE INPUT: true; the input reads as it did. -/
def mergeApartSpec : ChangeSpec := { name := "mergeApart", fn := fun _ => fun
  | [d1, d2] => { results := [.lit (.bool true)], args := [d1, d2] }
  | _ => none }
def mergeApartRow : OpenClaim := { program := "ytpbembafpnknhaagreat", sum := "347121739ab040dd4c7942d490ae30a0dac81d9fd1ddb8d7e41728a5dce207b0", func := "sentry/sentrylaw14.MergeApart", spec := "mergeApart", unfollowed := true, recurses := true, apart := false }
def MergeApartSaid : Prop := mergeApartRow.holds Tryz.pinned (OpenSpec.ofChange mergeApartSpec)

/-- ITS FALSE NEIGHBOUR: 'it returns false'. Refute it at one input. -/
def mergeApartWrong : ChangeSpec := { name := "mergeApart", fn := fun _ => fun
  | [d1, d2] => { results := [.lit (.bool false)], args := [d1, d2] }
  | _ => none }
def MergeApartWrongFalsely : Prop := mergeApartRow.holds Tryz.pinned (OpenSpec.ofChange mergeApartWrong)

/-- 'sentrylaw14.MergeBy': WHATEVER THE INPUT: true; the input reads as it did. -/
def mergeBySpec : ChangeSpec := { name := "mergeBy", fn := fun _ => fun
  | [d1, d2] => { results := [.lit (.bool true)], args := [d1, d2] }
  | _ => none }
def mergeByRow : OpenClaim := { program := "ytpbembafpnknhaagreat", sum := "347121739ab040dd4c7942d490ae30a0dac81d9fd1ddb8d7e41728a5dce207b0", func := "sentry/sentrylaw14.MergeBy", spec := "mergeBy", unfollowed := true, recurses := true, apart := false }
def MergeBySaid : Prop := mergeByRow.holds Tryz.pinned (OpenSpec.ofChange mergeBySpec)

/-- ITS FALSE NEIGHBOUR: 'it returns false'. Refute it at one input. -/
def mergeByWrong : ChangeSpec := { name := "mergeBy", fn := fun _ => fun
  | [d1, d2] => { results := [.lit (.bool false)], args := [d1, d2] }
  | _ => none }
def MergeByWrongFalsely : Prop := mergeByRow.holds Tryz.pinned (OpenSpec.ofChange mergeByWrong)

/-- 'sentrylaw14.MergeOrder': WHATEVER THE INPUT: true; the input reads as it did. -/
def mergeOrderSpec : ChangeSpec := { name := "mergeOrder", fn := fun _ => fun
  | [d1, d2, d3] => { results := [.lit (.bool true)], args := [d1, d2, d3] }
  | _ => none }
def mergeOrderRow : OpenClaim := { program := "ytpbembafpnknhaagreat", sum := "347121739ab040dd4c7942d490ae30a0dac81d9fd1ddb8d7e41728a5dce207b0", func := "sentry/sentrylaw14.MergeOrder", spec := "mergeOrder", unfollowed := true, recurses := true, apart := false }
def MergeOrderSaid : Prop := mergeOrderRow.holds Tryz.pinned (OpenSpec.ofChange mergeOrderSpec)

/-- ITS FALSE NEIGHBOUR: 'it returns false'. Refute it at one input. -/
def mergeOrderWrong : ChangeSpec := { name := "mergeOrder", fn := fun _ => fun
  | [d1, d2, d3] => { results := [.lit (.bool false)], args := [d1, d2, d3] }
  | _ => none }
def MergeOrderWrongFalsely : Prop := mergeOrderRow.holds Tryz.pinned (OpenSpec.ofChange mergeOrderWrong)

/-- 'sentrylaw13.DiffBack': WHATEVER THE INPUT: true; the input reads as it did. -/
def diffBackSpec : ChangeSpec := { name := "diffBack", fn := fun _ => fun
  | [d1, d2] => { results := [.lit (.bool true)], args := [d1, d2] }
  | _ => none }
def diffBackRow : OpenClaim := { program := "ytpbembafpnknhaagreat", sum := "347121739ab040dd4c7942d490ae30a0dac81d9fd1ddb8d7e41728a5dce207b0", func := "sentry/sentrylaw13.DiffBack", spec := "diffBack", unfollowed := true, recurses := true, apart := false }
def DiffBackSaid : Prop := diffBackRow.holds Tryz.pinned (OpenSpec.ofChange diffBackSpec)

/-- ITS FALSE NEIGHBOUR: 'it returns false'. Refute it at one input. -/
def diffBackWrong : ChangeSpec := { name := "diffBack", fn := fun _ => fun
  | [d1, d2] => { results := [.lit (.bool false)], args := [d1, d2] }
  | _ => none }
def DiffBackWrongFalsely : Prop := diffBackRow.holds Tryz.pinned (OpenSpec.ofChange diffBackWrong)

/-- 'sentrylaw13.DiffSelf': WHATEVER THE INPUT: true; the input reads as it did. -/
def diffSelfSpec : ChangeSpec := { name := "diffSelf", fn := fun _ => fun
  | [d] => { results := [.lit (.bool true)], args := [d] }
  | _ => none }
def diffSelfRow : OpenClaim := { program := "ytpbembafpnknhaagreat", sum := "347121739ab040dd4c7942d490ae30a0dac81d9fd1ddb8d7e41728a5dce207b0", func := "sentry/sentrylaw13.DiffSelf", spec := "diffSelf", unfollowed := true, recurses := true, apart := false }
def DiffSelfSaid : Prop := diffSelfRow.holds Tryz.pinned (OpenSpec.ofChange diffSelfSpec)

/-- ITS FALSE NEIGHBOUR: 'it returns false'. Refute it at one input. -/
def diffSelfWrong : ChangeSpec := { name := "diffSelf", fn := fun _ => fun
  | [d] => { results := [.lit (.bool false)], args := [d] }
  | _ => none }
def DiffSelfWrongFalsely : Prop := diffSelfRow.holds Tryz.pinned (OpenSpec.ofChange diffSelfWrong)

/-- 'sentrylaw13.DiffLeast': WHATEVER THE INPUT: true; the input reads as it did. -/
def diffLeastSpec : ChangeSpec := { name := "diffLeast", fn := fun _ => fun
  | [d1, d2, d3] => { results := [.lit (.bool true)], args := [d1, d2, d3] }
  | _ => none }
def diffLeastRow : OpenClaim := { program := "ytpbembafpnknhaagreat", sum := "347121739ab040dd4c7942d490ae30a0dac81d9fd1ddb8d7e41728a5dce207b0", func := "sentry/sentrylaw13.DiffLeast", spec := "diffLeast", unfollowed := true, recurses := true, apart := false }
def DiffLeastSaid : Prop := diffLeastRow.holds Tryz.pinned (OpenSpec.ofChange diffLeastSpec)

/-- ITS FALSE NEIGHBOUR: 'it returns false'. Refute it at one input. -/
def diffLeastWrong : ChangeSpec := { name := "diffLeast", fn := fun _ => fun
  | [d1, d2, d3] => { results := [.lit (.bool false)], args := [d1, d2, d3] }
  | _ => none }
def DiffLeastWrongFalsely : Prop := diffLeastRow.holds Tryz.pinned (OpenSpec.ofChange diffLeastWrong)

/-- 'sentrylaw13.DiffOdd': WHATEVER THE INPUT: true; the input reads as it did. -/
def diffOddSpec : ChangeSpec := { name := "diffOdd", fn := fun _ => fun
  | [d] => { results := [.lit (.bool true)], args := [d] }
  | _ => none }
def diffOddRow : OpenClaim := { program := "ytpbembafpnknhaagreat", sum := "347121739ab040dd4c7942d490ae30a0dac81d9fd1ddb8d7e41728a5dce207b0", func := "sentry/sentrylaw13.DiffOdd", spec := "diffOdd", unfollowed := true, recurses := true, apart := false }
def DiffOddSaid : Prop := diffOddRow.holds Tryz.pinned (OpenSpec.ofChange diffOddSpec)

/-- ITS FALSE NEIGHBOUR: 'it returns false'. Refute it at one input. -/
def diffOddWrong : ChangeSpec := { name := "diffOdd", fn := fun _ => fun
  | [d] => { results := [.lit (.bool false)], args := [d] }
  | _ => none }
def DiffOddWrongFalsely : Prop := diffOddRow.holds Tryz.pinned (OpenSpec.ofChange diffOddWrong)

/-- 'sentrylaw13.DiffChain': WHATEVER THE INPUT: true; the input reads as it did. -/
def diffChainSpec : ChangeSpec := { name := "diffChain", fn := fun _ => fun
  | [d1, d2, d3] => { results := [.lit (.bool true)], args := [d1, d2, d3] }
  | _ => none }
def diffChainRow : OpenClaim := { program := "ytpbembafpnknhaagreat", sum := "347121739ab040dd4c7942d490ae30a0dac81d9fd1ddb8d7e41728a5dce207b0", func := "sentry/sentrylaw13.DiffChain", spec := "diffChain", unfollowed := true, recurses := true, apart := false }
def DiffChainSaid : Prop := diffChainRow.holds Tryz.pinned (OpenSpec.ofChange diffChainSpec)

/-- ITS FALSE NEIGHBOUR: 'it returns false'. Refute it at one input. -/
def diffChainWrong : ChangeSpec := { name := "diffChain", fn := fun _ => fun
  | [d1, d2, d3] => { results := [.lit (.bool false)], args := [d1, d2, d3] }
  | _ => none }
def DiffChainWrongFalsely : Prop := diffChainRow.holds Tryz.pinned (OpenSpec.ofChange diffChainWrong)

/-- 'sentrylaw13.DiffOrder': WHATEVER THE INPUT: true; the input reads as it did. -/
def diffOrderSpec : ChangeSpec := { name := "diffOrder", fn := fun _ => fun
  | [d] => { results := [.lit (.bool true)], args := [d] }
  | _ => none }
def diffOrderRow : OpenClaim := { program := "ytpbembafpnknhaagreat", sum := "347121739ab040dd4c7942d490ae30a0dac81d9fd1ddb8d7e41728a5dce207b0", func := "sentry/sentrylaw13.DiffOrder", spec := "diffOrder", unfollowed := true, recurses := true, apart := false }
def DiffOrderSaid : Prop := diffOrderRow.holds Tryz.pinned (OpenSpec.ofChange diffOrderSpec)

/-- ITS FALSE NEIGHBOUR: 'it returns false'. Refute it at one input. -/
def diffOrderWrong : ChangeSpec := { name := "diffOrder", fn := fun _ => fun
  | [d] => { results := [.lit (.bool false)], args := [d] }
  | _ => none }
def DiffOrderWrongFalsely : Prop := diffOrderRow.holds Tryz.pinned (OpenSpec.ofChange diffOrderWrong)

/- THE SECOND FORM. 'bulk': how many values and letters a reading holds, each counted each time it is reached (what is shared counts as often as it is met; a slice's spare places count too). A statement '..UptoSaid' is the law's where the arguments, and the package variables that the reading takes, are together of bulk at most 1048576: NARROWER than '..Said'. Prove '..Said' where nothing that the law and all that it calls make is longer than what came in: it says more and counts as full. Else prove '..UptoSaid'. A law counts once. -/
mutual
def uptoBulk {H : Type} : DataW H → Nat
  | .lit (.string bytes) => bytes.length + 1
  | .lit _ => 1
  | .nil => 1
  | .ptr d => uptoBulk d + 1
  | .slice elems spare => uptoBulkAll elems + uptoBulkAll spare + 1
  | .agg parts => uptoBulkAll parts + 1
  | .iface _ d => uptoBulk d + 1
  | .map entries => uptoBulkEntries entries + 1
  | .held _ => 1
def uptoBulkAll {H : Type} : List (DataW H) → Nat
  | [] => 0
  | d :: r => uptoBulk d + uptoBulkAll r
def uptoBulkEntries {H : Type} : List (Lit × DataW H) → Nat
  | [] => 0
  | x :: r => uptoBulkEntry x + uptoBulkEntries r
def uptoBulkEntry {H : Type} : Lit × DataW H → Nat
  | (.string bytes, d) => bytes.length + uptoBulk d + 1
  | (_, d) => uptoBulk d + 1
 end
def uptoSmall : (H : Type) → List (DataW H) → Bool := fun _ ds => decide (uptoBulkAll ds ≤ 1048576)
def OpenSpec.upto (s : _root_.Go.ChangeSpec) : _root_.Go.OpenSpec := { _root_.Go.OpenSpec.ofChange s with cond := some uptoSmall }

/-- 'sentrylaw7.NormTells', WHERE WHAT IT READS IS OF BULK AT MOST 1048576: true; the input reads as it did. -/
def normTellsUptoRow : OpenClaim := { program := "ytpbembafpnknhaagreat", sum := "347121739ab040dd4c7942d490ae30a0dac81d9fd1ddb8d7e41728a5dce207b0", func := "sentry/sentrylaw7.NormTells", spec := "normTells", unfollowed := true, recurses := true, apart := false, narrowed := true }
def NormTellsUptoSaid : Prop := normTellsUptoRow.holds Tryz.pinned (OpenSpec.upto normTellsSpec)

/-- 'sentrylaw7.NormOnce', WHERE WHAT IT READS IS OF BULK AT MOST 1048576: true; the input reads as it did. -/
def normOnceUptoRow : OpenClaim := { program := "ytpbembafpnknhaagreat", sum := "347121739ab040dd4c7942d490ae30a0dac81d9fd1ddb8d7e41728a5dce207b0", func := "sentry/sentrylaw7.NormOnce", spec := "normOnce", unfollowed := true, recurses := true, apart := false, narrowed := true }
def NormOnceUptoSaid : Prop := normOnceUptoRow.holds Tryz.pinned (OpenSpec.upto normOnceSpec)

/-- 'sentrylaw7.NormOrders', WHERE WHAT IT READS IS OF BULK AT MOST 1048576: true; the input reads as it did. -/
def normOrdersUptoRow : OpenClaim := { program := "ytpbembafpnknhaagreat", sum := "347121739ab040dd4c7942d490ae30a0dac81d9fd1ddb8d7e41728a5dce207b0", func := "sentry/sentrylaw7.NormOrders", spec := "normOrders", unfollowed := true, recurses := true, apart := false, narrowed := true }
def NormOrdersUptoSaid : Prop := normOrdersUptoRow.holds Tryz.pinned (OpenSpec.upto normOrdersSpec)

/-- 'sentrylaw7.NormRuns', WHERE WHAT IT READS IS OF BULK AT MOST 1048576: true; the input reads as it did. -/
def normRunsUptoRow : OpenClaim := { program := "ytpbembafpnknhaagreat", sum := "347121739ab040dd4c7942d490ae30a0dac81d9fd1ddb8d7e41728a5dce207b0", func := "sentry/sentrylaw7.NormRuns", spec := "normRuns", unfollowed := true, recurses := true, apart := false, narrowed := true }
def NormRunsUptoSaid : Prop := normRunsUptoRow.holds Tryz.pinned (OpenSpec.upto normRunsSpec)

/-- 'sentrylaw7.NormTurns', WHERE WHAT IT READS IS OF BULK AT MOST 1048576: true; the input reads as it did. -/
def normTurnsUptoRow : OpenClaim := { program := "ytpbembafpnknhaagreat", sum := "347121739ab040dd4c7942d490ae30a0dac81d9fd1ddb8d7e41728a5dce207b0", func := "sentry/sentrylaw7.NormTurns", spec := "normTurns", unfollowed := true, recurses := true, apart := false, narrowed := true }
def NormTurnsUptoSaid : Prop := normTurnsUptoRow.holds Tryz.pinned (OpenSpec.upto normTurnsSpec)

/-- 'sentrylaw7.NormOwn', WHERE WHAT IT READS IS OF BULK AT MOST 1048576: true; the input reads as it did. -/
def normOwnUptoRow : OpenClaim := { program := "ytpbembafpnknhaagreat", sum := "347121739ab040dd4c7942d490ae30a0dac81d9fd1ddb8d7e41728a5dce207b0", func := "sentry/sentrylaw7.NormOwn", spec := "normOwn", unfollowed := true, recurses := true, apart := false, narrowed := true }
def NormOwnUptoSaid : Prop := normOwnUptoRow.holds Tryz.pinned (OpenSpec.upto normOwnSpec)

/-- 'sentrylaw7.NormSame', WHERE WHAT IT READS IS OF BULK AT MOST 1048576: true; the input reads as it did. -/
def normSameUptoRow : OpenClaim := { program := "ytpbembafpnknhaagreat", sum := "347121739ab040dd4c7942d490ae30a0dac81d9fd1ddb8d7e41728a5dce207b0", func := "sentry/sentrylaw7.NormSame", spec := "normSame", unfollowed := true, recurses := true, apart := false, narrowed := true }
def NormSameUptoSaid : Prop := normSameUptoRow.holds Tryz.pinned (OpenSpec.upto normSameSpec)

/-- 'sentrylaw7.NormTwice', WHERE WHAT IT READS IS OF BULK AT MOST 1048576: true; the input reads as it did. -/
def normTwiceUptoRow : OpenClaim := { program := "ytpbembafpnknhaagreat", sum := "347121739ab040dd4c7942d490ae30a0dac81d9fd1ddb8d7e41728a5dce207b0", func := "sentry/sentrylaw7.NormTwice", spec := "normTwice", unfollowed := true, recurses := true, apart := false, narrowed := true }
def NormTwiceUptoSaid : Prop := normTwiceUptoRow.holds Tryz.pinned (OpenSpec.upto normTwiceSpec)

/-- 'sentrylaw7.NormIDs', WHERE WHAT IT READS IS OF BULK AT MOST 1048576: true; the input reads as it did. -/
def normIDsUptoRow : OpenClaim := { program := "ytpbembafpnknhaagreat", sum := "347121739ab040dd4c7942d490ae30a0dac81d9fd1ddb8d7e41728a5dce207b0", func := "sentry/sentrylaw7.NormIDs", spec := "normIDs", unfollowed := true, recurses := true, apart := false, narrowed := true }
def NormIDsUptoSaid : Prop := normIDsUptoRow.holds Tryz.pinned (OpenSpec.upto normIDsSpec)

/-- 'sentrylaw13.DiffTells', WHERE WHAT IT READS IS OF BULK AT MOST 1048576: true; the input reads as it did. -/
def diffTellsUptoRow : OpenClaim := { program := "ytpbembafpnknhaagreat", sum := "347121739ab040dd4c7942d490ae30a0dac81d9fd1ddb8d7e41728a5dce207b0", func := "sentry/sentrylaw13.DiffTells", spec := "diffTells", unfollowed := true, recurses := true, apart := false, narrowed := true }
def DiffTellsUptoSaid : Prop := diffTellsUptoRow.holds Tryz.pinned (OpenSpec.upto diffTellsSpec)

/-- 'sentrylaw13.DiffOne', WHERE WHAT IT READS IS OF BULK AT MOST 1048576: true; the input reads as it did. -/
def diffOneUptoRow : OpenClaim := { program := "ytpbembafpnknhaagreat", sum := "347121739ab040dd4c7942d490ae30a0dac81d9fd1ddb8d7e41728a5dce207b0", func := "sentry/sentrylaw13.DiffOne", spec := "diffOne", unfollowed := true, recurses := true, apart := false, narrowed := true }
def DiffOneUptoSaid : Prop := diffOneUptoRow.holds Tryz.pinned (OpenSpec.upto diffOneSpec)

/-- 'sentrylaw14.MergeTells', WHERE WHAT IT READS IS OF BULK AT MOST 1048576: true; the input reads as it did. -/
def mergeTellsUptoRow : OpenClaim := { program := "ytpbembafpnknhaagreat", sum := "347121739ab040dd4c7942d490ae30a0dac81d9fd1ddb8d7e41728a5dce207b0", func := "sentry/sentrylaw14.MergeTells", spec := "mergeTells", unfollowed := true, recurses := true, apart := false, narrowed := true }
def MergeTellsUptoSaid : Prop := mergeTellsUptoRow.holds Tryz.pinned (OpenSpec.upto mergeTellsSpec)

/-- 'sentrylaw14.MergeAlone', WHERE WHAT IT READS IS OF BULK AT MOST 1048576: true; the input reads as it did. -/
def mergeAloneUptoRow : OpenClaim := { program := "ytpbembafpnknhaagreat", sum := "347121739ab040dd4c7942d490ae30a0dac81d9fd1ddb8d7e41728a5dce207b0", func := "sentry/sentrylaw14.MergeAlone", spec := "mergeAlone", unfollowed := true, recurses := true, apart := false, narrowed := true }
def MergeAloneUptoSaid : Prop := mergeAloneUptoRow.holds Tryz.pinned (OpenSpec.upto mergeAloneSpec)

/-- 'sentrylaw14.MergeTurned', WHERE WHAT IT READS IS OF BULK AT MOST 1048576: true; the input reads as it did. -/
def mergeTurnedUptoRow : OpenClaim := { program := "ytpbembafpnknhaagreat", sum := "347121739ab040dd4c7942d490ae30a0dac81d9fd1ddb8d7e41728a5dce207b0", func := "sentry/sentrylaw14.MergeTurned", spec := "mergeTurned", unfollowed := true, recurses := true, apart := false, narrowed := true }
def MergeTurnedUptoSaid : Prop := mergeTurnedUptoRow.holds Tryz.pinned (OpenSpec.upto mergeTurnedSpec)

/-- 'sentrylaw14.MergeEither', WHERE WHAT IT READS IS OF BULK AT MOST 1048576: true; the input reads as it did. -/
def mergeEitherUptoRow : OpenClaim := { program := "ytpbembafpnknhaagreat", sum := "347121739ab040dd4c7942d490ae30a0dac81d9fd1ddb8d7e41728a5dce207b0", func := "sentry/sentrylaw14.MergeEither", spec := "mergeEither", unfollowed := true, recurses := true, apart := false, narrowed := true }
def MergeEitherUptoSaid : Prop := mergeEitherUptoRow.holds Tryz.pinned (OpenSpec.upto mergeEitherSpec)

/-- 'sentrylaw14.MergeSides', WHERE WHAT IT READS IS OF BULK AT MOST 1048576: true; the input reads as it did. -/
def mergeSidesUptoRow : OpenClaim := { program := "ytpbembafpnknhaagreat", sum := "347121739ab040dd4c7942d490ae30a0dac81d9fd1ddb8d7e41728a5dce207b0", func := "sentry/sentrylaw14.MergeSides", spec := "mergeSides", unfollowed := true, recurses := true, apart := false, narrowed := true }
def MergeSidesUptoSaid : Prop := mergeSidesUptoRow.holds Tryz.pinned (OpenSpec.upto mergeSidesSpec)

/-- 'sentrylaw14.MergeClash', WHERE WHAT IT READS IS OF BULK AT MOST 1048576: true; the input reads as it did. -/
def mergeClashUptoRow : OpenClaim := { program := "ytpbembafpnknhaagreat", sum := "347121739ab040dd4c7942d490ae30a0dac81d9fd1ddb8d7e41728a5dce207b0", func := "sentry/sentrylaw14.MergeClash", spec := "mergeClash", unfollowed := true, recurses := true, apart := false, narrowed := true }
def MergeClashUptoSaid : Prop := mergeClashUptoRow.holds Tryz.pinned (OpenSpec.upto mergeClashSpec)

/-- 'sentrylaw14.MergeApart', WHERE WHAT IT READS IS OF BULK AT MOST 1048576: true; the input reads as it did. -/
def mergeApartUptoRow : OpenClaim := { program := "ytpbembafpnknhaagreat", sum := "347121739ab040dd4c7942d490ae30a0dac81d9fd1ddb8d7e41728a5dce207b0", func := "sentry/sentrylaw14.MergeApart", spec := "mergeApart", unfollowed := true, recurses := true, apart := false, narrowed := true }
def MergeApartUptoSaid : Prop := mergeApartUptoRow.holds Tryz.pinned (OpenSpec.upto mergeApartSpec)

/-- 'sentrylaw14.MergeBy', WHERE WHAT IT READS IS OF BULK AT MOST 1048576: true; the input reads as it did. -/
def mergeByUptoRow : OpenClaim := { program := "ytpbembafpnknhaagreat", sum := "347121739ab040dd4c7942d490ae30a0dac81d9fd1ddb8d7e41728a5dce207b0", func := "sentry/sentrylaw14.MergeBy", spec := "mergeBy", unfollowed := true, recurses := true, apart := false, narrowed := true }
def MergeByUptoSaid : Prop := mergeByUptoRow.holds Tryz.pinned (OpenSpec.upto mergeBySpec)

/-- 'sentrylaw14.MergeOrder', WHERE WHAT IT READS IS OF BULK AT MOST 1048576: true; the input reads as it did. -/
def mergeOrderUptoRow : OpenClaim := { program := "ytpbembafpnknhaagreat", sum := "347121739ab040dd4c7942d490ae30a0dac81d9fd1ddb8d7e41728a5dce207b0", func := "sentry/sentrylaw14.MergeOrder", spec := "mergeOrder", unfollowed := true, recurses := true, apart := false, narrowed := true }
def MergeOrderUptoSaid : Prop := mergeOrderUptoRow.holds Tryz.pinned (OpenSpec.upto mergeOrderSpec)

/-- 'sentrylaw13.DiffBack', WHERE WHAT IT READS IS OF BULK AT MOST 1048576: true; the input reads as it did. -/
def diffBackUptoRow : OpenClaim := { program := "ytpbembafpnknhaagreat", sum := "347121739ab040dd4c7942d490ae30a0dac81d9fd1ddb8d7e41728a5dce207b0", func := "sentry/sentrylaw13.DiffBack", spec := "diffBack", unfollowed := true, recurses := true, apart := false, narrowed := true }
def DiffBackUptoSaid : Prop := diffBackUptoRow.holds Tryz.pinned (OpenSpec.upto diffBackSpec)

/-- 'sentrylaw13.DiffSelf', WHERE WHAT IT READS IS OF BULK AT MOST 1048576: true; the input reads as it did. -/
def diffSelfUptoRow : OpenClaim := { program := "ytpbembafpnknhaagreat", sum := "347121739ab040dd4c7942d490ae30a0dac81d9fd1ddb8d7e41728a5dce207b0", func := "sentry/sentrylaw13.DiffSelf", spec := "diffSelf", unfollowed := true, recurses := true, apart := false, narrowed := true }
def DiffSelfUptoSaid : Prop := diffSelfUptoRow.holds Tryz.pinned (OpenSpec.upto diffSelfSpec)

/-- 'sentrylaw13.DiffLeast', WHERE WHAT IT READS IS OF BULK AT MOST 1048576: true; the input reads as it did. -/
def diffLeastUptoRow : OpenClaim := { program := "ytpbembafpnknhaagreat", sum := "347121739ab040dd4c7942d490ae30a0dac81d9fd1ddb8d7e41728a5dce207b0", func := "sentry/sentrylaw13.DiffLeast", spec := "diffLeast", unfollowed := true, recurses := true, apart := false, narrowed := true }
def DiffLeastUptoSaid : Prop := diffLeastUptoRow.holds Tryz.pinned (OpenSpec.upto diffLeastSpec)

/-- 'sentrylaw13.DiffOdd', WHERE WHAT IT READS IS OF BULK AT MOST 1048576: true; the input reads as it did. -/
def diffOddUptoRow : OpenClaim := { program := "ytpbembafpnknhaagreat", sum := "347121739ab040dd4c7942d490ae30a0dac81d9fd1ddb8d7e41728a5dce207b0", func := "sentry/sentrylaw13.DiffOdd", spec := "diffOdd", unfollowed := true, recurses := true, apart := false, narrowed := true }
def DiffOddUptoSaid : Prop := diffOddUptoRow.holds Tryz.pinned (OpenSpec.upto diffOddSpec)

/-- 'sentrylaw13.DiffChain', WHERE WHAT IT READS IS OF BULK AT MOST 1048576: true; the input reads as it did. -/
def diffChainUptoRow : OpenClaim := { program := "ytpbembafpnknhaagreat", sum := "347121739ab040dd4c7942d490ae30a0dac81d9fd1ddb8d7e41728a5dce207b0", func := "sentry/sentrylaw13.DiffChain", spec := "diffChain", unfollowed := true, recurses := true, apart := false, narrowed := true }
def DiffChainUptoSaid : Prop := diffChainUptoRow.holds Tryz.pinned (OpenSpec.upto diffChainSpec)

/-- 'sentrylaw13.DiffOrder', WHERE WHAT IT READS IS OF BULK AT MOST 1048576: true; the input reads as it did. -/
def diffOrderUptoRow : OpenClaim := { program := "ytpbembafpnknhaagreat", sum := "347121739ab040dd4c7942d490ae30a0dac81d9fd1ddb8d7e41728a5dce207b0", func := "sentry/sentrylaw13.DiffOrder", spec := "diffOrder", unfollowed := true, recurses := true, apart := false, narrowed := true }
def DiffOrderUptoSaid : Prop := diffOrderUptoRow.holds Tryz.pinned (OpenSpec.upto diffOrderSpec)

end Rows
end Go.Proofs.YtpbembafpnknhaaGreat
