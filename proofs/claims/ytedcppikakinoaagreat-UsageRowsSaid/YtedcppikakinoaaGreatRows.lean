/-
  No cell of these rows narrows 'for every input' (looked for: loops, veiled, ifaces, maps, wideKeys, modest, calm, conditions, laid).
  DERIVED. THE GIVEN ROWS OF THIS SEAT. 13 by the template 'for every input the law returns true; each argument reads behind the call as it read before'; 0 by the template 'total and deterministic' (their statements: YtedcppikakinoaaGreatTotals.lean).
  GIVEN WITH THE SEED: the statements are not yours to turn. If you find one false, say at which input.
  Laid BY PROGRAM, IN A SANDBOX (cutbox-rows.mjs): the forced cells as the released guide's own fill.sh prints them over the translation c784039a1ef090c7… (all of the seat's roots in one cut). By AI agents, Wed Nov 11 2026. No macro, syntax, notation, axiom, sorry.
-/
import Derived.Test.YtedcppikakinoaaGreatChecked
import GoSem.Claim
import GoSem.ClaimJoined
import GoSem.ClaimMapViews
import Derived.JoinedTies
import Derived.KernelRfl
namespace Go.Proofs.YtedcppikakinoaaGreat
/- THE CELL 'sum', in the pinned program and in every row, IS THE sha256 OF THE DUMP (.gsa) THAT YtedcppikakinoaaGreatProg.lean LOADS. Nothing in Lean hashes anything: it is a label: what it is worth is what the hold of that sum in a sandbox is worth. -/
noncomputable def Tryz.pinned : Pinned := { name := "ytedcppikakinoaagreat", sum := "c784039a1ef090c73cef5dd4b7e98d5c7c456a6ff332bf1ba7c20c41c1846575", checked := Tryz.checked }
namespace Rows
def none {H : Type} : Left H := { results := [], args := [] }

/-- 'pinstripelaw17.StateKnown': WHATEVER THE INPUT: true; the input reads as it did. -/
def stateKnownSpec : ChangeSpec := { name := "stateKnown", fn := fun _ => fun
  | [] => { results := [.lit (.bool true)], args := [] }
  | _ => none }
def stateKnownRow : OpenClaim := { program := "ytedcppikakinoaagreat", sum := "c784039a1ef090c73cef5dd4b7e98d5c7c456a6ff332bf1ba7c20c41c1846575", func := "pinstripe/pinstripelaw17.StateKnown", spec := "stateKnown", inPlace := ["internal/bytealg.IndexByteString", "internal/abi.NoEscape", "internal/bytealg.MakeNoZero", "internal/bytealg.abigen_runtime_cmpstring", "slices.overlaps[pinstripe/tokens.Row]"], unfollowed := true, recurses := true, plainKeys := false, apart := false }
def StateKnownSaid : Prop := stateKnownRow.holds Tryz.pinned (OpenSpec.ofChange stateKnownSpec)

/-- ITS FALSE NEIGHBOUR: 'it returns false'. Refute it at one input. -/
def stateKnownWrong : ChangeSpec := { name := "stateKnown", fn := fun _ => fun
  | [] => { results := [.lit (.bool false)], args := [] }
  | _ => none }
def StateKnownWrongFalsely : Prop := stateKnownRow.holds Tryz.pinned (OpenSpec.ofChange stateKnownWrong)

/-- 'pinstripelaw17.StateWaste': WHATEVER THE INPUT: true; the input reads as it did. -/
def stateWasteSpec : ChangeSpec := { name := "stateWaste", fn := fun _ => fun
  | [d1, d2, d3] => { results := [.lit (.bool true)], args := [d1, d2, d3] }
  | _ => none }
def stateWasteRow : OpenClaim := { program := "ytedcppikakinoaagreat", sum := "c784039a1ef090c73cef5dd4b7e98d5c7c456a6ff332bf1ba7c20c41c1846575", func := "pinstripe/pinstripelaw17.StateWaste", spec := "stateWaste", inPlace := ["internal/bytealg.IndexByteString", "internal/abi.NoEscape", "internal/bytealg.MakeNoZero", "internal/bytealg.abigen_runtime_cmpstring", "slices.overlaps[pinstripe/tokens.Row]"], unfollowed := true, recurses := true, plainKeys := false, apart := false }
def StateWasteSaid : Prop := stateWasteRow.holds Tryz.pinned (OpenSpec.ofChange stateWasteSpec)

/-- ITS FALSE NEIGHBOUR: 'it returns false'. Refute it at one input. -/
def stateWasteWrong : ChangeSpec := { name := "stateWaste", fn := fun _ => fun
  | [d1, d2, d3] => { results := [.lit (.bool false)], args := [d1, d2, d3] }
  | _ => none }
def StateWasteWrongFalsely : Prop := stateWasteRow.holds Tryz.pinned (OpenSpec.ofChange stateWasteWrong)

/-- 'pinstripelaw17.StateSwaps': WHATEVER THE INPUT: true; the input reads as it did. -/
def stateSwapsSpec : ChangeSpec := { name := "stateSwaps", fn := fun _ => fun
  | [d1, d2] => { results := [.lit (.bool true)], args := [d1, d2] }
  | _ => none }
def stateSwapsRow : OpenClaim := { program := "ytedcppikakinoaagreat", sum := "c784039a1ef090c73cef5dd4b7e98d5c7c456a6ff332bf1ba7c20c41c1846575", func := "pinstripe/pinstripelaw17.StateSwaps", spec := "stateSwaps", inPlace := ["internal/bytealg.IndexByteString", "internal/abi.NoEscape", "internal/bytealg.MakeNoZero", "internal/bytealg.abigen_runtime_cmpstring", "slices.overlaps[pinstripe/tokens.Row]"], unfollowed := true, recurses := true, plainKeys := false, apart := false }
def StateSwapsSaid : Prop := stateSwapsRow.holds Tryz.pinned (OpenSpec.ofChange stateSwapsSpec)

/-- ITS FALSE NEIGHBOUR: 'it returns false'. Refute it at one input. -/
def stateSwapsWrong : ChangeSpec := { name := "stateSwaps", fn := fun _ => fun
  | [d1, d2] => { results := [.lit (.bool false)], args := [d1, d2] }
  | _ => none }
def StateSwapsWrongFalsely : Prop := stateSwapsRow.holds Tryz.pinned (OpenSpec.ofChange stateSwapsWrong)

/-- 'pinstripelaw17.StateMoves': WHATEVER THE INPUT: true; the input reads as it did. -/
def stateMovesSpec : ChangeSpec := { name := "stateMoves", fn := fun _ => fun
  | [d1, d2] => { results := [.lit (.bool true)], args := [d1, d2] }
  | _ => none }
def stateMovesRow : OpenClaim := { program := "ytedcppikakinoaagreat", sum := "c784039a1ef090c73cef5dd4b7e98d5c7c456a6ff332bf1ba7c20c41c1846575", func := "pinstripe/pinstripelaw17.StateMoves", spec := "stateMoves", inPlace := ["internal/bytealg.IndexByteString", "internal/abi.NoEscape", "internal/bytealg.MakeNoZero", "internal/bytealg.abigen_runtime_cmpstring", "slices.overlaps[pinstripe/tokens.Row]"], unfollowed := true, recurses := true, plainKeys := false, apart := false }
def StateMovesSaid : Prop := stateMovesRow.holds Tryz.pinned (OpenSpec.ofChange stateMovesSpec)

/-- ITS FALSE NEIGHBOUR: 'it returns false'. Refute it at one input. -/
def stateMovesWrong : ChangeSpec := { name := "stateMoves", fn := fun _ => fun
  | [d1, d2] => { results := [.lit (.bool false)], args := [d1, d2] }
  | _ => none }
def StateMovesWrongFalsely : Prop := stateMovesRow.holds Tryz.pinned (OpenSpec.ofChange stateMovesWrong)

/-- 'pinstripelaw17.StateLive': WHATEVER THE INPUT: true; the input reads as it did. -/
def stateLiveSpec : ChangeSpec := { name := "stateLive", fn := fun _ => fun
  | [d] => { results := [.lit (.bool true)], args := [d] }
  | _ => none }
def stateLiveRow : OpenClaim := { program := "ytedcppikakinoaagreat", sum := "c784039a1ef090c73cef5dd4b7e98d5c7c456a6ff332bf1ba7c20c41c1846575", func := "pinstripe/pinstripelaw17.StateLive", spec := "stateLive", inPlace := ["internal/bytealg.IndexByteString", "internal/abi.NoEscape", "internal/bytealg.MakeNoZero", "internal/bytealg.abigen_runtime_cmpstring", "slices.overlaps[pinstripe/tokens.Row]"], unfollowed := true, recurses := true, plainKeys := false, apart := false }
def StateLiveSaid : Prop := stateLiveRow.holds Tryz.pinned (OpenSpec.ofChange stateLiveSpec)

/-- ITS FALSE NEIGHBOUR: 'it returns false'. Refute it at one input. -/
def stateLiveWrong : ChangeSpec := { name := "stateLive", fn := fun _ => fun
  | [d] => { results := [.lit (.bool false)], args := [d] }
  | _ => none }
def StateLiveWrongFalsely : Prop := stateLiveRow.holds Tryz.pinned (OpenSpec.ofChange stateLiveWrong)

/-- 'pinstripelaw17.StateFrees': WHATEVER THE INPUT: true; the input reads as it did. -/
def stateFreesSpec : ChangeSpec := { name := "stateFrees", fn := fun _ => fun
  | [d] => { results := [.lit (.bool true)], args := [d] }
  | _ => none }
def stateFreesRow : OpenClaim := { program := "ytedcppikakinoaagreat", sum := "c784039a1ef090c73cef5dd4b7e98d5c7c456a6ff332bf1ba7c20c41c1846575", func := "pinstripe/pinstripelaw17.StateFrees", spec := "stateFrees", inPlace := ["internal/bytealg.IndexByteString", "internal/abi.NoEscape", "internal/bytealg.MakeNoZero", "internal/bytealg.abigen_runtime_cmpstring", "slices.overlaps[pinstripe/tokens.Row]"], unfollowed := true, recurses := true, plainKeys := false, apart := false }
def StateFreesSaid : Prop := stateFreesRow.holds Tryz.pinned (OpenSpec.ofChange stateFreesSpec)

/-- ITS FALSE NEIGHBOUR: 'it returns false'. Refute it at one input. -/
def stateFreesWrong : ChangeSpec := { name := "stateFrees", fn := fun _ => fun
  | [d] => { results := [.lit (.bool false)], args := [d] }
  | _ => none }
def StateFreesWrongFalsely : Prop := stateFreesRow.holds Tryz.pinned (OpenSpec.ofChange stateFreesWrong)

/-- 'pinstripelaw17.StateRefuses': WHATEVER THE INPUT: true; the input reads as it did. -/
def stateRefusesSpec : ChangeSpec := { name := "stateRefuses", fn := fun _ => fun
  | [d] => { results := [.lit (.bool true)], args := [d] }
  | _ => none }
def stateRefusesRow : OpenClaim := { program := "ytedcppikakinoaagreat", sum := "c784039a1ef090c73cef5dd4b7e98d5c7c456a6ff332bf1ba7c20c41c1846575", func := "pinstripe/pinstripelaw17.StateRefuses", spec := "stateRefuses", inPlace := ["internal/bytealg.IndexByteString", "internal/abi.NoEscape", "internal/bytealg.MakeNoZero", "internal/bytealg.abigen_runtime_cmpstring", "slices.overlaps[pinstripe/tokens.Row]"], unfollowed := true, recurses := true, plainKeys := false, apart := false }
def StateRefusesSaid : Prop := stateRefusesRow.holds Tryz.pinned (OpenSpec.ofChange stateRefusesSpec)

/-- ITS FALSE NEIGHBOUR: 'it returns false'. Refute it at one input. -/
def stateRefusesWrong : ChangeSpec := { name := "stateRefuses", fn := fun _ => fun
  | [d] => { results := [.lit (.bool false)], args := [d] }
  | _ => none }
def StateRefusesWrongFalsely : Prop := stateRefusesRow.holds Tryz.pinned (OpenSpec.ofChange stateRefusesWrong)

/-- 'pinstripelaw17.StateLives': WHATEVER THE INPUT: true; the input reads as it did. -/
def stateLivesSpec : ChangeSpec := { name := "stateLives", fn := fun _ => fun
  | [d1, d2] => { results := [.lit (.bool true)], args := [d1, d2] }
  | _ => none }
def stateLivesRow : OpenClaim := { program := "ytedcppikakinoaagreat", sum := "c784039a1ef090c73cef5dd4b7e98d5c7c456a6ff332bf1ba7c20c41c1846575", func := "pinstripe/pinstripelaw17.StateLives", spec := "stateLives", inPlace := ["internal/bytealg.IndexByteString", "internal/abi.NoEscape", "internal/bytealg.MakeNoZero", "internal/bytealg.abigen_runtime_cmpstring", "slices.overlaps[pinstripe/tokens.Row]"], unfollowed := true, recurses := true, plainKeys := false, apart := false }
def StateLivesSaid : Prop := stateLivesRow.holds Tryz.pinned (OpenSpec.ofChange stateLivesSpec)

/-- ITS FALSE NEIGHBOUR: 'it returns false'. Refute it at one input. -/
def stateLivesWrong : ChangeSpec := { name := "stateLives", fn := fun _ => fun
  | [d1, d2] => { results := [.lit (.bool false)], args := [d1, d2] }
  | _ => none }
def StateLivesWrongFalsely : Prop := stateLivesRow.holds Tryz.pinned (OpenSpec.ofChange stateLivesWrong)

/-- 'pinstripelaw17.StateOnce': WHATEVER THE INPUT: true; the input reads as it did. -/
def stateOnceSpec : ChangeSpec := { name := "stateOnce", fn := fun _ => fun
  | [d1, d2] => { results := [.lit (.bool true)], args := [d1, d2] }
  | _ => none }
def stateOnceRow : OpenClaim := { program := "ytedcppikakinoaagreat", sum := "c784039a1ef090c73cef5dd4b7e98d5c7c456a6ff332bf1ba7c20c41c1846575", func := "pinstripe/pinstripelaw17.StateOnce", spec := "stateOnce", inPlace := ["internal/bytealg.IndexByteString", "internal/abi.NoEscape", "internal/bytealg.MakeNoZero", "internal/bytealg.abigen_runtime_cmpstring", "slices.overlaps[pinstripe/tokens.Row]"], unfollowed := true, recurses := true, plainKeys := false, apart := false }
def StateOnceSaid : Prop := stateOnceRow.holds Tryz.pinned (OpenSpec.ofChange stateOnceSpec)

/-- ITS FALSE NEIGHBOUR: 'it returns false'. Refute it at one input. -/
def stateOnceWrong : ChangeSpec := { name := "stateOnce", fn := fun _ => fun
  | [d1, d2] => { results := [.lit (.bool false)], args := [d1, d2] }
  | _ => none }
def StateOnceWrongFalsely : Prop := stateOnceRow.holds Tryz.pinned (OpenSpec.ofChange stateOnceWrong)

/-- 'pinstripelaw17.StateTwins': WHATEVER THE INPUT: true; the input reads as it did. -/
def stateTwinsSpec : ChangeSpec := { name := "stateTwins", fn := fun _ => fun
  | [d1, d2] => { results := [.lit (.bool true)], args := [d1, d2] }
  | _ => none }
def stateTwinsRow : OpenClaim := { program := "ytedcppikakinoaagreat", sum := "c784039a1ef090c73cef5dd4b7e98d5c7c456a6ff332bf1ba7c20c41c1846575", func := "pinstripe/pinstripelaw17.StateTwins", spec := "stateTwins", inPlace := ["internal/bytealg.IndexByteString", "internal/abi.NoEscape", "internal/bytealg.MakeNoZero", "internal/bytealg.abigen_runtime_cmpstring", "slices.overlaps[pinstripe/tokens.Row]"], unfollowed := true, recurses := true, plainKeys := false, apart := false }
def StateTwinsSaid : Prop := stateTwinsRow.holds Tryz.pinned (OpenSpec.ofChange stateTwinsSpec)

/-- ITS FALSE NEIGHBOUR: 'it returns false'. Refute it at one input. -/
def stateTwinsWrong : ChangeSpec := { name := "stateTwins", fn := fun _ => fun
  | [d1, d2] => { results := [.lit (.bool false)], args := [d1, d2] }
  | _ => none }
def StateTwinsWrongFalsely : Prop := stateTwinsRow.holds Tryz.pinned (OpenSpec.ofChange stateTwinsWrong)

/-- 'pinstripelaw22.UsageRows': WHATEVER THE INPUT: true; the input reads as it did. -/
def usageRowsSpec : ChangeSpec := { name := "usageRows", fn := fun _ => fun
  | [d1, d2] => { results := [.lit (.bool true)], args := [d1, d2] }
  | _ => none }
def usageRowsRow : OpenClaim := { program := "ytedcppikakinoaagreat", sum := "c784039a1ef090c73cef5dd4b7e98d5c7c456a6ff332bf1ba7c20c41c1846575", func := "pinstripe/pinstripelaw22.UsageRows", spec := "usageRows", inPlace := ["math.Float64bits", "internal/bytealg.IndexByteString", "internal/abi.NoEscape", "internal/bytealg.MakeNoZero", "internal/bytealg.abigen_runtime_cmpstring", "slices.overlaps[pinstripe/tokens.Row]"], unfollowed := true, recurses := true, plainKeys := false, apart := false }
def UsageRowsSaid : Prop := usageRowsRow.holds Tryz.pinned (OpenSpec.ofChange usageRowsSpec)

/-- ITS FALSE NEIGHBOUR: 'it returns false'. Refute it at one input. -/
def usageRowsWrong : ChangeSpec := { name := "usageRows", fn := fun _ => fun
  | [d1, d2] => { results := [.lit (.bool false)], args := [d1, d2] }
  | _ => none }
def UsageRowsWrongFalsely : Prop := usageRowsRow.holds Tryz.pinned (OpenSpec.ofChange usageRowsWrong)

/-- 'pinstripelaw22.UsageNot': WHATEVER THE INPUT: true; the input reads as it did. -/
def usageNotSpec : ChangeSpec := { name := "usageNot", fn := fun _ => fun
  | [d] => { results := [.lit (.bool true)], args := [d] }
  | _ => none }
def usageNotRow : OpenClaim := { program := "ytedcppikakinoaagreat", sum := "c784039a1ef090c73cef5dd4b7e98d5c7c456a6ff332bf1ba7c20c41c1846575", func := "pinstripe/pinstripelaw22.UsageNot", spec := "usageNot", inPlace := ["math.Float64bits", "internal/bytealg.IndexByteString", "internal/abi.NoEscape", "internal/bytealg.MakeNoZero", "internal/bytealg.abigen_runtime_cmpstring", "slices.overlaps[pinstripe/tokens.Row]"], unfollowed := true, recurses := true, plainKeys := false, apart := false }
def UsageNotSaid : Prop := usageNotRow.holds Tryz.pinned (OpenSpec.ofChange usageNotSpec)

/-- ITS FALSE NEIGHBOUR: 'it returns false'. Refute it at one input. -/
def usageNotWrong : ChangeSpec := { name := "usageNot", fn := fun _ => fun
  | [d] => { results := [.lit (.bool false)], args := [d] }
  | _ => none }
def UsageNotWrongFalsely : Prop := usageNotRow.holds Tryz.pinned (OpenSpec.ofChange usageNotWrong)

/-- 'pinstripelaw22.UsagePart': WHATEVER THE INPUT: true; the input reads as it did. -/
def usagePartSpec : ChangeSpec := { name := "usagePart", fn := fun _ => fun
  | [d] => { results := [.lit (.bool true)], args := [d] }
  | _ => none }
def usagePartRow : OpenClaim := { program := "ytedcppikakinoaagreat", sum := "c784039a1ef090c73cef5dd4b7e98d5c7c456a6ff332bf1ba7c20c41c1846575", func := "pinstripe/pinstripelaw22.UsagePart", spec := "usagePart", inPlace := ["math.Float64bits", "internal/bytealg.IndexByteString", "internal/abi.NoEscape", "internal/bytealg.MakeNoZero", "internal/bytealg.abigen_runtime_cmpstring", "slices.overlaps[pinstripe/tokens.Row]"], unfollowed := true, recurses := true, plainKeys := false, apart := false }
def UsagePartSaid : Prop := usagePartRow.holds Tryz.pinned (OpenSpec.ofChange usagePartSpec)

/-- ITS FALSE NEIGHBOUR: 'it returns false'. Refute it at one input. -/
def usagePartWrong : ChangeSpec := { name := "usagePart", fn := fun _ => fun
  | [d] => { results := [.lit (.bool false)], args := [d] }
  | _ => none }
def UsagePartWrongFalsely : Prop := usagePartRow.holds Tryz.pinned (OpenSpec.ofChange usagePartWrong)

/- THE SECOND FORM. 'bulk': how many values and letters a reading holds, each counted each time it is reached (what is shared counts as often as it is met; a slice's spare places count too). A statement '..UptoSaid' is the law's where the arguments, and the package variables that the reading takes, are together of bulk at most 1048576: NARROWER than '..Said'. Prove '..Said' where nothing that the law and all that it calls make is longer than what came in: it says more and counts as full. Else prove '..UptoSaid'. A law counts once. -/
mutual
def uptoBulk {H : Type} : DataW H → Nat
  | .lit (.string bytes) => bytes.length + 1
  | .lit _ => 1
  | .nil => 1
  | .ptr d => uptoBulk d + 1
  | .slice elems spare => uptoBulkAll elems + uptoBulkAll spare + 1
  | .agg parts => uptoBulkAll parts + 1
  | .iface _ d => uptoBulk d + 1
  | .map entries => uptoBulkEntries entries + 1
  | .held _ => 1
def uptoBulkAll {H : Type} : List (DataW H) → Nat
  | [] => 0
  | d :: r => uptoBulk d + uptoBulkAll r
def uptoBulkEntries {H : Type} : List (Lit × DataW H) → Nat
  | [] => 0
  | x :: r => uptoBulkEntry x + uptoBulkEntries r
def uptoBulkEntry {H : Type} : Lit × DataW H → Nat
  | (.string bytes, d) => bytes.length + uptoBulk d + 1
  | (_, d) => uptoBulk d + 1
 end
def uptoSmall : (H : Type) → List (DataW H) → Bool := fun _ ds => decide (uptoBulkAll ds ≤ 1048576)
def OpenSpec.upto (s : _root_.Go.ChangeSpec) : _root_.Go.OpenSpec := { _root_.Go.OpenSpec.ofChange s with cond := some uptoSmall }

/-- 'pinstripelaw17.StateKnown', WHERE WHAT IT READS IS OF BULK AT MOST 1048576: true; the input reads as it did. -/
def stateKnownUptoRow : OpenClaim := { program := "ytedcppikakinoaagreat", sum := "c784039a1ef090c73cef5dd4b7e98d5c7c456a6ff332bf1ba7c20c41c1846575", func := "pinstripe/pinstripelaw17.StateKnown", spec := "stateKnown", inPlace := ["internal/bytealg.IndexByteString", "internal/abi.NoEscape", "internal/bytealg.MakeNoZero", "internal/bytealg.abigen_runtime_cmpstring", "slices.overlaps[pinstripe/tokens.Row]"], unfollowed := true, recurses := true, plainKeys := false, apart := false, narrowed := true }
def StateKnownUptoSaid : Prop := stateKnownUptoRow.holds Tryz.pinned (OpenSpec.upto stateKnownSpec)

/-- 'pinstripelaw17.StateWaste', WHERE WHAT IT READS IS OF BULK AT MOST 1048576: true; the input reads as it did. -/
def stateWasteUptoRow : OpenClaim := { program := "ytedcppikakinoaagreat", sum := "c784039a1ef090c73cef5dd4b7e98d5c7c456a6ff332bf1ba7c20c41c1846575", func := "pinstripe/pinstripelaw17.StateWaste", spec := "stateWaste", inPlace := ["internal/bytealg.IndexByteString", "internal/abi.NoEscape", "internal/bytealg.MakeNoZero", "internal/bytealg.abigen_runtime_cmpstring", "slices.overlaps[pinstripe/tokens.Row]"], unfollowed := true, recurses := true, plainKeys := false, apart := false, narrowed := true }
def StateWasteUptoSaid : Prop := stateWasteUptoRow.holds Tryz.pinned (OpenSpec.upto stateWasteSpec)

/-- 'pinstripelaw17.StateSwaps', WHERE WHAT IT READS IS OF BULK AT MOST 1048576: true; the input reads as it did. -/
def stateSwapsUptoRow : OpenClaim := { program := "ytedcppikakinoaagreat", sum := "c784039a1ef090c73cef5dd4b7e98d5c7c456a6ff332bf1ba7c20c41c1846575", func := "pinstripe/pinstripelaw17.StateSwaps", spec := "stateSwaps", inPlace := ["internal/bytealg.IndexByteString", "internal/abi.NoEscape", "internal/bytealg.MakeNoZero", "internal/bytealg.abigen_runtime_cmpstring", "slices.overlaps[pinstripe/tokens.Row]"], unfollowed := true, recurses := true, plainKeys := false, apart := false, narrowed := true }
def StateSwapsUptoSaid : Prop := stateSwapsUptoRow.holds Tryz.pinned (OpenSpec.upto stateSwapsSpec)

/-- 'pinstripelaw17.StateMoves', WHERE WHAT IT READS IS OF BULK AT MOST 1048576: true; the input reads as it did. -/
def stateMovesUptoRow : OpenClaim := { program := "ytedcppikakinoaagreat", sum := "c784039a1ef090c73cef5dd4b7e98d5c7c456a6ff332bf1ba7c20c41c1846575", func := "pinstripe/pinstripelaw17.StateMoves", spec := "stateMoves", inPlace := ["internal/bytealg.IndexByteString", "internal/abi.NoEscape", "internal/bytealg.MakeNoZero", "internal/bytealg.abigen_runtime_cmpstring", "slices.overlaps[pinstripe/tokens.Row]"], unfollowed := true, recurses := true, plainKeys := false, apart := false, narrowed := true }
def StateMovesUptoSaid : Prop := stateMovesUptoRow.holds Tryz.pinned (OpenSpec.upto stateMovesSpec)

/-- 'pinstripelaw17.StateLive', WHERE WHAT IT READS IS OF BULK AT MOST 1048576: true; the input reads as it did. -/
def stateLiveUptoRow : OpenClaim := { program := "ytedcppikakinoaagreat", sum := "c784039a1ef090c73cef5dd4b7e98d5c7c456a6ff332bf1ba7c20c41c1846575", func := "pinstripe/pinstripelaw17.StateLive", spec := "stateLive", inPlace := ["internal/bytealg.IndexByteString", "internal/abi.NoEscape", "internal/bytealg.MakeNoZero", "internal/bytealg.abigen_runtime_cmpstring", "slices.overlaps[pinstripe/tokens.Row]"], unfollowed := true, recurses := true, plainKeys := false, apart := false, narrowed := true }
def StateLiveUptoSaid : Prop := stateLiveUptoRow.holds Tryz.pinned (OpenSpec.upto stateLiveSpec)

/-- 'pinstripelaw17.StateFrees', WHERE WHAT IT READS IS OF BULK AT MOST 1048576: true; the input reads as it did. -/
def stateFreesUptoRow : OpenClaim := { program := "ytedcppikakinoaagreat", sum := "c784039a1ef090c73cef5dd4b7e98d5c7c456a6ff332bf1ba7c20c41c1846575", func := "pinstripe/pinstripelaw17.StateFrees", spec := "stateFrees", inPlace := ["internal/bytealg.IndexByteString", "internal/abi.NoEscape", "internal/bytealg.MakeNoZero", "internal/bytealg.abigen_runtime_cmpstring", "slices.overlaps[pinstripe/tokens.Row]"], unfollowed := true, recurses := true, plainKeys := false, apart := false, narrowed := true }
def StateFreesUptoSaid : Prop := stateFreesUptoRow.holds Tryz.pinned (OpenSpec.upto stateFreesSpec)

/-- 'pinstripelaw17.StateRefuses', WHERE WHAT IT READS IS OF BULK AT MOST 1048576: true; the input reads as it did. -/
def stateRefusesUptoRow : OpenClaim := { program := "ytedcppikakinoaagreat", sum := "c784039a1ef090c73cef5dd4b7e98d5c7c456a6ff332bf1ba7c20c41c1846575", func := "pinstripe/pinstripelaw17.StateRefuses", spec := "stateRefuses", inPlace := ["internal/bytealg.IndexByteString", "internal/abi.NoEscape", "internal/bytealg.MakeNoZero", "internal/bytealg.abigen_runtime_cmpstring", "slices.overlaps[pinstripe/tokens.Row]"], unfollowed := true, recurses := true, plainKeys := false, apart := false, narrowed := true }
def StateRefusesUptoSaid : Prop := stateRefusesUptoRow.holds Tryz.pinned (OpenSpec.upto stateRefusesSpec)

/-- 'pinstripelaw17.StateLives', WHERE WHAT IT READS IS OF BULK AT MOST 1048576: true; the input reads as it did. -/
def stateLivesUptoRow : OpenClaim := { program := "ytedcppikakinoaagreat", sum := "c784039a1ef090c73cef5dd4b7e98d5c7c456a6ff332bf1ba7c20c41c1846575", func := "pinstripe/pinstripelaw17.StateLives", spec := "stateLives", inPlace := ["internal/bytealg.IndexByteString", "internal/abi.NoEscape", "internal/bytealg.MakeNoZero", "internal/bytealg.abigen_runtime_cmpstring", "slices.overlaps[pinstripe/tokens.Row]"], unfollowed := true, recurses := true, plainKeys := false, apart := false, narrowed := true }
def StateLivesUptoSaid : Prop := stateLivesUptoRow.holds Tryz.pinned (OpenSpec.upto stateLivesSpec)

/-- 'pinstripelaw17.StateOnce', WHERE WHAT IT READS IS OF BULK AT MOST 1048576: true; the input reads as it did. -/
def stateOnceUptoRow : OpenClaim := { program := "ytedcppikakinoaagreat", sum := "c784039a1ef090c73cef5dd4b7e98d5c7c456a6ff332bf1ba7c20c41c1846575", func := "pinstripe/pinstripelaw17.StateOnce", spec := "stateOnce", inPlace := ["internal/bytealg.IndexByteString", "internal/abi.NoEscape", "internal/bytealg.MakeNoZero", "internal/bytealg.abigen_runtime_cmpstring", "slices.overlaps[pinstripe/tokens.Row]"], unfollowed := true, recurses := true, plainKeys := false, apart := false, narrowed := true }
def StateOnceUptoSaid : Prop := stateOnceUptoRow.holds Tryz.pinned (OpenSpec.upto stateOnceSpec)

/-- 'pinstripelaw17.StateTwins', WHERE WHAT IT READS IS OF BULK AT MOST 1048576: true; the input reads as it did. -/
def stateTwinsUptoRow : OpenClaim := { program := "ytedcppikakinoaagreat", sum := "c784039a1ef090c73cef5dd4b7e98d5c7c456a6ff332bf1ba7c20c41c1846575", func := "pinstripe/pinstripelaw17.StateTwins", spec := "stateTwins", inPlace := ["internal/bytealg.IndexByteString", "internal/abi.NoEscape", "internal/bytealg.MakeNoZero", "internal/bytealg.abigen_runtime_cmpstring", "slices.overlaps[pinstripe/tokens.Row]"], unfollowed := true, recurses := true, plainKeys := false, apart := false, narrowed := true }
def StateTwinsUptoSaid : Prop := stateTwinsUptoRow.holds Tryz.pinned (OpenSpec.upto stateTwinsSpec)

/-- 'pinstripelaw22.UsageRows', WHERE WHAT IT READS IS OF BULK AT MOST 1048576: true; the input reads as it did. -/
def usageRowsUptoRow : OpenClaim := { program := "ytedcppikakinoaagreat", sum := "c784039a1ef090c73cef5dd4b7e98d5c7c456a6ff332bf1ba7c20c41c1846575", func := "pinstripe/pinstripelaw22.UsageRows", spec := "usageRows", inPlace := ["math.Float64bits", "internal/bytealg.IndexByteString", "internal/abi.NoEscape", "internal/bytealg.MakeNoZero", "internal/bytealg.abigen_runtime_cmpstring", "slices.overlaps[pinstripe/tokens.Row]"], unfollowed := true, recurses := true, plainKeys := false, apart := false, narrowed := true }
def UsageRowsUptoSaid : Prop := usageRowsUptoRow.holds Tryz.pinned (OpenSpec.upto usageRowsSpec)

/-- 'pinstripelaw22.UsageNot', WHERE WHAT IT READS IS OF BULK AT MOST 1048576: true; the input reads as it did. -/
def usageNotUptoRow : OpenClaim := { program := "ytedcppikakinoaagreat", sum := "c784039a1ef090c73cef5dd4b7e98d5c7c456a6ff332bf1ba7c20c41c1846575", func := "pinstripe/pinstripelaw22.UsageNot", spec := "usageNot", inPlace := ["math.Float64bits", "internal/bytealg.IndexByteString", "internal/abi.NoEscape", "internal/bytealg.MakeNoZero", "internal/bytealg.abigen_runtime_cmpstring", "slices.overlaps[pinstripe/tokens.Row]"], unfollowed := true, recurses := true, plainKeys := false, apart := false, narrowed := true }
def UsageNotUptoSaid : Prop := usageNotUptoRow.holds Tryz.pinned (OpenSpec.upto usageNotSpec)

/-- 'pinstripelaw22.UsagePart', WHERE WHAT IT READS IS OF BULK AT MOST 1048576: true; the input reads as it did. -/
def usagePartUptoRow : OpenClaim := { program := "ytedcppikakinoaagreat", sum := "c784039a1ef090c73cef5dd4b7e98d5c7c456a6ff332bf1ba7c20c41c1846575", func := "pinstripe/pinstripelaw22.UsagePart", spec := "usagePart", inPlace := ["math.Float64bits", "internal/bytealg.IndexByteString", "internal/abi.NoEscape", "internal/bytealg.MakeNoZero", "internal/bytealg.abigen_runtime_cmpstring", "slices.overlaps[pinstripe/tokens.Row]"], unfollowed := true, recurses := true, plainKeys := false, apart := false, narrowed := true }
def UsagePartUptoSaid : Prop := usagePartUptoRow.holds Tryz.pinned (OpenSpec.upto usagePartSpec)

end Rows
end Go.Proofs.YtedcppikakinoaaGreat
