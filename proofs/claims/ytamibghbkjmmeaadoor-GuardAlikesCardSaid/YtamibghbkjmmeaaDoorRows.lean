/-
  NARROWER THAN 'FOR EVERY INPUT', by the rows' own cells (each row's printed sentence says how): GuardAlikes: laid · GuardPairs: laid · GuardCovers: laid · GuardSpares: laid · GuardTwins: laid · GuardCuts: laid · GuardLooks: laid · GuardBalances: laid · GuardTruth: laid · GuardProof: laid · GuardSpared: laid · GuardMore: laid · GuardBalanced: laid.
  DERIVED. THE GIVEN ROWS OF THIS SEAT. 13 by the template 'for every input the law returns true; each argument reads behind the call as it read before'; 0 by the template 'total and deterministic' (their statements: YtamibghbkjmmeaaDoorTotals.lean).
  GIVEN WITH THE SEED: the statements are not yours to turn. If you find one false, say at which input.
  Laid BY PROGRAM, IN A SANDBOX (cutbox-rows.mjs): the forced cells as the released guide's own fill.sh prints them over the translation c83ef1411be320aa… (all of the seat's roots in one cut). By AI agents, Wed Nov 11 2026. No macro, syntax, notation, axiom, sorry.
-/
import Derived.Test.YtamibghbkjmmeaaDoorChecked
import GoSem.Claim
import GoSem.ClaimJoined
import GoSem.ClaimMapViews
import Derived.JoinedTies
import Derived.KernelRfl
namespace Go.Proofs.YtamibghbkjmmeaaDoor
/- THE CELL 'sum', in the pinned program and in every row, IS THE sha256 OF THE DUMP (.gsa) THAT YtamibghbkjmmeaaDoorProg.lean LOADS. Nothing in Lean hashes anything: it is a label: what it is worth is what the hold of that sum in a sandbox is worth. -/
noncomputable def Tryd.pinned : Pinned := { name := "ytamibghbkjmmeaadoor", sum := "c83ef1411be320aac84d195c6884b62f26bc7f500f64de3d0b3908596f8e57e8", checked := Tryd.checked }
namespace Rows
def none {H : Type} : Left H := { results := [], args := [] }

/- WHAT THE LISTED PACKAGE-LEVEL VARIABLES READ AS WHEN THE CALL BEGINS. Each datum BY PROGRAM (the guide's laid-datum.mjs) off the statement by which the dump's own 'gosem.cut.vars' lays the variable. In a bare row this is a premise. The card (YtamibghbkjmmeaaDoorCards.lean) ties it to the program's text. -/
def laid_math_bits_deBruijn32tab {H : Type} : DataW H := .agg [.lit (.int .u8 0), .lit (.int .u8 1), .lit (.int .u8 28), .lit (.int .u8 2), .lit (.int .u8 29), .lit (.int .u8 14), .lit (.int .u8 24), .lit (.int .u8 3), .lit (.int .u8 30), .lit (.int .u8 22), .lit (.int .u8 20), .lit (.int .u8 15), .lit (.int .u8 25), .lit (.int .u8 17), .lit (.int .u8 4), .lit (.int .u8 8), .lit (.int .u8 31), .lit (.int .u8 27), .lit (.int .u8 13), .lit (.int .u8 23), .lit (.int .u8 21), .lit (.int .u8 19), .lit (.int .u8 16), .lit (.int .u8 7), .lit (.int .u8 26), .lit (.int .u8 12), .lit (.int .u8 18), .lit (.int .u8 6), .lit (.int .u8 11), .lit (.int .u8 5), .lit (.int .u8 10), .lit (.int .u8 9)]
def laid_math_bits_deBruijn64tab {H : Type} : DataW H := .agg [.lit (.int .u8 0), .lit (.int .u8 1), .lit (.int .u8 56), .lit (.int .u8 2), .lit (.int .u8 57), .lit (.int .u8 49), .lit (.int .u8 28), .lit (.int .u8 3), .lit (.int .u8 61), .lit (.int .u8 58), .lit (.int .u8 42), .lit (.int .u8 50), .lit (.int .u8 38), .lit (.int .u8 29), .lit (.int .u8 17), .lit (.int .u8 4), .lit (.int .u8 62), .lit (.int .u8 47), .lit (.int .u8 59), .lit (.int .u8 36), .lit (.int .u8 45), .lit (.int .u8 43), .lit (.int .u8 51), .lit (.int .u8 22), .lit (.int .u8 53), .lit (.int .u8 39), .lit (.int .u8 33), .lit (.int .u8 30), .lit (.int .u8 24), .lit (.int .u8 18), .lit (.int .u8 12), .lit (.int .u8 5), .lit (.int .u8 63), .lit (.int .u8 55), .lit (.int .u8 48), .lit (.int .u8 27), .lit (.int .u8 60), .lit (.int .u8 41), .lit (.int .u8 37), .lit (.int .u8 16), .lit (.int .u8 46), .lit (.int .u8 35), .lit (.int .u8 44), .lit (.int .u8 21), .lit (.int .u8 52), .lit (.int .u8 32), .lit (.int .u8 23), .lit (.int .u8 11), .lit (.int .u8 54), .lit (.int .u8 26), .lit (.int .u8 40), .lit (.int .u8 15), .lit (.int .u8 34), .lit (.int .u8 20), .lit (.int .u8 31), .lit (.int .u8 10), .lit (.int .u8 25), .lit (.int .u8 14), .lit (.int .u8 19), .lit (.int .u8 9), .lit (.int .u8 13), .lit (.int .u8 8), .lit (.int .u8 7), .lit (.int .u8 6)]

/-- 'panachelaw06.GuardAlikes': WHATEVER THE INPUT: true; the input reads as it did. -/
def guardAlikesSpec : ChangeSpec := { name := "guardAlikes", fn := fun _ => fun
  | [d1, d2, d3] => { results := [.lit (.bool true)], args := [d1, d2, d3] }
  | _ => none }
def guardAlikesRow : OpenClaim := { program := "ytamibghbkjmmeaadoor", sum := "c83ef1411be320aac84d195c6884b62f26bc7f500f64de3d0b3908596f8e57e8", func := "panache/panachelaw06.GuardAlikes", spec := "guardAlikes", unfollowed := true, recurses := true, named := ["math/bits.deBruijn32tab", "math/bits.deBruijn64tab"], apart := false, laid := [("math/bits.deBruijn32tab", laid_math_bits_deBruijn32tab), ("math/bits.deBruijn64tab", laid_math_bits_deBruijn64tab)] }
def GuardAlikesSaid : Prop := guardAlikesRow.holds Tryd.pinned (OpenSpec.ofChange guardAlikesSpec)

/-- ITS FALSE NEIGHBOUR: 'it returns false'. Refute it at one input. -/
def guardAlikesWrong : ChangeSpec := { name := "guardAlikes", fn := fun _ => fun
  | [d1, d2, d3] => { results := [.lit (.bool false)], args := [d1, d2, d3] }
  | _ => none }
def GuardAlikesWrongFalsely : Prop := guardAlikesRow.holds Tryd.pinned (OpenSpec.ofChange guardAlikesWrong)

/-- 'panachelaw06.GuardPairs': WHATEVER THE INPUT: true; the input reads as it did. -/
def guardPairsSpec : ChangeSpec := { name := "guardPairs", fn := fun _ => fun
  | [d1, d2] => { results := [.lit (.bool true)], args := [d1, d2] }
  | _ => none }
def guardPairsRow : OpenClaim := { program := "ytamibghbkjmmeaadoor", sum := "c83ef1411be320aac84d195c6884b62f26bc7f500f64de3d0b3908596f8e57e8", func := "panache/panachelaw06.GuardPairs", spec := "guardPairs", unfollowed := true, recurses := true, named := ["math/bits.deBruijn32tab", "math/bits.deBruijn64tab"], apart := false, laid := [("math/bits.deBruijn32tab", laid_math_bits_deBruijn32tab), ("math/bits.deBruijn64tab", laid_math_bits_deBruijn64tab)] }
def GuardPairsSaid : Prop := guardPairsRow.holds Tryd.pinned (OpenSpec.ofChange guardPairsSpec)

/-- ITS FALSE NEIGHBOUR: 'it returns false'. Refute it at one input. -/
def guardPairsWrong : ChangeSpec := { name := "guardPairs", fn := fun _ => fun
  | [d1, d2] => { results := [.lit (.bool false)], args := [d1, d2] }
  | _ => none }
def GuardPairsWrongFalsely : Prop := guardPairsRow.holds Tryd.pinned (OpenSpec.ofChange guardPairsWrong)

/-- 'panachelaw06.GuardCovers': WHATEVER THE INPUT: true; the input reads as it did. -/
def guardCoversSpec : ChangeSpec := { name := "guardCovers", fn := fun _ => fun
  | [d1, d2] => { results := [.lit (.bool true)], args := [d1, d2] }
  | _ => none }
def guardCoversRow : OpenClaim := { program := "ytamibghbkjmmeaadoor", sum := "c83ef1411be320aac84d195c6884b62f26bc7f500f64de3d0b3908596f8e57e8", func := "panache/panachelaw06.GuardCovers", spec := "guardCovers", unfollowed := true, recurses := true, named := ["math/bits.deBruijn32tab", "math/bits.deBruijn64tab"], apart := false, laid := [("math/bits.deBruijn32tab", laid_math_bits_deBruijn32tab), ("math/bits.deBruijn64tab", laid_math_bits_deBruijn64tab)] }
def GuardCoversSaid : Prop := guardCoversRow.holds Tryd.pinned (OpenSpec.ofChange guardCoversSpec)

/-- ITS FALSE NEIGHBOUR: 'it returns false'. Refute it at one input. -/
def guardCoversWrong : ChangeSpec := { name := "guardCovers", fn := fun _ => fun
  | [d1, d2] => { results := [.lit (.bool false)], args := [d1, d2] }
  | _ => none }
def GuardCoversWrongFalsely : Prop := guardCoversRow.holds Tryd.pinned (OpenSpec.ofChange guardCoversWrong)

/-- 'panachelaw06.GuardSpares': WHATEVER THE INPUT: true; the input reads as it did. -/
def guardSparesSpec : ChangeSpec := { name := "guardSpares", fn := fun _ => fun
  | [d1, d2] => { results := [.lit (.bool true)], args := [d1, d2] }
  | _ => none }
def guardSparesRow : OpenClaim := { program := "ytamibghbkjmmeaadoor", sum := "c83ef1411be320aac84d195c6884b62f26bc7f500f64de3d0b3908596f8e57e8", func := "panache/panachelaw06.GuardSpares", spec := "guardSpares", unfollowed := true, recurses := true, named := ["math/bits.deBruijn32tab", "math/bits.deBruijn64tab"], apart := false, laid := [("math/bits.deBruijn32tab", laid_math_bits_deBruijn32tab), ("math/bits.deBruijn64tab", laid_math_bits_deBruijn64tab)] }
def GuardSparesSaid : Prop := guardSparesRow.holds Tryd.pinned (OpenSpec.ofChange guardSparesSpec)

/-- ITS FALSE NEIGHBOUR: 'it returns false'. Refute it at one input. -/
def guardSparesWrong : ChangeSpec := { name := "guardSpares", fn := fun _ => fun
  | [d1, d2] => { results := [.lit (.bool false)], args := [d1, d2] }
  | _ => none }
def GuardSparesWrongFalsely : Prop := guardSparesRow.holds Tryd.pinned (OpenSpec.ofChange guardSparesWrong)

/-- 'panachelaw06.GuardTwins': WHATEVER THE INPUT: true; the input reads as it did. -/
def guardTwinsSpec : ChangeSpec := { name := "guardTwins", fn := fun _ => fun
  | [d1, d2] => { results := [.lit (.bool true)], args := [d1, d2] }
  | _ => none }
def guardTwinsRow : OpenClaim := { program := "ytamibghbkjmmeaadoor", sum := "c83ef1411be320aac84d195c6884b62f26bc7f500f64de3d0b3908596f8e57e8", func := "panache/panachelaw06.GuardTwins", spec := "guardTwins", unfollowed := true, recurses := true, named := ["math/bits.deBruijn32tab", "math/bits.deBruijn64tab"], apart := false, laid := [("math/bits.deBruijn32tab", laid_math_bits_deBruijn32tab), ("math/bits.deBruijn64tab", laid_math_bits_deBruijn64tab)] }
def GuardTwinsSaid : Prop := guardTwinsRow.holds Tryd.pinned (OpenSpec.ofChange guardTwinsSpec)

/-- ITS FALSE NEIGHBOUR: 'it returns false'. Refute it at one input. -/
def guardTwinsWrong : ChangeSpec := { name := "guardTwins", fn := fun _ => fun
  | [d1, d2] => { results := [.lit (.bool false)], args := [d1, d2] }
  | _ => none }
def GuardTwinsWrongFalsely : Prop := guardTwinsRow.holds Tryd.pinned (OpenSpec.ofChange guardTwinsWrong)

/-- 'panachelaw06.GuardCuts': WHATEVER THE INPUT: true; the input reads as it did. -/
def guardCutsSpec : ChangeSpec := { name := "guardCuts", fn := fun _ => fun
  | [d1, d2] => { results := [.lit (.bool true)], args := [d1, d2] }
  | _ => none }
def guardCutsRow : OpenClaim := { program := "ytamibghbkjmmeaadoor", sum := "c83ef1411be320aac84d195c6884b62f26bc7f500f64de3d0b3908596f8e57e8", func := "panache/panachelaw06.GuardCuts", spec := "guardCuts", unfollowed := true, recurses := true, named := ["math/bits.deBruijn32tab", "math/bits.deBruijn64tab"], apart := false, laid := [("math/bits.deBruijn32tab", laid_math_bits_deBruijn32tab), ("math/bits.deBruijn64tab", laid_math_bits_deBruijn64tab)] }
def GuardCutsSaid : Prop := guardCutsRow.holds Tryd.pinned (OpenSpec.ofChange guardCutsSpec)

/-- ITS FALSE NEIGHBOUR: 'it returns false'. Refute it at one input. -/
def guardCutsWrong : ChangeSpec := { name := "guardCuts", fn := fun _ => fun
  | [d1, d2] => { results := [.lit (.bool false)], args := [d1, d2] }
  | _ => none }
def GuardCutsWrongFalsely : Prop := guardCutsRow.holds Tryd.pinned (OpenSpec.ofChange guardCutsWrong)

/-- 'panachelaw06.GuardLooks': WHATEVER THE INPUT: true; the input reads as it did. -/
def guardLooksSpec : ChangeSpec := { name := "guardLooks", fn := fun _ => fun
  | [d1, d2] => { results := [.lit (.bool true)], args := [d1, d2] }
  | _ => none }
def guardLooksRow : OpenClaim := { program := "ytamibghbkjmmeaadoor", sum := "c83ef1411be320aac84d195c6884b62f26bc7f500f64de3d0b3908596f8e57e8", func := "panache/panachelaw06.GuardLooks", spec := "guardLooks", unfollowed := true, recurses := true, named := ["math/bits.deBruijn32tab", "math/bits.deBruijn64tab"], apart := false, laid := [("math/bits.deBruijn32tab", laid_math_bits_deBruijn32tab), ("math/bits.deBruijn64tab", laid_math_bits_deBruijn64tab)] }
def GuardLooksSaid : Prop := guardLooksRow.holds Tryd.pinned (OpenSpec.ofChange guardLooksSpec)

/-- ITS FALSE NEIGHBOUR: 'it returns false'. Refute it at one input. -/
def guardLooksWrong : ChangeSpec := { name := "guardLooks", fn := fun _ => fun
  | [d1, d2] => { results := [.lit (.bool false)], args := [d1, d2] }
  | _ => none }
def GuardLooksWrongFalsely : Prop := guardLooksRow.holds Tryd.pinned (OpenSpec.ofChange guardLooksWrong)

/-- 'panachelaw06.GuardBalances': WHATEVER THE INPUT: true; the input reads as it did. -/
def guardBalancesSpec : ChangeSpec := { name := "guardBalances", fn := fun _ => fun
  | [d1, d2] => { results := [.lit (.bool true)], args := [d1, d2] }
  | _ => none }
def guardBalancesRow : OpenClaim := { program := "ytamibghbkjmmeaadoor", sum := "c83ef1411be320aac84d195c6884b62f26bc7f500f64de3d0b3908596f8e57e8", func := "panache/panachelaw06.GuardBalances", spec := "guardBalances", unfollowed := true, recurses := true, named := ["math/bits.deBruijn32tab", "math/bits.deBruijn64tab"], apart := false, laid := [("math/bits.deBruijn32tab", laid_math_bits_deBruijn32tab), ("math/bits.deBruijn64tab", laid_math_bits_deBruijn64tab)] }
def GuardBalancesSaid : Prop := guardBalancesRow.holds Tryd.pinned (OpenSpec.ofChange guardBalancesSpec)

/-- ITS FALSE NEIGHBOUR: 'it returns false'. Refute it at one input. -/
def guardBalancesWrong : ChangeSpec := { name := "guardBalances", fn := fun _ => fun
  | [d1, d2] => { results := [.lit (.bool false)], args := [d1, d2] }
  | _ => none }
def GuardBalancesWrongFalsely : Prop := guardBalancesRow.holds Tryd.pinned (OpenSpec.ofChange guardBalancesWrong)

/-- 'panachelaw06.GuardTruth': WHATEVER THE INPUT: true; the input reads as it did. -/
def guardTruthSpec : ChangeSpec := { name := "guardTruth", fn := fun _ => fun
  | [d1, d2] => { results := [.lit (.bool true)], args := [d1, d2] }
  | _ => none }
def guardTruthRow : OpenClaim := { program := "ytamibghbkjmmeaadoor", sum := "c83ef1411be320aac84d195c6884b62f26bc7f500f64de3d0b3908596f8e57e8", func := "panache/panachelaw06.GuardTruth", spec := "guardTruth", unfollowed := true, recurses := true, named := ["math/bits.deBruijn32tab", "math/bits.deBruijn64tab"], apart := false, laid := [("math/bits.deBruijn32tab", laid_math_bits_deBruijn32tab), ("math/bits.deBruijn64tab", laid_math_bits_deBruijn64tab)] }
def GuardTruthSaid : Prop := guardTruthRow.holds Tryd.pinned (OpenSpec.ofChange guardTruthSpec)

/-- ITS FALSE NEIGHBOUR: 'it returns false'. Refute it at one input. -/
def guardTruthWrong : ChangeSpec := { name := "guardTruth", fn := fun _ => fun
  | [d1, d2] => { results := [.lit (.bool false)], args := [d1, d2] }
  | _ => none }
def GuardTruthWrongFalsely : Prop := guardTruthRow.holds Tryd.pinned (OpenSpec.ofChange guardTruthWrong)

/-- 'panachelaw06.GuardProof': WHATEVER THE INPUT: true; the input reads as it did. -/
def guardProofSpec : ChangeSpec := { name := "guardProof", fn := fun _ => fun
  | [d] => { results := [.lit (.bool true)], args := [d] }
  | _ => none }
def guardProofRow : OpenClaim := { program := "ytamibghbkjmmeaadoor", sum := "c83ef1411be320aac84d195c6884b62f26bc7f500f64de3d0b3908596f8e57e8", func := "panache/panachelaw06.GuardProof", spec := "guardProof", unfollowed := true, recurses := true, named := ["math/bits.deBruijn32tab", "math/bits.deBruijn64tab"], apart := false, laid := [("math/bits.deBruijn32tab", laid_math_bits_deBruijn32tab), ("math/bits.deBruijn64tab", laid_math_bits_deBruijn64tab)] }
def GuardProofSaid : Prop := guardProofRow.holds Tryd.pinned (OpenSpec.ofChange guardProofSpec)

/-- ITS FALSE NEIGHBOUR: 'it returns false'. Refute it at one input. -/
def guardProofWrong : ChangeSpec := { name := "guardProof", fn := fun _ => fun
  | [d] => { results := [.lit (.bool false)], args := [d] }
  | _ => none }
def GuardProofWrongFalsely : Prop := guardProofRow.holds Tryd.pinned (OpenSpec.ofChange guardProofWrong)

/-- 'panachelaw06.GuardSpared': WHATEVER THE INPUT: true; the input reads as it did. -/
def guardSparedSpec : ChangeSpec := { name := "guardSpared", fn := fun _ => fun
  | [d] => { results := [.lit (.bool true)], args := [d] }
  | _ => none }
def guardSparedRow : OpenClaim := { program := "ytamibghbkjmmeaadoor", sum := "c83ef1411be320aac84d195c6884b62f26bc7f500f64de3d0b3908596f8e57e8", func := "panache/panachelaw06.GuardSpared", spec := "guardSpared", unfollowed := true, recurses := true, named := ["math/bits.deBruijn32tab", "math/bits.deBruijn64tab"], apart := false, laid := [("math/bits.deBruijn32tab", laid_math_bits_deBruijn32tab), ("math/bits.deBruijn64tab", laid_math_bits_deBruijn64tab)] }
def GuardSparedSaid : Prop := guardSparedRow.holds Tryd.pinned (OpenSpec.ofChange guardSparedSpec)

/-- ITS FALSE NEIGHBOUR: 'it returns false'. Refute it at one input. -/
def guardSparedWrong : ChangeSpec := { name := "guardSpared", fn := fun _ => fun
  | [d] => { results := [.lit (.bool false)], args := [d] }
  | _ => none }
def GuardSparedWrongFalsely : Prop := guardSparedRow.holds Tryd.pinned (OpenSpec.ofChange guardSparedWrong)

/-- 'panachelaw06.GuardMore': WHATEVER THE INPUT: true; the input reads as it did. -/
def guardMoreSpec : ChangeSpec := { name := "guardMore", fn := fun _ => fun
  | [d1, d2] => { results := [.lit (.bool true)], args := [d1, d2] }
  | _ => none }
def guardMoreRow : OpenClaim := { program := "ytamibghbkjmmeaadoor", sum := "c83ef1411be320aac84d195c6884b62f26bc7f500f64de3d0b3908596f8e57e8", func := "panache/panachelaw06.GuardMore", spec := "guardMore", unfollowed := true, recurses := true, named := ["math/bits.deBruijn32tab", "math/bits.deBruijn64tab"], apart := false, laid := [("math/bits.deBruijn32tab", laid_math_bits_deBruijn32tab), ("math/bits.deBruijn64tab", laid_math_bits_deBruijn64tab)] }
def GuardMoreSaid : Prop := guardMoreRow.holds Tryd.pinned (OpenSpec.ofChange guardMoreSpec)

/-- ITS FALSE NEIGHBOUR: 'it returns false'. Refute it at one input. -/
def guardMoreWrong : ChangeSpec := { name := "guardMore", fn := fun _ => fun
  | [d1, d2] => { results := [.lit (.bool false)], args := [d1, d2] }
  | _ => none }
def GuardMoreWrongFalsely : Prop := guardMoreRow.holds Tryd.pinned (OpenSpec.ofChange guardMoreWrong)

/-- 'panachelaw06.GuardBalanced': WHATEVER THE INPUT: true; the input reads as it did. -/
def guardBalancedSpec : ChangeSpec := { name := "guardBalanced", fn := fun _ => fun
  | [d1, d2] => { results := [.lit (.bool true)], args := [d1, d2] }
  | _ => none }
def guardBalancedRow : OpenClaim := { program := "ytamibghbkjmmeaadoor", sum := "c83ef1411be320aac84d195c6884b62f26bc7f500f64de3d0b3908596f8e57e8", func := "panache/panachelaw06.GuardBalanced", spec := "guardBalanced", unfollowed := true, recurses := true, named := ["math/bits.deBruijn32tab", "math/bits.deBruijn64tab"], apart := false, laid := [("math/bits.deBruijn32tab", laid_math_bits_deBruijn32tab), ("math/bits.deBruijn64tab", laid_math_bits_deBruijn64tab)] }
def GuardBalancedSaid : Prop := guardBalancedRow.holds Tryd.pinned (OpenSpec.ofChange guardBalancedSpec)

/-- ITS FALSE NEIGHBOUR: 'it returns false'. Refute it at one input. -/
def guardBalancedWrong : ChangeSpec := { name := "guardBalanced", fn := fun _ => fun
  | [d1, d2] => { results := [.lit (.bool false)], args := [d1, d2] }
  | _ => none }
def GuardBalancedWrongFalsely : Prop := guardBalancedRow.holds Tryd.pinned (OpenSpec.ofChange guardBalancedWrong)

/- THE SECOND FORM. 'bulk': how many values and letters a reading holds, each counted each time it is reached (what is shared counts as often as it is met; a slice's spare places count too). A statement '..UptoSaid' is the law's where the arguments, and the package variables that the reading takes, are together of bulk at most 1048576: NARROWER than '..Said'. Prove '..Said' where nothing that the law and all that it calls make is longer than what came in: it says more and counts as full. Else prove '..UptoSaid'. A law counts once. -/
mutual
def uptoBulk {H : Type} : DataW H → Nat
  | .lit (.string bytes) => bytes.length + 1
  | .lit _ => 1
  | .nil => 1
  | .ptr d => uptoBulk d + 1
  | .slice elems spare => uptoBulkAll elems + uptoBulkAll spare + 1
  | .agg parts => uptoBulkAll parts + 1
  | .iface _ d => uptoBulk d + 1
  | .map entries => uptoBulkEntries entries + 1
  | .held _ => 1
def uptoBulkAll {H : Type} : List (DataW H) → Nat
  | [] => 0
  | d :: r => uptoBulk d + uptoBulkAll r
def uptoBulkEntries {H : Type} : List (Lit × DataW H) → Nat
  | [] => 0
  | x :: r => uptoBulkEntry x + uptoBulkEntries r
def uptoBulkEntry {H : Type} : Lit × DataW H → Nat
  | (.string bytes, d) => bytes.length + uptoBulk d + 1
  | (_, d) => uptoBulk d + 1
 end
def uptoSmall : (H : Type) → List (DataW H) → Bool := fun _ ds => decide (uptoBulkAll ds ≤ 1048576)
def OpenSpec.upto (s : _root_.Go.ChangeSpec) : _root_.Go.OpenSpec := { _root_.Go.OpenSpec.ofChange s with cond := some uptoSmall }

/-- 'panachelaw06.GuardAlikes', WHERE WHAT IT READS IS OF BULK AT MOST 1048576: true; the input reads as it did. -/
def guardAlikesUptoRow : OpenClaim := { program := "ytamibghbkjmmeaadoor", sum := "c83ef1411be320aac84d195c6884b62f26bc7f500f64de3d0b3908596f8e57e8", func := "panache/panachelaw06.GuardAlikes", spec := "guardAlikes", unfollowed := true, recurses := true, named := ["math/bits.deBruijn32tab", "math/bits.deBruijn64tab"], apart := false, laid := [("math/bits.deBruijn32tab", laid_math_bits_deBruijn32tab), ("math/bits.deBruijn64tab", laid_math_bits_deBruijn64tab)], narrowed := true }
def GuardAlikesUptoSaid : Prop := guardAlikesUptoRow.holds Tryd.pinned (OpenSpec.upto guardAlikesSpec)

/-- 'panachelaw06.GuardPairs', WHERE WHAT IT READS IS OF BULK AT MOST 1048576: true; the input reads as it did. -/
def guardPairsUptoRow : OpenClaim := { program := "ytamibghbkjmmeaadoor", sum := "c83ef1411be320aac84d195c6884b62f26bc7f500f64de3d0b3908596f8e57e8", func := "panache/panachelaw06.GuardPairs", spec := "guardPairs", unfollowed := true, recurses := true, named := ["math/bits.deBruijn32tab", "math/bits.deBruijn64tab"], apart := false, laid := [("math/bits.deBruijn32tab", laid_math_bits_deBruijn32tab), ("math/bits.deBruijn64tab", laid_math_bits_deBruijn64tab)], narrowed := true }
def GuardPairsUptoSaid : Prop := guardPairsUptoRow.holds Tryd.pinned (OpenSpec.upto guardPairsSpec)

/-- 'panachelaw06.GuardCovers', WHERE WHAT IT READS IS OF BULK AT MOST 1048576: true; the input reads as it did. -/
def guardCoversUptoRow : OpenClaim := { program := "ytamibghbkjmmeaadoor", sum := "c83ef1411be320aac84d195c6884b62f26bc7f500f64de3d0b3908596f8e57e8", func := "panache/panachelaw06.GuardCovers", spec := "guardCovers", unfollowed := true, recurses := true, named := ["math/bits.deBruijn32tab", "math/bits.deBruijn64tab"], apart := false, laid := [("math/bits.deBruijn32tab", laid_math_bits_deBruijn32tab), ("math/bits.deBruijn64tab", laid_math_bits_deBruijn64tab)], narrowed := true }
def GuardCoversUptoSaid : Prop := guardCoversUptoRow.holds Tryd.pinned (OpenSpec.upto guardCoversSpec)

/-- 'panachelaw06.GuardSpares', WHERE WHAT IT READS IS OF BULK AT MOST 1048576: true; the input reads as it did. -/
def guardSparesUptoRow : OpenClaim := { program := "ytamibghbkjmmeaadoor", sum := "c83ef1411be320aac84d195c6884b62f26bc7f500f64de3d0b3908596f8e57e8", func := "panache/panachelaw06.GuardSpares", spec := "guardSpares", unfollowed := true, recurses := true, named := ["math/bits.deBruijn32tab", "math/bits.deBruijn64tab"], apart := false, laid := [("math/bits.deBruijn32tab", laid_math_bits_deBruijn32tab), ("math/bits.deBruijn64tab", laid_math_bits_deBruijn64tab)], narrowed := true }
def GuardSparesUptoSaid : Prop := guardSparesUptoRow.holds Tryd.pinned (OpenSpec.upto guardSparesSpec)

/-- 'panachelaw06.GuardTwins', WHERE WHAT IT READS IS OF BULK AT MOST 1048576: true; the input reads as it did. -/
def guardTwinsUptoRow : OpenClaim := { program := "ytamibghbkjmmeaadoor", sum := "c83ef1411be320aac84d195c6884b62f26bc7f500f64de3d0b3908596f8e57e8", func := "panache/panachelaw06.GuardTwins", spec := "guardTwins", unfollowed := true, recurses := true, named := ["math/bits.deBruijn32tab", "math/bits.deBruijn64tab"], apart := false, laid := [("math/bits.deBruijn32tab", laid_math_bits_deBruijn32tab), ("math/bits.deBruijn64tab", laid_math_bits_deBruijn64tab)], narrowed := true }
def GuardTwinsUptoSaid : Prop := guardTwinsUptoRow.holds Tryd.pinned (OpenSpec.upto guardTwinsSpec)

/-- 'panachelaw06.GuardCuts', WHERE WHAT IT READS IS OF BULK AT MOST 1048576: true; the input reads as it did. -/
def guardCutsUptoRow : OpenClaim := { program := "ytamibghbkjmmeaadoor", sum := "c83ef1411be320aac84d195c6884b62f26bc7f500f64de3d0b3908596f8e57e8", func := "panache/panachelaw06.GuardCuts", spec := "guardCuts", unfollowed := true, recurses := true, named := ["math/bits.deBruijn32tab", "math/bits.deBruijn64tab"], apart := false, laid := [("math/bits.deBruijn32tab", laid_math_bits_deBruijn32tab), ("math/bits.deBruijn64tab", laid_math_bits_deBruijn64tab)], narrowed := true }
def GuardCutsUptoSaid : Prop := guardCutsUptoRow.holds Tryd.pinned (OpenSpec.upto guardCutsSpec)

/-- 'panachelaw06.GuardLooks', WHERE WHAT IT READS IS OF BULK AT MOST 1048576: true; the input reads as it did. -/
def guardLooksUptoRow : OpenClaim := { program := "ytamibghbkjmmeaadoor", sum := "c83ef1411be320aac84d195c6884b62f26bc7f500f64de3d0b3908596f8e57e8", func := "panache/panachelaw06.GuardLooks", spec := "guardLooks", unfollowed := true, recurses := true, named := ["math/bits.deBruijn32tab", "math/bits.deBruijn64tab"], apart := false, laid := [("math/bits.deBruijn32tab", laid_math_bits_deBruijn32tab), ("math/bits.deBruijn64tab", laid_math_bits_deBruijn64tab)], narrowed := true }
def GuardLooksUptoSaid : Prop := guardLooksUptoRow.holds Tryd.pinned (OpenSpec.upto guardLooksSpec)

/-- 'panachelaw06.GuardBalances', WHERE WHAT IT READS IS OF BULK AT MOST 1048576: true; the input reads as it did. -/
def guardBalancesUptoRow : OpenClaim := { program := "ytamibghbkjmmeaadoor", sum := "c83ef1411be320aac84d195c6884b62f26bc7f500f64de3d0b3908596f8e57e8", func := "panache/panachelaw06.GuardBalances", spec := "guardBalances", unfollowed := true, recurses := true, named := ["math/bits.deBruijn32tab", "math/bits.deBruijn64tab"], apart := false, laid := [("math/bits.deBruijn32tab", laid_math_bits_deBruijn32tab), ("math/bits.deBruijn64tab", laid_math_bits_deBruijn64tab)], narrowed := true }
def GuardBalancesUptoSaid : Prop := guardBalancesUptoRow.holds Tryd.pinned (OpenSpec.upto guardBalancesSpec)

/-- 'panachelaw06.GuardTruth', WHERE WHAT IT READS IS OF BULK AT MOST 1048576: true; the input reads as it did. -/
def guardTruthUptoRow : OpenClaim := { program := "ytamibghbkjmmeaadoor", sum := "c83ef1411be320aac84d195c6884b62f26bc7f500f64de3d0b3908596f8e57e8", func := "panache/panachelaw06.GuardTruth", spec := "guardTruth", unfollowed := true, recurses := true, named := ["math/bits.deBruijn32tab", "math/bits.deBruijn64tab"], apart := false, laid := [("math/bits.deBruijn32tab", laid_math_bits_deBruijn32tab), ("math/bits.deBruijn64tab", laid_math_bits_deBruijn64tab)], narrowed := true }
def GuardTruthUptoSaid : Prop := guardTruthUptoRow.holds Tryd.pinned (OpenSpec.upto guardTruthSpec)

/-- 'panachelaw06.GuardProof', WHERE WHAT IT READS IS OF BULK AT MOST 1048576: true; the input reads as it did. -/
def guardProofUptoRow : OpenClaim := { program := "ytamibghbkjmmeaadoor", sum := "c83ef1411be320aac84d195c6884b62f26bc7f500f64de3d0b3908596f8e57e8", func := "panache/panachelaw06.GuardProof", spec := "guardProof", unfollowed := true, recurses := true, named := ["math/bits.deBruijn32tab", "math/bits.deBruijn64tab"], apart := false, laid := [("math/bits.deBruijn32tab", laid_math_bits_deBruijn32tab), ("math/bits.deBruijn64tab", laid_math_bits_deBruijn64tab)], narrowed := true }
def GuardProofUptoSaid : Prop := guardProofUptoRow.holds Tryd.pinned (OpenSpec.upto guardProofSpec)

/-- 'panachelaw06.GuardSpared', WHERE WHAT IT READS IS OF BULK AT MOST 1048576: true; the input reads as it did. -/
def guardSparedUptoRow : OpenClaim := { program := "ytamibghbkjmmeaadoor", sum := "c83ef1411be320aac84d195c6884b62f26bc7f500f64de3d0b3908596f8e57e8", func := "panache/panachelaw06.GuardSpared", spec := "guardSpared", unfollowed := true, recurses := true, named := ["math/bits.deBruijn32tab", "math/bits.deBruijn64tab"], apart := false, laid := [("math/bits.deBruijn32tab", laid_math_bits_deBruijn32tab), ("math/bits.deBruijn64tab", laid_math_bits_deBruijn64tab)], narrowed := true }
def GuardSparedUptoSaid : Prop := guardSparedUptoRow.holds Tryd.pinned (OpenSpec.upto guardSparedSpec)

/-- 'panachelaw06.GuardMore', WHERE WHAT IT READS IS OF BULK AT MOST 1048576: true; the input reads as it did. -/
def guardMoreUptoRow : OpenClaim := { program := "ytamibghbkjmmeaadoor", sum := "c83ef1411be320aac84d195c6884b62f26bc7f500f64de3d0b3908596f8e57e8", func := "panache/panachelaw06.GuardMore", spec := "guardMore", unfollowed := true, recurses := true, named := ["math/bits.deBruijn32tab", "math/bits.deBruijn64tab"], apart := false, laid := [("math/bits.deBruijn32tab", laid_math_bits_deBruijn32tab), ("math/bits.deBruijn64tab", laid_math_bits_deBruijn64tab)], narrowed := true }
def GuardMoreUptoSaid : Prop := guardMoreUptoRow.holds Tryd.pinned (OpenSpec.upto guardMoreSpec)

/-- 'panachelaw06.GuardBalanced', WHERE WHAT IT READS IS OF BULK AT MOST 1048576: true; the input reads as it did. -/
def guardBalancedUptoRow : OpenClaim := { program := "ytamibghbkjmmeaadoor", sum := "c83ef1411be320aac84d195c6884b62f26bc7f500f64de3d0b3908596f8e57e8", func := "panache/panachelaw06.GuardBalanced", spec := "guardBalanced", unfollowed := true, recurses := true, named := ["math/bits.deBruijn32tab", "math/bits.deBruijn64tab"], apart := false, laid := [("math/bits.deBruijn32tab", laid_math_bits_deBruijn32tab), ("math/bits.deBruijn64tab", laid_math_bits_deBruijn64tab)], narrowed := true }
def GuardBalancedUptoSaid : Prop := guardBalancedUptoRow.holds Tryd.pinned (OpenSpec.upto guardBalancedSpec)

end Rows
end Go.Proofs.YtamibghbkjmmeaaDoor
