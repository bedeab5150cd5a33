/-
  DERIVED. GIVEN WITH THE SEED: THE CARDS: each row of YtamibghbkjmmeaaDoorRows.lean that lists a variable, with what it lists TIED to the program's text (the seventh form; the later family's looks); each row that meets fmt, with fmt's text TOLD by the authors' own Lean function (tested against real Go, not proved from fmt's source: count such statements apart). THE CARD IS WHAT COUNTS. Prove the row's statement (the work); the ties are given (YtamibghbkjmmeaaDoorTie.lean); close each card by the builder's one call (the guide's Derived/Test/ToyasCard.lean, 'card_holds'). Laid BY PROGRAM, IN A SANDBOX (cutbox-door.mjs). By AI agents, Wed Nov 11 2026. No macro, syntax, notation, axiom, sorry.
-/
import Derived.Test.YtamibghbkjmmeaaDoorRows
import GoSem.ClaimSeven
namespace Go.Proofs.YtamibghbkjmmeaaDoor
namespace Rows

/-- THE TIED CARD OF 'panachelaw06.GuardAlikes'. -/
def guardAlikesCard : Claim7 := { stood := { row := guardAlikesRow, standIns := [], harness := (true, "5c26a1841c68b930dfef943182fef6cf47288a02b20d99643c75e32ecd3fc235"), looks := false }, kinds := [], alts := [], laidByText := true, laidKinds := [.data, .data], laidTests := true, laidLooks := .later }
def GuardAlikesCardSaid : Prop := Claim7.holds Tryd.pinned (.plain (OpenSpec.ofChange guardAlikesSpec)) guardAlikesCard

/-- THE TIED CARD OF 'panachelaw06.GuardPairs'. -/
def guardPairsCard : Claim7 := { stood := { row := guardPairsRow, standIns := [], harness := (true, "5c26a1841c68b930dfef943182fef6cf47288a02b20d99643c75e32ecd3fc235"), looks := false }, kinds := [], alts := [], laidByText := true, laidKinds := [.data, .data], laidTests := true, laidLooks := .later }
def GuardPairsCardSaid : Prop := Claim7.holds Tryd.pinned (.plain (OpenSpec.ofChange guardPairsSpec)) guardPairsCard

/-- THE TIED CARD OF 'panachelaw06.GuardCovers'. -/
def guardCoversCard : Claim7 := { stood := { row := guardCoversRow, standIns := [], harness := (true, "5c26a1841c68b930dfef943182fef6cf47288a02b20d99643c75e32ecd3fc235"), looks := false }, kinds := [], alts := [], laidByText := true, laidKinds := [.data, .data], laidTests := true, laidLooks := .later }
def GuardCoversCardSaid : Prop := Claim7.holds Tryd.pinned (.plain (OpenSpec.ofChange guardCoversSpec)) guardCoversCard

/-- THE TIED CARD OF 'panachelaw06.GuardSpares'. -/
def guardSparesCard : Claim7 := { stood := { row := guardSparesRow, standIns := [], harness := (true, "5c26a1841c68b930dfef943182fef6cf47288a02b20d99643c75e32ecd3fc235"), looks := false }, kinds := [], alts := [], laidByText := true, laidKinds := [.data, .data], laidTests := true, laidLooks := .later }
def GuardSparesCardSaid : Prop := Claim7.holds Tryd.pinned (.plain (OpenSpec.ofChange guardSparesSpec)) guardSparesCard

/-- THE TIED CARD OF 'panachelaw06.GuardTwins'. -/
def guardTwinsCard : Claim7 := { stood := { row := guardTwinsRow, standIns := [], harness := (true, "5c26a1841c68b930dfef943182fef6cf47288a02b20d99643c75e32ecd3fc235"), looks := false }, kinds := [], alts := [], laidByText := true, laidKinds := [.data, .data], laidTests := true, laidLooks := .later }
def GuardTwinsCardSaid : Prop := Claim7.holds Tryd.pinned (.plain (OpenSpec.ofChange guardTwinsSpec)) guardTwinsCard

/-- THE TIED CARD OF 'panachelaw06.GuardCuts'. -/
def guardCutsCard : Claim7 := { stood := { row := guardCutsRow, standIns := [], harness := (true, "5c26a1841c68b930dfef943182fef6cf47288a02b20d99643c75e32ecd3fc235"), looks := false }, kinds := [], alts := [], laidByText := true, laidKinds := [.data, .data], laidTests := true, laidLooks := .later }
def GuardCutsCardSaid : Prop := Claim7.holds Tryd.pinned (.plain (OpenSpec.ofChange guardCutsSpec)) guardCutsCard

/-- THE TIED CARD OF 'panachelaw06.GuardLooks'. -/
def guardLooksCard : Claim7 := { stood := { row := guardLooksRow, standIns := [], harness := (true, "5c26a1841c68b930dfef943182fef6cf47288a02b20d99643c75e32ecd3fc235"), looks := false }, kinds := [], alts := [], laidByText := true, laidKinds := [.data, .data], laidTests := true, laidLooks := .later }
def GuardLooksCardSaid : Prop := Claim7.holds Tryd.pinned (.plain (OpenSpec.ofChange guardLooksSpec)) guardLooksCard

/-- THE TIED CARD OF 'panachelaw06.GuardBalances'. -/
def guardBalancesCard : Claim7 := { stood := { row := guardBalancesRow, standIns := [], harness := (true, "5c26a1841c68b930dfef943182fef6cf47288a02b20d99643c75e32ecd3fc235"), looks := false }, kinds := [], alts := [], laidByText := true, laidKinds := [.data, .data], laidTests := true, laidLooks := .later }
def GuardBalancesCardSaid : Prop := Claim7.holds Tryd.pinned (.plain (OpenSpec.ofChange guardBalancesSpec)) guardBalancesCard

/-- THE TIED CARD OF 'panachelaw06.GuardTruth'. -/
def guardTruthCard : Claim7 := { stood := { row := guardTruthRow, standIns := [], harness := (true, "5c26a1841c68b930dfef943182fef6cf47288a02b20d99643c75e32ecd3fc235"), looks := false }, kinds := [], alts := [], laidByText := true, laidKinds := [.data, .data], laidTests := true, laidLooks := .later }
def GuardTruthCardSaid : Prop := Claim7.holds Tryd.pinned (.plain (OpenSpec.ofChange guardTruthSpec)) guardTruthCard

/-- THE TIED CARD OF 'panachelaw06.GuardProof'. -/
def guardProofCard : Claim7 := { stood := { row := guardProofRow, standIns := [], harness := (true, "5c26a1841c68b930dfef943182fef6cf47288a02b20d99643c75e32ecd3fc235"), looks := false }, kinds := [], alts := [], laidByText := true, laidKinds := [.data, .data], laidTests := true, laidLooks := .later }
def GuardProofCardSaid : Prop := Claim7.holds Tryd.pinned (.plain (OpenSpec.ofChange guardProofSpec)) guardProofCard

/-- THE TIED CARD OF 'panachelaw06.GuardSpared'. -/
def guardSparedCard : Claim7 := { stood := { row := guardSparedRow, standIns := [], harness := (true, "5c26a1841c68b930dfef943182fef6cf47288a02b20d99643c75e32ecd3fc235"), looks := false }, kinds := [], alts := [], laidByText := true, laidKinds := [.data, .data], laidTests := true, laidLooks := .later }
def GuardSparedCardSaid : Prop := Claim7.holds Tryd.pinned (.plain (OpenSpec.ofChange guardSparedSpec)) guardSparedCard

/-- THE TIED CARD OF 'panachelaw06.GuardMore'. -/
def guardMoreCard : Claim7 := { stood := { row := guardMoreRow, standIns := [], harness := (true, "5c26a1841c68b930dfef943182fef6cf47288a02b20d99643c75e32ecd3fc235"), looks := false }, kinds := [], alts := [], laidByText := true, laidKinds := [.data, .data], laidTests := true, laidLooks := .later }
def GuardMoreCardSaid : Prop := Claim7.holds Tryd.pinned (.plain (OpenSpec.ofChange guardMoreSpec)) guardMoreCard

/-- THE TIED CARD OF 'panachelaw06.GuardBalanced'. -/
def guardBalancedCard : Claim7 := { stood := { row := guardBalancedRow, standIns := [], harness := (true, "5c26a1841c68b930dfef943182fef6cf47288a02b20d99643c75e32ecd3fc235"), looks := false }, kinds := [], alts := [], laidByText := true, laidKinds := [.data, .data], laidTests := true, laidLooks := .later }
def GuardBalancedCardSaid : Prop := Claim7.holds Tryd.pinned (.plain (OpenSpec.ofChange guardBalancedSpec)) guardBalancedCard

/-- THE SECOND FORM's CARD OF 'panachelaw06.GuardAlikes'. -/
def guardAlikesUptoCard : Claim7 := { stood := { row := guardAlikesUptoRow, standIns := [], harness := (true, "5c26a1841c68b930dfef943182fef6cf47288a02b20d99643c75e32ecd3fc235"), looks := false }, kinds := [], alts := [], laidByText := true, laidKinds := [.data, .data], laidTests := true, laidLooks := .later }
def GuardAlikesUptoCardSaid : Prop := Claim7.holds Tryd.pinned (.plain (OpenSpec.upto guardAlikesSpec)) guardAlikesUptoCard

/-- THE SECOND FORM's CARD OF 'panachelaw06.GuardPairs'. -/
def guardPairsUptoCard : Claim7 := { stood := { row := guardPairsUptoRow, standIns := [], harness := (true, "5c26a1841c68b930dfef943182fef6cf47288a02b20d99643c75e32ecd3fc235"), looks := false }, kinds := [], alts := [], laidByText := true, laidKinds := [.data, .data], laidTests := true, laidLooks := .later }
def GuardPairsUptoCardSaid : Prop := Claim7.holds Tryd.pinned (.plain (OpenSpec.upto guardPairsSpec)) guardPairsUptoCard

/-- THE SECOND FORM's CARD OF 'panachelaw06.GuardCovers'. -/
def guardCoversUptoCard : Claim7 := { stood := { row := guardCoversUptoRow, standIns := [], harness := (true, "5c26a1841c68b930dfef943182fef6cf47288a02b20d99643c75e32ecd3fc235"), looks := false }, kinds := [], alts := [], laidByText := true, laidKinds := [.data, .data], laidTests := true, laidLooks := .later }
def GuardCoversUptoCardSaid : Prop := Claim7.holds Tryd.pinned (.plain (OpenSpec.upto guardCoversSpec)) guardCoversUptoCard

/-- THE SECOND FORM's CARD OF 'panachelaw06.GuardSpares'. -/
def guardSparesUptoCard : Claim7 := { stood := { row := guardSparesUptoRow, standIns := [], harness := (true, "5c26a1841c68b930dfef943182fef6cf47288a02b20d99643c75e32ecd3fc235"), looks := false }, kinds := [], alts := [], laidByText := true, laidKinds := [.data, .data], laidTests := true, laidLooks := .later }
def GuardSparesUptoCardSaid : Prop := Claim7.holds Tryd.pinned (.plain (OpenSpec.upto guardSparesSpec)) guardSparesUptoCard

/-- THE SECOND FORM's CARD OF 'panachelaw06.GuardTwins'. -/
def guardTwinsUptoCard : Claim7 := { stood := { row := guardTwinsUptoRow, standIns := [], harness := (true, "5c26a1841c68b930dfef943182fef6cf47288a02b20d99643c75e32ecd3fc235"), looks := false }, kinds := [], alts := [], laidByText := true, laidKinds := [.data, .data], laidTests := true, laidLooks := .later }
def GuardTwinsUptoCardSaid : Prop := Claim7.holds Tryd.pinned (.plain (OpenSpec.upto guardTwinsSpec)) guardTwinsUptoCard

/-- THE SECOND FORM's CARD OF 'panachelaw06.GuardCuts'. -/
def guardCutsUptoCard : Claim7 := { stood := { row := guardCutsUptoRow, standIns := [], harness := (true, "5c26a1841c68b930dfef943182fef6cf47288a02b20d99643c75e32ecd3fc235"), looks := false }, kinds := [], alts := [], laidByText := true, laidKinds := [.data, .data], laidTests := true, laidLooks := .later }
def GuardCutsUptoCardSaid : Prop := Claim7.holds Tryd.pinned (.plain (OpenSpec.upto guardCutsSpec)) guardCutsUptoCard

/-- THE SECOND FORM's CARD OF 'panachelaw06.GuardLooks'. -/
def guardLooksUptoCard : Claim7 := { stood := { row := guardLooksUptoRow, standIns := [], harness := (true, "5c26a1841c68b930dfef943182fef6cf47288a02b20d99643c75e32ecd3fc235"), looks := false }, kinds := [], alts := [], laidByText := true, laidKinds := [.data, .data], laidTests := true, laidLooks := .later }
def GuardLooksUptoCardSaid : Prop := Claim7.holds Tryd.pinned (.plain (OpenSpec.upto guardLooksSpec)) guardLooksUptoCard

/-- THE SECOND FORM's CARD OF 'panachelaw06.GuardBalances'. -/
def guardBalancesUptoCard : Claim7 := { stood := { row := guardBalancesUptoRow, standIns := [], harness := (true, "5c26a1841c68b930dfef943182fef6cf47288a02b20d99643c75e32ecd3fc235"), looks := false }, kinds := [], alts := [], laidByText := true, laidKinds := [.data, .data], laidTests := true, laidLooks := .later }
def GuardBalancesUptoCardSaid : Prop := Claim7.holds Tryd.pinned (.plain (OpenSpec.upto guardBalancesSpec)) guardBalancesUptoCard

/-- THE SECOND FORM's CARD OF 'panachelaw06.GuardTruth'. -/
def guardTruthUptoCard : Claim7 := { stood := { row := guardTruthUptoRow, standIns := [], harness := (true, "5c26a1841c68b930dfef943182fef6cf47288a02b20d99643c75e32ecd3fc235"), looks := false }, kinds := [], alts := [], laidByText := true, laidKinds := [.data, .data], laidTests := true, laidLooks := .later }
def GuardTruthUptoCardSaid : Prop := Claim7.holds Tryd.pinned (.plain (OpenSpec.upto guardTruthSpec)) guardTruthUptoCard

/-- THE SECOND FORM's CARD OF 'panachelaw06.GuardProof'. -/
def guardProofUptoCard : Claim7 := { stood := { row := guardProofUptoRow, standIns := [], harness := (true, "5c26a1841c68b930dfef943182fef6cf47288a02b20d99643c75e32ecd3fc235"), looks := false }, kinds := [], alts := [], laidByText := true, laidKinds := [.data, .data], laidTests := true, laidLooks := .later }
def GuardProofUptoCardSaid : Prop := Claim7.holds Tryd.pinned (.plain (OpenSpec.upto guardProofSpec)) guardProofUptoCard

/-- THE SECOND FORM's CARD OF 'panachelaw06.GuardSpared'. -/
def guardSparedUptoCard : Claim7 := { stood := { row := guardSparedUptoRow, standIns := [], harness := (true, "5c26a1841c68b930dfef943182fef6cf47288a02b20d99643c75e32ecd3fc235"), looks := false }, kinds := [], alts := [], laidByText := true, laidKinds := [.data, .data], laidTests := true, laidLooks := .later }
def GuardSparedUptoCardSaid : Prop := Claim7.holds Tryd.pinned (.plain (OpenSpec.upto guardSparedSpec)) guardSparedUptoCard

/-- THE SECOND FORM's CARD OF 'panachelaw06.GuardMore'. -/
def guardMoreUptoCard : Claim7 := { stood := { row := guardMoreUptoRow, standIns := [], harness := (true, "5c26a1841c68b930dfef943182fef6cf47288a02b20d99643c75e32ecd3fc235"), looks := false }, kinds := [], alts := [], laidByText := true, laidKinds := [.data, .data], laidTests := true, laidLooks := .later }
def GuardMoreUptoCardSaid : Prop := Claim7.holds Tryd.pinned (.plain (OpenSpec.upto guardMoreSpec)) guardMoreUptoCard

/-- THE SECOND FORM's CARD OF 'panachelaw06.GuardBalanced'. -/
def guardBalancedUptoCard : Claim7 := { stood := { row := guardBalancedUptoRow, standIns := [], harness := (true, "5c26a1841c68b930dfef943182fef6cf47288a02b20d99643c75e32ecd3fc235"), looks := false }, kinds := [], alts := [], laidByText := true, laidKinds := [.data, .data], laidTests := true, laidLooks := .later }
def GuardBalancedUptoCardSaid : Prop := Claim7.holds Tryd.pinned (.plain (OpenSpec.upto guardBalancedSpec)) guardBalancedUptoCard
end Rows
end Go.Proofs.YtamibghbkjmmeaaDoor
