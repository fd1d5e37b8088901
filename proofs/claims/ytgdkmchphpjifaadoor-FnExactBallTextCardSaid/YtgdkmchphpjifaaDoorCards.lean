/-
  DERIVED. GIVEN WITH THE SEED: THE CARDS: each row of YtgdkmchphpjifaaDoorRows.lean that lists a variable, with what it lists TIED to the program's text (the seventh form; the later family's looks); each row that meets fmt, with fmt's text TOLD by the authors' own Lean function (tested against real Go, not proved from fmt's source: count such statements apart). THE CARD IS WHAT COUNTS. Prove the row's statement (the work); the ties are given (YtgdkmchphpjifaaDoorTie.lean); close each card by the builder's one call (the guide's Derived/Test/ToyasCard.lean, 'card_holds'). Laid BY PROGRAM, IN A SANDBOX (cutbox-door.mjs). By AI agents, Wed Nov 11 2026. No macro, syntax, notation, axiom, sorry.
-/
import Derived.Test.YtgdkmchphpjifaaDoorRows
import GoSem.ClaimSeven
namespace Go.Proofs.YtgdkmchphpjifaaDoor
namespace Rows

/-- THE TIED CARD OF 'laws.FnExactEndText'. -/
def fnExactEndTextCard : Claim7 := { stood := { row := fnExactEndTextRow, standIns := [], harness := (true, "e675a2a2bdae5a17ab9bb0a02244badc39df912acc50bc26540065d358fadfd5"), looks := false }, kinds := [], alts := [], laidByText := true, laidKinds := [.data, .data, .data], laidTests := true, laidLooks := .later }
def FnExactEndTextCardSaid : Prop := Claim7.holds Tryd.pinned (.plain (OpenSpec.ofChange fnExactEndTextSpec)) fnExactEndTextCard

/-- THE TIED CARD OF 'laws.FnExactBallText'. -/
def fnExactBallTextCard : Claim7 := { stood := { row := fnExactBallTextRow, standIns := [], harness := (true, "e675a2a2bdae5a17ab9bb0a02244badc39df912acc50bc26540065d358fadfd5"), looks := false }, kinds := [], alts := [], laidByText := true, laidKinds := [.data, .data, .data], laidTests := true, laidLooks := .later }
def FnExactBallTextCardSaid : Prop := Claim7.holds Tryd.pinned (.plain (OpenSpec.ofChange fnExactBallTextSpec)) fnExactBallTextCard

/-- THE SECOND FORM's CARD OF 'laws.FnExactEndText'. -/
def fnExactEndTextUptoCard : Claim7 := { stood := { row := fnExactEndTextUptoRow, standIns := [], harness := (true, "e675a2a2bdae5a17ab9bb0a02244badc39df912acc50bc26540065d358fadfd5"), looks := false }, kinds := [], alts := [], laidByText := true, laidKinds := [.data, .data, .data], laidTests := true, laidLooks := .later }
def FnExactEndTextUptoCardSaid : Prop := Claim7.holds Tryd.pinned (.plain (OpenSpec.upto fnExactEndTextSpec)) fnExactEndTextUptoCard

/-- THE SECOND FORM's CARD OF 'laws.FnExactBallText'. -/
def fnExactBallTextUptoCard : Claim7 := { stood := { row := fnExactBallTextUptoRow, standIns := [], harness := (true, "e675a2a2bdae5a17ab9bb0a02244badc39df912acc50bc26540065d358fadfd5"), looks := false }, kinds := [], alts := [], laidByText := true, laidKinds := [.data, .data, .data], laidTests := true, laidLooks := .later }
def FnExactBallTextUptoCardSaid : Prop := Claim7.holds Tryd.pinned (.plain (OpenSpec.upto fnExactBallTextSpec)) fnExactBallTextUptoCard
end Rows
end Go.Proofs.YtgdkmchphpjifaaDoor
