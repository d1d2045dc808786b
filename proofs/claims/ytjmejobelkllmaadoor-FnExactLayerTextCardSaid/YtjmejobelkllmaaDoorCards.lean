/-
  DERIVED. GIVEN WITH THE SEED: THE CARDS: each row of YtjmejobelkllmaaDoorRows.lean that lists a variable, with what it lists TIED to the program's text (the seventh form; the later family's looks); each row that meets fmt, with fmt's text TOLD by the authors' own Lean function (tested against real Go, not proved from fmt's source: count such statements apart). THE CARD IS WHAT COUNTS. Prove the row's statement (the work); the ties are given (YtjmejobelkllmaaDoorTie.lean); close each card by the builder's one call (the guide's Derived/Test/ToyasCard.lean, 'card_holds'). Laid BY PROGRAM, IN A SANDBOX (cutbox-door.mjs). By AI agents, Wed Nov 11 2026. No macro, syntax, notation, axiom, sorry.
-/
import Derived.Test.YtjmejobelkllmaaDoorRows
import GoSem.ClaimSeven
namespace Go.Proofs.YtjmejobelkllmaaDoor
namespace Rows

/-- THE TIED CARD OF 'laws.FnExactScaleOf'. -/
def fnExactScaleOfCard : Claim7 := { stood := { row := fnExactScaleOfRow, standIns := [], harness := (true, "3b1bee2990642a8b075ec2d7a8cd6ab95af1952cdf7d8e2f534025cef05a9096"), looks := false }, kinds := [], alts := [], laidByText := true, laidKinds := [.data, .data, .data], laidTests := true, laidLooks := .later }
def FnExactScaleOfCardSaid : Prop := Claim7.holds Tryd.pinned (.plain (OpenSpec.ofChange fnExactScaleOfSpec)) fnExactScaleOfCard

/-- THE TIED CARD OF 'laws.FnExactLayerText'. -/
def fnExactLayerTextCard : Claim7 := { stood := { row := fnExactLayerTextRow, standIns := [], harness := (true, "3b1bee2990642a8b075ec2d7a8cd6ab95af1952cdf7d8e2f534025cef05a9096"), looks := false }, kinds := [], alts := [], laidByText := true, laidKinds := [.data, .data, .data], laidTests := true, laidLooks := .later }
def FnExactLayerTextCardSaid : Prop := Claim7.holds Tryd.pinned (.plain (OpenSpec.ofChange fnExactLayerTextSpec)) fnExactLayerTextCard

/-- THE TIED CARD OF 'laws.FnExactTensorText'. -/
def fnExactTensorTextCard : Claim7 := { stood := { row := fnExactTensorTextRow, standIns := [], harness := (true, "3b1bee2990642a8b075ec2d7a8cd6ab95af1952cdf7d8e2f534025cef05a9096"), looks := false }, kinds := [], alts := [], laidByText := true, laidKinds := [.data, .data, .data], laidTests := true, laidLooks := .later }
def FnExactTensorTextCardSaid : Prop := Claim7.holds Tryd.pinned (.plain (OpenSpec.ofChange fnExactTensorTextSpec)) fnExactTensorTextCard

/-- THE SECOND FORM's CARD OF 'laws.FnExactScaleOf'. -/
def fnExactScaleOfUptoCard : Claim7 := { stood := { row := fnExactScaleOfUptoRow, standIns := [], harness := (true, "3b1bee2990642a8b075ec2d7a8cd6ab95af1952cdf7d8e2f534025cef05a9096"), looks := false }, kinds := [], alts := [], laidByText := true, laidKinds := [.data, .data, .data], laidTests := true, laidLooks := .later }
def FnExactScaleOfUptoCardSaid : Prop := Claim7.holds Tryd.pinned (.plain (OpenSpec.upto fnExactScaleOfSpec)) fnExactScaleOfUptoCard

/-- THE SECOND FORM's CARD OF 'laws.FnExactLayerText'. -/
def fnExactLayerTextUptoCard : Claim7 := { stood := { row := fnExactLayerTextUptoRow, standIns := [], harness := (true, "3b1bee2990642a8b075ec2d7a8cd6ab95af1952cdf7d8e2f534025cef05a9096"), looks := false }, kinds := [], alts := [], laidByText := true, laidKinds := [.data, .data, .data], laidTests := true, laidLooks := .later }
def FnExactLayerTextUptoCardSaid : Prop := Claim7.holds Tryd.pinned (.plain (OpenSpec.upto fnExactLayerTextSpec)) fnExactLayerTextUptoCard

/-- THE SECOND FORM's CARD OF 'laws.FnExactTensorText'. -/
def fnExactTensorTextUptoCard : Claim7 := { stood := { row := fnExactTensorTextUptoRow, standIns := [], harness := (true, "3b1bee2990642a8b075ec2d7a8cd6ab95af1952cdf7d8e2f534025cef05a9096"), looks := false }, kinds := [], alts := [], laidByText := true, laidKinds := [.data, .data, .data], laidTests := true, laidLooks := .later }
def FnExactTensorTextUptoCardSaid : Prop := Claim7.holds Tryd.pinned (.plain (OpenSpec.upto fnExactTensorTextSpec)) fnExactTensorTextUptoCard
end Rows
end Go.Proofs.YtjmejobelkllmaaDoor
