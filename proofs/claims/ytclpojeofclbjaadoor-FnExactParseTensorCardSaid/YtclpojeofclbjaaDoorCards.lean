/-
  DERIVED. GIVEN WITH THE SEED: THE CARDS: each row of YtclpojeofclbjaaDoorRows.lean that lists a variable, with what it lists TIED to the program's text (the seventh form; the later family's looks); each row that meets fmt, with fmt's text TOLD by the authors' own Lean function (tested against real Go, not proved from fmt's source: count such statements apart). THE CARD IS WHAT COUNTS. Prove the row's statement (the work); the ties are given (YtclpojeofclbjaaDoorTie.lean); close each card by the builder's one call (the guide's Derived/Test/ToyasCard.lean, 'card_holds'). Laid BY PROGRAM, IN A SANDBOX (cutbox-door.mjs). By AI agents, Wed Nov 11 2026. No macro, syntax, notation, axiom, sorry.
-/
import Derived.Test.YtclpojeofclbjaaDoorRows
import GoSem.ClaimSeven
namespace Go.Proofs.YtclpojeofclbjaaDoor
namespace Rows

/-- THE TIED CARD OF 'laws.FnExactModelText'. -/
def fnExactModelTextCard : Claim7 := { stood := { row := fnExactModelTextRow, standIns := [], harness := (true, "45025af46bd56f17fb8bb8ae6791c64cfd61ee935f9339c71ad8db14fc4bdab6"), looks := true }, kinds := [], alts := [], laidByText := true, laidKinds := [.data, .data, .data], laidTests := true, laidLooks := .later }
def FnExactModelTextCardSaid : Prop := Claim7.holds Tryd.pinned (.plain (OpenSpec.ofChange fnExactModelTextSpec)) fnExactModelTextCard

/-- THE TIED CARD OF 'laws.FnExactParseTensor'. -/
def fnExactParseTensorCard : Claim7 := { stood := { row := fnExactParseTensorRow, standIns := [], harness := (true, "45025af46bd56f17fb8bb8ae6791c64cfd61ee935f9339c71ad8db14fc4bdab6"), looks := true }, kinds := [], alts := [], laidByText := true, laidKinds := [.data, .data, .data, .data, .sentinel, .sentinel, .pinned], laidTests := true, laidLooks := .later }
def FnExactParseTensorCardSaid : Prop := Claim7.holds Tryd.pinned (.plain (OpenSpec.ofChange fnExactParseTensorSpec)) fnExactParseTensorCard

/-- THE SECOND FORM's CARD OF 'laws.FnExactModelText'. -/
def fnExactModelTextUptoCard : Claim7 := { stood := { row := fnExactModelTextUptoRow, standIns := [], harness := (true, "45025af46bd56f17fb8bb8ae6791c64cfd61ee935f9339c71ad8db14fc4bdab6"), looks := true }, kinds := [], alts := [], laidByText := true, laidKinds := [.data, .data, .data], laidTests := true, laidLooks := .later }
def FnExactModelTextUptoCardSaid : Prop := Claim7.holds Tryd.pinned (.plain (OpenSpec.upto fnExactModelTextSpec)) fnExactModelTextUptoCard

/-- THE SECOND FORM's CARD OF 'laws.FnExactParseTensor'. -/
def fnExactParseTensorUptoCard : Claim7 := { stood := { row := fnExactParseTensorUptoRow, standIns := [], harness := (true, "45025af46bd56f17fb8bb8ae6791c64cfd61ee935f9339c71ad8db14fc4bdab6"), looks := true }, kinds := [], alts := [], laidByText := true, laidKinds := [.data, .data, .data, .data, .sentinel, .sentinel, .pinned], laidTests := true, laidLooks := .later }
def FnExactParseTensorUptoCardSaid : Prop := Claim7.holds Tryd.pinned (.plain (OpenSpec.upto fnExactParseTensorSpec)) fnExactParseTensorUptoCard
end Rows
end Go.Proofs.YtclpojeofclbjaaDoor
