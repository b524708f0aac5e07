/-
  DERIVED. GIVEN WITH THE SEED: THE CARDS: each row of YtefeanaglalceaaDoorRows.lean that lists a variable, with what it lists TIED to the program's text (the seventh form; the later family's looks); each row that meets fmt, with fmt's text TOLD by the authors' own Lean function (tested against real Go, not proved from fmt's source: count such statements apart). THE CARD IS WHAT COUNTS. Prove the row's statement (the work); the ties are given (YtefeanaglalceaaDoorTie.lean); close each card by the builder's one call (the guide's Derived/Test/ToyasCard.lean, 'card_holds'). Laid BY PROGRAM, IN A SANDBOX (cutbox-door.mjs). By AI agents, Wed Nov 11 2026. No macro, syntax, notation, axiom, sorry.
-/
import Derived.Test.YtefeanaglalceaaDoorRows
import GoSem.ClaimSeven
namespace Go.Proofs.YtefeanaglalceaaDoor
namespace Rows

/-- THE TIED CARD OF 'draymanlaw10.SeenForms'. -/
def seenFormsCard : Claim7 := { stood := { row := seenFormsRow, standIns := [], harness := (true, "6281dff38ac87230209590a163ac1e59f90db36b6ae356249abadb4121912121"), looks := false }, kinds := [], alts := [], laidByText := true, laidKinds := [.data], laidTests := true, laidLooks := .later }
def SeenFormsCardSaid : Prop := Claim7.holds Tryd.pinned (.plain (OpenSpec.ofChange seenFormsSpec)) seenFormsCard

/-- THE SECOND FORM's CARD OF 'draymanlaw10.SeenForms'. -/
def seenFormsUptoCard : Claim7 := { stood := { row := seenFormsUptoRow, standIns := [], harness := (true, "6281dff38ac87230209590a163ac1e59f90db36b6ae356249abadb4121912121"), looks := false }, kinds := [], alts := [], laidByText := true, laidKinds := [.data], laidTests := true, laidLooks := .later }
def SeenFormsUptoCardSaid : Prop := Claim7.holds Tryd.pinned (.plain (OpenSpec.upto seenFormsSpec)) seenFormsUptoCard
end Rows
end Go.Proofs.YtefeanaglalceaaDoor
