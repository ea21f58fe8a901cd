/-
  DERIVED. GIVEN WITH THE SEED: THE CARDS: each row of YtkfdfpcdcabcoaaDoorRows.lean that lists a variable, with what it lists TIED to the program's text (the seventh form; the later family's looks); each row that meets fmt, with fmt's text TOLD by the authors' own Lean function (tested against real Go, not proved from fmt's source: count such statements apart). THE CARD IS WHAT COUNTS. Prove the row's statement (the work); the ties are given (YtkfdfpcdcabcoaaDoorTie.lean); close each card by the builder's one call (the guide's Derived/Test/ToyasCard.lean, 'card_holds'). Laid BY PROGRAM, IN A SANDBOX (cutbox-door.mjs). By AI agents, Wed Nov 11 2026. No macro, syntax, notation, axiom, sorry.
-/
import Derived.Test.YtkfdfpcdcabcoaaDoorRows
import GoSem.ClaimSeven
namespace Go.Proofs.YtkfdfpcdcabcoaaDoor
namespace Rows

/-- THE TIED CARD OF 'laws.FnExactNameOfCurve'. -/
def fnExactNameOfCurveCard : Claim7 := { stood := { row := fnExactNameOfCurveRow, standIns := [], harness := (true, "f6d7430ec1d0fd1dfacbe5206ed1cb42bc5b3a9d760104a4d2777575a6044cef"), looks := false }, kinds := [], alts := [], laidByText := true, laidKinds := [.data, .data, .data], laidTests := true, laidLooks := .later }
def FnExactNameOfCurveCardSaid : Prop := Claim7.holds Tryd.pinned (.plain (OpenSpec.ofChange fnExactNameOfCurveSpec)) fnExactNameOfCurveCard

/-- THE TIED CARD OF 'laws.FnExactNewDesk'. -/
def fnExactNewDeskCard : Claim7 := { stood := { row := fnExactNewDeskRow, standIns := [], harness := (true, "f6d7430ec1d0fd1dfacbe5206ed1cb42bc5b3a9d760104a4d2777575a6044cef"), looks := false }, kinds := [], alts := [], laidByText := true, laidKinds := [.data, .data, .data], laidTests := true, laidLooks := .later }
def FnExactNewDeskCardSaid : Prop := Claim7.holds Tryd.pinned (.plain (OpenSpec.ofChange fnExactNewDeskSpec)) fnExactNewDeskCard

/-- THE SECOND FORM's CARD OF 'laws.FnExactNameOfCurve'. -/
def fnExactNameOfCurveUptoCard : Claim7 := { stood := { row := fnExactNameOfCurveUptoRow, standIns := [], harness := (true, "f6d7430ec1d0fd1dfacbe5206ed1cb42bc5b3a9d760104a4d2777575a6044cef"), looks := false }, kinds := [], alts := [], laidByText := true, laidKinds := [.data, .data, .data], laidTests := true, laidLooks := .later }
def FnExactNameOfCurveUptoCardSaid : Prop := Claim7.holds Tryd.pinned (.plain (OpenSpec.upto fnExactNameOfCurveSpec)) fnExactNameOfCurveUptoCard

/-- THE SECOND FORM's CARD OF 'laws.FnExactNewDesk'. -/
def fnExactNewDeskUptoCard : Claim7 := { stood := { row := fnExactNewDeskUptoRow, standIns := [], harness := (true, "f6d7430ec1d0fd1dfacbe5206ed1cb42bc5b3a9d760104a4d2777575a6044cef"), looks := false }, kinds := [], alts := [], laidByText := true, laidKinds := [.data, .data, .data], laidTests := true, laidLooks := .later }
def FnExactNewDeskUptoCardSaid : Prop := Claim7.holds Tryd.pinned (.plain (OpenSpec.upto fnExactNewDeskSpec)) fnExactNewDeskUptoCard
end Rows
end Go.Proofs.YtkfdfpcdcabcoaaDoor
