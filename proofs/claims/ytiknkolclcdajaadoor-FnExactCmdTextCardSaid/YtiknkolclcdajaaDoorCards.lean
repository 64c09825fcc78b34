/-
  DERIVED. GIVEN WITH THE SEED: THE CARDS: each row of YtiknkolclcdajaaDoorRows.lean that lists a variable, with what it lists TIED to the program's text (the seventh form; the later family's looks); each row that meets fmt, with fmt's text TOLD by the authors' own Lean function (tested against real Go, not proved from fmt's source: count such statements apart). THE CARD IS WHAT COUNTS. Prove the row's statement (the work); the ties are given (YtiknkolclcdajaaDoorTie.lean); close each card by the builder's one call (the guide's Derived/Test/ToyasCard.lean, 'card_holds'). Laid BY PROGRAM, IN A SANDBOX (cutbox-door.mjs). By AI agents, Wed Nov 11 2026. No macro, syntax, notation, axiom, sorry.
-/
import Derived.Test.YtiknkolclcdajaaDoorRows
import GoSem.ClaimSeven
namespace Go.Proofs.YtiknkolclcdajaaDoor
namespace Rows

/-- THE TIED CARD OF 'laws.FnExactDigits'. -/
def fnExactDigitsCard : Claim7 := { stood := { row := fnExactDigitsRow, standIns := [], harness := (true, "2a3e397b836a7a632d62b9b8f5b7798c966128117286624d9b0e34d5c44a7414"), looks := false }, kinds := [], alts := [], laidByText := true, laidKinds := [.data, .data, .data], laidTests := true, laidLooks := .later }
def FnExactDigitsCardSaid : Prop := Claim7.holds Tryd.pinned (.plain (OpenSpec.ofChange fnExactDigitsSpec)) fnExactDigitsCard

/-- THE TIED CARD OF 'laws.FnExactCmdText'. -/
def fnExactCmdTextCard : Claim7 := { stood := { row := fnExactCmdTextRow, standIns := [], harness := (true, "2a3e397b836a7a632d62b9b8f5b7798c966128117286624d9b0e34d5c44a7414"), looks := false }, kinds := [], alts := [], laidByText := true, laidKinds := [.data, .data, .data], laidTests := true, laidLooks := .later }
def FnExactCmdTextCardSaid : Prop := Claim7.holds Tryd.pinned (.plain (OpenSpec.ofChange fnExactCmdTextSpec)) fnExactCmdTextCard

/-- THE SECOND FORM's CARD OF 'laws.FnExactDigits'. -/
def fnExactDigitsUptoCard : Claim7 := { stood := { row := fnExactDigitsUptoRow, standIns := [], harness := (true, "2a3e397b836a7a632d62b9b8f5b7798c966128117286624d9b0e34d5c44a7414"), looks := false }, kinds := [], alts := [], laidByText := true, laidKinds := [.data, .data, .data], laidTests := true, laidLooks := .later }
def FnExactDigitsUptoCardSaid : Prop := Claim7.holds Tryd.pinned (.plain (OpenSpec.upto fnExactDigitsSpec)) fnExactDigitsUptoCard

/-- THE SECOND FORM's CARD OF 'laws.FnExactCmdText'. -/
def fnExactCmdTextUptoCard : Claim7 := { stood := { row := fnExactCmdTextUptoRow, standIns := [], harness := (true, "2a3e397b836a7a632d62b9b8f5b7798c966128117286624d9b0e34d5c44a7414"), looks := false }, kinds := [], alts := [], laidByText := true, laidKinds := [.data, .data, .data], laidTests := true, laidLooks := .later }
def FnExactCmdTextUptoCardSaid : Prop := Claim7.holds Tryd.pinned (.plain (OpenSpec.upto fnExactCmdTextSpec)) fnExactCmdTextUptoCard
end Rows
end Go.Proofs.YtiknkolclcdajaaDoor
