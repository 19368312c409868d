/-
  DERIVED. GIVEN WITH THE SEED: THE CARDS: each row of YtcfdlbjngpmcaaaDoorRows.lean that lists a variable, with what it lists TIED to the program's text (the seventh form; the later family's looks); each row that meets fmt, with fmt's text TOLD by the authors' own Lean function (tested against real Go, not proved from fmt's source: count such statements apart). THE CARD IS WHAT COUNTS. Prove the row's statement (the work); the ties are given (YtcfdlbjngpmcaaaDoorTie.lean); close each card by the builder's one call (the guide's Derived/Test/ToyasCard.lean, 'card_holds'). Laid BY PROGRAM, IN A SANDBOX (cutbox-door.mjs). By AI agents, Wed Nov 11 2026. No macro, syntax, notation, axiom, sorry.
-/
import Derived.Test.YtcfdlbjngpmcaaaDoorRows
import GoSem.ClaimSeven
namespace Go.Proofs.YtcfdlbjngpmcaaaDoor
namespace Rows

/-- THE TIED CARD OF 'laws.FnExactHexWinner'. -/
def fnExactHexWinnerCard : Claim7 := { stood := { row := fnExactHexWinnerRow, standIns := [], harness := (true, "840a6c56efc95c3869b83cd5894c0d37de4ffe623e3b659107cf691be64fa82e"), looks := false }, kinds := [], alts := [], laidByText := true, laidKinds := [.data, .data, .data], laidTests := true, laidLooks := .later }
def FnExactHexWinnerCardSaid : Prop := Claim7.holds Tryd.pinned (.plain (OpenSpec.ofChange fnExactHexWinnerSpec)) fnExactHexWinnerCard

/-- THE TIED CARD OF 'laws.FnExactHexMoves'. -/
def fnExactHexMovesCard : Claim7 := { stood := { row := fnExactHexMovesRow, standIns := [], harness := (true, "840a6c56efc95c3869b83cd5894c0d37de4ffe623e3b659107cf691be64fa82e"), looks := false }, kinds := [], alts := [], laidByText := true, laidKinds := [.data, .data, .data], laidTests := true, laidLooks := .later }
def FnExactHexMovesCardSaid : Prop := Claim7.holds Tryd.pinned (.plain (OpenSpec.ofChange fnExactHexMovesSpec)) fnExactHexMovesCard

/-- THE SECOND FORM's CARD OF 'laws.FnExactHexWinner'. -/
def fnExactHexWinnerUptoCard : Claim7 := { stood := { row := fnExactHexWinnerUptoRow, standIns := [], harness := (true, "840a6c56efc95c3869b83cd5894c0d37de4ffe623e3b659107cf691be64fa82e"), looks := false }, kinds := [], alts := [], laidByText := true, laidKinds := [.data, .data, .data], laidTests := true, laidLooks := .later }
def FnExactHexWinnerUptoCardSaid : Prop := Claim7.holds Tryd.pinned (.plain (OpenSpec.upto fnExactHexWinnerSpec)) fnExactHexWinnerUptoCard

/-- THE SECOND FORM's CARD OF 'laws.FnExactHexMoves'. -/
def fnExactHexMovesUptoCard : Claim7 := { stood := { row := fnExactHexMovesUptoRow, standIns := [], harness := (true, "840a6c56efc95c3869b83cd5894c0d37de4ffe623e3b659107cf691be64fa82e"), looks := false }, kinds := [], alts := [], laidByText := true, laidKinds := [.data, .data, .data], laidTests := true, laidLooks := .later }
def FnExactHexMovesUptoCardSaid : Prop := Claim7.holds Tryd.pinned (.plain (OpenSpec.upto fnExactHexMovesSpec)) fnExactHexMovesUptoCard
end Rows
end Go.Proofs.YtcfdlbjngpmcaaaDoor
