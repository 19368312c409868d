-- Written by wip/pp.py of this work (a driver around the kit's print), out of the translation; Lean checks it.
import Derived.Test.YtcfdlbjngpmcaaaDoorPAllx7
namespace Go.Proofs.YtcfdlbjngpmcaaaDoor.PAll
open Go.RowKit Go.Proofs.YtcfdlbjngpmcaaaDoorW.PrintWords Go.Proofs.YtcfdlbjngpmcaaaDoorW.PrintLast

/-- The one pure statement of laws_FnExactHexWinner. -/
def laws_FnExactHexWinner.Pure : Prop := ∀ (a0_0 : Int) (l0_1 : List Int), ((Lit.int .i64 a0_0).wf = true) → (l0_1.length ≤ maxLen ∧ ∀ y0_ ∈ l0_1, (Lit.int .i64 y0_).wf = true) → ∃ k, laws_FnExactHexWinner.f k a0_0 l0_1 = some true
end Go.Proofs.YtcfdlbjngpmcaaaDoor.PAll
