-- Written by wip/pp.py of this work (a driver around the kit's print), out of the translation; Lean checks it.
import Derived.Test.YtankgbfddgpfmaaPAllx43
namespace Go.Proofs.Ytankgbfddgpfmaa.PAll
open Go.RowKit Go.Proofs.YtankgbfddgpfmaaW.PrintWords Go.Proofs.YtankgbfddgpfmaaW.PrintLast

/-- The one pure statement of laws_FnExactPlacementsOf. -/
def laws_FnExactPlacementsOf.Pure : Prop := ∀ (a0_0 : Int) (a0_1 : Int) (l0_2 : List Int) (a1 : Int), ((Lit.int .i64 a0_0).wf = true) → ((Lit.int .i64 a0_1).wf = true) → (l0_2.length ≤ maxLen ∧ ∀ y0_ ∈ l0_2, (Lit.int .i64 y0_).wf = true) → ((Lit.int .i64 a1).wf = true) → ∃ k, laws_FnExactPlacementsOf.f k a0_0 a0_1 l0_2 a1 = some true
end Go.Proofs.Ytankgbfddgpfmaa.PAll
