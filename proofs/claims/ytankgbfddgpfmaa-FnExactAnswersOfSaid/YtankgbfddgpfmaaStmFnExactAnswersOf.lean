-- Written by wip/pp.py of this work (a driver around the kit's print), out of the translation; Lean checks it.
import Derived.Test.YtankgbfddgpfmaaPAllx23
namespace Go.Proofs.Ytankgbfddgpfmaa.PAll
open Go.RowKit Go.Proofs.YtankgbfddgpfmaaW.PrintWords Go.Proofs.YtankgbfddgpfmaaW.PrintLast

/-- The one pure statement of laws_FnExactAnswersOf. -/
def laws_FnExactAnswersOf.Pure : Prop := ∀ (a0_0 : Int) (a0_1 : Int) (l0_2 : List Int) (l1 : List Int) (l2 : List Int), ((Lit.int .i64 a0_0).wf = true) → ((Lit.int .i64 a0_1).wf = true) → (l0_2.length ≤ maxLen ∧ ∀ y0_ ∈ l0_2, (Lit.int .i64 y0_).wf = true) → (l1.length ≤ maxLen ∧ ∀ y0_ ∈ l1, (Lit.int .i64 y0_).wf = true) → (l2.length ≤ maxLen ∧ ∀ y0_ ∈ l2, (Lit.int .i64 y0_).wf = true) → ∃ k, laws_FnExactAnswersOf.f k a0_0 a0_1 l0_2 l1 l2 = some true
end Go.Proofs.Ytankgbfddgpfmaa.PAll
