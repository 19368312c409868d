/- (Sea).areCells: cells are sorted, then looked at. The walk over the region was written by this work's driver of the kit's print, then turned by hand. -/
import Derived.Test.YtankgbfddgpfmaaGSeq
import Derived.Test.YtankgbfddgpfmaaGHelp
import Derived.Test.YtankgbfddgpfmaaPAllx18
namespace Go.Proofs.Ytankgbfddgpfmaa.PAll
open Go.RowKit Go.Proofs.YtankgbfddgpfmaaW.PrintWords Go.Proofs.YtankgbfddgpfmaaW.PrintLast Go.Proofs.YtankgbfddgpfmaaW.PrintMore Go.Proofs.Ytankgbfddgpfmaa.GInts Go.Proofs.Ytankgbfddgpfmaa.GSeq
attribute [local go_sem] max2_int min2_int max_two min_two max_three min_three max_four min_four   -- for this text's walks alone
set_option linter.unusedVariables false
set_option linter.unusedSimpArgs false

theorem encs (l : List Int) : l.map Go.encZ = nums .i64 l := rfl
end Go.Proofs.Ytankgbfddgpfmaa.PAll
