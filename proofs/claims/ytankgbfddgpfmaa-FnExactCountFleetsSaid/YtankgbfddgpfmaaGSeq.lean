/- slices.Sorted(slices.Values(list)) at whole numbers: the iterator over a list, collected and sorted. The laying in plain words is written by the kit's lay-plain. -/
import Derived.Shelf.SlIterI.Sorted
import Derived.Ground.GgzProg
import Derived.Test.YtankgbfddgpfmaaMerged6
import Derived.Test.YtankgbfddgpfmaaWWords
namespace Go.Proofs
open Go.Shelf
end Go.Proofs
namespace Go.Proofs.Ytankgbfddgpfmaa.GSeq
open Go.RowKit Go.Maps Go.Sort Go.Shelf Go.Proofs.YtankgbfddgpfmaaW.PrintWords
set_option linter.unusedVariables false

variable {P : Program} {ρ : Ren}
end Go.Proofs.Ytankgbfddgpfmaa.GSeq
