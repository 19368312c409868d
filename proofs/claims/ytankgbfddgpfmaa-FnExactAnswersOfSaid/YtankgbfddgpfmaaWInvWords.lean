-- Words of the kit's print, those that this claim needs.
import Derived.Test.YtankgbfddgpfmaaWInv
import Derived.Test.YtankgbfddgpfmaaWFootNe
namespace Go.Proofs.YtankgbfddgpfmaaW.PrintWords
open Go.RowKit
end Go.Proofs.YtankgbfddgpfmaaW.PrintWords
namespace Go.Proofs.YtankgbfddgpfmaaW.PrintLast
section
variable {ops : Array Oper} {a : Act} {o og : Oper} {g : Nat} {t : Tmp} {u : Bool}
end
end Go.Proofs.YtankgbfddgpfmaaW.PrintLast
