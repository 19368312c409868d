/- The cells of a fleet: the codes agree, the sets agree, the lists agree. -/
import Derived.Test.YtankgbfddgpfmaaGFleet
import Derived.Test.YtankgbfddgpfmaaGAre
import Derived.Test.YtankgbfddgpfmaaPAllx17
import Derived.Test.YtankgbfddgpfmaaPAllx18
import Derived.Test.YtankgbfddgpfmaaPAllx19
import Derived.Test.YtankgbfddgpfmaaPAllx3
namespace Go.Proofs.Ytankgbfddgpfmaa.PAll
open Go.RowKit Go.Proofs.YtankgbfddgpfmaaW.PrintWords Go.Proofs.YtankgbfddgpfmaaW.PrintLast
set_option linter.unusedVariables false

/-- Has a set a cell? -/
def has (x c : Int) : Bool := Go.bits .and .i64 (shr .i64 x c) 1 == 1
theorem u64_small (c : Int) (h0 : 0 ≤ c) (h1 : c < 9223372036854775808) : IntKind.u64.wrap c = c := by
  rw [show IntKind.u64.wrap c = c % 18446744073709551616 from rfl]; omega
end Go.Proofs.Ytankgbfddgpfmaa.PAll
