-- Words of the kit's print, those that this claim needs.
import Derived.Test.YtcfdlbjngpmcaaaWInv
import Derived.Test.YtcfdlbjngpmcaaaWFootNe
namespace Go.Proofs.YtcfdlbjngpmcaaaW.PrintWords
open Go.RowKit
end Go.Proofs.YtcfdlbjngpmcaaaW.PrintWords
namespace Go.Proofs.YtcfdlbjngpmcaaaW.PrintLast
section
variable {ops : Array Oper} {a : Act} {o og : Oper} {g : Nat} {t : Tmp} {u : Bool}
end
end Go.Proofs.YtcfdlbjngpmcaaaW.PrintLast
