-- Words of the kit's print, those that this claim needs.
import Derived.Test.YtcfdlbjngpmcaaaWWords
import Derived.Laws.StructEq
/-! ### 53. '==' of structs as_ one Bool -/
namespace Go.Proofs.YtcfdlbjngpmcaaaW.PrintWords
open Go.RowKit
section
variable {P : Program} {d : Nat} {xs ys : Array Value} {f : Field} {fs : List Field} {a b : Value} {r s : Bool} {w : World}
end
end Go.Proofs.YtcfdlbjngpmcaaaW.PrintWords
