/- laws.FnExactHexMoves: the tied card: the row that is proved, its listed variables tied to the program's text: no condition beyond what the row tells. -/
import Derived.Test.YtcfdlbjngpmcaaaDoorMerged24
import Derived.Test.YtcfdlbjngpmcaaaDoorCards
import Derived.Test.YtcfdlbjngpmcaaaDoorTie
import Derived.SevenTiedAt
namespace Go.Proofs.YtcfdlbjngpmcaaaDoor
open Go
theorem fnExactHexMovesCard_holds : Rows.FnExactHexMovesCardSaid :=
  Claim7.holds_tied_plain_at .later [] [.data, .data, .data] true (true, "840a6c56efc95c3869b83cd5894c0d37de4ffe623e3b659107cf691be64fa82e") false
    fnExactHexMoves_holds (fun _ h => by cases h) (by kernel_rfl) (fun _ h => by cases h) fnExactHexMoves_row_tie rfl ⟨rfl, rfl⟩ (by kernel_rfl) rfl
    (fun f fn hf hfn => by
      obtain rfl : f = 4 := Option.some.inj ((show Tryd.prog.funcNamed "loop.example/g01388/laws.FnExactHexMoves" = some 4 by kernel_rfl).symm.trans hf) |>.symm
      obtain rfl : fn = Tryd.f4 := (Option.some.inj (Tryd.func4.symm.trans hfn)).symm
      exact ⟨by kernel_rfl, fun j t ht => by
        rw [Tryd.params4] at ht
        have hm : t ∈ [24] := by simpa using Array.mem_of_getElem? ht
        have hall : ([24].all fun u => !Tryd.prog.wantsStandIn u) = true := by kernel_rfl
        exact (show Tryd.prog.wantsStandIn t = false by simpa using List.all_eq_true.1 hall t hm)⟩)
    (by kernel_rfl)
#print axioms fnExactHexMovesCard_holds
end Go.Proofs.YtcfdlbjngpmcaaaDoor
