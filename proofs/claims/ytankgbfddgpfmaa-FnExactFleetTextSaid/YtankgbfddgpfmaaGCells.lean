/- The cells of a fleet: the codes agree, the sets agree, the lists agree. -/
import Derived.Test.YtankgbfddgpfmaaGFleet
import Derived.Test.YtankgbfddgpfmaaGAre
import Derived.Test.YtankgbfddgpfmaaPAllx17
import Derived.Test.YtankgbfddgpfmaaPAllx18
import Derived.Test.YtankgbfddgpfmaaPAllx19
import Derived.Test.YtankgbfddgpfmaaPAllx3
namespace Go.Proofs.Ytankgbfddgpfmaa.PAll
open Go.RowKit Go.Proofs.YtankgbfddgpfmaaW.PrintWords Go.Proofs.YtankgbfddgpfmaaW.PrintLast
set_option linter.unusedVariables false

/-- The codes: of a sea and a fleet, no cells besides. -/
theorem code_agree (W H : Int) (l f : List Int) (hm : l.length ≤ 35184372088832) (hA : ∀ W H l, impl_Sea_areCells.f W H l [] = some true) :
    ∃ c, Ev (fun k => spec_l09Code.f k W H l f) c ∧ Ev (fun k => impl_fleetCode.f k W H l f []) c ∧ (c = 0 → IsSeaP W H l ∧ IsFleetP W H l f) := by
  obtain ⟨b, h1, h2, h3⟩ := sea_agree W H l hm
  unfold spec_l09Code.f impl_fleetCode.f
  cases b with
  | false => exact ⟨1, Ev.bind h1 (Ev.now _), Ev.bind h2 (Ev.now _), fun h => by cases h⟩
  | true =>
    obtain ⟨b, g1, g2, g3⟩ := fleet_agree W H l f (h3 rfl)
    cases b with
    | false =>
      refine ⟨2, Ev.bind h1 (Ev.bind g1 (Ev.now _)), Ev.bind h2 (Ev.bind g2 ?_), fun h => by cases h⟩
      simp only [Bool.false_eq_true, if_false]
      exact Ev.bind (Ev.cast (first1 _ _) (by rfl)) (Ev.now _)
    | true =>
      refine ⟨0, Ev.bind h1 (Ev.bind g1 (Ev.now _)), Ev.bind h2 (Ev.bind g2 ?_), fun _ => ⟨h3 rfl, g3 rfl⟩⟩
      simp only [if_true, hA, Option.bind_some]
      exact Ev.bind (Ev.cast (first1 _ _) (by rfl)) (Ev.now _)

/-- Has a set a cell? -/
def has (x c : Int) : Bool := Go.bits .and .i64 (shr .i64 x c) 1 == 1
theorem u64_small (c : Int) (h0 : 0 ≤ c) (h1 : c < 9223372036854775808) : IntKind.u64.wrap c = c := by
  rw [show IntKind.u64.wrap c = c % 18446744073709551616 from rfl]; omega
end Go.Proofs.Ytankgbfddgpfmaa.PAll
