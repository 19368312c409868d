/- Placements: for every sea and length the program's and the reference's are one list (the kernel reckons all 125 cases). -/
import Derived.Test.YtankgbfddgpfmaaGSea
import Derived.Test.YtankgbfddgpfmaaPAllx11
import Derived.Test.YtankgbfddgpfmaaPAllx2
namespace Go.Proofs.Ytankgbfddgpfmaa.PAll
open Go.RowKit Go.Proofs.YtankgbfddgpfmaaW.PrintWords Go.Proofs.YtankgbfddgpfmaaW.PrintLast
set_option linter.unusedVariables false

def Pl (W H n : Int) : List Int := ((spec_l09Placements.f 1000 W H [] n).getD [])
theorem five {x : Int} (h : 1 ≤ x ∧ x ≤ 5) : x = 1 ∨ x = 2 ∨ x = 3 ∨ x = 4 ∨ x = 5 := by omega
theorem spec_pl (W H n : Int) (l : List Int) (hW : 1 ≤ W ∧ W ≤ 5) (hH : 1 ≤ H ∧ H ≤ 5) (hn : 1 ≤ n ∧ n ≤ 5) : spec_l09Placements.f 1000 W H l n = some (Pl W H n) := by
  rcases five hW with rfl | rfl | rfl | rfl | rfl <;> rcases five hH with rfl | rfl | rfl | rfl | rfl <;> rcases five hn with rfl | rfl | rfl | rfl | rfl <;> kernel_rfl
theorem impl_pl (W H n : Int) (l : List Int) (hW : 1 ≤ W ∧ W ≤ 5) (hH : 1 ≤ H ∧ H ≤ 5) (hn : 1 ≤ n ∧ n ≤ 5) : impl_Sea_placements.f 1000 W H l n = some (Pl W H n) := by
  rcases five hW with rfl | rfl | rfl | rfl | rfl <;> rcases five hH with rfl | rfl | rfl | rfl | rfl <;> rcases five hn with rfl | rfl | rfl | rfl | rfl <;> kernel_rfl
theorem pl_facts : ∀ W ∈ [(1 : Int), 2, 3, 4, 5], ∀ H ∈ [(1 : Int), 2, 3, 4, 5], ∀ n ∈ [(1 : Int), 2, 3, 4, 5], (Pl W H n).length ≤ 50 ∧ (∀ x ∈ Pl W H n, 0 < x ∧ x < 33554432) := by decide +kernel
theorem pl_len {W H n : Int} (hW : 1 ≤ W ∧ W ≤ 5) (hH : 1 ≤ H ∧ H ≤ 5) (hn : 1 ≤ n ∧ n ≤ 5) : (Pl W H n).length ≤ 50 :=
  (pl_facts W (by have := five hW; simpa using this) H (by have := five hH; simpa using this) n (by have := five hn; simpa using this)).1
theorem pl_pos {W H n : Int} (hW : 1 ≤ W ∧ W ≤ 5) (hH : 1 ≤ H ∧ H ≤ 5) (hn : 1 ≤ n ∧ n ≤ 5) : ∀ x ∈ Pl W H n, 0 < x ∧ x < 33554432 :=
  (pl_facts W (by have := five hW; simpa using this) H (by have := five hH; simpa using this) n (by have := five hn; simpa using this)).2
theorem ev_spec_pl (W H n : Int) (l : List Int) (hW : 1 ≤ W ∧ W ≤ 5) (hH : 1 ≤ H ∧ H ≤ 5) (hn : 1 ≤ n ∧ n ≤ 5) : Ev (fun k => spec_l09Placements.f k W H l n) (Pl W H n) :=
  Ev.of (fun k => spec_l09Placements.mono _ _ _ _ k) (spec_pl W H n l hW hH hn)
theorem ev_impl_pl (W H n : Int) (l : List Int) (hW : 1 ≤ W ∧ W ≤ 5) (hH : 1 ≤ H ∧ H ≤ 5) (hn : 1 ≤ n ∧ n ≤ 5) : Ev (fun k => impl_Sea_placements.f k W H l n) (Pl W H n) :=
  Ev.of (fun k => impl_Sea_placements.mono _ _ _ _ k) (impl_pl W H n l hW hH hn)
end Go.Proofs.Ytankgbfddgpfmaa.PAll
