/- Neighbours: for every side and cell the program's and the reference's are one list (the kernel reckons all of them). -/
import Derived.Test.YtcfdlbjngpmcaaaGHelp
import Derived.KernelRfl
import Derived.Test.YtcfdlbjngpmcaaaPAllx2
import Derived.Test.YtcfdlbjngpmcaaaPAllx8
namespace Go.Proofs.Ytcfdlbjngpmcaaa.PAll
open Go.RowKit Go.Proofs.YtcfdlbjngpmcaaaW.PrintWords Go.Proofs.YtcfdlbjngpmcaaaW.PrintLast
set_option linter.unusedVariables false

def nearL (s a : Int) : List Int := ((spec_l06Near.f 20 s a).getD [])
def nearOk (s a : Int) : Bool := (spec_l06Near.f 20 s a == some (nearL s a)) && (impl_near.f 20 s a == some (nearL s a)) && ((nearL s a).all fun b => decide (0 ≤ b ∧ b < s * s)) && decide ((nearL s a).length ≤ 6)
theorem near_all : (List.range 9).all (fun s => s == 0 || (List.range (s * s)).all fun a => nearOk (s : Int) (a : Int)) = true := by decide +kernel
theorem near_at {s a : Nat} (hs : 1 ≤ s ∧ s ≤ 8) (ha : a < s * s) : spec_l06Near.f 20 (s : Int) (a : Int) = some (nearL s a) ∧ impl_near.f 20 (s : Int) (a : Int) = some (nearL s a) ∧ (∀ b ∈ nearL s a, 0 ≤ b ∧ b < (s : Int) * (s : Int)) ∧ (nearL s a).length ≤ 6 := by
  have h := List.all_eq_true.1 near_all s (List.mem_range.2 (by omega))
  have hs0 : (s == 0) = false := by rw [beq_eq_false_iff_ne]; omega
  rw [hs0, Bool.false_or] at h
  have h1 := List.all_eq_true.1 h a (List.mem_range.2 ha)
  simp only [nearOk, Bool.and_eq_true, beq_iff_eq, decide_eq_true_eq] at h1
  exact ⟨h1.1.1.1, h1.1.1.2, fun b hb => by simpa using List.all_eq_true.1 h1.1.2 b hb, h1.2⟩
theorem ev_spec_near {s a : Nat} (hs : 1 ≤ s ∧ s ≤ 8) (ha : a < s * s) : Ev (fun k => spec_l06Near.f k (s : Int) (a : Int)) (nearL s a) := Ev.of (fun k => spec_l06Near.mono _ _ k) (near_at hs ha).1
theorem ev_impl_near {s a : Nat} (hs : 1 ≤ s ∧ s ≤ 8) (ha : a < s * s) : Ev (fun k => impl_near.f k (s : Int) (a : Int)) (nearL s a) := Ev.of (fun k => impl_near.mono _ _ k) (near_at hs ha).2.1
end Go.Proofs.Ytcfdlbjngpmcaaa.PAll
