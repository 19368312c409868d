/- On a full board just one player joins the two lines; a player who joins on a board joins on every board with more of that player's cells. -/
import Derived.Test.YtcfdlbjngpmcaaaGHexReach
import Derived.Test.YtcfdlbjngpmcaaaGHexThm
namespace Go.Proofs.Ytcfdlbjngpmcaaa.PAll
open Go.RowKit Go.Proofs.YtcfdlbjngpmcaaaW.PrintWords Go.Proofs.YtcfdlbjngpmcaaaW.PrintLast Go.Proofs.Ytcfdlbjngpmcaaa.Tri
set_option linter.unusedVariables false

def ln (s p c : Int) : Int := if p = 1 then c / s else c % s
def cr (s p c : Int) : Int := if p = 1 then c % s else c / s
def cl (s p i j : Int) : Int := if p = 1 then i * s + j else j * s + i
theorem side_cases {s : Nat} (h : 1 ≤ s ∧ s ≤ 8) : s = 1 ∨ s = 2 ∨ s = 3 ∨ s = 4 ∨ s = 5 ∨ s = 6 ∨ s = 7 ∨ s = 8 := by omega
theorem cl_ok {s : Nat} (h : 1 ≤ s ∧ s ≤ 8) {p i j : Int} (hi : 0 ≤ i ∧ i < (s : Int)) (hj : 0 ≤ j ∧ j < (s : Int)) : 0 ≤ cl s p i j ∧ cl s p i j < (s : Int) * (s : Int) ∧ ln s p (cl s p i j) = i ∧ cr s p (cl s p i j) = j := by
  unfold cl ln cr
  by_cases hp : p = 1
  · simp only [if_pos hp]
    rcases side_cases h with rfl | rfl | rfl | rfl | rfl | rfl | rfl | rfl <;> omega
  · simp only [if_neg hp]
    rcases side_cases h with rfl | rfl | rfl | rfl | rfl | rfl | rfl | rfl <;> omega
theorem ln_ok {s : Nat} (h : 1 ≤ s ∧ s ≤ 8) {p c : Int} (hc : 0 ≤ c ∧ c < (s : Int) * (s : Int)) : 0 ≤ ln s p c ∧ ln s p c < (s : Int) ∧ 0 ≤ cr s p c ∧ cr s p c < (s : Int) ∧ cl s p (ln s p c) (cr s p c) = c := by
  unfold cl ln cr
  by_cases hp : p = 1
  · simp only [if_pos hp]
    rcases side_cases h with rfl | rfl | rfl | rfl | rfl | rfl | rfl | rfl <;> omega
  · simp only [if_neg hp]
    rcases side_cases h with rfl | rfl | rfl | rfl | rfl | rfl | rfl | rfl <;> omega
theorem lineI_ln {s : Nat} (h : 1 ≤ s ∧ s ≤ 8) {p c : Int} (hc : 0 ≤ c ∧ c < (s : Int) * (s : Int)) : lineI s p c = ln s p c := by
  have h1 := ln_ok h (p := p) hc
  unfold lineI ln at *
  by_cases hp : p = 1
  · simp only [if_pos hp] at *
    rw [Int.tdiv_eq_ediv_of_nonneg hc.1]
    exact w64 (by omega) (by omega)
  · simp only [if_neg hp] at *
    exact Int.tmod_eq_emod_of_nonneg hc.1

end Go.Proofs.Ytcfdlbjngpmcaaa.PAll
