/- Answers to shots: different cells, and what is answered. -/
import Derived.Test.YtankgbfddgpfmaaGCells
import Derived.Test.YtankgbfddgpfmaaGAre
import Derived.Test.YtankgbfddgpfmaaGAre
import Derived.Test.YtankgbfddgpfmaaPAllx1
import Derived.Test.YtankgbfddgpfmaaPAllx14
import Derived.Test.YtankgbfddgpfmaaPAllx17
import Derived.Test.YtankgbfddgpfmaaPAllx19
import Derived.Test.YtankgbfddgpfmaaPAllx21
import Derived.Test.YtankgbfddgpfmaaPAllx22
namespace Go.Proofs.Ytankgbfddgpfmaa.PAll
open Go.RowKit Go.Proofs.YtankgbfddgpfmaaW.PrintWords Go.Proofs.YtankgbfddgpfmaaW.PrintLast Go.Proofs.Ytankgbfddgpfmaa.GInts
set_option linter.unusedVariables false

theorem and1 (a : Nat) (ha : a < 33554432) : Go.bits .and .i64 (a : Int) 1 = ((a % 2 : Nat) : Int) := by
  have := and_nat a 1 ha (by omega)
  rw [Nat.and_one_is_mod] at this
  exact this
theorem shr_nat (a c : Nat) (hc : c ≤ 64) : shr .i64 (a : Int) (c : Int) = ((a / 2 ^ c : Nat) : Int) := by
  show (a : Int) / 2 ^ min (c : Int).toNat 64 = _
  rw [Int.toNat_natCast, Nat.min_eq_left hc, Int.natCast_ediv]
  rfl
theorem has_nat (a c : Nat) (ha : a < 33554432) (hc : c ≤ 64) : has (a : Int) (c : Int) = a.testBit c := by
  have h1 : a / 2 ^ c < 33554432 := Nat.lt_of_le_of_lt (Nat.div_le_self _ _) ha
  unfold has
  rw [shr_nat a c hc, and1 _ h1, Nat.testBit_eq_decide_div_mod_eq]
  by_cases h : a / 2 ^ c % 2 = 1
  · rw [h]; rfl
  · have h0 : a / 2 ^ c % 2 = 0 := by omega
    rw [h0]; rfl
theorem has_cases (x c : Int) (hx : Cs x) (hc0 : 0 ≤ c) (hc : c ≤ 64) : (has x c = true ∧ Go.bits .and .i64 (shr .i64 x c) 1 = 1) ∨ (has x c = false ∧ Go.bits .and .i64 (shr .i64 x c) 1 = 0) := by
  obtain ⟨a, rfl⟩ := Int.eq_ofNat_of_zero_le hx.1
  obtain ⟨n, rfl⟩ := Int.eq_ofNat_of_zero_le hc0
  have ha : a < 33554432 := by have := hx.2; omega
  have h1 : a / 2 ^ n < 33554432 := Nat.lt_of_le_of_lt (Nat.div_le_self _ _) ha
  have e : Go.bits .and .i64 (shr .i64 (a : Int) (n : Int)) 1 = ((a / 2 ^ n % 2 : Nat) : Int) := by rw [shr_nat a n (by omega), and1 _ h1]
  unfold has
  rw [e]
  by_cases h : a / 2 ^ n % 2 = 1
  · rw [h]; exact Or.inl ⟨rfl, rfl⟩
  · have h0 : a / 2 ^ n % 2 = 0 := by omega
    rw [h0]; exact Or.inr ⟨rfl, rfl⟩
end Go.Proofs.Ytankgbfddgpfmaa.PAll
