/- What the laws' own helpers over whole numbers come to: copies, comparisons, marks. -/
import Derived.Test.YtankgbfddgpfmaaWWords
import Derived.Test.YtankgbfddgpfmaaPAllx11
import Derived.Test.YtankgbfddgpfmaaPAllx12
import Derived.Test.YtankgbfddgpfmaaPAllx2
namespace Go.Proofs.Ytankgbfddgpfmaa.PAll
open Go.RowKit Go.Proofs.YtankgbfddgpfmaaW.PrintWords Go.Proofs.YtankgbfddgpfmaaW.PrintLast
set_option linter.unusedVariables false

theorem w64 {x : Int} (h0 : -9223372036854775808 ≤ x) (h1 : x ≤ 9223372036854775807) : wrap64 x = x := by unfold wrap64; omega
theorem rd_nat (l : List Int) (i : Nat) (h : i < l.length) : rd l (i : Int) = l[i] := by simp [rd, List.getD_eq_getElem?_getD, h]
theorem Ev.cast {α : Type} {g : Nat → Option α} {r r' : α} (h : Ev g r) (e : r = r') : Ev g r' := e ▸ h
/-- One more round of a loop whose number of rounds is spent by the round itself. -/
theorem Ev.succ {α : Type} {g : Nat → Option α} {r : α} (h : Ev (fun k => g (k + 1)) r) : Ev g r := Ev.step (f := fun k => g (k + 1)) (fun _ => rfl) h

theorem ev_to_l0 (x0 : List Int) (hm : x0.length ≤ 35184372088832) : ∀ (d i : Nat) (x3 : List Int), i + d = x0.length → x3.length = x0.length → (∀ j, j < i → x3[j]? = x0[j]?) → Ev (fun k => laws_toInt64S.l0 k x0 x3 (i : Int)) x0 := by
  intro d
  induction d with
  | zero =>
    intro i x3 hi hl hj
    refine Ev.succ ?_
    simp only [laws_toInt64S.l0]
    have h1 : ¬ ((i : Int) < (x0.length : Int)) := by omega
    simp only [if_neg h1]
    have : x3 = x0 := List.ext_getElem? fun j => by
      rcases Nat.lt_or_ge j i with h | h
      · exact hj j h
      · rw [List.getElem?_eq_none (by omega), List.getElem?_eq_none (by omega)]
    rw [this]
    exact Ev.now _
  | succ d ih =>
    intro i x3 hi hl hj
    refine Ev.succ ?_
    simp only [laws_toInt64S.l0]
    have h1 : (i : Int) < (x0.length : Int) := by omega
    have h2 : (0 : Int) ≤ (i : Int) := by omega
    have h3 : (i : Int) < (x3.length : Int) := by omega
    simp only [if_pos h1, if_pos h2, if_pos h3]
    have h4 : wrap64 ((i : Int) + 1) = ((i + 1 : Nat) : Int) := by rw [w64 (by omega) (by omega)]; omega
    rw [h4]
    refine ih (i + 1) _ (by omega) (by simpa using hl) (fun j hji => ?_)
    rw [Int.toNat_natCast, List.getElem?_set]
    by_cases e : i = j
    · subst e
      rw [if_pos rfl, if_pos (by omega), rd_nat x0 i (by omega), List.getElem?_eq_getElem (by omega)]
    · rw [if_neg e]
      exact hj j (by omega)
theorem ev_toInt64S (l : List Int) (hm : l.length ≤ 35184372088832) : Ev (fun k => laws_toInt64S.f k l) l := by
  unfold laws_toInt64S.f
  have h1 : (0 : Int) ≤ (l.length : Int) := by omega
  simp only [Int.toNat_natCast, if_pos h1, if_pos hm]
  exact ev_to_l0 l hm l.length 0 _ (by omega) (by simp) (fun j hj => absurd hj (by omega))

theorem ev_eq_l0 (a b : List Int) (hl : a.length = b.length) (hm : a.length ≤ 35184372088832) : ∀ (d i : Nat), i + d = a.length → (∀ j, j < i → a[j]? = b[j]?) → Ev (fun k => laws_eqInt64S.l0 k a b (i : Int)) (decide (a = b)) := by
  intro d
  induction d with
  | zero =>
    intro i hi hj
    refine Ev.succ ?_
    simp only [laws_eqInt64S.l0]
    have h1 : ¬ ((i : Int) < (a.length : Int)) := by omega
    simp only [if_neg h1]
    have : a = b := List.ext_getElem? fun j => by
      rcases Nat.lt_or_ge j i with h | h
      · exact hj j h
      · rw [List.getElem?_eq_none (by omega), List.getElem?_eq_none (by omega)]
    rw [decide_eq_true this]
    exact Ev.now _
  | succ d ih =>
    intro i hi hj
    refine Ev.succ ?_
    simp only [laws_eqInt64S.l0]
    have h1 : (i : Int) < (a.length : Int) := by omega
    have h2 : (0 : Int) ≤ (i : Int) := by omega
    have h3 : (i : Int) < (b.length : Int) := by omega
    simp only [if_pos h1, if_pos h2, if_pos h3]
    rw [rd_nat a i (by omega), rd_nat b i (by omega)]
    have h4 : wrap64 ((i : Int) + 1) = ((i + 1 : Nat) : Int) := by rw [w64 (by omega) (by omega)]; omega
    rw [h4]
    by_cases e : a[i] = b[i]
    · simp only [if_pos e]
      refine ih (i + 1) (by omega) (fun j hji => ?_)
      by_cases h : j = i
      · subst h
        rw [List.getElem?_eq_getElem (by omega), List.getElem?_eq_getElem (by omega), e]
      · exact hj j (by omega)
    · simp only [if_neg e]
      have : a ≠ b := fun h => e (by subst h; rfl)
      rw [decide_eq_false this]
      exact Ev.now _
theorem ev_eqInt64S (a b : List Int) (hm : a.length ≤ 35184372088832) : Ev (fun k => laws_eqInt64S.f k a b) (decide (a = b)) := by
  unfold laws_eqInt64S.f
  by_cases hl : (a.length : Int) = (b.length : Int)
  · simp only [if_pos hl]
    exact ev_eq_l0 a b (by omega) hm a.length 0 (by omega) (fun j hj => absurd hj (by omega))
  · simp only [if_neg hl]
    have : a ≠ b := fun h => hl (by rw [h])
    rw [decide_eq_false this]
    exact Ev.now _

end Go.Proofs.Ytankgbfddgpfmaa.PAll
