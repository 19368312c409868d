/- What the laws' own helpers over whole numbers come to: copies, comparisons, marks. -/
import Derived.Test.YtcfdlbjngpmcaaaWWords
import Derived.Test.YtcfdlbjngpmcaaaPAllx11
import Derived.Test.YtcfdlbjngpmcaaaPAllx5
namespace Go.Proofs.Ytcfdlbjngpmcaaa.PAll
open Go.RowKit Go.Proofs.YtcfdlbjngpmcaaaW.PrintWords Go.Proofs.YtcfdlbjngpmcaaaW.PrintLast
set_option linter.unusedVariables false

theorem w64 {x : Int} (h0 : -9223372036854775808 ≤ x) (h1 : x ≤ 9223372036854775807) : wrap64 x = x := by unfold wrap64; omega
theorem rd_nat (l : List Int) (i : Nat) (h : i < l.length) : rd l (i : Int) = l[i] := by simp [rd, List.getD_eq_getElem?_getD, h]
/-- One more round of a loop whose number of rounds is spent by the round itself. -/
theorem Ev.succ {α : Type} {g : Nat → Option α} {r : α} (h : Ev (fun k => g (k + 1)) r) : Ev g r := Ev.step (f := fun k => g (k + 1)) (fun _ => rfl) h

theorem ev_to_l0 (x0 : List Int) (hm : x0.length ≤ 35184372088832) : ∀ (d i : Nat) (x3 : List Int), i + d = x0.length → x3.length = x0.length → (∀ j, j < i → x3[j]? = x0[j]?) → Ev (fun k => laws_toInt64S.l0 k x0 x3 (i : Int)) x0 := by
  intro d
  induction d with
  | zero =>
    intro i x3 hi hl hj
    refine Ev.succ ?_
    simp only [laws_toInt64S.l0]
    have h1 : ¬ ((i : Int) < (x0.length : Int)) := by omega
    simp only [if_neg h1]
    have : x3 = x0 := List.ext_getElem? fun j => by
      rcases Nat.lt_or_ge j i with h | h
      · exact hj j h
      · rw [List.getElem?_eq_none (by omega), List.getElem?_eq_none (by omega)]
    rw [this]
    exact Ev.now _
  | succ d ih =>
    intro i x3 hi hl hj
    refine Ev.succ ?_
    simp only [laws_toInt64S.l0]
    have h1 : (i : Int) < (x0.length : Int) := by omega
    have h2 : (0 : Int) ≤ (i : Int) := by omega
    have h3 : (i : Int) < (x3.length : Int) := by omega
    simp only [if_pos h1, if_pos h2, if_pos h3]
    have h4 : wrap64 ((i : Int) + 1) = ((i + 1 : Nat) : Int) := by rw [w64 (by omega) (by omega)]; omega
    rw [h4]
    refine ih (i + 1) _ (by omega) (by simpa using hl) (fun j hji => ?_)
    rw [Int.toNat_natCast, List.getElem?_set]
    by_cases e : i = j
    · subst e
      rw [if_pos rfl, if_pos (by omega), rd_nat x0 i (by omega), List.getElem?_eq_getElem (by omega)]
    · rw [if_neg e]
      exact hj j (by omega)
theorem ev_toInt64S (l : List Int) (hm : l.length ≤ 35184372088832) : Ev (fun k => laws_toInt64S.f k l) l := by
  unfold laws_toInt64S.f
  have h1 : (0 : Int) ≤ (l.length : Int) := by omega
  simp only [Int.toNat_natCast, if_pos h1, if_pos hm]
  exact ev_to_l0 l hm l.length 0 _ (by omega) (by simp) (fun j hj => absurd hj (by omega))

theorem ev_eq_l0 (a b : List Int) (hl : a.length = b.length) (hm : a.length ≤ 35184372088832) : ∀ (d i : Nat), i + d = a.length → (∀ j, j < i → a[j]? = b[j]?) → Ev (fun k => laws_eqInt64S.l0 k a b (i : Int)) (decide (a = b)) := by
  intro d
  induction d with
  | zero =>
    intro i hi hj
    refine Ev.succ ?_
    simp only [laws_eqInt64S.l0]
    have h1 : ¬ ((i : Int) < (a.length : Int)) := by omega
    simp only [if_neg h1]
    have : a = b := List.ext_getElem? fun j => by
      rcases Nat.lt_or_ge j i with h | h
      · exact hj j h
      · rw [List.getElem?_eq_none (by omega), List.getElem?_eq_none (by omega)]
    rw [decide_eq_true this]
    exact Ev.now _
  | succ d ih =>
    intro i hi hj
    refine Ev.succ ?_
    simp only [laws_eqInt64S.l0]
    have h1 : (i : Int) < (a.length : Int) := by omega
    have h2 : (0 : Int) ≤ (i : Int) := by omega
    have h3 : (i : Int) < (b.length : Int) := by omega
    simp only [if_pos h1, if_pos h2, if_pos h3]
    rw [rd_nat a i (by omega), rd_nat b i (by omega)]
    have h4 : wrap64 ((i : Int) + 1) = ((i + 1 : Nat) : Int) := by rw [w64 (by omega) (by omega)]; omega
    rw [h4]
    by_cases e : a[i] = b[i]
    · simp only [if_pos e]
      refine ih (i + 1) (by omega) (fun j hji => ?_)
      by_cases h : j = i
      · subst h
        rw [List.getElem?_eq_getElem (by omega), List.getElem?_eq_getElem (by omega), e]
      · exact hj j (by omega)
    · simp only [if_neg e]
      have : a ≠ b := fun h => e (by subst h; rfl)
      rw [decide_eq_false this]
      exact Ev.now _
theorem ev_eqInt64S (a b : List Int) (hm : a.length ≤ 35184372088832) : Ev (fun k => laws_eqInt64S.f k a b) (decide (a = b)) := by
  unfold laws_eqInt64S.f
  by_cases hl : (a.length : Int) = (b.length : Int)
  · simp only [if_pos hl]
    exact ev_eq_l0 a b (by omega) hm a.length 0 (by omega) (fun j hj => absurd hj (by omega))
  · simp only [if_neg hl]
    have : a ≠ b := fun h => hl (by rw [h])
    rw [decide_eq_false this]
    exact Ev.now _

def marks (n : Nat) (k : Int) : List Int := (List.range n).map fun (i : Nat) => k + (i : Int)
theorem marks_length (n : Nat) (k : Int) : (marks n k).length = n := by simp [marks]
theorem marks_get (n : Nat) (k : Int) (j : Nat) (h : j < n) : (marks n k)[j]? = some (k + (j : Int)) := by simp [marks, h]
theorem ev_mark_l0 (n : Nat) (k0 : Int) (hk : 0 ≤ k0) (hk2 : k0 ≤ 35184372088832) (hm : n ≤ 35184372088832) : ∀ (d i : Nat) (x : List Int), i + d = n → x.length = n → (∀ j, j < i → x[j]? = some (k0 + (j : Int))) → Ev (fun k => laws_markInt64S.l0 k x (k0 + (i : Int)) (i : Int)) (k0 + (n : Int), marks n k0) := by
  intro d
  induction d with
  | zero =>
    intro i x hi hl hj
    refine Ev.succ ?_
    simp only [laws_markInt64S.l0]
    have h1 : ¬ ((i : Int) < (x.length : Int)) := by omega
    simp only [if_neg h1]
    have : x = marks n k0 := List.ext_getElem? fun j => by
      rcases Nat.lt_or_ge j i with h | h
      · rw [hj j h, marks_get n k0 j (by omega)]
      · rw [List.getElem?_eq_none (by omega), List.getElem?_eq_none (by rw [marks_length]; omega)]
    rw [this, show i = n by omega]
    exact Ev.now _
  | succ d ih =>
    intro i x hi hl hj
    refine Ev.succ ?_
    simp only [laws_markInt64S.l0]
    have h1 : (i : Int) < (x.length : Int) := by omega
    have h2 : (0 : Int) ≤ (i : Int) := by omega
    simp only [if_pos h1, if_pos h2]
    have h4 : wrap64 ((i : Int) + 1) = ((i + 1 : Nat) : Int) := by rw [w64 (by omega) (by omega)]; omega
    have h5 : wrap64 (k0 + (i : Int) + 1) = k0 + ((i + 1 : Nat) : Int) := by rw [w64 (by omega) (by omega)]; omega
    rw [h4, h5]
    refine ih (i + 1) _ (by omega) (by simpa using hl) (fun j hji => ?_)
    rw [Int.toNat_natCast, List.getElem?_set]
    by_cases e : i = j
    · subst e
      rw [if_pos rfl, if_pos (by omega)]
    · rw [if_neg e]
      exact hj j (by omega)
theorem ev_markInt64S (l : List Int) (k0 : Int) (hk : 0 ≤ k0) (hk2 : k0 ≤ 35184372088832) (hm : l.length ≤ 35184372088832) : Ev (fun k => laws_markInt64S.f k l k0) (k0 + (l.length : Int), marks l.length k0) := by
  unfold laws_markInt64S.f
  have := ev_mark_l0 l.length k0 hk hk2 hm l.length 0 l (by omega) rfl (fun j hj => absurd hj (by omega))
  simpa using this

theorem ev_held_l0 (n : Nat) (k0 : Int) (hk : 0 ≤ k0) (hk2 : k0 ≤ 35184372088832) (hm : n ≤ 35184372088832) : ∀ (d i : Nat), i + d = n → Ev (fun k => laws_heldInt64S.l0 k (marks n k0) (k0 + (i : Int)) (i : Int)) (k0 + (n : Int)) := by
  intro d
  induction d with
  | zero =>
    intro i hi
    refine Ev.succ ?_
    simp only [laws_heldInt64S.l0]
    have h1 : ¬ ((i : Int) < ((marks n k0).length : Int)) := by rw [marks_length]; omega
    simp only [if_neg h1]
    rw [show i = n by omega]
    exact Ev.now _
  | succ d ih =>
    intro i hi
    refine Ev.succ ?_
    simp only [laws_heldInt64S.l0]
    have h1 : (i : Int) < ((marks n k0).length : Int) := by rw [marks_length]; omega
    have h2 : (0 : Int) ≤ (i : Int) := by omega
    have h3 : rd (marks n k0) (i : Int) = k0 + (i : Int) := by
      simp only [rd, Int.toNat_natCast, List.getD_eq_getElem?_getD]
      rw [marks_get n k0 i (by omega)]; rfl
    simp only [if_pos h1, if_pos h2, if_pos h3]
    have h4 : wrap64 ((i : Int) + 1) = ((i + 1 : Nat) : Int) := by rw [w64 (by omega) (by omega)]; omega
    have h5 : wrap64 (k0 + (i : Int) + 1) = k0 + ((i + 1 : Nat) : Int) := by rw [w64 (by omega) (by omega)]; omega
    rw [h4, h5]
    exact ih (i + 1) (by omega)
theorem ev_heldInt64S (n : Nat) (k0 : Int) (hk : 0 ≤ k0) (hk2 : k0 ≤ 35184372088832) (hm : n ≤ 35184372088832) : Ev (fun k => laws_heldInt64S.f k (marks n k0) k0) (k0 + (n : Int)) := by
  unfold laws_heldInt64S.f
  have := ev_held_l0 n k0 hk hk2 hm n 0 (by omega)
  simpa using this

end Go.Proofs.Ytcfdlbjngpmcaaa.PAll
