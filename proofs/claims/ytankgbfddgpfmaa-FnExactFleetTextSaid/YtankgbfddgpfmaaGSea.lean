/- What is told of a sea: the program's IsSea and the reference's agree. -/
import Derived.Test.YtankgbfddgpfmaaGHelp
import Derived.KernelRfl
import Derived.Test.YtankgbfddgpfmaaPAllx1
import Derived.Test.YtankgbfddgpfmaaPAllx11
import Derived.Test.YtankgbfddgpfmaaPAllx12
import Derived.Test.YtankgbfddgpfmaaPAllx2
import Derived.Test.YtankgbfddgpfmaaPAllx3
namespace Go.Proofs.Ytankgbfddgpfmaa.PAll
open Go.RowKit Go.Proofs.YtankgbfddgpfmaaW.PrintWords Go.Proofs.YtankgbfddgpfmaaW.PrintLast
set_option linter.unusedVariables false

def Rising (l : List Int) (i : Nat) : Prop := ∀ j, i ≤ j → j < l.length → 1 ≤ rd l (j : Int) ∧ rd l (j : Int) ≤ 5 ∧ (0 < j → rd l (j : Int) ≤ rd l ((j : Int) - 1))
theorem sea_loops (W H : Int) (l : List Int) (hm : l.length ≤ 35184372088832) : ∀ (d i : Nat), i + d = l.length →
    ∃ b, Ev (fun k => spec_l09Is.l0 k (i : Int) W H l) b ∧ Ev (fun k => impl_IsSea.l0 k l (l.length : Int) (i : Int) W H l) b ∧ (b = true → Rising l i) := by
  intro d
  induction d with
  | zero =>
    intro i hi
    have h1 : ¬ ((i : Int) < (l.length : Int)) := by omega
    refine ⟨true, Ev.succ ?_, Ev.succ ?_, fun _ j hj hjl => by omega⟩
    · simp only [spec_l09Is.l0, if_neg h1]; exact Ev.now _
    · simp only [impl_IsSea.l0, if_neg h1]; exact Ev.now _
  | succ d ih =>
    intro i hi
    obtain ⟨b, hb1, hb2, hb3⟩ := ih (i + 1) (by omega)
    have h1 : (i : Int) < (l.length : Int) := by omega
    have h2 : (0 : Int) ≤ (i : Int) := by omega
    have h4 : wrap64 ((i : Int) + 1) = ((i + 1 : Nat) : Int) := by rw [w64 (by omega) (by omega)]; omega
    have hin : spec_l01In.f (rd l (i : Int)) 1 5 = some (decide (1 ≤ rd l (i : Int)) && decide (rd l (i : Int) ≤ 5)) := by
      unfold spec_l01In.f; by_cases h : rd l (i : Int) ≥ 1
      · rw [if_pos h, decide_eq_true (show 1 ≤ rd l (i : Int) from h)]; simp
      · rw [if_neg h, decide_eq_false (show ¬ 1 ≤ rd l (i : Int) from h)]; simp
    have hwi : impl_within.f (rd l (i : Int)) 1 5 = some (decide (1 ≤ rd l (i : Int)) && decide (rd l (i : Int) ≤ 5)) := by
      unfold impl_within.f; by_cases h : 1 ≤ rd l (i : Int)
      · rw [if_pos h, decide_eq_true h]; simp
      · rw [if_neg h, decide_eq_false h]; simp
    by_cases hr : 1 ≤ rd l (i : Int) ∧ rd l (i : Int) ≤ 5
    · have ht : (decide (1 ≤ rd l (i : Int)) && decide (rd l (i : Int) ≤ 5)) = true := by simp [hr.1, hr.2]
      by_cases hp : i = 0
      · subst hp
        have h5 : ¬ (((0 : Nat) : Int) > 0) := by omega
        refine ⟨b, Ev.succ ?_, Ev.succ ?_, fun hb j hj hjl => ?_⟩
        · simp only [spec_l09Is.l0, if_pos h1, if_pos h2, hin, ht, Option.bind_some, if_true, if_neg h5, h4]; exact hb1
        · simp only [impl_IsSea.l0, if_pos h1, if_pos h2, hwi, ht, Option.bind_some, if_true, if_neg h5, h4]; exact hb2
        · rcases Nat.eq_zero_or_pos j with rfl | hjp
          · exact ⟨hr.1, hr.2, fun h => by omega⟩
          · exact hb3 hb j hjp hjl
      · have h5 : ((i : Nat) : Int) > 0 := by omega
        have h6 : wrap64 ((i : Int) - 1) = (i : Int) - 1 := w64 (by omega) (by omega)
        have h7 : (0 : Int) ≤ (i : Int) - 1 := by omega
        have h8 : (i : Int) - 1 < (l.length : Int) := by omega
        by_cases hg : rd l (i : Int) > rd l ((i : Int) - 1)
        · refine ⟨false, Ev.succ ?_, Ev.succ ?_, fun h => by cases h⟩
          · simp only [spec_l09Is.l0, if_pos h1, if_pos h2, hin, ht, Option.bind_some, if_true, if_pos h5, h6, if_pos h7, if_pos h8, if_pos hg]; exact Ev.now _
          · simp only [impl_IsSea.l0, if_pos h1, if_pos h2, hwi, ht, Option.bind_some, if_true, if_pos h5, h6, if_pos h7, if_pos h8, if_pos hg]; exact Ev.now _
        · refine ⟨b, Ev.succ ?_, Ev.succ ?_, fun hb j hj hjl => ?_⟩
          · simp only [spec_l09Is.l0, if_pos h1, if_pos h2, hin, ht, Option.bind_some, if_true, if_pos h5, h6, if_pos h7, if_pos h8, if_neg hg, h4]; exact hb1
          · simp only [impl_IsSea.l0, if_pos h1, if_pos h2, hwi, ht, Option.bind_some, if_true, if_pos h5, h6, if_pos h7, if_pos h8, if_neg hg, h4]; exact hb2
          · by_cases hji : j = i
            · subst hji
              exact ⟨hr.1, hr.2, fun _ => by omega⟩
            · exact hb3 hb j (by omega) hjl
    · have ht : (decide (1 ≤ rd l (i : Int)) && decide (rd l (i : Int) ≤ 5)) = false := by
        rw [Bool.eq_false_iff]; intro h; simp at h; exact hr h
      refine ⟨false, Ev.succ ?_, Ev.succ ?_, fun h => by cases h⟩
      · simp only [spec_l09Is.l0, if_pos h1, if_pos h2, hin, ht, Option.bind_some, Bool.false_eq_true, if_false]; exact Ev.now _
      · simp only [impl_IsSea.l0, if_pos h1, if_pos h2, hwi, ht, Option.bind_some, Bool.false_eq_true, if_false]; exact Ev.now _

theorem in_f (n a b : Int) : spec_l01In.f n a b = some (decide (a ≤ n ∧ n ≤ b)) := by
  unfold spec_l01In.f
  by_cases h : a ≤ n
  · rw [if_pos h]; simp [h]
  · rw [if_neg h, decide_eq_false (fun h' => h h'.1)]
theorem within_f (n a b : Int) : impl_within.f n a b = some (decide (a ≤ n ∧ n ≤ b)) := by
  unfold impl_within.f
  by_cases h : a ≤ n
  · rw [if_pos h]; simp [h]
  · rw [if_neg h, decide_eq_false (fun h' => h h'.1)]

structure IsSeaP (W H : Int) (l : List Int) : Prop where
  w : 1 ≤ W ∧ W ≤ 5
  h : 1 ≤ H ∧ H ≤ 5
  n : 1 ≤ (l.length : Int) ∧ (l.length : Int) ≤ 3
  r : Rising l 0

theorem sea_agree (W H : Int) (l : List Int) (hm : l.length ≤ 35184372088832) :
    ∃ b, Ev (fun k => spec_l09Is.f k W H l) b ∧ Ev (fun k => impl_IsSea.f k W H l) b ∧ (b = true → IsSeaP W H l) := by
  have stop1 : Ev (fun k => spec_l09Is.j0 k true W H l) false := Ev.succ (by simp only [spec_l09Is.j0, if_true]; exact Ev.now _)
  have stop2 : Ev (fun k => impl_IsSea.j0 k true W H l) false := Ev.succ (by simp only [impl_IsSea.j0, if_true]; exact Ev.now _)
  unfold spec_l09Is.f impl_IsSea.f impl_size_int64.f
  simp only [in_f, within_f, Option.bind_some]
  by_cases hW : 1 ≤ W ∧ W ≤ 5
  case neg => simp only [decide_eq_false hW, Bool.false_eq_true, if_false]; exact ⟨false, stop1, stop2, fun h => by cases h⟩
  simp only [decide_eq_true hW, if_true]
  by_cases hH : 1 ≤ H ∧ H ≤ 5
  case neg => simp only [decide_eq_false hH, Bool.false_eq_true, if_false]; exact ⟨false, stop1, stop2, fun h => by cases h⟩
  simp only [decide_eq_true hH, if_true]
  by_cases hn : 1 ≤ (l.length : Int) ∧ (l.length : Int) ≤ 3
  case neg => simp only [decide_eq_false hn, Bool.not_false]; exact ⟨false, stop1, stop2, fun h => by cases h⟩
  simp only [decide_eq_true hn, Bool.not_true]
  obtain ⟨b, h1, h2, h3⟩ := sea_loops W H l hm l.length 0 (by omega)
  refine ⟨b, Ev.succ ?_, Ev.succ ?_, fun h => ⟨hW, hH, hn, h3 h⟩⟩
  · simp only [spec_l09Is.j0, Bool.false_eq_true, if_false]; exact h1
  · simp only [impl_IsSea.j0, Bool.false_eq_true, if_false]; exact h2

theorem first1 (a : Bool) (x : Int) : Ev (fun k => impl_first.f k [(⟨a, x⟩ : S57)]) (if a = false then x else 0) := by
  cases a
  · exact Ev.of (fun k => impl_first.mono _ k) (k := 3) (by kernel_rfl)
  · exact Ev.of (fun k => impl_first.mono _ k) (k := 3) (by kernel_rfl)

theorem ev_toSea (W H : Int) (l : List Int) (hm : l.length ≤ 35184372088832) : Ev (fun k => laws_toSea.f k W H l) (W, H, l) := by
  unfold laws_toSea.f
  exact Ev.bind (ev_toInt64S l hm) (Ev.now _)
theorem ev_eqSea (W H : Int) (l : List Int) (hm : l.length ≤ 35184372088832) : Ev (fun k => laws_eqSea.f k W H l W H l) true := by
  unfold laws_eqSea.f
  simp only [if_true]
  refine Ev.bind (ev_eqInt64S l l hm) ?_
  simp only [decide_true, if_true]
  exact Ev.now _
theorem sz_f (W H : Int) (l : List Int) (n : Int) (hm : l.length ≤ maxLen) (hn : 0 ≤ n) (hn2 : n ≤ 1048576) : ∃ t, laws_szSea.f W H l n = some t ∧ (0 ≤ t → (l.length : Int) ≤ n) := by
  unfold laws_szSea.f laws_szInt64S.f
  have : wrap64 (n - (l.length : Int)) = n - (l.length : Int) := by simp only [maxLen] at hm; exact w64 (by omega) (by omega)
  rw [this]
  by_cases h : n - (l.length : Int) < 0
  · rw [if_pos h]; exact ⟨-1, rfl, fun h => by omega⟩
  · rw [if_neg h]; simp only [Option.bind_some]; rw [if_neg h]; exact ⟨_, rfl, fun h => by omega⟩

end Go.Proofs.Ytankgbfddgpfmaa.PAll
