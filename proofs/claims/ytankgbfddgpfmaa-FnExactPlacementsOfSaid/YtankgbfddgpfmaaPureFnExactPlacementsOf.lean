/- FnExactPlacementsOf's one pure statement: the program's list of placements is the reference's, and its marks are held. -/
import Derived.Test.YtankgbfddgpfmaaStmFnExactPlacementsOf
import Derived.Test.YtankgbfddgpfmaaGPlace
namespace Go.Proofs.Ytankgbfddgpfmaa.Pure
open Go.RowKit Go.Proofs.Ytankgbfddgpfmaa.PAll Go.Proofs.YtankgbfddgpfmaaW.PrintWords Go.Proofs.YtankgbfddgpfmaaW.PrintLast
set_option linter.unusedVariables false

theorem places_agree (W H : Int) (l : List Int) (n : Int) (hm : l.length ≤ 35184372088832) :
    ∃ P c, Ev (fun k => spec_PlacementsOf.f k W H l n) (P, c) ∧ Ev (fun k => impl_PlacementsOf.f k W H l n) (P, c) ∧ P.length ≤ 50 := by
  obtain ⟨b, h1, h2, h3⟩ := sea_agree W H l hm
  unfold spec_PlacementsOf.f impl_PlacementsOf.f
  simp only [in_f, within_f, Option.bind_some]
  cases b with
  | false =>
    refine ⟨[], 1, Ev.bind h1 ?_, Ev.bind h2 (Ev.bind (first2 _ _ _ _) ?_), by simp⟩
    · simp only [Bool.false_eq_true, if_false]; exact Ev.now _
    · simp only [if_true]; exact Ev.now _
  | true =>
    obtain ⟨hW, hH, _, _⟩ := h3 rfl
    by_cases hn : 1 ≤ n ∧ n ≤ 5
    · refine ⟨Pl W H n, 0, Ev.bind h1 ?_, Ev.bind h2 (Ev.bind (first2 _ _ _ _) ?_), pl_len hW hH hn⟩
      · simp only [decide_eq_true hn, if_true]; exact Ev.bind (ev_spec_pl W H n l hW hH hn) (Ev.now _)
      · simp only [decide_eq_true hn, Bool.true_eq_false, if_false, if_true]; exact Ev.bind (ev_impl_pl W H n l hW hH hn) (Ev.now _)
    · refine ⟨[], 2, Ev.bind h1 ?_, Ev.bind h2 (Ev.bind (first2 _ _ _ _) ?_), by simp⟩
      · simp only [decide_eq_false hn, if_true, Bool.false_eq_true, if_false]; exact Ev.now _
      · simp only [decide_eq_false hn, Bool.true_eq_false, if_false, if_true]; exact Ev.now _

theorem FnExactPlacementsOf : laws_FnExactPlacementsOf.Pure := by
  intro W H l n hW hH hl hn
  refine Ev.rounds (g := fun k => laws_FnExactPlacementsOf.f k W H l n) ?_
  unfold laws_FnExactPlacementsOf.f
  obtain ⟨t, ht, ht2⟩ := sz_f W H l 1048576 hl.1 (by omega) (by omega)
  simp only [ht, Option.bind_some]
  by_cases h : t < 0
  · simp only [if_pos h]; exact Ev.now _
  simp only [if_neg h]
  have hlen : l.length ≤ 1048576 := by have := ht2 (by omega); omega
  have hm : l.length ≤ 35184372088832 := by omega
  obtain ⟨P, c, h1, h2, h3⟩ := places_agree W H l n hm
  refine Ev.bind (ev_toSea W H l hm) (Ev.bind h1 (Ev.bind (ev_toSea W H l hm) (Ev.bind h2 (Ev.bind (ev_eqInt64S P P (by omega)) ?_))))
  simp only [decide_true, if_true, bne_self_eq_false]
  refine Ev.succ ?_
  simp only [laws_FnExactPlacementsOf.j0, Bool.false_eq_true, if_false]
  refine Ev.bind (ev_toSea W H l hm) (Ev.bind (ev_eqSea W H l hm) ?_)
  simp only [if_true]
  refine Ev.bind (ev_markSea W H l 1 (by omega) (by omega) hm) ?_
  have hk : ¬ ((1 : Int) + (l.length : Int) < 0) := by omega
  simp only [if_neg hk]
  refine Ev.bind (ev_eqInt64S P P (by omega)) ?_
  simp only [decide_true, if_true, bne_self_eq_false]
  refine Ev.succ ?_
  simp only [laws_FnExactPlacementsOf.j1, Bool.false_eq_true, if_false]
  refine Ev.bind (ev_markInt64S P 1 (by omega) (by omega) (by omega)) (Ev.bind (ev_heldInt64S P.length 1 (by omega) (by omega) (by omega)) ?_)
  have hq : ¬ ((1 : Int) + (P.length : Int) < 0) := by omega
  simp only [if_neg hq, if_true]
  refine Ev.bind (ev_toSea W H l hm) (Ev.bind h2 (Ev.bind (ev_eqInt64S P P (by omega)) ?_))
  simp only [decide_true, if_true, bne_self_eq_false]
  refine Ev.succ ?_
  simp only [laws_FnExactPlacementsOf.j2, Bool.false_eq_true, if_false]
  refine Ev.bind (ev_heldInt64S P.length 1 (by omega) (by omega) (by omega)) ?_
  simp only [if_neg hq, if_true]
  exact Ev.now _

end Go.Proofs.Ytankgbfddgpfmaa.Pure
