/- FnExactAnswersOf's one pure statement. -/
import Derived.Test.YtankgbfddgpfmaaStmFnExactAnswersOf
import Derived.Test.YtankgbfddgpfmaaGAnswers
namespace Go.Proofs.Ytankgbfddgpfmaa.Pure
open Go.RowKit Go.Proofs.Ytankgbfddgpfmaa.PAll Go.Proofs.YtankgbfddgpfmaaW.PrintWords Go.Proofs.YtankgbfddgpfmaaW.PrintLast
set_option linter.unusedVariables false

theorem FnExactAnswersOf : laws_FnExactAnswersOf.Pure := by
  intro W H l f cs hW hH hl hf hcs
  refine Ev.rounds (g := fun k => laws_FnExactAnswersOf.f k W H l f cs) ?_
  unfold laws_FnExactAnswersOf.f
  by_cases hf1 : (f.length : Int) > 1048576
  · simp only [if_pos hf1]; exact Ev.now _
  simp only [if_neg hf1]
  by_cases hc1 : (cs.length : Int) > 1048576
  · simp only [if_pos hc1]; exact Ev.now _
  simp only [if_neg hc1]
  obtain ⟨t, ht, ht2⟩ := sz_f W H l 1048576 hl.1 (by omega) (by omega)
  simp only [ht, Option.bind_some]
  by_cases h : t < 0
  · simp only [if_pos h]; exact Ev.now _
  simp only [if_neg h]
  have hll : l.length ≤ 1048576 := by have := ht2 (by omega); omega
  have hm : l.length ≤ 35184372088832 := by omega
  have hfm : f.length ≤ 35184372088832 := by omega
  have hcm : cs.length ≤ 35184372088832 := by omega
  obtain ⟨P, c, h1, h2, h3⟩ := answers_agree W H l f cs hm (by omega)
  refine Ev.bind (ev_toSea W H l hm) (Ev.bind (ev_toInt64S f hfm) (Ev.bind (ev_toInt64S cs hcm) (Ev.bind h1 (Ev.bind (ev_toSea W H l hm) (Ev.bind (ev_toInt64S f hfm) (Ev.bind (ev_toInt64S cs hcm) (Ev.bind h2 (Ev.bind (ev_eqInt64S P P (by omega)) ?_))))))))
  simp only [decide_true, if_true, bne_self_eq_false]
  refine Ev.succ ?_
  simp only [laws_FnExactAnswersOf.j0, Bool.false_eq_true, if_false]
  refine Ev.bind (ev_toSea W H l hm) (Ev.bind (ev_eqSea W H l hm) ?_)
  simp only [if_true]
  refine Ev.bind (ev_toInt64S f hfm) (Ev.bind (ev_eqInt64S f f hfm) ?_)
  simp only [decide_true, if_true]
  refine Ev.bind (ev_toInt64S cs hcm) (Ev.bind (ev_eqInt64S cs cs hcm) ?_)
  simp only [decide_true, if_true]
  refine Ev.bind (ev_markSea W H l 1 (by omega) (by omega) hm) ?_
  refine Ev.bind (ev_markInt64S f (1 + (l.length : Int)) (by omega) (by omega) hfm) ?_
  refine Ev.bind (ev_markInt64S cs (1 + (l.length : Int) + (f.length : Int)) (by omega) (by omega) hcm) ?_
  have hk : ¬ ((1 : Int) + (l.length : Int) + (f.length : Int) + (cs.length : Int) < 0) := by omega
  simp only [if_neg hk]
  refine Ev.bind (ev_eqInt64S P P (by omega)) ?_
  simp only [decide_true, if_true, bne_self_eq_false]
  refine Ev.succ ?_
  simp only [laws_FnExactAnswersOf.j1, Bool.false_eq_true, if_false]
  refine Ev.bind (ev_markInt64S P 1 (by omega) (by omega) (by omega)) (Ev.bind (ev_heldInt64S P.length 1 (by omega) (by omega) (by omega)) ?_)
  have hq : ¬ ((1 : Int) + (P.length : Int) < 0) := by omega
  simp only [if_neg hq, if_true]
  refine Ev.bind (ev_toSea W H l hm) (Ev.bind (ev_toInt64S f hfm) (Ev.bind (ev_toInt64S cs hcm) (Ev.bind h2 (Ev.bind (ev_eqInt64S P P (by omega)) ?_))))
  simp only [decide_true, if_true, bne_self_eq_false]
  refine Ev.succ ?_
  simp only [laws_FnExactAnswersOf.j2, Bool.false_eq_true, if_false]
  refine Ev.bind (ev_heldInt64S P.length 1 (by omega) (by omega) (by omega)) ?_
  simp only [if_neg hq, if_true]
  exact Ev.now _

end Go.Proofs.Ytankgbfddgpfmaa.Pure
