/- FnExactFleetText's one pure statement. -/
import Derived.Test.YtankgbfddgpfmaaStmFnExactFleetText
import Derived.Test.YtankgbfddgpfmaaGText
namespace Go.Proofs.Ytankgbfddgpfmaa.Pure
open Go.RowKit Go.Proofs.Ytankgbfddgpfmaa.PAll Go.Proofs.YtankgbfddgpfmaaW.PrintWords Go.Proofs.YtankgbfddgpfmaaW.PrintLast
set_option linter.unusedVariables false

theorem FnExactFleetText : laws_FnExactFleetText.Pure := by
  intro W H l f hW hH hl hf
  refine Ev.rounds (g := fun k => laws_FnExactFleetText.f k W H l f) ?_
  unfold laws_FnExactFleetText.f
  by_cases hf1 : (f.length : Int) > 1048576
  · simp only [if_pos hf1]; exact Ev.now _
  simp only [if_neg hf1]
  obtain ⟨t, ht, ht2⟩ := sz_f W H l 1048576 hl.1 (by omega) (by omega)
  simp only [ht, Option.bind_some]
  by_cases h : t < 0
  · simp only [if_pos h]; exact Ev.now _
  simp only [if_neg h]
  have hm : l.length ≤ 35184372088832 := by have := ht2 (by omega); omega
  obtain ⟨b, c, h1, h2⟩ := text_agree W H l f hm
  refine Ev.bind (ev_toSea W H l hm) (Ev.bind (ev_toInt64S f (by omega)) (Ev.bind h1 (Ev.bind (ev_toSea W H l hm) (Ev.bind (ev_toInt64S f (by omega)) (Ev.bind h2 ?_)))))
  simp only [if_true, bne_self_eq_false, Bool.false_eq_true, if_false]
  refine Ev.succ ?_
  simp only [laws_FnExactFleetText.j0, Bool.false_eq_true, if_false]
  refine Ev.bind (ev_toSea W H l hm) (Ev.bind (ev_eqSea W H l hm) ?_)
  simp only [if_true]
  refine Ev.bind (ev_toInt64S f (by omega)) (Ev.bind (ev_eqInt64S f f (by omega)) ?_)
  simp only [decide_true, if_true]
  exact Ev.now _

end Go.Proofs.Ytankgbfddgpfmaa.Pure
