/- FnExactDeadCells's one pure statement. -/
import Derived.Test.YtcfdlbjngpmcaaaStmFnExactDeadCells
import Derived.Test.YtcfdlbjngpmcaaaGHexDead
namespace Go.Proofs.Ytcfdlbjngpmcaaa.Pure
open Go.RowKit Go.Proofs.Ytcfdlbjngpmcaaa.PAll Go.Proofs.YtcfdlbjngpmcaaaW.PrintWords Go.Proofs.YtcfdlbjngpmcaaaW.PrintLast
set_option linter.unusedVariables false

theorem ev_toHex (a : Int) (l : List Int) (hm : l.length ≤ 35184372088832) : Ev (fun k => laws_toHex.f k a l) (a, l) := by
  unfold laws_toHex.f
  exact Ev.bind (ev_toInt64S l hm) (Ev.now _)
theorem ev_eqHex (a : Int) (l : List Int) (hm : l.length ≤ 35184372088832) : Ev (fun k => laws_eqHex.f k a l a l) true := by
  unfold laws_eqHex.f
  simp only [if_true]
  refine Ev.bind (ev_eqInt64S l l hm) ?_
  simp only [decide_true, if_true]
  exact Ev.now _
theorem ev_markHex (a : Int) (l : List Int) (hm : l.length ≤ 35184372088832) : Ev (fun k => laws_markHex.f k a l 1) (1 + (l.length : Int), marks l.length 1) := by
  unfold laws_markHex.f
  exact Ev.bind (ev_markInt64S l 1 (by omega) (by omega) hm) (Ev.now _)
theorem szHex_f (a : Int) (l : List Int) (n : Int) (hl : l.length ≤ maxLen) (h0 : 0 ≤ n) (h1 : n ≤ 35184372088832) : ∃ t, laws_szHex.f a l n = some t ∧ (¬ t < 0 → (l.length : Int) ≤ n) := by
  unfold laws_szHex.f laws_szInt64S.f
  have hw : wrap64 (n - (l.length : Int)) = n - (l.length : Int) := by
    simp only [maxLen] at hl
    exact w64 (by omega) (by omega)
  rw [hw]
  by_cases h : n - (l.length : Int) < 0
  · rw [if_pos h]
    have h1 : (-1 : Int) < 0 := by omega
    simp only [Option.bind_some, if_pos h1]
    exact ⟨-1, rfl, fun h => absurd h1 h⟩
  · rw [if_neg h]
    simp only [Option.bind_some, if_neg h]
    exact ⟨_, rfl, fun _ => by omega⟩
theorem FnExactDeadCells : laws_FnExactDeadCells.Pure := by
  intro a l ha hl
  refine Ev.rounds (g := fun k => laws_FnExactDeadCells.f k a l) ?_
  unfold laws_FnExactDeadCells.f
  obtain ⟨t, ht, ht2⟩ := szHex_f a l 1048576 hl.1 (by omega) (by omega)
  simp only [ht, Option.bind_some]
  by_cases h : t < 0
  · simp only [if_pos h]; exact Ev.now _
  simp only [if_neg h]
  have hll : l.length ≤ 1048576 := by have := ht2 h; omega
  have hl1 : l.length ≤ 35184372088832 := by omega
  have hR := deadR_len a l
  have hR' : (deadR a l).1.length ≤ 35184372088832 := by omega
  refine Ev.bind (ev_toHex a l hl1) (Ev.bind (ev_specDead a l hll) (Ev.bind (ev_toHex a l hl1) (Ev.bind (ev_implDead a l hll) (Ev.bind (ev_eqInt64S _ _ hR') ?_))))
  simp only [decide_true, if_true, bne_self_eq_false]
  refine Ev.succ ?_
  simp only [laws_FnExactDeadCells.j0, Bool.false_eq_true, if_false]
  refine Ev.bind (ev_toHex a l hl1) (Ev.bind (ev_eqHex a l hl1) ?_)
  simp only [if_true]
  refine Ev.bind (ev_markHex a l hl1) ?_
  have hk : ¬ ((1 : Int) + (l.length : Int) < 0) := by omega
  simp only [if_neg hk]
  refine Ev.bind (ev_eqInt64S _ _ hR') ?_
  simp only [decide_true, if_true, bne_self_eq_false]
  refine Ev.succ ?_
  simp only [laws_FnExactDeadCells.j1, Bool.false_eq_true, if_false]
  refine Ev.bind (ev_markInt64S (deadR a l).1 1 (by omega) (by omega) hR') (Ev.bind (ev_heldInt64S (deadR a l).1.length 1 (by omega) (by omega) hR') ?_)
  have hq : ¬ ((1 : Int) + ((deadR a l).1.length : Int) < 0) := by omega
  simp only [if_neg hq, if_true]
  refine Ev.bind (ev_toHex a l hl1) (Ev.bind (ev_implDead a l hll) (Ev.bind (ev_eqInt64S _ _ hR') ?_))
  simp only [decide_true, if_true, bne_self_eq_false]
  refine Ev.succ ?_
  simp only [laws_FnExactDeadCells.j2, Bool.false_eq_true, if_false]
  refine Ev.bind (ev_heldInt64S (deadR a l).1.length 1 (by omega) (by omega) hR') ?_
  simp only [if_neg hq, if_true]
  exact Ev.now _

end Go.Proofs.Ytcfdlbjngpmcaaa.Pure
