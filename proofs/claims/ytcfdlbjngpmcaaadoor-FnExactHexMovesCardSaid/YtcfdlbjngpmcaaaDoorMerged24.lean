/- Texts of this claim that follow each other, laid together. -/
import Derived.Test.YtcfdlbjngpmcaaaDoorMerged23
import Derived.Test.YtcfdlbjngpmcaaaDoorMerged21
import Derived.Test.YtcfdlbjngpmcaaaDoorPAllx8
import Derived.Test.YtcfdlbjngpmcaaaDoorWWords
import Derived.Deep.Slices
import Derived.Lib.SmallJoins
import Derived.WalkKit
import Derived.ProofKit
import Derived.OpenShut
import Derived.Test.YtcfdlbjngpmcaaaDoorRows
import Derived.Test.YtcfdlbjngpmcaaaDoorPAllx10
import Derived.ShutString
import Derived.ChangeOld
import Derived.Below
import Derived.SizedLaws
import Derived.LaidMore
import Derived.Stop.Joined

section
/- HexMoves on both sides: the empty cells by which the mover wins. -/
namespace Go.Proofs.YtcfdlbjngpmcaaaDoor.PAll
open Go.RowKit Go.Proofs.YtcfdlbjngpmcaaaDoorW.PrintWords Go.Proofs.YtcfdlbjngpmcaaaDoorW.PrintLast
set_option linter.unusedVariables false
set_option linter.unusedSimpArgs false

/-- Does the mover win by a cell? -/
noncomputable def wins (s : Nat) (l : List Int) (c : Int) : Bool := W s (l.set c.toNat (mvI l)) == mvI l
theorem ev_pred {s : Nat} {l : List Int} {n : Nat} (hP : Pos s l) (hn : (cellsN l 0).length = n + 1) {c : Int} (hc : okc l 0 c) {m : SMap} (hS : Sound s m) (hm : m.length + Tn n ≤ 1048576) :
    ∃ m', Ev (fun k => impl_HexMoves.pred k (s : Int) l (mvI l) m c) (!(wins s l c), m') ∧ Sound s m' ∧ m'.length ≤ m.length + Tn n := by
  obtain ⟨hP', _, hn'⟩ := hP.move hc
  obtain ⟨m1, e1, hS1, hl1⟩ := ev_find (s := s) n _ m hP' (by omega) hS hm
  refine ⟨m1, ?_, hS1, hl1⟩
  unfold impl_HexMoves.pred
  simp only [with_ok hP (v := mvI l) ⟨hc.1, hc.2.1⟩, Option.bind_some]
  refine Ev.bind e1 ?_
  unfold wins
  exact Ev.now _
theorem ev_ix {s : Nat} {l : List Int} {n : Nat} (hP : Pos s l) (hn : (cellsN l 0).length = n + 1) :
    ∀ (d i : Nat) (m : SMap), i + d = (cellsN l 0).length → Sound s m → m.length + d * Tn n ≤ 1048576 → (∀ j : Nat, j < i → wins s l (rd (cellsN l 0) (j : Int)) = true) →
      ∃ r m', Ev (fun k => impl_HexMoves.ix k (s : Int) l (mvI l) (cellsN l 0) (i : Int) m) (r, m') ∧ Sound s m' ∧
        ((r = -1 ∧ ∀ j : Nat, j < (cellsN l 0).length → wins s l (rd (cellsN l 0) (j : Int)) = true) ∨ ∃ j : Nat, r = (j : Int) ∧ j < (cellsN l 0).length ∧ wins s l (rd (cellsN l 0) (j : Int)) = false ∧ (∀ j' : Nat, j' < j → wins s l (rd (cellsN l 0) (j' : Int)) = true) ∧ m'.length + ((cellsN l 0).length - j - 1) * Tn n ≤ 1048576) := by
  have hle := hP.le
  have hcl := cellsTo_le l 0 l.length
  have e0 : cellsTo l 0 l.length = cellsN l 0 := rfl
  rw [e0] at hcl
  intro d
  induction d with
  | zero =>
    intro i m hi hS hm hw
    have h1 : ¬ ((i : Int) < ((cellsN l 0).length : Int)) := by omega
    refine ⟨-1, m, Ev.succ ?_, hS, Or.inl ⟨rfl, fun j hj => hw j (by omega)⟩⟩
    simp only [impl_HexMoves.ix, if_neg h1]
    exact Ev.now _
  | succ d ih =>
    intro i m hi hS hm hw
    have h1 : (i : Int) < ((cellsN l 0).length : Int) := by omega
    have h2 : (0 : Int) ≤ (i : Int) := by omega
    have h4 : wrap64 ((i : Int) + 1) = ((i + 1 : Nat) : Int) := by rw [w64 (by omega) (by omega)]; omega
    have hr : rd (cellsN l 0) (i : Int) = (cellsN l 0)[i] := rd_nat _ i (by omega)
    have hok := mem_cellsN.1 (List.getElem_mem (by omega : i < (cellsN l 0).length))
    rw [← hr] at hok
    have hT : (d + 1) * Tn n = d * Tn n + Tn n := Nat.succ_mul d (Tn n)
    obtain ⟨m1, e1, hS1, hl1⟩ := ev_pred hP hn hok hS (by omega)
    cases c : wins s l (rd (cellsN l 0) (i : Int)) with
    | false =>
      rw [c] at e1
      refine ⟨(i : Int), m1, Ev.succ ?_, hS1, Or.inr ⟨i, rfl, by omega, c, hw, ?_⟩⟩
      · simp only [impl_HexMoves.ix, if_pos h1, if_pos h2]
        refine Ev.bind e1 ?_
        simp only [Bool.not_false, if_true]
        exact Ev.now _
      · rw [show (cellsN l 0).length - i - 1 = d by omega]; omega
    | true =>
      rw [c] at e1
      obtain ⟨r, m2, e2, hS2, hr2⟩ := ih (i + 1) m1 (by omega) hS1 (by omega) (fun j hj => by
        rcases Nat.lt_or_ge j i with h5 | h5
        · exact hw j h5
        · have : j = i := by omega
          subst this; exact c)
      refine ⟨r, m2, Ev.succ ?_, hS2, hr2⟩
      simp only [impl_HexMoves.ix, if_pos h1, if_pos h2]
      refine Ev.bind e1 ?_
      simp only [Bool.not_true, Bool.false_eq_true, if_false, h4]
      exact e2
theorem take_filter_succ {p : Int → Bool} {x : List Int} {j : Nat} (h : j < x.length) : (x.take (j + 1)).filter p = if p x[j] = true then (x.take j).filter p ++ [x[j]] else (x.take j).filter p := by
  rw [List.take_succ_eq_append_getElem h, List.filter_append]
  by_cases e : p x[j] = true
  · rw [if_pos e, List.filter_cons_of_pos e]; rfl
  · rw [if_neg e, List.filter_cons_of_neg e]; simp
theorem ev_dl {s : Nat} {l : List Int} {n : Nat} (hP : Pos s l) (hn : (cellsN l 0).length = n + 1) :
    ∀ (d j i : Nat) (y : List Int) (m : SMap), j + d = (cellsN l 0).length → i < j → y.length = (cellsN l 0).length → y.take i = ((cellsN l 0).take j).filter (wins s l) → y.drop j = (cellsN l 0).drop j → Sound s m → m.length + d * Tn n ≤ 1048576 →
      ∃ m', Ev (fun k => impl_HexMoves.dl k (s : Int) l (mvI l) y (i : Int) (j : Int) m) ((cellsN l 0).filter (wins s l), m') := by
  have hle := hP.le
  have hcl := cellsTo_le l 0 l.length
  have e0 : cellsTo l 0 l.length = cellsN l 0 := rfl
  rw [e0] at hcl
  intro d
  induction d with
  | zero =>
    intro j i y m hj hij hy ht hdr hS hm
    obtain rfl : j = (cellsN l 0).length := by omega
    have h1 : ¬ (((cellsN l 0).length : Int) < (y.length : Int)) := by omega
    have h2 : (0 : Int) ≤ (i : Int) := by omega
    have h3 : (i : Int) < (y.length : Int) := by omega
    refine ⟨m, Ev.succ ?_⟩
    rw [List.take_length] at ht
    simp only [impl_HexMoves.dl, if_neg h1, if_pos h2, if_pos h3, Int.toNat_natCast, ht]
    exact Ev.now _
  | succ d ih =>
    intro j i y m hj hij hy ht hdr hS hm
    have h1 : (j : Int) < (y.length : Int) := by omega
    have h2 : (0 : Int) ≤ (j : Int) := by omega
    have h3 : (0 : Int) ≤ (i : Int) := by omega
    have h5 : (i : Int) < (y.length : Int) := by omega
    have h4 : Unit → wrap64 ((j : Int) + 1) = ((j + 1 : Nat) : Int) := fun _ => by rw [w64 (by omega) (by omega)]; omega
    have h6 : Unit → wrap64 ((i : Int) + 1) = ((i + 1 : Nat) : Int) := fun _ => by rw [w64 (by omega) (by omega)]; omega
    have hjl : j < (cellsN l 0).length := by omega
    have hr : Unit → rd y (j : Int) = (cellsN l 0)[j] := fun _ => by
      have a := List.getElem?_drop (xs := y) (i := j) (j := 0)
      have b := List.getElem?_drop (xs := cellsN l 0) (i := j) (j := 0)
      have hjy : j < y.length := by omega
      rw [hdr, b] at a
      rw [Nat.add_zero, List.getElem?_eq_getElem hjl, List.getElem?_eq_getElem hjy] at a
      rw [rd_nat y j hjy]
      exact (Option.some.inj a).symm
    have hok := mem_cellsN.1 (List.getElem_mem hjl)
    have hT : (d + 1) * Tn n = d * Tn n + Tn n := Nat.succ_mul d (Tn n)
    have hdr' : y.drop (j + 1) = (cellsN l 0).drop (j + 1) := by
      rw [← List.drop_drop (i := 1), ← List.drop_drop (i := 1) (l := cellsN l 0), hdr]
    obtain ⟨m1, e1, hS1, hl1⟩ := ev_pred hP hn hok hS (by omega)
    cases c : wins s l (cellsN l 0)[j] with
    | false =>
      rw [c] at e1
      obtain ⟨m2, e2⟩ := ih (j + 1) i y m1 (by omega) (by omega) hy (by rw [take_filter_succ hjl, if_neg (by rw [c]; decide)]; exact ht) hdr' hS1 (by omega)
      refine ⟨m2, Ev.succ ?_⟩
      simp only [impl_HexMoves.dl, if_pos h1, if_pos h2, hr ()]
      refine Ev.bind e1 ?_
      simp only [Bool.not_false, if_true, h4 ()]
      exact e2
    | true =>
      rw [c] at e1
      obtain ⟨m2, e2⟩ := ih (j + 1) (i + 1) (y.set i (cellsN l 0)[j]) m1 (by omega) (by omega) (by rw [List.length_set]; exact hy)
        (by
          rw [take_filter_succ hjl, if_pos c, ← ht]
          rw [List.take_succ_eq_append_getElem (by rw [List.length_set]; omega), List.getElem_set_self, List.take_set_of_le (by omega)])
        (by rw [List.drop_set_of_lt (by omega)]; exact hdr') hS1 (by omega)
      refine ⟨m2, Ev.succ ?_⟩
      simp only [impl_HexMoves.dl, if_pos h1, if_pos h2, hr ()]
      refine Ev.bind e1 ?_
      simp only [Bool.not_true, Bool.false_eq_true, if_false, if_pos h3, if_pos h5, Int.toNat_natCast, h4 (), h6 ()]
      exact e2
theorem filter_all' {p : Int → Bool} {x : List Int} (h : ∀ j : Nat, j < x.length → p (rd x (j : Int)) = true) : x.filter p = x := by
  rw [List.filter_eq_self]
  intro c hc
  obtain ⟨j, hj, rfl⟩ := List.mem_iff_getElem.1 hc
  rw [← rd_nat x j hj]
  exact h j hj
theorem take_filter_all {p : Int → Bool} {x : List Int} {j : Nat} (hj : j ≤ x.length) (h : ∀ j' : Nat, j' < j → p (rd x (j' : Int)) = true) : (x.take j).filter p = x.take j := by
  rw [List.filter_eq_self]
  intro c hc
  obtain ⟨i, hi, rfl⟩ := List.mem_iff_getElem.1 hc
  rw [List.length_take] at hi
  rw [List.getElem_take, ← rd_nat x i (by omega)]
  exact h i (by omega)
theorem ev_implMoves {a : Int} {l : List Int} (hm : l.length ≤ 1048576) {s : Nat} (ha : a = (s : Int)) (hc : codeN a l = 0) (hP : Pos s l) (h9 : (cellsN l 0).length ≤ 9) : Ev (fun k => impl_HexMoves.f k a l) ((cellsN l 0).filter (wins s l), 0) := by
  subst ha
  unfold impl_HexMoves.f
  refine Ev.bind (ev_implCode _ l hm) ?_
  simp only [if_pos hc]
  refine Ev.bind (ev_implMover hP.le _) (Ev.bind (ev_implCells _ 0 l hm) ?_)
  cases hn : (cellsN l 0).length with
  | zero =>
    have e : cellsN l 0 = [] := List.eq_nil_of_length_eq_zero hn
    rw [e]
    have h1 : ¬ ((0 : Int) < (([] : List Int).length : Int)) := by simp
    refine Ev.bind (a := (-1, [])) (Ev.succ ?_) ?_
    · simp only [impl_HexMoves.ix, if_neg h1]
      exact Ev.now _
    · simp only [if_true]
      exact Ev.now _
  | succ n =>
    have hb0 : ([] : SMap).length + (n + 1) * Tn n ≤ 1048576 := by
      have hT : Tn (n + 1) ≤ 1048576 := Tn_le _ (by omega)
      rw [Tn] at hT
      rw [List.length_nil]; omega
    obtain ⟨r, m', e1, hS, hr⟩ := ev_ix hP hn (n + 1) 0 [] (by omega) (fun _ _ v hv => by cases hv) hb0 (fun j hj => absurd hj (by omega))
    refine Ev.bind e1 ?_
    rcases hr with ⟨rfl, hall⟩ | ⟨j, rfl, hj, hjf, hjt, hml⟩
    · simp only [if_true]
      rw [filter_all' hall]
      exact Ev.now _
    · have hne : ¬ ((j : Int) = -1) := by omega
      have h4 : Unit → wrap64 ((j : Int) + 1) = ((j + 1 : Nat) : Int) := fun _ => by rw [w64 (by omega) (by omega)]; omega
      simp only [if_neg hne, h4 ()]
      clear hb0 e1
      obtain ⟨m2, e2⟩ := ev_dl hP hn ((cellsN l 0).length - j - 1) (j + 1) j (cellsN l 0) m' (by omega) (by omega) rfl
        (by
          rw [take_filter_succ hj, if_neg (by rw [← rd_nat _ j hj, hjf]; decide), take_filter_all (by omega) hjt])
        rfl hS hml
      exact Ev.bind e2 (Ev.now _)
theorem ev_specMoves_l0 {s : Nat} {l : List Int} (hP : Pos s l) (h9 : (cellsN l 0).length ≤ 9) : ∀ (d i : Nat) (known : List Int), i + d = (cellsN l 0).length → KS s l known →
    Ev (fun k => spec_HexMoves.l0 k (mvI l) (cellsN l 0) known (((cellsN l 0).take i).filter (wins s l)) ((3 ^ i : Nat) : Int) (i : Int) (s : Int) l) ((cellsN l 0).filter (wins s l), 0) := by
  have hle := hP.le
  have hmv := hP.mv
  intro d
  induction d with
  | zero =>
    intro i known hi hK
    refine Ev.succ ?_
    have h1 : ¬ ((i : Int) < ((cellsN l 0).length : Int)) := by omega
    obtain rfl : i = (cellsN l 0).length := by omega
    simp only [spec_HexMoves.l0, if_neg h1, List.take_length]
    exact Ev.now _
  | succ d ih =>
    intro i known hi hK
    refine Ev.succ ?_
    have h1 : (i : Int) < ((cellsN l 0).length : Int) := by omega
    have h2 : (0 : Int) ≤ (i : Int) := by omega
    have h4 : wrap64 ((i : Int) + 1) = ((i + 1 : Nat) : Int) := by rw [w64 (by omega) (by omega)]; omega
    have hw3 : wrap64 (3 - mvI l) = 3 - mvI l := w64 (by omega) (by omega)
    have hr : rd (cellsN l 0) (i : Int) = (cellsN l 0)[i] := rd_nat _ i (by omega)
    have hok := mem_cellsN.1 (List.getElem_mem (by omega : i < (cellsN l 0).length))
    have hD := Desc.first hP
    obtain ⟨_, hD', hnum⟩ := hD.move (by omega : i < (cellsN l 0).length) (by rw [hr]; exact hok.2.2)
    rw [← hr] at hok
    obtain ⟨_, hmv', hn'⟩ := hP.move hok
    obtain ⟨k1, e1, hK1⟩ := ev_winner (s := s) h9 _ _ known rfl hD' hK
    rw [hmv', hnum, numL_first, Int.zero_add] at e1
    have hmp := mul_step (by omega : i ≤ 9) hmv
    have hp3 := pow_step (by omega : i ≤ 9)
    have hown := own_ok hle
    have hlen : (((cellsN l 0).take i).filter (wins s l)).length < 17592186044416 := by
      have := List.length_filter_le (wins s l) ((cellsN l 0).take i)
      rw [List.length_take] at this
      omega
    have hi5 := ih (i + 1) k1 (by omega) hK1
    rw [take_filter_succ (by omega : i < (cellsN l 0).length), ← hr] at hi5
    simp only [spec_HexMoves.l0, if_pos h1, hown, Option.bind_some, if_pos h2, if_pos hok.1, if_pos hok.2.1, hmp, hw3]
    refine Ev.bind e1 ?_
    by_cases c : W s (l.set (rd (cellsN l 0) (i : Int)).toNat (mvI l)) = mvI l
    · have cw : wins s l (rd (cellsN l 0) (i : Int)) = true := by unfold wins; rw [beq_iff_eq]; exact c
      rw [if_pos cw] at hi5
      simp only [if_pos c, if_pos hlen, hp3, h4]
      exact hi5
    · have cw : ¬ (wins s l (rd (cellsN l 0) (i : Int)) = true) := by unfold wins; rw [beq_iff_eq]; exact c
      rw [if_neg cw] at hi5
      simp only [if_neg c, hp3, h4]
      exact hi5
/-- HexMoves on both sides. -/
theorem hexMoves_agree (a : Int) (l : List Int) (hm : l.length ≤ 1048576) : ∃ R : List Int × Int, Ev (fun k => spec_HexMoves.f k a l) R ∧ Ev (fun k => impl_HexMoves.f k a l) R ∧ R.1.length ≤ 9 := by
  by_cases hc : codeN a l = 0
  · obtain ⟨s, ha, hP, h9⟩ := codeN_pos hc
    refine ⟨((cellsN l 0).filter (wins s l), 0), ?_, ev_implMoves hm ha hc hP h9, Nat.le_trans (List.length_filter_le _ _) h9⟩
    subst ha
    unfold spec_HexMoves.f
    refine Ev.bind (ev_specCode _ l hm) ?_
    simp only [if_pos hc, if_true]
    refine Ev.bind (ev_specEmpty _ l hP.le h9) ?_
    exact ev_specMoves_l0 hP h9 (cellsN l 0).length 0 _ (by omega) (KS.first s l)
  · refine ⟨([], codeN a l), ?_, ?_, by simp⟩
    · unfold spec_HexMoves.f
      refine Ev.bind (ev_specCode _ l hm) ?_
      simp only [if_neg hc]
      exact Ev.now _
    · unfold impl_HexMoves.f
      refine Ev.bind (ev_implCode _ l hm) ?_
      simp only [if_neg hc]
      exact Ev.now _
end Go.Proofs.YtcfdlbjngpmcaaaDoor.PAll
end

section
/- FnExactHexMoves's one pure statement. -/
namespace Go.Proofs.YtcfdlbjngpmcaaaDoor.Pure
open Go.RowKit Go.Proofs.YtcfdlbjngpmcaaaDoor.PAll Go.Proofs.YtcfdlbjngpmcaaaDoorW.PrintWords Go.Proofs.YtcfdlbjngpmcaaaDoorW.PrintLast
set_option linter.unusedVariables false
set_option linter.unusedSimpArgs false

theorem ev_markHex (a : Int) (l : List Int) (hm : l.length ≤ 35184372088832) : Ev (fun k => laws_markHex.f k a l 1) (1 + (l.length : Int), marks l.length 1) := by
  unfold laws_markHex.f
  exact Ev.bind (ev_markInt64S l 1 (by omega) (by omega) hm) (Ev.now _)
theorem FnExactHexMoves : laws_FnExactHexMoves.Pure := by
  intro a l ha hl
  refine Ev.rounds (g := fun k => laws_FnExactHexMoves.f k a l) ?_
  unfold laws_FnExactHexMoves.f
  obtain ⟨t, ht, ht2⟩ := szHex_f a l 1048576 hl.1 (by omega) (by omega)
  simp only [ht, Option.bind_some]
  by_cases h : t < 0
  · simp only [if_pos h]; exact Ev.now _
  simp only [if_neg h]
  have hll : l.length ≤ 1048576 := by have := ht2 h; omega
  have hl1 : l.length ≤ 35184372088832 := by omega
  obtain ⟨R, hs1, hi1, hR⟩ := hexMoves_agree a l hll
  have hR' : R.1.length ≤ 35184372088832 := by omega
  refine Ev.bind (ev_toHex a l hl1) (Ev.bind hs1 (Ev.bind (ev_toHex a l hl1) (Ev.bind hi1 (Ev.bind (ev_eqInt64S _ _ hR') ?_))))
  simp only [decide_true, if_true, bne_self_eq_false]
  refine Ev.succ ?_
  simp only [laws_FnExactHexMoves.j0, Bool.false_eq_true, if_false]
  refine Ev.bind (ev_toHex a l hl1) (Ev.bind (ev_eqHex a l hl1) ?_)
  simp only [if_true]
  refine Ev.bind (ev_markHex a l hl1) ?_
  have hk : ¬ ((1 : Int) + (l.length : Int) < 0) := by omega
  simp only [if_neg hk]
  refine Ev.bind (ev_eqInt64S _ _ hR') ?_
  simp only [decide_true, if_true, bne_self_eq_false]
  refine Ev.succ ?_
  simp only [laws_FnExactHexMoves.j1, Bool.false_eq_true, if_false]
  refine Ev.bind (ev_markInt64S R.1 1 (by omega) (by omega) hR') (Ev.bind (ev_heldInt64S R.1.length 1 (by omega) (by omega) hR') ?_)
  have hq : ¬ ((1 : Int) + (R.1.length : Int) < 0) := by omega
  simp only [if_neg hq, if_true]
  refine Ev.bind (ev_toHex a l hl1) (Ev.bind hi1 (Ev.bind (ev_eqInt64S _ _ hR') ?_))
  simp only [decide_true, if_true, bne_self_eq_false]
  refine Ev.succ ?_
  simp only [laws_FnExactHexMoves.j2, Bool.false_eq_true, if_false]
  refine Ev.bind (ev_heldInt64S R.1.length 1 (by omega) (by omega) hR') ?_
  simp only [if_neg hq, if_true]
  exact Ev.now _

end Go.Proofs.YtcfdlbjngpmcaaaDoor.Pure
end

section
/- How a law's argument that came in as data (a whole number, a slice, a slice of slices) is read in the print's kinds: no condition of its own. -/
namespace Go.Proofs.YtcfdlbjngpmcaaaDoor.GRead
open Go.RowKit Go.ChangeShapes Go.WideShapes Go.Deep Go.Proofs.YtcfdlbjngpmcaaaDoorW.PrintWords
set_option linter.unusedVariables false

/-- Whatever is read at type t is of the kind d. -/
def Opens {α : Type} (P : Program) (t : TypeId) (d : Kd α) (wf : α → Prop) : Prop :=
  ∀ {H : Type} {enc : TypeId × Value → H} {w : World} {base : Nat} {spare : Nat → Bool} {held : Bool} {fuel : Nat} {cs : List Value} {x : DataW H × List MemPlace},
    DataW.trod enc P w base spare held fuel t cs = some x → ∃ a, d.K w a cs ∧ wf a

theorem opens_int {P : Program} {t : TypeId} {k : IntKind} (ht : P.underlying t = some (.int k)) : Opens P t (Kd.int k) (fun n => (Lit.int k n).wf = true) := by
  intro H enc w base spare held fuel cs x h
  obtain ⟨m, rfl, rfl, hw⟩ := DataW.trod_int ht h
  exact ⟨_, rfl, hw⟩

theorem opens_slice {α : Type} {P : Program} {t e : TypeId} {d : Kd α} {wf : α → Prop} (z : α) (ht : P.underlying t = some (.slice e)) (hc : P.cellsOf e = d.sz) (he : Opens P e d wf) :
    Opens P t (Kd.slice e d) (fun l => l.length ≤ maxLen ∧ ∀ y ∈ l, wf y) := by
  intro H enc w base spare held fuel cs x h
  rcases open_slice ht h with ⟨rfl, _⟩ | ⟨a, len, cap, m, n, D, Pl, rfl, hb, hl, hm, hmm, _, hel⟩
  · exact ⟨[], ⟨none, 0, rfl, by simp, by simp [Kd.C, ReadsRow]⟩, by simp, by simp⟩
  · have hlm : len ≤ m := by rw [hmm]; split <;> omega
    have each : ∀ i, ∃ y, i < len → ∃ c, c.length = d.sz ∧ d.K w y c ∧ wf y ∧ ∀ j u, c[j]? = some u → w.cell? (a.add (i * d.sz + j)) = some u := by
      intro i
      by_cases hi : i < len
      · obtain ⟨cs', h1, h2⟩ := hel i (by omega)
        obtain ⟨y, hy, hwy⟩ := he h2
        refine ⟨y, fun _ => ⟨cs', d.K_len hy, hy, hwy, fun j u hj => ?_⟩⟩
        obtain ⟨h3, _, h4⟩ := World.cells?_some h1
        have hjl : j < cs'.length := (List.getElem?_eq_some_iff.1 hj).1
        have := h4 j (by omega)
        rw [hc] at this
        rw [hj] at this
        rw [← this]
        congr 1
        simp only [Addr.add]
        split <;> split <;> (try split) <;> simp_all <;> omega
      · exact ⟨z, fun hi' => absurd hi' hi⟩
    obtain ⟨Y, hY⟩ := Classical.axiomOfChoice each
    have hlen : ((List.range len).map Y).length = len := by simp
    refine ⟨(List.range len).map Y, ⟨some a, cap, by rw [hlen], by rw [hlen]; exact hl, ⟨rfl, by rw [hlen]; simp only [maxLen] at hm; omega, fun _ => ⟨a, rfl, fun j p hj => ?_⟩⟩⟩, by rw [hlen]; omega, ?_⟩
    · have hjl : j < len := by have := (List.getElem?_eq_some_iff.1 hj).1; rwa [hlen] at this
      rw [List.getElem?_map, List.getElem?_range hjl] at hj
      simp only [Option.map_some, Option.some.injEq] at hj
      subst hj
      obtain ⟨c, h1, h2, _, h3⟩ := hY j hjl
      exact ⟨c, h1, h2, h3⟩
    · intro y hy
      obtain ⟨j, hj, rfl⟩ := List.mem_map.1 hy
      exact (hY j (List.mem_range.1 hj)).choose_spec.2.2.1

end Go.Proofs.YtcfdlbjngpmcaaaDoor.GRead
end

section
/- laws.FnExactHexMoves, called with any arguments that can be read, answers true and leaves them as they read: for every input, no condition. -/
namespace Go.Proofs.YtcfdlbjngpmcaaaDoor.fnExactHexMoves
open Go.ChangeShapes Go.WideShapes Go.ChangeAt Go.RowKit Go.Proofs.YtcfdlbjngpmcaaaDoorW.PrintWords Go.Proofs.YtcfdlbjngpmcaaaDoor.GRead Go.Proofs.YtcfdlbjngpmcaaaDoor.PAll
open Go.ChangeMaps (open_string shut_string)
set_option linter.unusedVariables false
theorem own : ownKnob Tryd.prog.godebug = none := by kernel_rfl
theorem laidOut : laidOutB Tryd.prog = true := by kernel_rfl
theorem walk (Q : laws_FnExactHexMoves.Pure) (a0_0 : Int) (A0_1 : Option Addr) (c0_1 : Nat) (l0_1 : List Int) (w : World) (hw0_0 : (Lit.int .i64 a0_0).wf = true) (hr0_1 : Kd.C (Kd.int .i64) w A0_1 l0_1.length l0_1) (hc0_1 : l0_1.length ≤ c0_1) (hw0_1 : l0_1.length ≤ maxLen ∧ ∀ y0_ ∈ l0_1, (Lit.int .i64 y0_).wf = true) :
    Calls Tryd.prog 4 #[.agg #[.int .i64 a0_0, .slice A0_1 l0_1.length c0_1]] w fun e w' => e = .returned (.bool true) ∧ Below w.heap.size w w' := by
  obtain ⟨k, h⟩ := Q a0_0 l0_1 hw0_0 hw0_1
  refine (laws_FnExactHexMoves.calls k a0_0 A0_1 c0_1 l0_1 true w hr0_1 hc0_1 h).mono ?_
  rintro e w' ⟨rfl, hd⟩
  exact ⟨rfl, hd⟩
theorem door_met (os : Os) (args : Array Value) : laidMetH Tryd.prog Rows.fnExactHexMovesRow.laid ((World.doorLaid Tryd.prog 400 os).forCall (fun _ _ => 0) ⟨#[], args, []⟩).memory :=
  laidMetH_of_parts3 (fuel := 8) (laidMet_of_run' 8 (by kernel_rfl) (by kernel_rfl)) (by kernel_rfl) (by kernel_rfl)
set_option maxRecDepth 100000 in
theorem lifted (os : Os) (started : os.Started) (H : Type) (enc : TypeId × Value → H) :
    ReturnsInHanded {} Tryd.checked os 4 .any (fun w args => (Rows.fnExactHexMovesSpec.pre enc Tryd.prog Tryd.f4 [] false w args ∧ laidMetH Tryd.prog Rows.fnExactHexMovesRow.laid w) ∧ sizedMet enc Tryd.prog Tryd.f4 (OpenSpec.ofChange Rows.fnExactHexMovesSpec) false w args)
      (Rows.fnExactHexMovesSpec.post enc Tryd.prog Tryd.f4 false true false false) := by
  refine returnsInHanded_of_change_and (C := Tryd.checked) (X := fun w _ => laidMetH Tryd.prog Rows.fnExactHexMovesRow.laid w) (fun _ _ _ hh h => h.of_heap hh) own started (by kernel_rfl) Tryd.func4
    (ChangeSpec.witness_shaped (enc := enc) (C := Tryd.checked) (os := os) (X := fun w _ => laidMetH Tryd.prog Rows.fnExactHexMovesRow.laid w) false (World.doorLaid Tryd.prog 400 os) #[.agg #[.int .i64 0, .slice none 0 0]] 8 rfl (World.shaped_of_RefB (by kernel_rfl) (by kernel_rfl)) (by kernel_rfl) (by kernel_rfl) (by kernel_rfl) (door_met os _)) ?_
  intro W base args ds gs before hval0 hW hcnd hsz0 hL _
  have hval : ∀ (j : Nat) t v, Tryd.f4.params[j]? = some t → args[j]? = some v → Value.okWide Tryd.prog W .any base t v := hval0
  have hW' := hW
  obtain ⟨p, q, hA0, hV, rfl, hfz, hnd⟩ := hW
  have hA : DataW.TrodAll enc Tryd.prog W 0 (fun _ => true) true Tryd.f4.params.toList args.toList ds p := hA0
  rw [Tryd.params4] at hA hval
  obtain ⟨v0, vs0, d0, ds0, p0, q0, hargs, rfl, rfl, h0, r0⟩ := trodAll_cons hA
  obtain ⟨rfl, rfl, rfl⟩ := trodAll_nil r0
  obtain rfl : args = #[v0] := by cases args; simp_all
  obtain ⟨rfl, rfl⟩ := trodVars_none hV
  have k0 := h0
  have lt0 : ∀ x ∈ p0, x.block < W.heap.size := by obtain ⟨m, hm⟩ := k0; exact DataW.trod_lt m _ _ _ hm
  obtain ⟨u0_0, u0_1, y0_0, y0_1, m0, rfl, hd0, hp0, t0_0, t0_1⟩ := Go.Joins.open_agg2 Tryd.underlying24 (by kernel_rfl) (by kernel_rfl) (hval 0 24 v0 rfl rfl) h0
  obtain ⟨a0_0, hs0_0, hw0_0⟩ := (opens_int Tryd.underlying2) t0_0
  obtain rfl : u0_0 = .int .i64 a0_0 := by simpa [Kd.int, Kd.scalar] using hs0_0
  obtain ⟨l0_1, ⟨A0_1, c0_1, hs0_1, hc0_1, hr0_1⟩, hw0_1⟩ := (opens_slice 0 Tryd.underlying22 (by kernel_rfl) (opens_int Tryd.underlying2)) t0_1
  obtain rfl : u0_1 = .slice A0_1 l0_1.length c0_1 := by simpa using hs0_1
  clear hA0 hval0 hsz0
  refine (walk Pure.FnExactHexMoves a0_0 A0_1 c0_1 l0_1 W hw0_0 hr0_1 hc0_1 hw0_1).mono fun e W' ⟨he, bel⟩ => ?_
  subst he
  exact ⟨_, rfl, _, _, _, [], _, [], hW', trodAll_mk1 (shut_bool Tryd.underlying4 _), (trodAll_cons_mk (Below.trod laidOut (by kernel_rfl) (of_decide_eq_true (by kernel_rfl)) k0 bel lt0) trodAll_mk0), rfl, bel.frame _, fun h => by cases h⟩
theorem over : Rows.fnExactHexMovesRow.holds Tryd.pinned (OpenSpec.ofChange Rows.fnExactHexMovesSpec) :=
  OpenClaim.holds_of_wide 4 Tryd.f4 rfl rfl rfl rfl rfl rfl rfl ⟨rfl, rfl, rfl, rfl, rfl⟩ rfl rfl rfl rfl rfl (by kernel_rfl) Tryd.func4 (by kernel_rfl)
    (of_decide_eq_true (by kernel_rfl)) (by unfold Func.isWrapper; first | (rw [if_pos (by decide +kernel)]; kernel_rfl) | (rw [if_neg (by decide +kernel)]; exact ⟨rfl, rfl⟩))
    (fun os started H enc _ => lifted os started H enc)
theorem proved : Rows.FnExactHexMovesSaid := over
end Go.Proofs.YtcfdlbjngpmcaaaDoor.fnExactHexMoves
namespace Go.Proofs.YtcfdlbjngpmcaaaDoor
/-- The row, under a short name, for the claim. -/
theorem fnExactHexMoves_holds : Rows.FnExactHexMovesSaid := fnExactHexMoves.proved
#print axioms fnExactHexMoves_holds
end Go.Proofs.YtcfdlbjngpmcaaaDoor
end
