/- What both sides' tests of a board and its counts come to. -/
import Derived.Test.YtcfdlbjngpmcaaaGHexBfs
import Derived.Test.YtcfdlbjngpmcaaaPAllx1
import Derived.Test.YtcfdlbjngpmcaaaPAllx5
import Derived.Test.YtcfdlbjngpmcaaaPAllx6
import Derived.Test.YtcfdlbjngpmcaaaPAllx7
namespace Go.Proofs.Ytcfdlbjngpmcaaa.PAll
open Go.RowKit Go.Proofs.YtcfdlbjngpmcaaaW.PrintWords Go.Proofs.YtcfdlbjngpmcaaaW.PrintLast
set_option linter.unusedVariables false

/-- A board. -/
def isB (a : Int) (l : List Int) : Bool := decide (1 ≤ a ∧ a ≤ 8) && decide ((l.length : Int) = a * a) && l.all fun c => decide (0 ≤ c ∧ c ≤ 2)
theorem isB_iff {a : Int} {l : List Int} : isB a l = true ↔ ∃ s : Nat, a = (s : Int) ∧ (1 ≤ s ∧ s ≤ 8) ∧ l.length = s * s ∧ ∀ c ∈ l, 0 ≤ c ∧ c ≤ 2 := by
  unfold isB
  simp only [Bool.and_eq_true, decide_eq_true_eq, List.all_eq_true]
  constructor
  · rintro ⟨⟨h1, h2⟩, h3⟩
    obtain ⟨s, rfl⟩ := Int.eq_ofNat_of_zero_le (by omega : 0 ≤ a)
    exact ⟨s, rfl, by omega, by exact_mod_cast h2, h3⟩
  · rintro ⟨s, rfl, h1, h2, h3⟩
    exact ⟨⟨by omega, by exact_mod_cast h2⟩, h3⟩
theorem side_sq {a : Int} (h : 1 ≤ a ∧ a ≤ 8) : wrap64 (a * a) = a * a := by
  have h1 : a * a ≤ 8 * 8 := Int.mul_le_mul h.2 h.2 (by omega) (by omega)
  have h2 : 0 ≤ a * a := Int.mul_nonneg (by omega) (by omega)
  exact small64 h2 (by omega)
theorem specIn_f (a b c : Int) : spec_l01In.f a b c = some (decide (b ≤ a ∧ a ≤ c)) := by
  unfold spec_l01In.f
  by_cases h : a ≥ b
  · rw [if_pos h]
    have : (b ≤ a ∧ a ≤ c) ↔ a ≤ c := ⟨fun h => h.2, fun k => ⟨h, k⟩⟩
    simp only [this]
  · rw [if_neg h, decide_eq_false (fun k => h k.1)]
theorem within_f (a b c : Int) : impl_within.f a b c = some (decide (b ≤ a ∧ a ≤ c)) := by
  unfold impl_within.f
  by_cases h : b ≤ a
  · rw [if_pos h]
    have : (b ≤ a ∧ a ≤ c) ↔ a ≤ c := ⟨fun h => h.2, fun k => ⟨h, k⟩⟩
    simp only [this]
  · rw [if_neg h, decide_eq_false (fun k => h k.1)]
theorem specIs_l0 (a : Int) (l : List Int) (hm : l.length ≤ 35184372088832) : ∀ (d i : Nat), i + d = l.length → Ev (fun k => spec_l06Is.l0 k (i : Int) a l) ((l.drop i).all fun c => decide (0 ≤ c ∧ c ≤ 2)) := by
  intro d
  induction d with
  | zero =>
    intro i hi
    refine Ev.succ ?_
    have h1 : ¬ ((i : Int) < (l.length : Int)) := by omega
    simp only [spec_l06Is.l0, if_neg h1]
    rw [List.drop_of_length_le (by omega)]
    exact Ev.now _
  | succ d ih =>
    intro i hi
    refine Ev.succ ?_
    have h1 : (i : Int) < (l.length : Int) := by omega
    have h2 : (0 : Int) ≤ (i : Int) := by omega
    have h4 : wrap64 ((i : Int) + 1) = ((i + 1 : Nat) : Int) := by rw [w64 (by omega) (by omega)]; omega
    simp only [spec_l06Is.l0, if_pos h1, if_pos h2, specIn_f, Option.bind_some, rd_nat l i (by omega), h4]
    rw [List.drop_eq_getElem_cons (by omega : i < l.length), List.all_cons]
    by_cases h : 0 ≤ l[i] ∧ l[i] ≤ 2
    · rw [decide_eq_true h]
      simp only [if_true, Bool.true_and]
      exact ih (i + 1) (by omega)
    · rw [decide_eq_false h]
      simp only [Bool.false_eq_true, if_false, Bool.false_and]
      exact Ev.now _
theorem ev_specIs (a : Int) (l : List Int) (hm : l.length ≤ 35184372088832) : Ev (fun k => spec_l06Is.f k a l) (isB a l) := by
  unfold spec_l06Is.f isB
  simp only [specIn_f, Option.bind_some]
  by_cases h : 1 ≤ a ∧ a ≤ 8
  · simp only [decide_eq_true h, if_true, Bool.true_and, side_sq h]
    refine Ev.succ ?_
    by_cases e : (l.length : Int) = a * a
    · have e' : ((l.length : Int) != a * a) = false := by simp [e]
      simp only [spec_l06Is.j0, e', Bool.false_eq_true, if_false, decide_eq_true e, Bool.true_and]
      exact specIs_l0 a l hm l.length 0 (by omega)
    · have e' : ((l.length : Int) != a * a) = true := by simp [e]
      simp only [spec_l06Is.j0, e', if_true, decide_eq_false e, Bool.false_and]
      exact Ev.now _
  · simp only [decide_eq_false h, Bool.false_eq_true, if_false, Bool.false_and]
    refine Ev.succ ?_
    simp only [spec_l06Is.j0, if_true]
    exact Ev.now _
theorem implIdx_l0 (l : List Int) (hm : l.length ≤ 35184372088832) : ∀ (d i : Nat), i + d = l.length → ∃ r, Ev (fun k => slices_IndexFunc_int64_int64_impl_IsHex_1.l0 k l (l.length : Int) (i : Int)) r ∧ (decide (r ≥ 0) = !((l.drop i).all fun c => decide (0 ≤ c ∧ c ≤ 2))) := by
  intro d
  induction d with
  | zero =>
    intro i hi
    refine ⟨-1, Ev.succ ?_, ?_⟩
    · have h1 : ¬ ((i : Int) < (l.length : Int)) := by omega
      simp only [slices_IndexFunc_int64_int64_impl_IsHex_1.l0, if_neg h1]
      exact Ev.now _
    · rw [List.drop_of_length_le (by omega)]; rfl
  | succ d ih =>
    intro i hi
    have h1 : (i : Int) < (l.length : Int) := by omega
    have h2 : (0 : Int) ≤ (i : Int) := by omega
    have h4 : wrap64 ((i : Int) + 1) = ((i + 1 : Nat) : Int) := by rw [w64 (by omega) (by omega)]; omega
    rw [List.drop_eq_getElem_cons (by omega : i < l.length), List.all_cons]
    by_cases h : 0 ≤ l[i] ∧ l[i] ≤ 2
    · obtain ⟨r, h5, h6⟩ := ih (i + 1) (by omega)
      refine ⟨r, Ev.succ ?_, by rw [h6, decide_eq_true h, Bool.true_and]⟩
      simp only [slices_IndexFunc_int64_int64_impl_IsHex_1.l0, if_pos h1, if_pos h2, impl_IsHex_1.f, within_f, Option.bind_some, rd_nat l i (by omega), decide_eq_true h, Bool.not_true, Bool.false_eq_true, if_false, h4]
      exact h5
    · refine ⟨(i : Int), Ev.succ ?_, by rw [decide_eq_false h, Bool.false_and, decide_eq_true (by omega)]; rfl⟩
      simp only [slices_IndexFunc_int64_int64_impl_IsHex_1.l0, if_pos h1, if_pos h2, impl_IsHex_1.f, within_f, Option.bind_some, rd_nat l i (by omega), decide_eq_false h, Bool.not_false, if_true]
      exact Ev.now _
theorem ev_implIs (a : Int) (l : List Int) (hm : l.length ≤ 35184372088832) : Ev (fun k => impl_IsHex.f k a l) (isB a l) := by
  unfold impl_IsHex.f isB
  simp only [within_f, Option.bind_some, impl_size_int64.f]
  by_cases h : 1 ≤ a ∧ a ≤ 8
  · simp only [decide_eq_true h, if_true, Bool.true_and, side_sq h]
    by_cases e : (l.length : Int) = a * a
    · simp only [if_pos e, decide_eq_true e, Bool.true_and]
      obtain ⟨r, h5, h6⟩ := implIdx_l0 l hm l.length 0 (by omega)
      refine Ev.bind (a := !(l.all fun c => decide (0 ≤ c ∧ c ≤ 2))) ?_ (by simp only [Bool.not_not]; exact Ev.now _)
      unfold slices_ContainsFunc_int64_int64_impl_IsHex_1.f slices_IndexFunc_int64_int64_impl_IsHex_1.f
      refine Ev.bind h5 ?_
      rw [List.drop_zero] at h6
      rw [h6]
      exact Ev.now _
    · simp only [if_neg e, decide_eq_false e, Bool.false_and]
      exact Ev.now _
  · simp only [decide_eq_false h, Bool.false_eq_true, if_false, Bool.false_and]
    exact Ev.now _

/-- The cells with a number. -/
def cellsN (l : List Int) (n : Int) : List Int := ((List.range l.length).filter fun (c : Nat) => rd l (c : Int) == n).map fun (c : Nat) => (c : Int)
def cellsTo (l : List Int) (n : Int) (i : Nat) : List Int := ((List.range i).filter fun (c : Nat) => rd l (c : Int) == n).map fun (c : Nat) => (c : Int)
theorem cellsTo_succ (l : List Int) (n : Int) (i : Nat) : cellsTo l n (i + 1) = if rd l (i : Int) = n then cellsTo l n i ++ [(i : Int)] else cellsTo l n i := by
  unfold cellsTo
  rw [List.range_succ, List.filter_append, List.map_append]
  by_cases h : rd l (i : Int) = n
  · have : (rd l (i : Int) == n) = true := by simpa using h
    simp [h]
  · simp [h]
theorem cellsTo_le (l : List Int) (n : Int) (i : Nat) : (cellsTo l n i).length ≤ i := by
  unfold cellsTo
  rw [List.length_map]
  exact Nat.le_trans (List.length_filter_le _ _) (by simp)
theorem mem_cellsN {l : List Int} {n c : Int} : c ∈ cellsN l n ↔ okc l n c := by
  unfold cellsN okc
  rw [List.mem_map]
  constructor
  · rintro ⟨a, h, rfl⟩
    obtain ⟨h1, h2⟩ := List.mem_filter.1 h
    have := List.mem_range.1 h1
    exact ⟨by omega, by omega, by simpa using h2⟩
  · rintro ⟨h1, h2, h3⟩
    obtain ⟨a, rfl⟩ := Int.eq_ofNat_of_zero_le h1
    exact ⟨a, List.mem_filter.2 ⟨List.mem_range.2 (by omega), by simpa using h3⟩, rfl⟩
theorem cellsN_nodup (l : List Int) (n : Int) : (cellsN l n).Nodup := by
  unfold cellsN
  have h : ((List.range l.length).filter fun (c : Nat) => rd l (c : Int) == n).Pairwise (· ≠ ·) := (List.nodup_range (n := l.length)).sublist List.filter_sublist
  exact List.Pairwise.map _ (fun a b h => by omega) h
theorem implCells_l0 (a n : Int) (l : List Int) (hm : l.length ≤ 1048576) : ∀ (d i : Nat), i + d = l.length → Ev (fun k => impl_chosen_impl_Hex_cells_1.l0 k (cellsTo l n i) (l.length : Int) (i : Int) a l n) (cellsN l n) := by
  intro d
  induction d with
  | zero =>
    intro i hi
    refine Ev.succ ?_
    have h1 : ¬ ((i : Int) < (l.length : Int)) := by omega
    simp only [impl_chosen_impl_Hex_cells_1.l0, if_neg h1]
    obtain rfl : i = l.length := by omega
    exact Ev.now _
  | succ d ih =>
    intro i hi
    refine Ev.succ ?_
    have h1 : (i : Int) < (l.length : Int) := by omega
    have h2 : (0 : Int) ≤ (i : Int) := by omega
    have h3 : (cellsTo l n i).length < 17592186044416 := by have := cellsTo_le l n i; omega
    have h4 : wrap64 ((i : Int) + 1) = ((i + 1 : Nat) : Int) := by rw [w64 (by omega) (by omega)]; omega
    have h5 := ih (i + 1) (by omega)
    rw [cellsTo_succ] at h5
    by_cases h : rd l (i : Int) = n
    · have e : (rd l (i : Int) == n) = true := by simpa using h
      rw [if_pos h] at h5
      simp only [impl_chosen_impl_Hex_cells_1.l0, if_pos h1, impl_Hex_cells_1.f, if_pos h2, Option.bind_some, e, if_true, if_pos h3, h4]
      exact h5
    · have e : (rd l (i : Int) == n) = false := by simpa using h
      rw [if_neg h] at h5
      simp only [impl_chosen_impl_Hex_cells_1.l0, if_pos h1, impl_Hex_cells_1.f, if_pos h2, Option.bind_some, e, Bool.false_eq_true, if_false, h4]
      exact h5
theorem ev_implCells (a n : Int) (l : List Int) (hm : l.length ≤ 1048576) : Ev (fun k => impl_Hex_cells.f k a l n) (cellsN l n) := by
  unfold impl_Hex_cells.f impl_size_int64.f impl_chosen_impl_Hex_cells_1.f
  simp only [Option.bind_some]
  exact Ev.bind (implCells_l0 a n l hm l.length 0 (by omega)) (Ev.now _)
theorem specEmpty_l0 (a : Int) (l : List Int) (hm : l.length ≤ 64) (h9 : (cellsN l 0).length ≤ 9) : ∀ (d i : Nat), i + d = l.length → Ev (fun k => spec_l06Empty.l0 k (cellsTo l 0 i) (((3 ^ (cellsTo l 0 i).length : Nat) : Int)) (i : Int) a l) (cellsN l 0, List.replicate (3 ^ (cellsN l 0).length) 0) := by
  have hmono : ∀ i, i ≤ l.length → (cellsTo l 0 i).length ≤ (cellsN l 0).length := fun i hi => by
    unfold cellsTo cellsN
    rw [List.length_map, List.length_map, ← List.countP_eq_length_filter, ← List.countP_eq_length_filter]
    exact List.Sublist.countP_le (List.range_sublist.2 hi)
  intro d
  induction d with
  | zero =>
    intro i hi
    refine Ev.succ ?_
    have h1 : ¬ ((i : Int) < (l.length : Int)) := by omega
    obtain rfl : i = l.length := by omega
    have h5 : 3 ^ (cellsN l 0).length ≤ 3 ^ 9 := Nat.pow_le_pow_right (by omega) h9
    have e : cellsTo l 0 l.length = cellsN l 0 := rfl
    rw [e]
    have h6 : (0 : Int) ≤ ((3 ^ (cellsN l 0).length : Nat) : Int) := Int.natCast_nonneg _
    have h7 : 3 ^ (cellsN l 0).length ≤ 35184372088832 := by omega
    simp only [spec_l06Empty.l0, if_neg h1, if_pos h6, Int.toNat_natCast, if_pos h7]
    exact Ev.now _
  | succ d ih =>
    intro i hi
    refine Ev.succ ?_
    have h1 : (i : Int) < (l.length : Int) := by omega
    have h2 : (0 : Int) ≤ (i : Int) := by omega
    have h3 : (cellsTo l 0 i).length < 17592186044416 := by have := cellsTo_le l 0 i; omega
    have h4 : wrap64 ((i : Int) + 1) = ((i + 1 : Nat) : Int) := by rw [w64 (by omega) (by omega)]; omega
    have h5 := ih (i + 1) (by omega)
    have h8 := hmono (i + 1) (by omega)
    rw [cellsTo_succ] at h5 h8
    by_cases h : rd l (i : Int) = 0
    · rw [if_pos h] at h5 h8
      have h6 : 3 ^ (cellsTo l 0 i).length ≤ 3 ^ 9 := Nat.pow_le_pow_right (by omega) (by simp at h8; omega)
      have h7 : wrap64 (((3 ^ (cellsTo l 0 i).length : Nat) : Int) * 3) = ((3 ^ (cellsTo l 0 i ++ [(i : Int)]).length : Nat) : Int) := by
        have hz : ∀ z : Nat, z ≤ 3 ^ 9 → wrap64 ((z : Int) * 3) = ((z * 3 : Nat) : Int) := fun z hz => by rw [w64 (by omega) (by omega)]; push_cast; rfl
        rw [hz _ h6, List.length_append, List.length_singleton, Nat.pow_succ]
      simp only [spec_l06Empty.l0, if_pos h1, if_pos h2, if_pos h, if_pos h3, h4, h7]
      exact h5
    · rw [if_neg h] at h5
      simp only [spec_l06Empty.l0, if_pos h1, if_pos h2, if_neg h, h4]
      exact h5
theorem ev_specEmpty (a : Int) (l : List Int) (hm : l.length ≤ 64) (h9 : (cellsN l 0).length ≤ 9) : Ev (fun k => spec_l06Empty.f k a l) (cellsN l 0, List.replicate (3 ^ (cellsN l 0).length) 0) := by
  unfold spec_l06Empty.f
  exact specEmpty_l0 a l hm h9 l.length 0 (by omega)

/-- How often a number stands in the first cells. -/
def cntTo (l : List Int) (n : Int) (i : Nat) : Int := ((cellsTo l n i).length : Int)
theorem cntTo_succ (l : List Int) (n : Int) (i : Nat) : cntTo l n (i + 1) = cntTo l n i + if rd l (i : Int) = n then 1 else 0 := by
  unfold cntTo
  rw [cellsTo_succ]
  split <;> simp
def moverN (l : List Int) : Int := if cntTo l 1 l.length - cntTo l 2 l.length = 0 then 1 else if cntTo l 1 l.length - cntTo l 2 l.length = 1 then 2 else 0
theorem specMover_l0 (a : Int) (l : List Int) (hm : l.length ≤ 64) (hv : ∀ c ∈ l, 0 ≤ c ∧ c ≤ 2) : ∀ (d i : Nat), i + d = l.length → Ev (fun k => spec_l06Mover.l0 k [cntTo l 0 i, cntTo l 1 i, cntTo l 2 i] (i : Int) a l) (moverN l, cntTo l 0 l.length) := by
  intro d
  induction d with
  | zero =>
    intro i hi
    refine Ev.succ ?_
    have h1 : ¬ ((i : Int) < (l.length : Int)) := by omega
    obtain rfl : i = l.length := by omega
    have k1 := cellsTo_le l 1 l.length
    have k2 := cellsTo_le l 2 l.length
    have hw : wrap64 (cntTo l 1 l.length - cntTo l 2 l.length) = cntTo l 1 l.length - cntTo l 2 l.length := by
      unfold cntTo; exact w64 (by omega) (by omega)
    have e0 : ∀ x y z : Int, rd [x, y, z] 0 = x := fun _ _ _ => rfl
    have e1 : ∀ x y z : Int, rd [x, y, z] 1 = y := fun _ _ _ => rfl
    have e2 : ∀ x y z : Int, rd [x, y, z] 2 = z := fun _ _ _ => rfl
    have l3 : ∀ x y z : Int, (([x, y, z] : List Int).length : Int) = 3 := fun _ _ _ => rfl
    have g0 : (0 : Int) < 3 := by omega
    have g1 : (1 : Int) < 3 := by omega
    have g2 : (2 : Int) < 3 := by omega
    simp only [spec_l06Mover.l0, if_neg h1, l3, if_pos g0, if_pos g1, if_pos g2, e0, e1, e2, hw]
    unfold moverN
    split
    · exact Ev.now _
    · split
      · exact Ev.now _
      · exact Ev.now _
  | succ d ih =>
    intro i hi
    refine Ev.succ ?_
    have h1 : (i : Int) < (l.length : Int) := by omega
    have h2 : (0 : Int) ≤ (i : Int) := by omega
    have h4 : wrap64 ((i : Int) + 1) = ((i + 1 : Nat) : Int) := by rw [w64 (by omega) (by omega)]; omega
    have h5 := ih (i + 1) (by omega)
    rw [cntTo_succ, cntTo_succ, cntTo_succ] at h5
    have hb := hv l[i] (List.getElem_mem _)
    have hr := rd_nat l i (by omega)
    have b0 : wrap64 (cntTo l 0 i + 1) = cntTo l 0 i + 1 := by
      have := cellsTo_le l 0 i
      unfold cntTo; exact w64 (by omega) (by omega)
    have b1 : wrap64 (cntTo l 1 i + 1) = cntTo l 1 i + 1 := by
      have := cellsTo_le l 1 i
      unfold cntTo; exact w64 (by omega) (by omega)
    have b2 : wrap64 (cntTo l 2 i + 1) = cntTo l 2 i + 1 := by
      have := cellsTo_le l 2 i
      unfold cntTo; exact w64 (by omega) (by omega)
    have l3 : ∀ x y z : Int, (([x, y, z] : List Int).length : Int) = 3 := fun _ _ _ => rfl
    have e0 : ∀ x y z : Int, rd [x, y, z] 0 = x := fun _ _ _ => rfl
    have e1 : ∀ x y z : Int, rd [x, y, z] 1 = y := fun _ _ _ => rfl
    have e2 : ∀ x y z : Int, rd [x, y, z] 2 = z := fun _ _ _ => rfl
    rw [hr] at h5
    rcases (by omega : l[i] = 0 ∨ l[i] = 1 ∨ l[i] = 2) with e | e | e
    · rw [e] at h5 hr
      have g : (0 : Int) < 3 := by omega
      simp only [spec_l06Mover.l0, if_pos h1, if_pos h2, hr, l3, if_pos g, e0, b0, h4, Int.le_refl, if_true]
      simpa using h5
    · rw [e] at h5 hr
      have g : (1 : Int) < 3 := by omega
      have g' : (0 : Int) ≤ 1 := by omega
      simp only [spec_l06Mover.l0, if_pos h1, if_pos h2, hr, l3, if_pos g, if_pos g', e1, b1, h4]
      simpa using h5
    · rw [e] at h5 hr
      have g : (2 : Int) < 3 := by omega
      have g' : (0 : Int) ≤ 2 := by omega
      simp only [spec_l06Mover.l0, if_pos h1, if_pos h2, hr, l3, if_pos g, if_pos g', e2, b2, h4]
      simpa using h5
theorem ev_specMover (a : Int) (l : List Int) (hm : l.length ≤ 64) (hv : ∀ c ∈ l, 0 ≤ c ∧ c ≤ 2) : Ev (fun k => spec_l06Mover.f k a l) (moverN l, ((cellsN l 0).length : Int)) := by
  unfold spec_l06Mover.f
  exact specMover_l0 a l hm hv l.length 0 (by omega)
end Go.Proofs.Ytcfdlbjngpmcaaa.PAll
