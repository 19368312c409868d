/- The cells of a fleet: the codes agree, the sets agree, the lists agree. -/
import Derived.Test.YtankgbfddgpfmaaGFleet
import Derived.Test.YtankgbfddgpfmaaGAre
import Derived.Test.YtankgbfddgpfmaaPAllx17
import Derived.Test.YtankgbfddgpfmaaPAllx18
import Derived.Test.YtankgbfddgpfmaaPAllx19
import Derived.Test.YtankgbfddgpfmaaPAllx3
namespace Go.Proofs.Ytankgbfddgpfmaa.PAll
open Go.RowKit Go.Proofs.YtankgbfddgpfmaaW.PrintWords Go.Proofs.YtankgbfddgpfmaaW.PrintLast
set_option linter.unusedVariables false

theorem pl_cells : ∀ W ∈ [(1 : Int), 2, 3, 4, 5], ∀ H ∈ [(1 : Int), 2, 3, 4, 5], ∀ n ∈ [(1 : Int), 2, 3, 4, 5], (∀ x ∈ Pl W H n, x < 2 ^ (W * H).toNat) := by decide +kernel
theorem IsFleetP.small {W H : Int} {l f : List Int} (hs : IsSeaP W H l) (h : IsFleetP W H l f) : ∀ y ∈ f, y < 2 ^ (W * H).toNat := by
  intro y hy
  obtain ⟨j, hjl, rfl⟩ := List.mem_iff_getElem.mp hy
  have hr := hs.r j (by omega) (by have := h.n; omega)
  have := pl_cells W (by have := five hs.w; simpa using this) H (by have := five hs.h; simpa using this) (rd l (j : Int)) (by have := five ⟨hr.1, hr.2.1⟩; simpa using this) _ (h.s j hjl).1
  rwa [rd_nat f j hjl] at this

/-- The codes: of a sea and a fleet, no cells besides. -/
theorem code_agree (W H : Int) (l f : List Int) (hm : l.length ≤ 35184372088832) (hA : ∀ W H l, impl_Sea_areCells.f W H l [] = some true) :
    ∃ c, Ev (fun k => spec_l09Code.f k W H l f) c ∧ Ev (fun k => impl_fleetCode.f k W H l f []) c ∧ (c = 0 → IsSeaP W H l ∧ IsFleetP W H l f) := by
  obtain ⟨b, h1, h2, h3⟩ := sea_agree W H l hm
  unfold spec_l09Code.f impl_fleetCode.f
  cases b with
  | false => exact ⟨1, Ev.bind h1 (Ev.now _), Ev.bind h2 (Ev.now _), fun h => by cases h⟩
  | true =>
    obtain ⟨b, g1, g2, g3⟩ := fleet_agree W H l f (h3 rfl)
    cases b with
    | false =>
      refine ⟨2, Ev.bind h1 (Ev.bind g1 (Ev.now _)), Ev.bind h2 (Ev.bind g2 ?_), fun h => by cases h⟩
      simp only [Bool.false_eq_true, if_false]
      exact Ev.bind (Ev.cast (first1 _ _) (by rfl)) (Ev.now _)
    | true =>
      refine ⟨0, Ev.bind h1 (Ev.bind g1 (Ev.now _)), Ev.bind h2 (Ev.bind g2 ?_), fun _ => ⟨h3 rfl, g3 rfl⟩⟩
      simp only [if_true, hA, Option.bind_some]
      exact Ev.bind (Ev.cast (first1 _ _) (by rfl)) (Ev.now _)

theorem orl_take_succ (f : List Int) (i : Nat) (h : i < f.length) : orl (f.take (i + 1)) = Go.bits .or .i64 (orl (f.take i)) (rd f (i : Int)) := by
  rw [List.take_succ_eq_append_getElem h, orl_snoc, rd_nat f i h]
theorem ev_set (f : List Int) (hm : f.length ≤ 35184372088832) : Ev (fun k => spec_l09Set.f k f) (orl f) := by
  unfold spec_l09Set.f
  suffices h : ∀ (d i : Nat), i + d = f.length → Ev (fun k => spec_l09Set.l0 k f (orl (f.take i)) (i : Int)) (orl f) from by simpa [orl] using h f.length 0 (by omega)
  intro d
  induction d with
  | zero =>
    intro i hi
    have h1 : ¬ ((i : Int) < (f.length : Int)) := by omega
    refine Ev.succ ?_
    simp only [spec_l09Set.l0, if_neg h1]
    exact Ev.cast (Ev.now _) (by rw [List.take_of_length_le (by omega)])
  | succ d ih =>
    intro i hi
    have h1 : (i : Int) < (f.length : Int) := by omega
    have h2 : (0 : Int) ≤ (i : Int) := by omega
    have h4 : wrap64 ((i : Int) + 1) = ((i + 1 : Nat) : Int) := by rw [w64 (by omega) (by omega)]; omega
    refine Ev.succ ?_
    simp only [spec_l09Set.l0, if_pos h1, if_pos h2, h4, ← orl_take_succ f i (by omega)]
    exact ih (i + 1) (by omega)
theorem ev_whole (f : List Int) (hm : f.length ≤ 35184372088832) : Ev (fun k => impl_whole.f k f) (orl f) := by
  unfold impl_whole.f
  suffices h : ∀ (d i : Nat), i + d = f.length → Ev (fun k => impl_whole.l0 k (orl (f.take i)) f (f.length : Int) (i : Int)) (orl f) from by simpa [orl] using h f.length 0 (by omega)
  intro d
  induction d with
  | zero =>
    intro i hi
    have h1 : ¬ ((i : Int) < (f.length : Int)) := by omega
    refine Ev.succ ?_
    simp only [impl_whole.l0, if_neg h1]
    exact Ev.cast (Ev.now _) (by rw [List.take_of_length_le (by omega)])
  | succ d ih =>
    intro i hi
    have h1 : (i : Int) < (f.length : Int) := by omega
    have h2 : (0 : Int) ≤ (i : Int) := by omega
    have h4 : wrap64 ((i : Int) + 1) = ((i + 1 : Nat) : Int) := by rw [w64 (by omega) (by omega)]; omega
    refine Ev.succ ?_
    simp only [impl_whole.l0, if_pos h1, if_pos h2, h4, ← orl_take_succ f i (by omega)]
    exact ih (i + 1) (by omega)

/-- Has a set a cell? -/
def has (x c : Int) : Bool := Go.bits .and .i64 (shr .i64 x c) 1 == 1
theorem u64_small (c : Int) (h0 : 0 ≤ c) (h1 : c < 9223372036854775808) : IntKind.u64.wrap c = c := by
  rw [show IntKind.u64.wrap c = c % 18446744073709551616 from rfl]; omega
theorem has_out (x c : Int) (n : Nat) (hx0 : 0 ≤ x) (hx : x < 2 ^ n) (hc : (n : Int) ≤ c) (hc2 : c ≤ 64) : has x c = false := by
  have h1 : shr .i64 x c = 0 := by
    show x / 2 ^ min c.toNat 64 = 0
    refine Int.ediv_eq_zero_of_lt hx0 (Int.lt_of_lt_of_le hx ?_)
    exact_mod_cast Nat.pow_le_pow_right (by decide) (by omega)
  unfold has; rw [h1]; decide
theorem orl_small (n : Nat) (hn : n ≤ 25) : ∀ (l : List Int), (∀ y ∈ l, 0 ≤ y ∧ y < 2 ^ n) → 0 ≤ orl l ∧ orl l < 2 ^ n := by
  intro l
  have hp : (2 : Nat) ^ n ≤ 33554432 := Nat.pow_le_pow_right (n := 2) (by decide) hn
  suffices h : ∀ (l : List Int) (u : Int), (0 ≤ u ∧ u < 2 ^ n) → (∀ y ∈ l, 0 ≤ y ∧ y < 2 ^ n) → (0 ≤ l.foldl (Go.bits .or .i64) u ∧ l.foldl (Go.bits .or .i64) u < 2 ^ n) from h l 0 ⟨by omega, Int.pow_pos (by decide)⟩
  intro l
  induction l with
  | nil => intro u hu _; exact hu
  | cons y l ih =>
    intro u hu h
    refine ih _ ?_ (fun z hz => h z (by simp [hz]))
    have hy := h y (by simp)
    obtain ⟨a, rfl⟩ := Int.eq_ofNat_of_zero_le hu.1
    obtain ⟨b, rfl⟩ := Int.eq_ofNat_of_zero_le hy.1
    have ha : a < 2 ^ n := by exact_mod_cast hu.2
    have hb : b < 2 ^ n := by exact_mod_cast hy.2
    rw [or_nat a b (by omega) (by omega)]
    exact ⟨by omega, by exact_mod_cast Nat.or_lt_two_pow ha hb⟩

/-- The cells of a set among those from i on. -/
def cellsUp (x : Int) (n : Nat) (i : Nat) : List Int := ((List.range n).drop i).filterMap fun (j : Nat) => if has x (j : Int) = true then some (j : Int) else none
theorem cellsUp_step (x : Int) (n i : Nat) (h : i < n) : cellsUp x n i = (if has x (i : Int) = true then [(i : Int)] else []) ++ cellsUp x n (i + 1) := by
  unfold cellsUp
  rw [List.drop_eq_getElem_cons (by simpa using h), List.filterMap_cons]
  simp only [List.getElem_range]
  split <;> rename_i e
  · split at e
    · cases e
    · rename_i hh; rw [if_neg hh]; rfl
  · split at e
    · rename_i hh; rw [if_pos hh]; cases e; rfl
    · cases e
theorem cellsUp_end (x : Int) (n i : Nat) (h : n ≤ i) : cellsUp x n i = [] := by
  unfold cellsUp; rw [List.drop_of_length_le (by simpa using h)]; rfl
theorem cellsUp_le (x : Int) (n i : Nat) : (cellsUp x n i).length ≤ n - i := by
  unfold cellsUp
  exact Nat.le_trans (List.length_filterMap_le _ _) (by simp)

theorem ev_spec_cells (x : Int) : Ev (fun k => spec_l09Cells.f k x) (cellsUp x 25 0) := by
  unfold spec_l09Cells.f
  suffices h : ∀ (d i : Nat) (out : List Int), i + d = 25 → out.length ≤ i → Ev (fun k => spec_l09Cells.l0 k x out (i : Int)) (out ++ cellsUp x 25 i) from by simpa using h 25 0 [] (by omega) (by simp)
  intro d
  induction d with
  | zero =>
    intro i out hi ho
    have h1 : ¬ ((i : Int) < 25) := by omega
    refine Ev.succ ?_
    simp only [spec_l09Cells.l0, if_neg h1]
    exact Ev.cast (Ev.now _) (by rw [cellsUp_end x 25 i (by omega), List.append_nil])
  | succ d ih =>
    intro i out hi ho
    have h1 : (i : Int) < 25 := by omega
    have h2 : IntKind.u64.wrap (i : Int) = (i : Int) := u64_small _ (by omega) (by omega)
    have h3 : (0 : Int) ≤ (i : Int) := by omega
    have h4 : wrap64 ((i : Int) + 1) = ((i + 1 : Nat) : Int) := by rw [w64 (by omega) (by omega)]; omega
    have h5 : out.length < 17592186044416 := by omega
    refine Ev.succ ?_
    simp only [spec_l09Cells.l0, if_pos h1, h2, if_pos h3, h4, if_pos h5]
    rw [cellsUp_step x 25 i (by omega)]
    cases e : has x (i : Int) with
    | true =>
      have e' : Go.bits .and .i64 (shr .i64 x (i : Int)) 1 = 1 := by simpa [has] using e
      simp only [if_pos e', if_true]
      rw [← List.append_assoc]
      exact ih (i + 1) _ (by omega) (by simp; omega)
    | false =>
      have e' : ¬ Go.bits .and .i64 (shr .i64 x (i : Int)) 1 = 1 := by simpa [has] using e
      simp only [if_neg e', Bool.false_eq_true, if_false, List.nil_append]
      exact ih (i + 1) _ (by omega) (by omega)
theorem ev_impl_cells (f : List Int) (n : Nat) (hn : n ≤ 25) (hm : f.length ≤ 35184372088832) : Ev (fun k => impl_chosen_impl_CellsOfFleet_1.f k (n : Int) f) (cellsUp (orl f) n 0) := by
  unfold impl_chosen_impl_CellsOfFleet_1.f
  suffices h : ∀ (d i : Nat) (out : List Int), i + d = n → out.length ≤ i → Ev (fun k => impl_chosen_impl_CellsOfFleet_1.l0 k out (n : Int) (i : Int) f) (out ++ cellsUp (orl f) n i) from by simpa using h n 0 [] (by omega) (by simp)
  intro d
  induction d with
  | zero =>
    intro i out hi ho
    have h1 : ¬ ((i : Int) < (n : Int)) := by omega
    refine Ev.succ ?_
    simp only [impl_chosen_impl_CellsOfFleet_1.l0, if_neg h1]
    exact Ev.cast (Ev.now _) (by rw [cellsUp_end _ n i (by omega), List.append_nil])
  | succ d ih =>
    intro i out hi ho
    have h1 : (i : Int) < (n : Int) := by omega
    have h3 : (0 : Int) ≤ (i : Int) := by omega
    have h4 : wrap64 ((i : Int) + 1) = ((i + 1 : Nat) : Int) := by rw [w64 (by omega) (by omega)]; omega
    have h5 : out.length < 17592186044416 := by omega
    refine Ev.succ ?_
    simp only [impl_chosen_impl_CellsOfFleet_1.l0, if_pos h1, h4, if_pos h5]
    rw [cellsUp_step _ n i (by omega)]
    have hc : Ev (fun k => impl_CellsOfFleet_1.f k (i : Int) f) (has (orl f) (i : Int)) := by
      unfold impl_CellsOfFleet_1.f
      simp only [if_pos h3]
      exact Ev.bind (ev_whole f hm) (Ev.now _)
    refine Ev.bind hc ?_
    cases e : has (orl f) (i : Int) with
    | true =>
      simp only [if_true]
      rw [← List.append_assoc]
      exact ih (i + 1) _ (by omega) (by simp; omega)
    | false =>
      simp only [Bool.false_eq_true, if_false, List.nil_append]
      exact ih (i + 1) _ (by omega) (by omega)
/-- Cells beyond the sea are none of a fleet's. -/
theorem cellsUp_cut (x : Int) (n : Nat) (hx0 : 0 ≤ x) (hx : x < 2 ^ n) : ∀ (d m : Nat), m = n + d → m ≤ 64 → cellsUp x m 0 = cellsUp x n 0 := by
  intro d
  induction d with
  | zero => intro m hm _; rw [hm, Nat.add_zero]
  | succ d ih =>
    intro m hm h64
    have h1 := ih (n + d) rfl (by omega)
    rw [← h1, hm]
    unfold cellsUp
    rw [List.drop_zero, List.drop_zero, show n + (d + 1) = (n + d) + 1 by omega, List.range_succ, List.filterMap_append]
    have : has x ((n + d : Nat) : Int) = false := has_out x _ n hx0 hx (by omega) (by omega)
    simp only [List.filterMap_cons, List.filterMap_nil, this, Bool.false_eq_true, if_false, List.append_nil]

theorem cells_agree (W H : Int) (l f : List Int) (hm : l.length ≤ 35184372088832) (hA : ∀ W H l, impl_Sea_areCells.f W H l [] = some true) :
    ∃ P c, Ev (fun k => spec_CellsOfFleet.f k W H l f) (P, c) ∧ Ev (fun k => impl_CellsOfFleet.f k W H l f) (P, c) ∧ P.length ≤ 25 := by
  obtain ⟨c, h1, h2, h3⟩ := code_agree W H l f hm hA
  unfold spec_CellsOfFleet.f impl_CellsOfFleet.f impl_Sea_cells.f
  by_cases hc : c = 0
  · subst hc
    obtain ⟨hs, hf⟩ := h3 rfl
    have hfl : f.length ≤ 35184372088832 := by have := hf.n; omega
    have hcells : (W * H) = (((W * H).toNat : Nat) : Int) := by
      have : 0 ≤ W * H := Int.mul_nonneg (by have := hs.w; omega) (by have := hs.h; omega)
      omega
    have hle : (W * H).toNat ≤ 25 := by
      rcases five hs.w with rfl | rfl | rfl | rfl | rfl <;> have := hs.h <;> omega
    have hsm := orl_small (W * H).toNat hle f (fun y hy => ⟨by have := hf.cs hs y hy; omega, hf.small hs y hy⟩)
    have heq : cellsUp (orl f) 25 0 = cellsUp (orl f) (W * H).toNat 0 := cellsUp_cut _ _ hsm.1 hsm.2 (25 - (W * H).toNat) 25 (by omega) (by omega)
    have hw : wrap64 (W * H) = (((W * H).toNat : Nat) : Int) := by rw [w64 (by omega) (by omega)]; exact hcells
    refine ⟨cellsUp (orl f) 25 0, 0, Ev.bind h1 ?_, Ev.bind h2 ?_, cellsUp_le _ 25 0⟩
    · simp only [if_true]
      exact Ev.bind (ev_set f hfl) (Ev.bind (ev_spec_cells _) (Ev.now _))
    · simp only [if_true, Option.bind_some, hw]
      rw [heq]
      exact Ev.bind (ev_impl_cells f _ hle hfl) (Ev.now _)
  · refine ⟨[], c, Ev.bind h1 ?_, Ev.bind h2 ?_, by simp⟩
    · simp only [if_neg hc]; exact Ev.now _
    · simp only [if_neg hc]; exact Ev.now _
end Go.Proofs.Ytankgbfddgpfmaa.PAll
