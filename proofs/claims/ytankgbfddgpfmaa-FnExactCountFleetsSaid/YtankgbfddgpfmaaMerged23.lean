/- Texts of this claim that follow each other, laid together. -/
import Derived.Test.YtankgbfddgpfmaaPAllx28
import Derived.Test.YtankgbfddgpfmaaGHelp
import Derived.KernelRfl
import Derived.Test.YtankgbfddgpfmaaPAllx1
import Derived.Test.YtankgbfddgpfmaaPAllx11
import Derived.Test.YtankgbfddgpfmaaPAllx12
import Derived.Test.YtankgbfddgpfmaaPAllx2
import Derived.Test.YtankgbfddgpfmaaPAllx3
import Derived.Laws.BitsLemmas
import Derived.Test.YtankgbfddgpfmaaPAllx14
import Derived.Test.YtankgbfddgpfmaaPAllx15
import Derived.Test.YtankgbfddgpfmaaMerged10
import Derived.Test.YtankgbfddgpfmaaMerged19
import Derived.Test.YtankgbfddgpfmaaWWords
import Derived.Deep.Slices
import Derived.Lib.SmallJoins
import Derived.WalkKit
import Derived.ProofKit
import Derived.OpenShut

section
-- Written by wip/pp.py of this work (a driver around the kit's print), out of the translation; Lean checks it.
namespace Go.Proofs.Ytankgbfddgpfmaa.PAll
open Go.RowKit Go.Proofs.YtankgbfddgpfmaaW.PrintWords Go.Proofs.YtankgbfddgpfmaaW.PrintLast

/-- The one pure statement of laws_FnExactCountFleets. -/
def laws_FnExactCountFleets.Pure : Prop := ∀ (a0_0 : Int) (a0_1 : Int) (l0_2 : List Int), ((Lit.int .i64 a0_0).wf = true) → ((Lit.int .i64 a0_1).wf = true) → (l0_2.length ≤ maxLen ∧ ∀ y0_ ∈ l0_2, (Lit.int .i64 y0_).wf = true) → ∃ k, laws_FnExactCountFleets.f k a0_0 a0_1 l0_2 = some true
end Go.Proofs.Ytankgbfddgpfmaa.PAll
end

section
/- What is told of a sea: the program's IsSea and the reference's agree. -/
namespace Go.Proofs.Ytankgbfddgpfmaa.PAll
open Go.RowKit Go.Proofs.YtankgbfddgpfmaaW.PrintWords Go.Proofs.YtankgbfddgpfmaaW.PrintLast
set_option linter.unusedVariables false

def Rising (l : List Int) (i : Nat) : Prop := ∀ j, i ≤ j → j < l.length → 1 ≤ rd l (j : Int) ∧ rd l (j : Int) ≤ 5 ∧ (0 < j → rd l (j : Int) ≤ rd l ((j : Int) - 1))
theorem sea_loops (W H : Int) (l : List Int) (hm : l.length ≤ 35184372088832) : ∀ (d i : Nat), i + d = l.length →
    ∃ b, Ev (fun k => spec_l09Is.l0 k (i : Int) W H l) b ∧ Ev (fun k => impl_IsSea.l0 k l (l.length : Int) (i : Int) W H l) b ∧ (b = true → Rising l i) := by
  intro d
  induction d with
  | zero =>
    intro i hi
    have h1 : ¬ ((i : Int) < (l.length : Int)) := by omega
    refine ⟨true, Ev.succ ?_, Ev.succ ?_, fun _ j hj hjl => by omega⟩
    · simp only [spec_l09Is.l0, if_neg h1]; exact Ev.now _
    · simp only [impl_IsSea.l0, if_neg h1]; exact Ev.now _
  | succ d ih =>
    intro i hi
    obtain ⟨b, hb1, hb2, hb3⟩ := ih (i + 1) (by omega)
    have h1 : (i : Int) < (l.length : Int) := by omega
    have h2 : (0 : Int) ≤ (i : Int) := by omega
    have h4 : wrap64 ((i : Int) + 1) = ((i + 1 : Nat) : Int) := by rw [w64 (by omega) (by omega)]; omega
    have hin : spec_l01In.f (rd l (i : Int)) 1 5 = some (decide (1 ≤ rd l (i : Int)) && decide (rd l (i : Int) ≤ 5)) := by
      unfold spec_l01In.f; by_cases h : rd l (i : Int) ≥ 1
      · rw [if_pos h, decide_eq_true (show 1 ≤ rd l (i : Int) from h)]; simp
      · rw [if_neg h, decide_eq_false (show ¬ 1 ≤ rd l (i : Int) from h)]; simp
    have hwi : impl_within.f (rd l (i : Int)) 1 5 = some (decide (1 ≤ rd l (i : Int)) && decide (rd l (i : Int) ≤ 5)) := by
      unfold impl_within.f; by_cases h : 1 ≤ rd l (i : Int)
      · rw [if_pos h, decide_eq_true h]; simp
      · rw [if_neg h, decide_eq_false h]; simp
    by_cases hr : 1 ≤ rd l (i : Int) ∧ rd l (i : Int) ≤ 5
    · have ht : (decide (1 ≤ rd l (i : Int)) && decide (rd l (i : Int) ≤ 5)) = true := by simp [hr.1, hr.2]
      by_cases hp : i = 0
      · subst hp
        have h5 : ¬ (((0 : Nat) : Int) > 0) := by omega
        refine ⟨b, Ev.succ ?_, Ev.succ ?_, fun hb j hj hjl => ?_⟩
        · simp only [spec_l09Is.l0, if_pos h1, if_pos h2, hin, ht, Option.bind_some, if_true, if_neg h5, h4]; exact hb1
        · simp only [impl_IsSea.l0, if_pos h1, if_pos h2, hwi, ht, Option.bind_some, if_true, if_neg h5, h4]; exact hb2
        · rcases Nat.eq_zero_or_pos j with rfl | hjp
          · exact ⟨hr.1, hr.2, fun h => by omega⟩
          · exact hb3 hb j hjp hjl
      · have h5 : ((i : Nat) : Int) > 0 := by omega
        have h6 : wrap64 ((i : Int) - 1) = (i : Int) - 1 := w64 (by omega) (by omega)
        have h7 : (0 : Int) ≤ (i : Int) - 1 := by omega
        have h8 : (i : Int) - 1 < (l.length : Int) := by omega
        by_cases hg : rd l (i : Int) > rd l ((i : Int) - 1)
        · refine ⟨false, Ev.succ ?_, Ev.succ ?_, fun h => by cases h⟩
          · simp only [spec_l09Is.l0, if_pos h1, if_pos h2, hin, ht, Option.bind_some, if_true, if_pos h5, h6, if_pos h7, if_pos h8, if_pos hg]; exact Ev.now _
          · simp only [impl_IsSea.l0, if_pos h1, if_pos h2, hwi, ht, Option.bind_some, if_true, if_pos h5, h6, if_pos h7, if_pos h8, if_pos hg]; exact Ev.now _
        · refine ⟨b, Ev.succ ?_, Ev.succ ?_, fun hb j hj hjl => ?_⟩
          · simp only [spec_l09Is.l0, if_pos h1, if_pos h2, hin, ht, Option.bind_some, if_true, if_pos h5, h6, if_pos h7, if_pos h8, if_neg hg, h4]; exact hb1
          · simp only [impl_IsSea.l0, if_pos h1, if_pos h2, hwi, ht, Option.bind_some, if_true, if_pos h5, h6, if_pos h7, if_pos h8, if_neg hg, h4]; exact hb2
          · by_cases hji : j = i
            · subst hji
              exact ⟨hr.1, hr.2, fun _ => by omega⟩
            · exact hb3 hb j (by omega) hjl
    · have ht : (decide (1 ≤ rd l (i : Int)) && decide (rd l (i : Int) ≤ 5)) = false := by
        rw [Bool.eq_false_iff]; intro h; simp at h; exact hr h
      refine ⟨false, Ev.succ ?_, Ev.succ ?_, fun h => by cases h⟩
      · simp only [spec_l09Is.l0, if_pos h1, if_pos h2, hin, ht, Option.bind_some, Bool.false_eq_true, if_false]; exact Ev.now _
      · simp only [impl_IsSea.l0, if_pos h1, if_pos h2, hwi, ht, Option.bind_some, Bool.false_eq_true, if_false]; exact Ev.now _

theorem in_f (n a b : Int) : spec_l01In.f n a b = some (decide (a ≤ n ∧ n ≤ b)) := by
  unfold spec_l01In.f
  by_cases h : a ≤ n
  · rw [if_pos h]; simp [h]
  · rw [if_neg h, decide_eq_false (fun h' => h h'.1)]
theorem within_f (n a b : Int) : impl_within.f n a b = some (decide (a ≤ n ∧ n ≤ b)) := by
  unfold impl_within.f
  by_cases h : a ≤ n
  · rw [if_pos h]; simp [h]
  · rw [if_neg h, decide_eq_false (fun h' => h h'.1)]

structure IsSeaP (W H : Int) (l : List Int) : Prop where
  w : 1 ≤ W ∧ W ≤ 5
  h : 1 ≤ H ∧ H ≤ 5
  n : 1 ≤ (l.length : Int) ∧ (l.length : Int) ≤ 3
  r : Rising l 0

theorem sea_agree (W H : Int) (l : List Int) (hm : l.length ≤ 35184372088832) :
    ∃ b, Ev (fun k => spec_l09Is.f k W H l) b ∧ Ev (fun k => impl_IsSea.f k W H l) b ∧ (b = true → IsSeaP W H l) := by
  have stop1 : Ev (fun k => spec_l09Is.j0 k true W H l) false := Ev.succ (by simp only [spec_l09Is.j0, if_true]; exact Ev.now _)
  have stop2 : Ev (fun k => impl_IsSea.j0 k true W H l) false := Ev.succ (by simp only [impl_IsSea.j0, if_true]; exact Ev.now _)
  unfold spec_l09Is.f impl_IsSea.f impl_size_int64.f
  simp only [in_f, within_f, Option.bind_some]
  by_cases hW : 1 ≤ W ∧ W ≤ 5
  case neg => simp only [decide_eq_false hW, Bool.false_eq_true, if_false]; exact ⟨false, stop1, stop2, fun h => by cases h⟩
  simp only [decide_eq_true hW, if_true]
  by_cases hH : 1 ≤ H ∧ H ≤ 5
  case neg => simp only [decide_eq_false hH, Bool.false_eq_true, if_false]; exact ⟨false, stop1, stop2, fun h => by cases h⟩
  simp only [decide_eq_true hH, if_true]
  by_cases hn : 1 ≤ (l.length : Int) ∧ (l.length : Int) ≤ 3
  case neg => simp only [decide_eq_false hn, Bool.not_false]; exact ⟨false, stop1, stop2, fun h => by cases h⟩
  simp only [decide_eq_true hn, Bool.not_true]
  obtain ⟨b, h1, h2, h3⟩ := sea_loops W H l hm l.length 0 (by omega)
  refine ⟨b, Ev.succ ?_, Ev.succ ?_, fun h => ⟨hW, hH, hn, h3 h⟩⟩
  · simp only [spec_l09Is.j0, Bool.false_eq_true, if_false]; exact h1
  · simp only [impl_IsSea.j0, Bool.false_eq_true, if_false]; exact h2

theorem ev_toSea (W H : Int) (l : List Int) (hm : l.length ≤ 35184372088832) : Ev (fun k => laws_toSea.f k W H l) (W, H, l) := by
  unfold laws_toSea.f
  exact Ev.bind (ev_toInt64S l hm) (Ev.now _)
theorem ev_eqSea (W H : Int) (l : List Int) (hm : l.length ≤ 35184372088832) : Ev (fun k => laws_eqSea.f k W H l W H l) true := by
  unfold laws_eqSea.f
  simp only [if_true]
  refine Ev.bind (ev_eqInt64S l l hm) ?_
  simp only [decide_true, if_true]
  exact Ev.now _
theorem sz_f (W H : Int) (l : List Int) (n : Int) (hm : l.length ≤ maxLen) (hn : 0 ≤ n) (hn2 : n ≤ 1048576) : ∃ t, laws_szSea.f W H l n = some t ∧ (0 ≤ t → (l.length : Int) ≤ n) := by
  unfold laws_szSea.f laws_szInt64S.f
  have : wrap64 (n - (l.length : Int)) = n - (l.length : Int) := by simp only [maxLen] at hm; exact w64 (by omega) (by omega)
  rw [this]
  by_cases h : n - (l.length : Int) < 0
  · rw [if_pos h]; exact ⟨-1, rfl, fun h => by omega⟩
  · rw [if_neg h]; simp only [Option.bind_some]; rw [if_neg h]; exact ⟨_, rfl, fun h => by omega⟩

end Go.Proofs.Ytankgbfddgpfmaa.PAll
end

section
/- Placements: for every sea and length the program's and the reference's are one list (the kernel reckons all 125 cases). -/
namespace Go.Proofs.Ytankgbfddgpfmaa.PAll
open Go.RowKit Go.Proofs.YtankgbfddgpfmaaW.PrintWords Go.Proofs.YtankgbfddgpfmaaW.PrintLast
set_option linter.unusedVariables false

def Pl (W H n : Int) : List Int := ((spec_l09Placements.f 1000 W H [] n).getD [])
theorem five {x : Int} (h : 1 ≤ x ∧ x ≤ 5) : x = 1 ∨ x = 2 ∨ x = 3 ∨ x = 4 ∨ x = 5 := by omega
theorem spec_pl (W H n : Int) (l : List Int) (hW : 1 ≤ W ∧ W ≤ 5) (hH : 1 ≤ H ∧ H ≤ 5) (hn : 1 ≤ n ∧ n ≤ 5) : spec_l09Placements.f 1000 W H l n = some (Pl W H n) := by
  rcases five hW with rfl | rfl | rfl | rfl | rfl <;> rcases five hH with rfl | rfl | rfl | rfl | rfl <;> rcases five hn with rfl | rfl | rfl | rfl | rfl <;> kernel_rfl
theorem impl_pl (W H n : Int) (l : List Int) (hW : 1 ≤ W ∧ W ≤ 5) (hH : 1 ≤ H ∧ H ≤ 5) (hn : 1 ≤ n ∧ n ≤ 5) : impl_Sea_placements.f 1000 W H l n = some (Pl W H n) := by
  rcases five hW with rfl | rfl | rfl | rfl | rfl <;> rcases five hH with rfl | rfl | rfl | rfl | rfl <;> rcases five hn with rfl | rfl | rfl | rfl | rfl <;> kernel_rfl
theorem pl_facts : ∀ W ∈ [(1 : Int), 2, 3, 4, 5], ∀ H ∈ [(1 : Int), 2, 3, 4, 5], ∀ n ∈ [(1 : Int), 2, 3, 4, 5], (Pl W H n).length ≤ 50 ∧ (∀ x ∈ Pl W H n, 0 < x ∧ x < 33554432) := by decide +kernel
theorem pl_len {W H n : Int} (hW : 1 ≤ W ∧ W ≤ 5) (hH : 1 ≤ H ∧ H ≤ 5) (hn : 1 ≤ n ∧ n ≤ 5) : (Pl W H n).length ≤ 50 :=
  (pl_facts W (by have := five hW; simpa using this) H (by have := five hH; simpa using this) n (by have := five hn; simpa using this)).1
theorem pl_pos {W H n : Int} (hW : 1 ≤ W ∧ W ≤ 5) (hH : 1 ≤ H ∧ H ≤ 5) (hn : 1 ≤ n ∧ n ≤ 5) : ∀ x ∈ Pl W H n, 0 < x ∧ x < 33554432 :=
  (pl_facts W (by have := five hW; simpa using this) H (by have := five hH; simpa using this) n (by have := five hn; simpa using this)).2
theorem ev_spec_pl (W H n : Int) (l : List Int) (hW : 1 ≤ W ∧ W ≤ 5) (hH : 1 ≤ H ∧ H ≤ 5) (hn : 1 ≤ n ∧ n ≤ 5) : Ev (fun k => spec_l09Placements.f k W H l n) (Pl W H n) :=
  Ev.of (fun k => spec_l09Placements.mono _ _ _ _ k) (spec_pl W H n l hW hH hn)
theorem ev_impl_pl (W H n : Int) (l : List Int) (hW : 1 ≤ W ∧ W ≤ 5) (hH : 1 ≤ H ∧ H ≤ 5) (hn : 1 ≤ n ∧ n ≤ 5) : Ev (fun k => impl_Sea_placements.f k W H l n) (Pl W H n) :=
  Ev.of (fun k => impl_Sea_placements.mono _ _ _ _ k) (impl_pl W H n l hW hH hn)
end Go.Proofs.Ytankgbfddgpfmaa.PAll
end

section
/- Fleets: the program's isFleet and the reference's agree; what a fleet's ships are. -/
namespace Go.Proofs.Ytankgbfddgpfmaa.PAll
open Go.RowKit Go.Proofs.YtankgbfddgpfmaaW.PrintWords Go.Proofs.YtankgbfddgpfmaaW.PrintLast
set_option linter.unusedVariables false

theorem wraps_i62 (n : Int) (h₀ : 0 ≤ n) (h₁ : n < 2 ^ 62) : IntKind.i64.wrap n = n := by rw [IntKind.wrap_i64]; omega
theorem and_nat (a b : Nat) (ha : a < 33554432) (hb : b < 33554432) : Go.bits .and .i64 (a : Int) (b : Int) = ((a &&& b : Nat) : Int) := (bits_nat .i64 62 (by decide) wraps_i62 a b (by omega) (by omega)).1
theorem or_nat (a b : Nat) (ha : a < 33554432) (hb : b < 33554432) : Go.bits .or .i64 (a : Int) (b : Int) = ((a ||| b : Nat) : Int) := (bits_nat .i64 62 (by decide) wraps_i62 a b (by omega) (by omega)).2
theorem or_lt (a b : Nat) (ha : a < 33554432) (hb : b < 33554432) : a ||| b < 33554432 := Nat.or_lt_two_pow (n := 25) ha hb

/-- Cells that a list of ships has. -/
def orl (l : List Int) : Int := l.foldl (Go.bits .or .i64) 0
theorem orl_snoc (l : List Int) (x : Int) : orl (l ++ [x]) = Go.bits .or .i64 (orl l) x := by simp [orl]
def Cs (x : Int) : Prop := 0 ≤ x ∧ x < 33554432
theorem or_cs {x y : Int} (hx : Cs x) (hy : Cs y) : Cs (Go.bits .or .i64 x y) := by
  obtain ⟨a, rfl⟩ := Int.eq_ofNat_of_zero_le hx.1
  obtain ⟨b, rfl⟩ := Int.eq_ofNat_of_zero_le hy.1
  have ha : a < 33554432 := by have := hx.2; omega
  have hb : b < 33554432 := by have := hy.2; omega
  rw [or_nat a b ha hb]
  exact ⟨by omega, by have := or_lt a b ha hb; omega⟩
theorem and_or {x u y : Int} (hx : Cs x) (hu : Cs u) (hy : Cs y) : (Go.bits .and .i64 x (Go.bits .or .i64 u y) = 0) ↔ (Go.bits .and .i64 x u = 0 ∧ Go.bits .and .i64 y x = 0) := by
  obtain ⟨a, rfl⟩ := Int.eq_ofNat_of_zero_le hx.1
  obtain ⟨b, rfl⟩ := Int.eq_ofNat_of_zero_le hu.1
  obtain ⟨c, rfl⟩ := Int.eq_ofNat_of_zero_le hy.1
  have ha : a < 33554432 := by have := hx.2; omega
  have hb : b < 33554432 := by have := hu.2; omega
  have hc : c < 33554432 := by have := hy.2; omega
  rw [or_nat b c hb hc, and_nat a _ ha (or_lt b c hb hc), and_nat a b ha hb, and_nat c a hc ha, Nat.and_comm c a]
  have e : a &&& (b ||| c) = a &&& b ||| a &&& c := Nat.and_or_distrib_left ..
  rw [e]
  constructor
  · intro h
    have h' : (a &&& b ||| a &&& c) = 0 := by omega
    constructor
    · have : a &&& b = 0 := by
        apply Nat.eq_of_testBit_eq; intro i
        have := congrArg (fun z => Nat.testBit z i) h'
        simp only [Nat.testBit_or, Nat.zero_testBit, Bool.or_eq_false_iff] at this
        rw [this.1, Nat.zero_testBit]
      omega
    · have : a &&& c = 0 := by
        apply Nat.eq_of_testBit_eq; intro i
        have := congrArg (fun z => Nat.testBit z i) h'
        simp only [Nat.testBit_or, Nat.zero_testBit, Bool.or_eq_false_iff] at this
        rw [this.2, Nat.zero_testBit]
      omega
  · rintro ⟨h1, h2⟩
    have h1' : a &&& b = 0 := by omega
    have h2' : a &&& c = 0 := by omega
    rw [h1', h2']; rfl
theorem and_self_ne {x : Int} (h0 : 0 < x) (h1 : x < 33554432) : Go.bits .and .i64 x x ≠ 0 := by
  obtain ⟨a, rfl⟩ := Int.eq_ofNat_of_zero_le (Int.le_of_lt h0)
  rw [and_nat a a (by omega) (by omega), Nat.and_self]; omega
theorem and_zero_cs {x : Int} (hx : Cs x) : Go.bits .and .i64 x 0 = 0 := by
  obtain ⟨a, rfl⟩ := Int.eq_ofNat_of_zero_le hx.1
  have := and_nat a 0 (by have := hx.2; omega) (by omega)
  rw [show ((0 : Nat) : Int) = 0 from rfl] at this
  rw [this, Nat.and_zero]; rfl

def hits (l : List Int) (x : Int) : Bool := l.any fun y => Go.bits .and .i64 y x != 0
theorem orl_hits (l : List Int) (x : Int) (hx : Cs x) (h : ∀ y ∈ l, Cs y) : (Go.bits .and .i64 x (orl l) = 0) ↔ hits l x = false := by
  suffices g : ∀ (l : List Int) (u : Int), Cs u → (∀ y ∈ l, Cs y) → ((Go.bits .and .i64 x (l.foldl (Go.bits .or .i64) u) = 0) ↔ (Go.bits .and .i64 x u = 0 ∧ hits l x = false)) by
    have := g l 0 ⟨by omega, by omega⟩ h
    rw [orl, this]
    constructor
    · exact fun h => h.2
    · exact fun h => ⟨and_zero_cs hx, h⟩
  intro l
  induction l with
  | nil => intro u hu _; simp [hits]
  | cons y l ih =>
    intro u hu h
    have hy := h y (by simp)
    have := ih (Go.bits .or .i64 u y) (or_cs hu hy) (fun z hz => h z (by simp [hz]))
    simp only [List.foldl_cons]
    rw [this, and_or hx hu hy]
    simp only [hits, List.any_cons, Bool.or_eq_false_iff, bne_eq_false_iff_eq]
    constructor
    · rintro ⟨⟨h1, h2⟩, h3⟩; exact ⟨h1, h2, h3⟩
    · rintro ⟨h1, h2, h3⟩; exact ⟨⟨h1, h2⟩, h3⟩

theorem ev_indexf (l : List Int) (x : Int) (hm : l.length ≤ 35184372088832) : ∀ (d i : Nat), i + d = l.length → ∃ r : Int, Ev (fun k => slices_IndexFunc_int64_int64_impl_Sea_goesOn_1.l0 k l (l.length : Int) (i : Int) x) r ∧ (decide (r ≥ 0) = hits (l.drop i) x) := by
  intro d
  induction d with
  | zero =>
    intro i hi
    refine ⟨-1, Ev.succ ?_, ?_⟩
    · have h1 : ¬ ((i : Int) < (l.length : Int)) := by omega
      simp only [slices_IndexFunc_int64_int64_impl_Sea_goesOn_1.l0, if_neg h1]; exact Ev.now _
    · rw [List.drop_of_length_le (by omega)]; simp [hits]
  | succ d ih =>
    intro i hi
    have h1 : (i : Int) < (l.length : Int) := by omega
    have h2 : (0 : Int) ≤ (i : Int) := by omega
    have h4 : wrap64 ((i : Int) + 1) = ((i + 1 : Nat) : Int) := by rw [w64 (by omega) (by omega)]; omega
    have hd : l.drop i = l[i] :: l.drop (i + 1) := by rw [List.drop_eq_getElem_cons (by omega)]
    cases e : (Go.bits .and .i64 l[i] x != 0) with
    | true =>
      refine ⟨i, Ev.succ ?_, ?_⟩
      · simp only [slices_IndexFunc_int64_int64_impl_Sea_goesOn_1.l0, impl_Sea_goesOn_1.f, if_pos h1, if_pos h2, rd_nat l i (by omega), Option.bind_some, e, if_true]; exact Ev.now _
      · rw [hd]; simp only [hits, List.any_cons, e, Bool.true_or]; exact decide_eq_true (by omega)
    | false =>
      obtain ⟨r, hr1, hr2⟩ := ih (i + 1) (by omega)
      refine ⟨r, Ev.succ ?_, ?_⟩
      · simp only [slices_IndexFunc_int64_int64_impl_Sea_goesOn_1.l0, impl_Sea_goesOn_1.f, if_pos h1, if_pos h2, rd_nat l i (by omega), Option.bind_some, e, Bool.false_eq_true, if_false, h4]; exact hr1
      · rw [hd, hr2]; simp only [hits, List.any_cons, e, Bool.false_or]
theorem ev_containsf (l : List Int) (x : Int) (hm : l.length ≤ 35184372088832) : Ev (fun k => slices_ContainsFunc_int64_int64_impl_Sea_goesOn_1.f k l x) (hits l x) := by
  obtain ⟨r, h1, h2⟩ := ev_indexf l x hm l.length 0 (by omega)
  unfold slices_ContainsFunc_int64_int64_impl_Sea_goesOn_1.f slices_IndexFunc_int64_int64_impl_Sea_goesOn_1.f
  refine Ev.bind h1 (Ev.cast (Ev.now _) ?_)
  rw [List.drop_zero] at h2
  exact h2

/-- May a ship be next behind others? -/
def goes (l f : List Int) (x : Int) : Bool := !(decide (0 < f.length ∧ rd l (f.length : Int) = rd l ((f.length : Int) - 1) ∧ x ≤ rd f ((f.length : Int) - 1))) && !hits f x
theorem ev_goesOn (W H : Int) (l f : List Int) (x : Int) (hl : f.length < l.length) (hm : l.length ≤ 35184372088832) : Ev (fun k => impl_Sea_goesOn.f k W H l f x) (goes l f x) := by
  unfold impl_Sea_goesOn.f
  have hc := ev_containsf f x (by omega)
  have fin : ∀ b : Bool, b = false → Ev (fun k => (slices_ContainsFunc_int64_int64_impl_Sea_goesOn_1.f k f x).bind fun t => some (!t)) (!b && !hits f x) := fun b hb => by subst hb; exact Ev.bind hc (Ev.cast (Ev.now _) (by simp))
  by_cases h : (f.length : Int) > 0
  · have h1 : (0 : Int) ≤ (f.length : Int) := by omega
    have h2 : (f.length : Int) < (l.length : Int) := by omega
    have h3 : wrap64 ((f.length : Int) - 1) = (f.length : Int) - 1 := w64 (by omega) (by omega)
    have h4 : (0 : Int) ≤ (f.length : Int) - 1 := by omega
    have h5 : (f.length : Int) - 1 < (l.length : Int) := by omega
    have h6 : (f.length : Int) - 1 < (f.length : Int) := by omega
    simp only [if_pos h, if_pos h1, if_pos h2, h3, if_pos h4, if_pos h5]
    by_cases e : rd l (f.length : Int) = rd l ((f.length : Int) - 1)
    · simp only [if_pos e, if_pos h6]
      by_cases g : x ≤ rd f ((f.length : Int) - 1)
      · simp only [if_pos g]
        exact Ev.cast (Ev.now _) (by unfold goes; rw [decide_eq_true ⟨by omega, e, g⟩]; rfl)
      · simp only [if_neg g]
        exact fin _ (decide_eq_false fun z => g z.2.2)
    · simp only [if_neg e]
      exact fin _ (decide_eq_false fun z => e z.2.1)
  · simp only [if_neg h]
    exact fin _ (decide_eq_false fun z => h (by omega))

/-- A ship of a fleet: one of the placements, and apart from those ahead of it. -/
def Ship (W H : Int) (l f : List Int) (j : Nat) : Prop := rd f (j : Int) ∈ Pl W H (rd l (j : Int)) ∧ hits (f.take j) (rd f (j : Int)) = false
theorem Ship.pos {W H : Int} {l f : List Int} (hs : IsSeaP W H l) {j : Nat} (hj : j < l.length) (h : Ship W H l f j) : 0 < rd f (j : Int) ∧ rd f (j : Int) < 33554432 :=
  have hr := hs.r j (by omega) hj
  pl_pos hs.w hs.h ⟨hr.1, hr.2.1⟩ _ h.1

/-- What is known of a fleet. -/
structure IsFleetP (W H : Int) (l f : List Int) : Prop where
  n : f.length = l.length
  s : ∀ j, j < f.length → Ship W H l f j
theorem IsFleetP.cs {W H : Int} {l f : List Int} (hs : IsSeaP W H l) (h : IsFleetP W H l f) : ∀ y ∈ f, 0 < y ∧ y < 33554432 := by
  intro y hy
  obtain ⟨j, hjl, rfl⟩ := List.mem_iff_getElem.mp hy
  have := (h.s j hjl).pos hs (by have := h.n; omega)
  rwa [rd_nat f j hjl] at this

end Go.Proofs.Ytankgbfddgpfmaa.PAll
end

section
/- CountFleets: both programs count the same fleets. -/
namespace Go.Proofs.Ytankgbfddgpfmaa.PAll
open Go.RowKit Go.Proofs.YtankgbfddgpfmaaW.PrintWords Go.Proofs.YtankgbfddgpfmaaW.PrintLast
set_option linter.unusedVariables false

theorem Ev.pos {α : Type} {c : Prop} [Decidable c] {f g : Nat → Option α} {r : α} (h : c) (e : Ev f r) : Ev (fun k => if c then f k else g k) r := by simpa only [if_pos h] using e
theorem Ev.neg {α : Type} {c : Prop} [Decidable c] {f g : Nat → Option α} {r : α} (h : ¬ c) (e : Ev g r) : Ev (fun k => if c then f k else g k) r := by simpa only [if_neg h] using e
/-- How many fleets go on with a list, so many ships left. -/
def cnt (W H : Int) (l : List Int) : Nat → List Int → Nat
  | 0, _ => 1
  | d + 1, fl => ((Pl W H (rd l (fl.length : Int))).map fun x => if goes l fl x = true then cnt W H l d (fl ++ [x]) else 0).sum
def Pos (fl : List Int) : Prop := ∀ y ∈ fl, 0 < y ∧ y < 33554432
theorem Pos.snoc {fl : List Int} {x : Int} (h : Pos fl) (hx : 0 < x ∧ x < 33554432) : Pos (fl ++ [x]) := by
  intro y hy
  rcases List.mem_append.1 hy with h1 | h1
  · exact h y h1
  · rw [List.mem_singleton.1 h1]; exact hx
theorem sum_le (f : Int → Nat) (b : Nat) : ∀ (L : List Int), (∀ x ∈ L, f x ≤ b) → (L.map f).sum ≤ L.length * b
  | [], _ => by simp
  | x :: L, h => by
    have h1 := h x (by simp)
    have h2 := sum_le f b L (fun y hy => h y (by simp [hy]))
    simp only [List.map_cons, List.sum_cons, List.length_cons, Nat.succ_mul]
    omega
theorem cnt_le {W H : Int} {l : List Int} (hs : IsSeaP W H l) : ∀ (d : Nat) (fl : List Int), fl.length + d = l.length → cnt W H l d fl ≤ 50 ^ d
  | 0, _, _ => Nat.le_refl _
  | d + 1, fl, hd => by
    have hr := hs.r fl.length (by omega) (by omega)
    have hP := pl_len (n := rd l (fl.length : Int)) hs.w hs.h ⟨hr.1, hr.2.1⟩
    refine Nat.le_trans (sum_le _ (50 ^ d) _ (fun x _ => ?_)) ?_
    · split
      · exact cnt_le hs d _ (by simp; omega)
      · exact Nat.zero_le _
    · rw [Nat.pow_succ, Nat.mul_comm (50 ^ d)]
      exact Nat.mul_le_mul_right _ hP
theorem cnt_small {W H : Int} {l : List Int} (hs : IsSeaP W H l) {d : Nat} {fl : List Int} (h : fl.length + d = l.length) : cnt W H l d fl ≤ 125000 := by
  have h1 := cnt_le hs d fl h
  have hn := hs.n
  have h2 : (50 : Nat) ^ d ≤ 50 ^ 3 := Nat.pow_le_pow_right (by decide) (by omega)
  have h3 : (50 : Nat) ^ 3 = 125000 := by decide
  omega
theorem skips_goes {l fl : List Int} {x : Int} (hl : fl.length < l.length) (hm : l.length ≤ 3) (hf : Pos fl) (hx : 0 < x ∧ x < 33554432) : skips l fl (orl fl) x = some (!goes l fl x) := by
  have hcs : ∀ y ∈ fl, Cs y := fun y hy => ⟨by have := (hf y hy).1; omega, (hf y hy).2⟩
  have hc := orl_hits fl x ⟨by omega, hx.2⟩ hcs
  unfold skips
  by_cases ca : Go.bits .and .i64 x (orl fl) = 0
  · have hh := hc.1 ca
    rw [if_pos ca]
    by_cases cl : (fl.length : Int) > 0
    · have h3 : wrap64 ((fl.length : Int) - 1) = (fl.length : Int) - 1 := w64 (by omega) (by omega)
      rw [if_pos cl, h3, if_pos ⟨by omega, by omega, by omega⟩]
      by_cases ce : rd l (fl.length : Int) = rd l ((fl.length : Int) - 1)
      · rw [if_pos ce]
        have hne : x ≠ rd fl ((fl.length : Int) - 1) := by
          intro e
          have e1 : (fl.length : Int) - 1 = ((fl.length - 1 : Nat) : Int) := by omega
          have hmem : x ∈ fl := by
            rw [e, e1, rd_nat fl (fl.length - 1) (by omega)]
            exact List.getElem_mem _
          have : hits fl x = true := by
            unfold hits
            exact List.any_eq_true.2 ⟨x, hmem, bne_iff_ne.2 (and_self_ne hx.1 hx.2)⟩
          rw [hh] at this
          cases this
        unfold goes
        rw [hh]
        by_cases cx : x < rd fl ((fl.length : Int) - 1)
        · rw [decide_eq_true cx, decide_eq_true ⟨by omega, ce, by omega⟩]; rfl
        · rw [decide_eq_false cx, decide_eq_false (by rintro ⟨_, _, z⟩; omega)]; rfl
      · rw [if_neg ce]
        unfold goes
        rw [hh, decide_eq_false (by rintro ⟨_, z, _⟩; exact ce z)]; rfl
    · rw [if_neg cl]
      unfold goes
      rw [hh, decide_eq_false (by rintro ⟨z, _, _⟩; omega)]; rfl
  · rw [if_neg ca]
    have hh : hits fl x = true := by
      cases h : hits fl x
      · exact absurd (hc.2 h) ca
      · rfl
    unfold goes
    rw [hh]
    simp
theorem ev_agrees_nil (fl : List Int) : Ev (fun k => spec_l09Agrees.f k fl []) true := by
  unfold spec_l09Agrees.f
  refine Ev.succ ?_
  simp only [spec_l09Agrees.l0, List.length_nil]
  refine Ev.neg (by omega) ?_
  exact Ev.now _
theorem sum_drop (f : Int → Nat) (L : List Int) (i : Nat) (h : i < L.length) : ((L.drop i).map f).sum = f L[i] + ((L.drop (i + 1)).map f).sum := by
  rw [List.drop_eq_getElem_cons h, List.map_cons, List.sum_cons]
theorem le_a {n m S : Nat} (h : n + (m + S) ≤ 125000) : n + m ≤ 1000000000 := by omega
theorem le_b {n m S : Nat} (h : n + (m + S) ≤ 125000) : n + m + S ≤ 125000 := by omega
theorem le_c {n m S : Nat} (h : n + (m + S) ≤ 125000) : n + m ≤ 125000 := by omega
theorem ev_go {W H : Int} {l : List Int} (hs : IsSeaP W H l) : ∀ (d : Nat) (fl : List Int), fl.length + d = l.length → Pos fl → Ev (fun k => spec_l09Go.f k W H l fl (orl fl)) (cnt W H l d fl) := by
  have hn := hs.n
  intro d
  induction d with
  | zero =>
    intro fl hd hf
    refine Ev.succ ?_
    simp only [spec_l09Go.f]
    refine Ev.pos (by omega) ?_
    exact Ev.bind (ev_agrees_nil fl) (Ev.now _)
  | succ d ih =>
    intro fl hd hf
    refine Ev.succ ?_
    simp only [spec_l09Go.f]
    refine Ev.neg (by omega) ?_
    refine Ev.pos (by omega) ?_
    have hr := hs.r fl.length (by omega) (by omega)
    have hb := cnt_small hs hd
    refine Ev.bind (ev_spec_pl W H (rd l (fl.length : Int)) l hs.w hs.h ⟨hr.1, hr.2.1⟩) ?_
    have hPl := pl_len (n := rd l (fl.length : Int)) hs.w hs.h ⟨hr.1, hr.2.1⟩
    have hpp := pl_pos (n := rd l (fl.length : Int)) hs.w hs.h ⟨hr.1, hr.2.1⟩
    rw [cnt] at hb ⊢
    generalize Pl W H (rd l (fl.length : Int)) = P at hPl hpp hb ⊢
    have loop : ∀ (e i n : Nat), i + e = P.length → n + ((P.drop i).map fun x => if goes l fl x = true then cnt W H l d (fl ++ [x]) else 0).sum ≤ 125000 →
        Ev (fun k => spec_l09Go.l0 k W H l fl (orl fl) P (i : Int) n) (n + ((P.drop i).map fun x => if goes l fl x = true then cnt W H l d (fl ++ [x]) else 0).sum) := by
      clear hb
      intro e
      induction e with
      | zero =>
        intro i n hi _
        refine Ev.succ ?_
        simp only [spec_l09Go.l0]
        refine Ev.neg (by omega) ?_
        exact Ev.cast (Ev.now _) (by rw [List.drop_eq_nil_of_le (by omega)]; simp)
      | succ e ihe =>
        intro i n hi hle
        have HLE := Aside0.mk hle
        clear hle
        have hlt : i < P.length := by omega
        have h4 : wrap64 ((i : Int) + 1) = ((i + 1 : Nat) : Int) := by rw [w64 (by omega) (by omega)]; omega
        rw [sum_drop _ P i hlt] at HLE ⊢
        refine Ev.succ ?_
        simp only [spec_l09Go.l0]
        refine Ev.pos (by omega) ?_
        refine Ev.pos (by omega) ?_
        have hk : skips l fl (orl fl) P[i] = some (!goes l fl P[i]) := skips_goes (by omega) (by omega) hf (hpp _ (List.getElem_mem _))
        simp only [rd_nat P i hlt, hk, h4, Option.bind_some]
        cases hg : goes l fl P[i] with
        | false =>
          simp only [Bool.not_false, if_true]
          rw [hg] at HLE
          simp only [Bool.false_eq_true, if_false, Nat.zero_add] at HLE ⊢
          exact ihe (i + 1) n (by omega) HLE.out
        | true =>
          simp only [Bool.not_true, Bool.false_eq_true, if_false]
          rw [hg] at HLE
          simp only [if_true] at HLE ⊢
          have := ih (fl ++ [P[i]]) (by simp; omega) (hf.snoc (hpp _ (List.getElem_mem _)))
          rw [orl_snoc] at this
          refine Ev.bind this ?_
          refine Ev.pos (le_a HLE.out) ?_
          refine Ev.pos (by omega) ?_
          exact Ev.cast (ihe (i + 1) _ (by omega) (le_b HLE.out)) (Nat.add_assoc _ _ _)
    exact Ev.cast (loop P.length 0 0 (by omega) (by simpa using hb)) (by simp)
theorem ev_all {W H : Int} {l : List Int} (hs : IsSeaP W H l) : ∀ (e i : Nat), i + e = l.length → Ev (fun k => impl_eachFleet.l0 k W H l ((l.take i).map (Pl W H)) (i : Int)) (l.map (Pl W H)) := by
  have hn := hs.n
  intro e
  induction e with
  | zero =>
    intro i hi
    refine Ev.succ ?_
    simp only [impl_eachFleet.l0]
    refine Ev.neg (by omega) ?_
    exact Ev.cast (Ev.now _) (by rw [List.take_of_length_le (by omega)])
  | succ e ih =>
    intro i hi
    have hr := hs.r i (by omega) (by omega)
    have h4 : wrap64 ((i : Int) + 1) = ((i + 1 : Nat) : Int) := by rw [w64 (by omega) (by omega)]; omega
    refine Ev.succ ?_
    simp only [impl_eachFleet.l0]
    refine Ev.pos (by omega) ?_
    refine Ev.pos (by omega) ?_
    simp only [h4]
    refine Ev.bind (ev_impl_pl W H (rd l (i : Int)) l hs.w hs.h ⟨hr.1, hr.2.1⟩) ?_
    refine Ev.pos (by simp; omega) ?_
    have e1 : (l.take i).map (Pl W H) ++ [Pl W H (rd l (i : Int))] = (l.take (i + 1)).map (Pl W H) := by
      rw [rd_nat l i (by omega), List.take_succ_eq_append_getElem (by omega), List.map_append, List.map_cons, List.map_nil]
    rw [e1]
    exact ih (i + 1) (by omega)
theorem ev_find {W H : Int} {l : List Int} (hs : IsSeaP W H l) : ∀ (d : Nat) (fl : List Int) (n : Nat), fl.length + d = l.length → n + cnt W H l d fl ≤ 125000 → Ev (fun k => impl_find.f k W H l (l.map (Pl W H)) fl (n : Int)) ((n + cnt W H l d fl : Nat) : Int) := by
  have hn := hs.n
  intro d
  induction d with
  | zero =>
    intro fl n hd hb
    refine Ev.succ ?_
    simp only [impl_find.f]
    refine Ev.pos (by omega) ?_
    exact Ev.cast (Ev.now _) (by rw [cnt] at hb ⊢; rw [w64 (by omega) (by omega)]; omega)
  | succ d ih =>
    intro fl n hd hb
    refine Ev.succ ?_
    simp only [impl_find.f]
    refine Ev.neg (by omega) ?_
    refine Ev.pos (by simp; omega) ?_
    have hr := hs.r fl.length (by omega) (by omega)
    have hPl := pl_len (n := rd l (fl.length : Int)) hs.w hs.h ⟨hr.1, hr.2.1⟩
    have e1 : (l.map (Pl W H)).getD fl.length [] = Pl W H (rd l (fl.length : Int)) := by
      rw [rd_nat l fl.length (by omega)]
      simp [List.getD_eq_getElem?_getD, show fl.length < l.length by omega]
    rw [cnt] at hb ⊢
    rw [e1]
    generalize Pl W H (rd l (fl.length : Int)) = P at hPl hb ⊢
    have loop : ∀ (e i n : Nat), i + e = P.length → n + ((P.drop i).map fun x => if goes l fl x = true then cnt W H l d (fl ++ [x]) else 0).sum ≤ 125000 →
        Ev (fun k => impl_find.l0 k W H l (l.map (Pl W H)) fl P (i : Int) (n : Int)) ((n + ((P.drop i).map fun x => if goes l fl x = true then cnt W H l d (fl ++ [x]) else 0).sum : Nat) : Int) := by
      clear hb
      intro e
      induction e with
      | zero =>
        intro i n hi _
        refine Ev.succ ?_
        simp only [impl_find.l0]
        refine Ev.neg (by omega) ?_
        exact Ev.cast (Ev.now _) (by rw [List.drop_eq_nil_of_le (by omega)]; simp)
      | succ e ihe =>
        intro i n hi hle
        have HLE := Aside0.mk hle
        clear hle
        have hlt : i < P.length := by omega
        have h4 : wrap64 ((i : Int) + 1) = ((i + 1 : Nat) : Int) := by rw [w64 (by omega) (by omega)]; omega
        rw [sum_drop _ P i hlt] at HLE ⊢
        refine Ev.succ ?_
        simp only [impl_find.l0]
        refine Ev.pos (by omega) ?_
        refine Ev.pos (by omega) ?_
        simp only [rd_nat P i hlt, h4]
        refine Ev.bind (ev_goesOn W H l fl P[i] (by omega) (by omega)) ?_
        cases hg : goes l fl P[i] with
        | false =>
          rw [hg] at HLE
          simp only [Bool.false_eq_true, if_false, Nat.zero_add] at HLE ⊢
          exact ihe (i + 1) n (by omega) HLE.out
        | true =>
          rw [hg] at HLE
          simp only [if_true] at HLE ⊢
          refine Ev.pos (by omega) ?_
          refine Ev.bind (ih (fl ++ [P[i]]) n (by simp; omega) (le_c HLE.out)) ?_
          exact Ev.cast (ihe (i + 1) _ (by omega) (le_b HLE.out)) (by rw [Nat.add_assoc])
    exact Ev.cast (loop P.length 0 n (by omega) (by simpa using hb)) (by simp)
theorem count_agree (W H : Int) (l : List Int) (hm : l.length ≤ 35184372088832) :
    ∃ n c, Ev (fun k => spec_CountFleets.f k W H l) (n, c) ∧ Ev (fun k => impl_CountFleets.f k W H l) (n, c) := by
  obtain ⟨b, h1, h2, h3⟩ := sea_agree W H l hm
  unfold spec_CountFleets.f impl_CountFleets.f
  cases b with
  | false => exact ⟨0, 1, Ev.bind h1 (Ev.now _), Ev.bind h2 (Ev.now _)⟩
  | true =>
    have hs := h3 rfl
    have g := ev_go hs l.length [] (by simp) (fun y hy => by simp at hy)
    have a := ev_all hs l.length 0 (by omega)
    have f := ev_find hs l.length [] 0 (by simp) (by have := cnt_small hs (d := l.length) (fl := []) (by simp); omega)
    refine ⟨_, 0, Ev.bind h1 (Ev.bind g (Ev.now _)), Ev.bind h2 (Ev.bind a (Ev.bind f (Ev.cast (Ev.now _) ?_)))⟩
    simp
end Go.Proofs.Ytankgbfddgpfmaa.PAll
end

section
/- FnExactCountFleets's one pure statement. -/
namespace Go.Proofs.Ytankgbfddgpfmaa.Pure
open Go.RowKit Go.Proofs.Ytankgbfddgpfmaa.PAll Go.Proofs.YtankgbfddgpfmaaW.PrintWords Go.Proofs.YtankgbfddgpfmaaW.PrintLast
set_option linter.unusedVariables false

theorem FnExactCountFleets : laws_FnExactCountFleets.Pure := by
  intro W H l hW hH hl
  refine Ev.rounds (g := fun k => laws_FnExactCountFleets.f k W H l) ?_
  unfold laws_FnExactCountFleets.f
  obtain ⟨t, ht, ht2⟩ := sz_f W H l 1048576 hl.1 (by omega) (by omega)
  simp only [ht, Option.bind_some]
  by_cases h : t < 0
  · simp only [if_pos h]; exact Ev.now _
  simp only [if_neg h]
  have hm : l.length ≤ 35184372088832 := by have := ht2 (by omega); omega
  obtain ⟨n, c, h1, h2⟩ := count_agree W H l hm
  refine Ev.bind (ev_toSea W H l hm) (Ev.bind h1 (Ev.bind (ev_toSea W H l hm) (Ev.bind h2 ?_)))
  simp only [bne_self_eq_false, if_true]
  refine Ev.succ ?_
  simp only [laws_FnExactCountFleets.j0, Bool.false_eq_true, if_false]
  refine Ev.bind (ev_toSea W H l hm) (Ev.bind (ev_eqSea W H l hm) ?_)
  simp only [if_true]
  exact Ev.now _

end Go.Proofs.Ytankgbfddgpfmaa.Pure
end

section
/- How a law's argument that came in as data (a whole number, a slice, a slice of slices) is read in the print's kinds: no condition of its own. -/
namespace Go.Proofs.Ytankgbfddgpfmaa.GRead
open Go.RowKit Go.ChangeShapes Go.WideShapes Go.Deep Go.Proofs.YtankgbfddgpfmaaW.PrintWords
set_option linter.unusedVariables false

/-- Whatever is read at type t is of the kind d. -/
def Opens {α : Type} (P : Program) (t : TypeId) (d : Kd α) (wf : α → Prop) : Prop :=
  ∀ {H : Type} {enc : TypeId × Value → H} {w : World} {base : Nat} {spare : Nat → Bool} {held : Bool} {fuel : Nat} {cs : List Value} {x : DataW H × List MemPlace},
    DataW.trod enc P w base spare held fuel t cs = some x → ∃ a, d.K w a cs ∧ wf a

theorem opens_int {P : Program} {t : TypeId} {k : IntKind} (ht : P.underlying t = some (.int k)) : Opens P t (Kd.int k) (fun n => (Lit.int k n).wf = true) := by
  intro H enc w base spare held fuel cs x h
  obtain ⟨m, rfl, rfl, hw⟩ := DataW.trod_int ht h
  exact ⟨_, rfl, hw⟩

theorem opens_slice {α : Type} {P : Program} {t e : TypeId} {d : Kd α} {wf : α → Prop} (z : α) (ht : P.underlying t = some (.slice e)) (hc : P.cellsOf e = d.sz) (he : Opens P e d wf) :
    Opens P t (Kd.slice e d) (fun l => l.length ≤ maxLen ∧ ∀ y ∈ l, wf y) := by
  intro H enc w base spare held fuel cs x h
  rcases open_slice ht h with ⟨rfl, _⟩ | ⟨a, len, cap, m, n, D, Pl, rfl, hb, hl, hm, hmm, _, hel⟩
  · exact ⟨[], ⟨none, 0, rfl, by simp, by simp [Kd.C, ReadsRow]⟩, by simp, by simp⟩
  · have hlm : len ≤ m := by rw [hmm]; split <;> omega
    have each : ∀ i, ∃ y, i < len → ∃ c, c.length = d.sz ∧ d.K w y c ∧ wf y ∧ ∀ j u, c[j]? = some u → w.cell? (a.add (i * d.sz + j)) = some u := by
      intro i
      by_cases hi : i < len
      · obtain ⟨cs', h1, h2⟩ := hel i (by omega)
        obtain ⟨y, hy, hwy⟩ := he h2
        refine ⟨y, fun _ => ⟨cs', d.K_len hy, hy, hwy, fun j u hj => ?_⟩⟩
        obtain ⟨h3, _, h4⟩ := World.cells?_some h1
        have hjl : j < cs'.length := (List.getElem?_eq_some_iff.1 hj).1
        have := h4 j (by omega)
        rw [hc] at this
        rw [hj] at this
        rw [← this]
        congr 1
        simp only [Addr.add]
        split <;> split <;> (try split) <;> simp_all <;> omega
      · exact ⟨z, fun hi' => absurd hi' hi⟩
    obtain ⟨Y, hY⟩ := Classical.axiomOfChoice each
    have hlen : ((List.range len).map Y).length = len := by simp
    refine ⟨(List.range len).map Y, ⟨some a, cap, by rw [hlen], by rw [hlen]; exact hl, ⟨rfl, by rw [hlen]; simp only [maxLen] at hm; omega, fun _ => ⟨a, rfl, fun j p hj => ?_⟩⟩⟩, by rw [hlen]; omega, ?_⟩
    · have hjl : j < len := by have := (List.getElem?_eq_some_iff.1 hj).1; rwa [hlen] at this
      rw [List.getElem?_map, List.getElem?_range hjl] at hj
      simp only [Option.map_some, Option.some.injEq] at hj
      subst hj
      obtain ⟨c, h1, h2, _, h3⟩ := hY j hjl
      exact ⟨c, h1, h2, h3⟩
    · intro y hy
      obtain ⟨j, hj, rfl⟩ := List.mem_map.1 hy
      exact (hY j (List.mem_range.1 hj)).choose_spec.2.2.1

end Go.Proofs.Ytankgbfddgpfmaa.GRead
end
