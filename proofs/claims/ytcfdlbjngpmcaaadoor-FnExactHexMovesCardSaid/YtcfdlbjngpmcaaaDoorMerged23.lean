/- Texts of this claim that follow each other, laid together. -/
import Derived.Test.YtcfdlbjngpmcaaaDoorPAllx10
import Derived.Test.YtcfdlbjngpmcaaaDoorWWords
import Derived.Test.YtcfdlbjngpmcaaaDoorPAllx4
import Derived.Test.YtcfdlbjngpmcaaaDoorPAllx7
import Derived.Test.YtcfdlbjngpmcaaaDoorPAllx9
import Derived.KernelRfl
import Derived.Test.YtcfdlbjngpmcaaaDoorPAllx11
import Derived.Test.YtcfdlbjngpmcaaaDoorPAllx2
import Derived.Test.YtcfdlbjngpmcaaaDoorMerged10
import Derived.Test.YtcfdlbjngpmcaaaDoorGNeedX
import Derived.Test.YtcfdlbjngpmcaaaDoorPAllx12
import Derived.Test.YtcfdlbjngpmcaaaDoorPAllx3
import Derived.Test.YtcfdlbjngpmcaaaDoorPAllx1
import Derived.Test.YtcfdlbjngpmcaaaDoorPAllx5
import Derived.Test.YtcfdlbjngpmcaaaDoorPAllx6
import Derived.Test.YtcfdlbjngpmcaaaDoorMerged17
import Derived.Test.YtcfdlbjngpmcaaaDoorMerged7
import Derived.Test.YtcfdlbjngpmcaaaDoorMerged14
import Derived.Test.YtcfdlbjngpmcaaaDoorPAllx13

section
-- Written by wip/pp.py of this work (a driver around the kit's print), out of the translation; Lean checks it.
namespace Go.Proofs.YtcfdlbjngpmcaaaDoor.PAll
open Go.RowKit Go.Proofs.YtcfdlbjngpmcaaaDoorW.PrintWords Go.Proofs.YtcfdlbjngpmcaaaDoorW.PrintLast

/-- The one pure statement of laws_FnExactHexMoves. -/
def laws_FnExactHexMoves.Pure : Prop := ∀ (a0_0 : Int) (l0_1 : List Int), ((Lit.int .i64 a0_0).wf = true) → (l0_1.length ≤ maxLen ∧ ∀ y0_ ∈ l0_1, (Lit.int .i64 y0_).wf = true) → ∃ k, laws_FnExactHexMoves.f k a0_0 l0_1 = some true
end Go.Proofs.YtcfdlbjngpmcaaaDoor.PAll
end

section
/- What the laws' own helpers over whole numbers come to: copies, comparisons, marks. -/
namespace Go.Proofs.YtcfdlbjngpmcaaaDoor.PAll
open Go.RowKit Go.Proofs.YtcfdlbjngpmcaaaDoorW.PrintWords Go.Proofs.YtcfdlbjngpmcaaaDoorW.PrintLast
set_option linter.unusedVariables false

theorem w64 {x : Int} (h0 : -9223372036854775808 ≤ x) (h1 : x ≤ 9223372036854775807) : wrap64 x = x := by unfold wrap64; omega
theorem rd_nat (l : List Int) (i : Nat) (h : i < l.length) : rd l (i : Int) = l[i] := by simp [rd, List.getD_eq_getElem?_getD, h]
/-- One more round of a loop whose number of rounds is spent by the round itself. -/
theorem Ev.succ {α : Type} {g : Nat → Option α} {r : α} (h : Ev (fun k => g (k + 1)) r) : Ev g r := Ev.step (f := fun k => g (k + 1)) (fun _ => rfl) h

theorem ev_to_l0 (x0 : List Int) (hm : x0.length ≤ 35184372088832) : ∀ (d i : Nat) (x3 : List Int), i + d = x0.length → x3.length = x0.length → (∀ j, j < i → x3[j]? = x0[j]?) → Ev (fun k => laws_toInt64S.l0 k x0 x3 (i : Int)) x0 := by
  intro d
  induction d with
  | zero =>
    intro i x3 hi hl hj
    refine Ev.succ ?_
    simp only [laws_toInt64S.l0]
    have h1 : ¬ ((i : Int) < (x0.length : Int)) := by omega
    simp only [if_neg h1]
    have : x3 = x0 := List.ext_getElem? fun j => by
      rcases Nat.lt_or_ge j i with h | h
      · exact hj j h
      · rw [List.getElem?_eq_none (by omega), List.getElem?_eq_none (by omega)]
    rw [this]
    exact Ev.now _
  | succ d ih =>
    intro i x3 hi hl hj
    refine Ev.succ ?_
    simp only [laws_toInt64S.l0]
    have h1 : (i : Int) < (x0.length : Int) := by omega
    have h2 : (0 : Int) ≤ (i : Int) := by omega
    have h3 : (i : Int) < (x3.length : Int) := by omega
    simp only [if_pos h1, if_pos h2, if_pos h3]
    have h4 : wrap64 ((i : Int) + 1) = ((i + 1 : Nat) : Int) := by rw [w64 (by omega) (by omega)]; omega
    rw [h4]
    refine ih (i + 1) _ (by omega) (by simpa using hl) (fun j hji => ?_)
    rw [Int.toNat_natCast, List.getElem?_set]
    by_cases e : i = j
    · subst e
      rw [if_pos rfl, if_pos (by omega), rd_nat x0 i (by omega), List.getElem?_eq_getElem (by omega)]
    · rw [if_neg e]
      exact hj j (by omega)
theorem ev_toInt64S (l : List Int) (hm : l.length ≤ 35184372088832) : Ev (fun k => laws_toInt64S.f k l) l := by
  unfold laws_toInt64S.f
  have h1 : (0 : Int) ≤ (l.length : Int) := by omega
  simp only [Int.toNat_natCast, if_pos h1, if_pos hm]
  exact ev_to_l0 l hm l.length 0 _ (by omega) (by simp) (fun j hj => absurd hj (by omega))

theorem ev_eq_l0 (a b : List Int) (hl : a.length = b.length) (hm : a.length ≤ 35184372088832) : ∀ (d i : Nat), i + d = a.length → (∀ j, j < i → a[j]? = b[j]?) → Ev (fun k => laws_eqInt64S.l0 k a b (i : Int)) (decide (a = b)) := by
  intro d
  induction d with
  | zero =>
    intro i hi hj
    refine Ev.succ ?_
    simp only [laws_eqInt64S.l0]
    have h1 : ¬ ((i : Int) < (a.length : Int)) := by omega
    simp only [if_neg h1]
    have : a = b := List.ext_getElem? fun j => by
      rcases Nat.lt_or_ge j i with h | h
      · exact hj j h
      · rw [List.getElem?_eq_none (by omega), List.getElem?_eq_none (by omega)]
    rw [decide_eq_true this]
    exact Ev.now _
  | succ d ih =>
    intro i hi hj
    refine Ev.succ ?_
    simp only [laws_eqInt64S.l0]
    have h1 : (i : Int) < (a.length : Int) := by omega
    have h2 : (0 : Int) ≤ (i : Int) := by omega
    have h3 : (i : Int) < (b.length : Int) := by omega
    simp only [if_pos h1, if_pos h2, if_pos h3]
    rw [rd_nat a i (by omega), rd_nat b i (by omega)]
    have h4 : wrap64 ((i : Int) + 1) = ((i + 1 : Nat) : Int) := by rw [w64 (by omega) (by omega)]; omega
    rw [h4]
    by_cases e : a[i] = b[i]
    · simp only [if_pos e]
      refine ih (i + 1) (by omega) (fun j hji => ?_)
      by_cases h : j = i
      · subst h
        rw [List.getElem?_eq_getElem (by omega), List.getElem?_eq_getElem (by omega), e]
      · exact hj j (by omega)
    · simp only [if_neg e]
      have : a ≠ b := fun h => e (by subst h; rfl)
      rw [decide_eq_false this]
      exact Ev.now _
theorem ev_eqInt64S (a b : List Int) (hm : a.length ≤ 35184372088832) : Ev (fun k => laws_eqInt64S.f k a b) (decide (a = b)) := by
  unfold laws_eqInt64S.f
  by_cases hl : (a.length : Int) = (b.length : Int)
  · simp only [if_pos hl]
    exact ev_eq_l0 a b (by omega) hm a.length 0 (by omega) (fun j hj => absurd hj (by omega))
  · simp only [if_neg hl]
    have : a ≠ b := fun h => hl (by rw [h])
    rw [decide_eq_false this]
    exact Ev.now _

def marks (n : Nat) (k : Int) : List Int := (List.range n).map fun (i : Nat) => k + (i : Int)
theorem marks_length (n : Nat) (k : Int) : (marks n k).length = n := by simp [marks]
theorem marks_get (n : Nat) (k : Int) (j : Nat) (h : j < n) : (marks n k)[j]? = some (k + (j : Int)) := by simp [marks, h]
theorem ev_mark_l0 (n : Nat) (k0 : Int) (hk : 0 ≤ k0) (hk2 : k0 ≤ 35184372088832) (hm : n ≤ 35184372088832) : ∀ (d i : Nat) (x : List Int), i + d = n → x.length = n → (∀ j, j < i → x[j]? = some (k0 + (j : Int))) → Ev (fun k => laws_markInt64S.l0 k x (k0 + (i : Int)) (i : Int)) (k0 + (n : Int), marks n k0) := by
  intro d
  induction d with
  | zero =>
    intro i x hi hl hj
    refine Ev.succ ?_
    simp only [laws_markInt64S.l0]
    have h1 : ¬ ((i : Int) < (x.length : Int)) := by omega
    simp only [if_neg h1]
    have : x = marks n k0 := List.ext_getElem? fun j => by
      rcases Nat.lt_or_ge j i with h | h
      · rw [hj j h, marks_get n k0 j (by omega)]
      · rw [List.getElem?_eq_none (by omega), List.getElem?_eq_none (by rw [marks_length]; omega)]
    rw [this, show i = n by omega]
    exact Ev.now _
  | succ d ih =>
    intro i x hi hl hj
    refine Ev.succ ?_
    simp only [laws_markInt64S.l0]
    have h1 : (i : Int) < (x.length : Int) := by omega
    have h2 : (0 : Int) ≤ (i : Int) := by omega
    simp only [if_pos h1, if_pos h2]
    have h4 : wrap64 ((i : Int) + 1) = ((i + 1 : Nat) : Int) := by rw [w64 (by omega) (by omega)]; omega
    have h5 : wrap64 (k0 + (i : Int) + 1) = k0 + ((i + 1 : Nat) : Int) := by rw [w64 (by omega) (by omega)]; omega
    rw [h4, h5]
    refine ih (i + 1) _ (by omega) (by simpa using hl) (fun j hji => ?_)
    rw [Int.toNat_natCast, List.getElem?_set]
    by_cases e : i = j
    · subst e
      rw [if_pos rfl, if_pos (by omega)]
    · rw [if_neg e]
      exact hj j (by omega)
theorem ev_markInt64S (l : List Int) (k0 : Int) (hk : 0 ≤ k0) (hk2 : k0 ≤ 35184372088832) (hm : l.length ≤ 35184372088832) : Ev (fun k => laws_markInt64S.f k l k0) (k0 + (l.length : Int), marks l.length k0) := by
  unfold laws_markInt64S.f
  have := ev_mark_l0 l.length k0 hk hk2 hm l.length 0 l (by omega) rfl (fun j hj => absurd hj (by omega))
  simpa using this

theorem ev_held_l0 (n : Nat) (k0 : Int) (hk : 0 ≤ k0) (hk2 : k0 ≤ 35184372088832) (hm : n ≤ 35184372088832) : ∀ (d i : Nat), i + d = n → Ev (fun k => laws_heldInt64S.l0 k (marks n k0) (k0 + (i : Int)) (i : Int)) (k0 + (n : Int)) := by
  intro d
  induction d with
  | zero =>
    intro i hi
    refine Ev.succ ?_
    simp only [laws_heldInt64S.l0]
    have h1 : ¬ ((i : Int) < ((marks n k0).length : Int)) := by rw [marks_length]; omega
    simp only [if_neg h1]
    rw [show i = n by omega]
    exact Ev.now _
  | succ d ih =>
    intro i hi
    refine Ev.succ ?_
    simp only [laws_heldInt64S.l0]
    have h1 : (i : Int) < ((marks n k0).length : Int) := by rw [marks_length]; omega
    have h2 : (0 : Int) ≤ (i : Int) := by omega
    have h3 : rd (marks n k0) (i : Int) = k0 + (i : Int) := by
      simp only [rd, Int.toNat_natCast, List.getD_eq_getElem?_getD]
      rw [marks_get n k0 i (by omega)]; rfl
    simp only [if_pos h1, if_pos h2, if_pos h3]
    have h4 : wrap64 ((i : Int) + 1) = ((i + 1 : Nat) : Int) := by rw [w64 (by omega) (by omega)]; omega
    have h5 : wrap64 (k0 + (i : Int) + 1) = k0 + ((i + 1 : Nat) : Int) := by rw [w64 (by omega) (by omega)]; omega
    rw [h4, h5]
    exact ih (i + 1) (by omega)
theorem ev_heldInt64S (n : Nat) (k0 : Int) (hk : 0 ≤ k0) (hk2 : k0 ≤ 35184372088832) (hm : n ≤ 35184372088832) : Ev (fun k => laws_heldInt64S.f k (marks n k0) k0) (k0 + (n : Int)) := by
  unfold laws_heldInt64S.f
  have := ev_held_l0 n k0 hk hk2 hm n 0 (by omega)
  simpa using this

end Go.Proofs.YtcfdlbjngpmcaaaDoor.PAll
end

section
/- Neighbours: for every side and cell the program's and the reference's are one list (the kernel reckons all of them). -/
namespace Go.Proofs.YtcfdlbjngpmcaaaDoor.PAll
open Go.RowKit Go.Proofs.YtcfdlbjngpmcaaaDoorW.PrintWords Go.Proofs.YtcfdlbjngpmcaaaDoorW.PrintLast
set_option linter.unusedVariables false
set_option linter.unusedSimpArgs false

def nearL (s a : Int) : List Int := ((spec_l06Near.f 20 s a).getD [])
def nearOk (s a : Int) : Bool := (spec_l06Near.f 20 s a == some (nearL s a)) && (impl_near.f 20 s a == some (nearL s a)) && ((nearL s a).all fun b => decide (0 ≤ b ∧ b < s * s)) && decide ((nearL s a).length ≤ 6)
theorem near_all : (List.range 9).all (fun s => s == 0 || (List.range (s * s)).all fun a => nearOk (s : Int) (a : Int)) = true := by decide +kernel
theorem near_at {s a : Nat} (hs : 1 ≤ s ∧ s ≤ 8) (ha : a < s * s) : spec_l06Near.f 20 (s : Int) (a : Int) = some (nearL s a) ∧ impl_near.f 20 (s : Int) (a : Int) = some (nearL s a) ∧ (∀ b ∈ nearL s a, 0 ≤ b ∧ b < (s : Int) * (s : Int)) ∧ (nearL s a).length ≤ 6 := by
  have h := List.all_eq_true.1 near_all s (List.mem_range.2 (by omega))
  have hs0 : (s == 0) = false := by rw [beq_eq_false_iff_ne]; omega
  rw [hs0, Bool.false_or] at h
  have h1 := List.all_eq_true.1 h a (List.mem_range.2 ha)
  simp only [nearOk, Bool.and_eq_true, beq_iff_eq, decide_eq_true_eq] at h1
  exact ⟨h1.1.1.1, h1.1.1.2, fun b hb => by simpa using List.all_eq_true.1 h1.1.2 b hb, h1.2⟩
theorem ev_spec_near {s a : Nat} (hs : 1 ≤ s ∧ s ≤ 8) (ha : a < s * s) : Ev (fun k => spec_l06Near.f k (s : Int) (a : Int)) (nearL s a) := Ev.of (fun k => spec_l06Near.mono _ _ k) (near_at hs ha).1
theorem ev_impl_near {s a : Nat} (hs : 1 ≤ s ∧ s ≤ 8) (ha : a < s * s) : Ev (fun k => impl_near.f k (s : Int) (a : Int)) (nearL s a) := Ev.of (fun k => impl_near.mono _ _ k) (near_at hs ha).2.1
end Go.Proofs.YtcfdlbjngpmcaaaDoor.PAll
end

section
/- Which cells a player's cells join to the first line: told by every set that holds the first line's and is closed. -/
namespace Go.Proofs.YtcfdlbjngpmcaaaDoor.PAll
open Go.RowKit Go.Proofs.YtcfdlbjngpmcaaaDoorW.PrintWords Go.Proofs.YtcfdlbjngpmcaaaDoorW.PrintLast
set_option linter.unusedVariables false
set_option linter.unusedSimpArgs false

def okc (l : List Int) (p c : Int) : Prop := 0 ≤ c ∧ c < (l.length : Int) ∧ rd l c = p
def Starts (s : Int) (l : List Int) (p : Int) (S : Int → Prop) : Prop := ∀ c, okc l p c → lineI s p c = 0 → S c
def Closed (s : Int) (l : List Int) (p : Int) (S : Int → Prop) : Prop := ∀ a b, S a → b ∈ nearL s a → okc l p b → S b
def Reach (s : Int) (l : List Int) (p : Int) (c : Int) : Prop := ∀ S : Int → Prop, Starts s l p S → Closed s l p S → S c
theorem reach_start {s : Int} {l : List Int} {p c : Int} (h : okc l p c) (h0 : lineI s p c = 0) : Reach s l p c := fun S h1 _ => h1 c h h0
theorem reach_step {s : Int} {l : List Int} {p a b : Int} (ha : Reach s l p a) (hb : b ∈ nearL s a) (h : okc l p b) : Reach s l p b := fun S h1 h2 => h2 a b (ha S h1 h2) hb h
/-- Does a player join the two lines? -/
def Joins (s : Int) (l : List Int) (p : Int) : Prop := ∃ c, Reach s l p c ∧ lineI s p c = s - 1
end Go.Proofs.YtcfdlbjngpmcaaaDoor.PAll
end

section
/- On a triangle of cells in two colours just one colour joins the three sides: by taking the majority of each small triangle. No program in sight. -/
namespace Go.Proofs.YtcfdlbjngpmcaaaDoor.Tri

def adj (i j a b : Int) : Prop := (a = i + 1 ∧ b = j) ∨ (a = i - 1 ∧ b = j) ∨ (a = i ∧ b = j + 1) ∨ (a = i ∧ b = j - 1) ∨ (a = i + 1 ∧ b = j - 1) ∨ (a = i - 1 ∧ b = j + 1)
/-- A cell of the triangle of a side with a colour. -/
def ok (m : Int) (C : Int → Int → Bool) (p : Bool) (i j : Int) : Prop := 0 ≤ i ∧ 0 ≤ j ∧ i + j < m ∧ C i j = p
inductive Con (m : Int) (C : Int → Int → Bool) (p : Bool) (i j : Int) : Int → Int → Prop
  | refl : ok m C p i j → Con m C p i j i j
  | step {a b c d : Int} : Con m C p i j a b → adj a b c d → ok m C p c d → Con m C p i j c d
theorem Con.ok_left {m : Int} {C : Int → Int → Bool} {p : Bool} {i j a b : Int} (h : Con m C p i j a b) : ok m C p i j := by
  induction h with
  | refl h => exact h
  | step _ _ _ ih => exact ih
theorem Con.ok_right {m : Int} {C : Int → Int → Bool} {p : Bool} {i j a b : Int} (h : Con m C p i j a b) : ok m C p a b := by
  cases h with
  | refl h => exact h
  | step _ _ h => exact h
theorem Con.trans {m : Int} {C : Int → Int → Bool} {p : Bool} {i j a b c d : Int} (h : Con m C p i j a b) (k : Con m C p a b c d) : Con m C p i j c d := by
  induction k with
  | refl _ => exact h
  | step _ h1 h2 ih => exact ih.step h1 h2
theorem adj_symm {i j a b : Int} (h : adj i j a b) : adj a b i j := by unfold adj at *; omega
theorem Con.symm {m : Int} {C : Int → Int → Bool} {p : Bool} {i j a b : Int} (h : Con m C p i j a b) : Con m C p a b i j := by
  induction h with
  | refl h => exact .refl h
  | step h1 h2 h3 ih => exact ((Con.refl h3).step (adj_symm h2) h1.ok_right).trans ih
/-- A colour joins the three sides. -/
def Wins (m : Int) (C : Int → Int → Bool) (p : Bool) : Prop := ∃ i j, (∃ b, Con m C p i j 0 b) ∧ (∃ a, Con m C p i j a 0) ∧ ∃ a b, Con m C p i j a b ∧ a + b = m - 1
def red (C : Int → Int → Bool) (i j : Int) : Bool := (C i j && C (i + 1) j) || (C i j && C i (j + 1)) || (C (i + 1) j && C i (j + 1))
/-- A cell lies in the small triangle of a cell of the lesser one. -/
def inT (i j a b : Int) : Prop := (a = i ∧ b = j) ∨ (a = i + 1 ∧ b = j) ∨ (a = i ∧ b = j + 1)

theorem red_two {C : Int → Int → Bool} {p : Bool} {i j : Int} (h : red C i j = p) : (C i j = p ∧ C (i + 1) j = p) ∨ (C i j = p ∧ C i (j + 1) = p) ∨ (C (i + 1) j = p ∧ C i (j + 1) = p) := by
  unfold red at h
  cases h1 : C i j <;> cases h2 : C (i + 1) j <;> cases h3 : C i (j + 1) <;> cases p <;> simp_all
theorem two_red {C : Int → Int → Bool} {p : Bool} {i j : Int} (h : (C i j = p ∧ C (i + 1) j = p) ∨ (C i j = p ∧ C i (j + 1) = p) ∨ (C (i + 1) j = p ∧ C i (j + 1) = p)) : red C i j = p := by
  unfold red
  cases h1 : C i j <;> cases h2 : C (i + 1) j <;> cases h3 : C i (j + 1) <;> cases p <;> simp_all
theorem inT_ok {m : Int} {C : Int → Int → Bool} {p : Bool} {i j a b : Int} (h : ok m (red C) p i j) (ht : inT i j a b) (hc : C a b = p) : ok (m + 1) C p a b := by
  obtain ⟨h1, h2, h3, _⟩ := h
  unfold inT at ht
  exact ⟨by omega, by omega, by omega, hc⟩
theorem inT_con {m : Int} {C : Int → Int → Bool} {p : Bool} {i j a b c d : Int} (h : ok m (red C) p i j) (h1 : inT i j a b) (h2 : C a b = p) (h3 : inT i j c d) (h4 : C c d = p) : Con (m + 1) C p a b c d := by
  have k1 := inT_ok h h1 h2
  have k2 := inT_ok h h3 h4
  by_cases e : a = c ∧ b = d
  · obtain ⟨rfl, rfl⟩ := e; exact .refl k1
  · exact (Con.refl k1).step (by unfold adj inT at *; omega) k2
/-- Neighbours of the lesser triangle: their small triangles are joined. -/
theorem adj_con {m : Int} {C : Int → Int → Bool} {p : Bool} {i j k l : Int} (h : ok m (red C) p i j) (h' : ok m (red C) p k l) (ha : adj i j k l) :
    ∃ a b c d, inT i j a b ∧ C a b = p ∧ inT k l c d ∧ C c d = p ∧ ((a = c ∧ b = d) ∨ adj a b c d) := by
  have r1 := red_two h.2.2.2
  have r2 := red_two h'.2.2.2
  unfold adj at ha
  rcases ha with ⟨rfl, rfl⟩ | ⟨rfl, rfl⟩ | ⟨rfl, rfl⟩ | ⟨rfl, rfl⟩ | ⟨rfl, rfl⟩ | ⟨rfl, rfl⟩
  · by_cases s : C (i + 1) l = p
    · exact ⟨i + 1, l, i + 1, l, by unfold inT; omega, s, by unfold inT; omega, s, Or.inl ⟨rfl, rfl⟩⟩
    · exact ⟨i, l + 1, i + 1, l + 1, by unfold inT; omega, by simp_all, by unfold inT; omega, by simp_all, Or.inr (by unfold adj; omega)⟩
  · by_cases s : C i l = p
    · exact ⟨i, l, i, l, by unfold inT; omega, s, by unfold inT; omega, s, Or.inl ⟨rfl, rfl⟩⟩
    · have e : i - 1 + 1 = i := by omega
      rw [e] at r2
      exact ⟨i, l + 1, i - 1, l + 1, by unfold inT; omega, by simp_all, by unfold inT; omega, by simp_all, Or.inr (by unfold adj; omega)⟩
  · by_cases s : C k (j + 1) = p
    · exact ⟨k, j + 1, k, j + 1, by unfold inT; omega, s, by unfold inT; omega, s, Or.inl ⟨rfl, rfl⟩⟩
    · exact ⟨k + 1, j, k + 1, j + 1, by unfold inT; omega, by simp_all, by unfold inT; omega, by simp_all, Or.inr (by unfold adj; omega)⟩
  · by_cases s : C k j = p
    · exact ⟨k, j, k, j, by unfold inT; omega, s, by unfold inT; omega, s, Or.inl ⟨rfl, rfl⟩⟩
    · have e : j - 1 + 1 = j := by omega
      rw [e] at r2
      exact ⟨k + 1, j, k + 1, j - 1, by unfold inT; omega, by simp_all, by unfold inT; omega, by simp_all, Or.inr (by unfold adj; omega)⟩
  · have e : j - 1 + 1 = j := by omega
    rw [e] at r2
    by_cases s : C (i + 1) j = p
    · exact ⟨i + 1, j, i + 1, j, by unfold inT; omega, s, by unfold inT; omega, s, Or.inl ⟨rfl, rfl⟩⟩
    · exact ⟨i, j, i + 1, j - 1, by unfold inT; omega, by simp_all, by unfold inT; omega, by simp_all, Or.inr (by unfold adj; omega)⟩
  · have e : i - 1 + 1 = i := by omega
    rw [e] at r2
    by_cases s : C i (j + 1) = p
    · exact ⟨i, j + 1, i, j + 1, by unfold inT; omega, s, by unfold inT; omega, s, Or.inl ⟨rfl, rfl⟩⟩
    · exact ⟨i, j, i - 1, j + 1, by unfold inT; omega, by simp_all, by unfold inT; omega, by simp_all, Or.inr (by unfold adj; omega)⟩
theorem some_inT {C : Int → Int → Bool} {p : Bool} {i j : Int} (h : red C i j = p) : ∃ a b, inT i j a b ∧ C a b = p := by
  rcases red_two h with h | h | h
  · exact ⟨i, j, Or.inl ⟨rfl, rfl⟩, h.1⟩
  · exact ⟨i, j, Or.inl ⟨rfl, rfl⟩, h.1⟩
  · exact ⟨i + 1, j, Or.inr (Or.inl ⟨rfl, rfl⟩), h.1⟩
theorem up {m : Int} {C : Int → Int → Bool} {p : Bool} {i j k l : Int} (h : Con m (red C) p i j k l) : ∀ a b c d, inT i j a b → C a b = p → inT k l c d → C c d = p → Con (m + 1) C p a b c d := by
  induction h with
  | refl h => intro a b c d h1 h2 h3 h4; exact inT_con h h1 h2 h3 h4
  | step h1 h2 h3 ih =>
    intro a b c d k1 k2 k3 k4
    obtain ⟨x, y, z, w, q1, q2, q3, q4, q5⟩ := adj_con h1.ok_right h3 h2
    have s1 := ih a b x y k1 k2 q1 q2
    have s2 := inT_con h3 q3 q4 k3 k4
    rcases q5 with ⟨rfl, rfl⟩ | q5
    · exact s1.trans s2
    · exact (s1.step q5 (inT_ok h3 q3 q4)).trans s2
theorem wins_up {m : Int} {C : Int → Int → Bool} {p : Bool} (h : Wins m (red C) p) : Wins (m + 1) C p := by
  obtain ⟨i, j, ⟨b, hb⟩, ⟨a, ha⟩, c, d, hc, hcd⟩ := h
  obtain ⟨x, y, k1, k2⟩ := some_inT hb.ok_left.2.2.2
  refine ⟨x, y, ?_, ?_, ?_⟩
  · rcases red_two hb.ok_right.2.2.2 with h | h | h
    · exact ⟨b, up hb x y 0 b k1 k2 (by unfold inT; omega) h.1⟩
    · exact ⟨b, up hb x y 0 b k1 k2 (by unfold inT; omega) h.1⟩
    · exact ⟨b + 1, up hb x y 0 (b + 1) k1 k2 (by unfold inT; omega) h.2⟩
  · rcases red_two ha.ok_right.2.2.2 with h | h | h
    · exact ⟨a, up ha x y a 0 k1 k2 (by unfold inT; omega) h.1⟩
    · exact ⟨a, up ha x y a 0 k1 k2 (by unfold inT; omega) h.1⟩
    · exact ⟨a + 1, up ha x y (a + 1) 0 k1 k2 (by unfold inT; omega) h.1⟩
  · rcases red_two hc.ok_right.2.2.2 with h | h | h
    · exact ⟨c + 1, d, up hc x y (c + 1) d k1 k2 (by unfold inT; omega) h.2, by omega⟩
    · exact ⟨c, d + 1, up hc x y c (d + 1) k1 k2 (by unfold inT; omega) h.2, by omega⟩
    · exact ⟨c + 1, d, up hc x y (c + 1) d k1 k2 (by unfold inT; omega) h.1, by omega⟩

/-- Two neighbours of a colour lie in one small triangle. -/
theorem edge {m : Int} {C : Int → Int → Bool} {p : Bool} {a b c d : Int} (h : ok (m + 1) C p a b) (h' : ok (m + 1) C p c d) (ha : adj a b c d) : ∃ i j, ok m (red C) p i j ∧ inT i j a b ∧ inT i j c d := by
  obtain ⟨a1, a2, a3, a4⟩ := h
  obtain ⟨c1, c2, c3, c4⟩ := h'
  unfold adj at ha
  rcases ha with ⟨rfl, rfl⟩ | ⟨rfl, rfl⟩ | ⟨rfl, rfl⟩ | ⟨rfl, rfl⟩ | ⟨rfl, rfl⟩ | ⟨rfl, rfl⟩
  · exact ⟨a, d, ⟨a1, a2, by omega, two_red (Or.inl ⟨a4, c4⟩)⟩, by unfold inT; omega, by unfold inT; omega⟩
  · exact ⟨a - 1, d, ⟨c1, a2, by omega, two_red (Or.inl ⟨c4, by rw [show a - 1 + 1 = a by omega]; exact a4⟩)⟩, by unfold inT; omega, by unfold inT; omega⟩
  · exact ⟨c, b, ⟨a1, a2, by omega, two_red (Or.inr (Or.inl ⟨a4, c4⟩))⟩, by unfold inT; omega, by unfold inT; omega⟩
  · exact ⟨c, b - 1, ⟨a1, c2, by omega, two_red (Or.inr (Or.inl ⟨c4, by rw [show b - 1 + 1 = b by omega]; exact a4⟩))⟩, by unfold inT; omega, by unfold inT; omega⟩
  · exact ⟨a, b - 1, ⟨a1, c2, by omega, two_red (Or.inr (Or.inr ⟨c4, by rw [show b - 1 + 1 = b by omega]; exact a4⟩))⟩, by unfold inT; omega, by unfold inT; omega⟩
  · exact ⟨a - 1, b, ⟨c1, a2, by omega, two_red (Or.inr (Or.inr ⟨by rw [show a - 1 + 1 = a by omega]; exact a4, c4⟩))⟩, by unfold inT; omega, by unfold inT; omega⟩
theorem share {i j k l a b : Int} (h : inT i j a b) (h' : inT k l a b) : (i = k ∧ j = l) ∨ adj i j k l := by unfold inT adj at *; omega
theorem down {m : Int} {C : Int → Int → Bool} {p : Bool} {i j x y a b : Int} (h0 : ok m (red C) p i j) (h1 : inT i j x y) (h : Con (m + 1) C p x y a b) : ∃ k l, inT k l a b ∧ Con m (red C) p i j k l := by
  induction h with
  | refl _ => exact ⟨i, j, h1, .refl h0⟩
  | step g1 g2 g3 ih =>
    obtain ⟨k, l, e1, e2⟩ := ih
    obtain ⟨u, v, f1, f2, f3⟩ := edge g1.ok_right g3 g2
    refine ⟨u, v, f3, ?_⟩
    rcases share e1 f2 with ⟨rfl, rfl⟩ | hs
    · exact e2
    · exact e2.step hs f1
theorem first_step {m : Int} {C : Int → Int → Bool} {p : Bool} {x y a b : Int} (h : Con m C p x y a b) : (a = x ∧ b = y) ∨ ∃ c d, adj x y c d ∧ ok m C p c d := by
  induction h with
  | refl _ => exact Or.inl ⟨rfl, rfl⟩
  | step g1 g2 g3 ih =>
    rcases ih with ⟨rfl, rfl⟩ | ih
    · exact Or.inr ⟨_, _, g2, g3⟩
    · exact Or.inr ih
theorem wins_down {m : Int} (hm : 1 ≤ m) {C : Int → Int → Bool} {p : Bool} (h : Wins (m + 1) C p) : Wins m (red C) p := by
  obtain ⟨x, y, ⟨b, hb⟩, ⟨a, ha⟩, c, d, hc, hcd⟩ := h
  have hx := hb.ok_left
  have hn : ∃ c d, adj x y c d ∧ ok (m + 1) C p c d := by
    rcases first_step hb with ⟨e1, e2⟩ | h
    · rcases first_step ha with ⟨e3, e4⟩ | h
      · rcases first_step hc with ⟨e5, e6⟩ | h
        · omega
        · exact h
      · exact h
    · exact h
  obtain ⟨u, v, hu, hv⟩ := hn
  obtain ⟨i, j, h0, h1, _⟩ := edge hx hv hu
  refine ⟨i, j, ?_, ?_, ?_⟩
  · obtain ⟨k, l, e1, e2⟩ := down h0 h1 hb
    have := e2.ok_right.1
    have : k = 0 := by unfold inT at e1; omega
    subst this
    exact ⟨l, e2⟩
  · obtain ⟨k, l, e1, e2⟩ := down h0 h1 ha
    have := e2.ok_right.2.1
    have : l = 0 := by unfold inT at e1; omega
    subst this
    exact ⟨k, e2⟩
  · obtain ⟨k, l, e1, e2⟩ := down h0 h1 hc
    have := e2.ok_right.2.2.1
    exact ⟨k, l, e2, by unfold inT at e1; omega⟩
theorem wins_one {C : Int → Int → Bool} {p : Bool} : Wins 1 C p ↔ C 0 0 = p := by
  constructor
  · rintro ⟨i, j, ⟨b, hb⟩, _, _⟩
    obtain ⟨h1, h2, h3, h4⟩ := hb.ok_right
    have : b = 0 := by omega
    rw [this] at h4; exact h4
  · intro h
    have k : ok 1 C p 0 0 := ⟨by omega, by omega, by omega, h⟩
    exact ⟨0, 0, ⟨0, .refl k⟩, ⟨0, .refl k⟩, 0, 0, .refl k, by omega⟩
/-- Just one colour joins the three sides. -/
theorem wins_just : ∀ (n : Nat) (C : Int → Int → Bool), (Wins ((n : Int) + 1) C true ∨ Wins ((n : Int) + 1) C false) ∧ ¬ (Wins ((n : Int) + 1) C true ∧ Wins ((n : Int) + 1) C false) := by
  intro n
  induction n with
  | zero =>
    intro C
    have e : ((0 : Nat) : Int) + 1 = 1 := rfl
    rw [e, wins_one, wins_one]
    cases C 0 0 <;> simp
  | succ n ih =>
    intro C
    have e : ((n + 1 : Nat) : Int) + 1 = ((n : Int) + 1) + 1 := by omega
    rw [e]
    obtain ⟨h1, h2⟩ := ih (red C)
    exact ⟨h1.imp wins_up wins_up, fun h => h2 ⟨wins_down (by omega) h.1, wins_down (by omega) h.2⟩⟩
end Go.Proofs.YtcfdlbjngpmcaaaDoor.Tri
end

section
/- On a full board just one player joins the two lines; a player who joins on a board joins on every board with more of that player's cells. -/
namespace Go.Proofs.YtcfdlbjngpmcaaaDoor.PAll
open Go.RowKit Go.Proofs.YtcfdlbjngpmcaaaDoorW.PrintWords Go.Proofs.YtcfdlbjngpmcaaaDoorW.PrintLast Go.Proofs.YtcfdlbjngpmcaaaDoor.Tri
set_option linter.unusedVariables false
set_option linter.unusedSimpArgs false

def ln (s p c : Int) : Int := if p = 1 then c / s else c % s
def cr (s p c : Int) : Int := if p = 1 then c % s else c / s
def cl (s p i j : Int) : Int := if p = 1 then i * s + j else j * s + i
theorem side_cases {s : Nat} (h : 1 ≤ s ∧ s ≤ 8) : s = 1 ∨ s = 2 ∨ s = 3 ∨ s = 4 ∨ s = 5 ∨ s = 6 ∨ s = 7 ∨ s = 8 := by omega
theorem cl_ok {s : Nat} (h : 1 ≤ s ∧ s ≤ 8) {p i j : Int} (hi : 0 ≤ i ∧ i < (s : Int)) (hj : 0 ≤ j ∧ j < (s : Int)) : 0 ≤ cl s p i j ∧ cl s p i j < (s : Int) * (s : Int) ∧ ln s p (cl s p i j) = i ∧ cr s p (cl s p i j) = j := by
  unfold cl ln cr
  by_cases hp : p = 1
  · simp only [if_pos hp]
    rcases side_cases h with rfl | rfl | rfl | rfl | rfl | rfl | rfl | rfl <;> omega
  · simp only [if_neg hp]
    rcases side_cases h with rfl | rfl | rfl | rfl | rfl | rfl | rfl | rfl <;> omega
theorem ln_ok {s : Nat} (h : 1 ≤ s ∧ s ≤ 8) {p c : Int} (hc : 0 ≤ c ∧ c < (s : Int) * (s : Int)) : 0 ≤ ln s p c ∧ ln s p c < (s : Int) ∧ 0 ≤ cr s p c ∧ cr s p c < (s : Int) ∧ cl s p (ln s p c) (cr s p c) = c := by
  unfold cl ln cr
  by_cases hp : p = 1
  · simp only [if_pos hp]
    rcases side_cases h with rfl | rfl | rfl | rfl | rfl | rfl | rfl | rfl <;> omega
  · simp only [if_neg hp]
    rcases side_cases h with rfl | rfl | rfl | rfl | rfl | rfl | rfl | rfl <;> omega
theorem lineI_ln {s : Nat} (h : 1 ≤ s ∧ s ≤ 8) {p c : Int} (hc : 0 ≤ c ∧ c < (s : Int) * (s : Int)) : lineI s p c = ln s p c := by
  have h1 := ln_ok h (p := p) hc
  unfold lineI ln at *
  by_cases hp : p = 1
  · simp only [if_pos hp] at *
    rw [Int.tdiv_eq_ediv_of_nonneg hc.1]
    exact w64 (by omega) (by omega)
  · simp only [if_neg hp] at *
    exact Int.tmod_eq_emod_of_nonneg hc.1

def adjB (i j a b : Nat) : Bool := (a == i + 1 && b == j) || (a + 1 == i && b == j) || (a == i && b == j + 1) || (a == i && b + 1 == j) || (a == i + 1 && b + 1 == j) || (a + 1 == i && b == j + 1)
theorem adj_all : (List.range 9).all (fun s => s == 0 || (List.range (s * s)).all fun a => (List.range (s * s)).all fun b => (nearL (s : Int) (a : Int)).contains (b : Int) == adjB (a / s) (a % s) (b / s) (b % s)) = true := by decide +kernel
theorem adjB_iff {i j a b : Nat} : adjB i j a b = true ↔ adj (i : Int) j a b := by
  unfold adjB adj
  simp only [Bool.or_eq_true, Bool.and_eq_true, beq_iff_eq]
  omega
theorem adj_swap {i j a b : Int} : adj i j a b ↔ adj j i b a := by unfold adj; omega
theorem mem_near {s : Nat} (h : 1 ≤ s ∧ s ≤ 8) (p : Int) {a b : Int} (ha : 0 ≤ a ∧ a < (s : Int) * (s : Int)) (hb : 0 ≤ b ∧ b < (s : Int) * (s : Int)) : b ∈ nearL s a ↔ adj (ln s p a) (cr s p a) (ln s p b) (cr s p b) := by
  obtain ⟨a, rfl⟩ := Int.eq_ofNat_of_zero_le ha.1
  obtain ⟨b, rfl⟩ := Int.eq_ofNat_of_zero_le hb.1
  have ha' : a < s * s := by have := ha.2; exact_mod_cast this
  have hb' : b < s * s := by have := hb.2; exact_mod_cast this
  have h1 := List.all_eq_true.1 adj_all s (List.mem_range.2 (by omega))
  have hs0 : (s == 0) = false := by rw [beq_eq_false_iff_ne]; omega
  rw [hs0, Bool.false_or] at h1
  have h2 := List.all_eq_true.1 (List.all_eq_true.1 h1 a (List.mem_range.2 ha')) b (List.mem_range.2 hb')
  have h3 : (nearL (s : Int) (a : Int)).contains (b : Int) = adjB (a / s) (a % s) (b / s) (b % s) := by simpa using h2
  rw [← List.contains_iff_mem, h3, adjB_iff]
  unfold ln cr
  by_cases hp : p = 1
  · simp only [if_pos hp]; push_cast; exact Iff.rfl
  · simp only [if_neg hp]; rw [adj_swap]; push_cast; exact Iff.rfl

/-- The board in a triangle: behind the last line all is the player's, beside the board the other's. -/
def Dc (s : Int) (l : List Int) (p i j : Int) : Bool := if s ≤ i then true else if s ≤ j then false else rd l (cl s p i j) == p
theorem joins_wins {s : Nat} {l : List Int} {p : Int} (h : 1 ≤ s ∧ s ≤ 8) (hl : l.length = s * s) : Joins s l p ↔ Wins (2 * (s : Int) - 1) (fun i j => Dc s l p i j) true := by
  have hl' : (l.length : Int) = (s : Int) * (s : Int) := by rw [hl]; push_cast; rfl
  constructor
  · rintro ⟨c, hr, hc⟩
    have key := hr (fun c => okc l p c ∧ ∃ b, 0 ≤ b ∧ b < (s : Int) ∧ Con (2 * (s : Int) - 1) (fun i j => Dc s l p i j) true 0 b (ln s p c) (cr s p c)) (fun c hc h0 => ?_) (fun a b ha hb hbo => ?_)
    · obtain ⟨hok, b, hb0, hb1, hcon⟩ := key
      have hcs : 0 ≤ c ∧ c < (s : Int) * (s : Int) := ⟨hok.1, by rw [← hl']; exact hok.2.1⟩
      rw [lineI_ln h hcs] at hc
      have hln := ln_ok h (p := p) hcs
      rw [hc] at hcon
      refine ⟨0, b, ⟨b, .refl hcon.ok_left⟩, ?_⟩
      by_cases hs1 : s = 1
      · subst hs1
        have e : cr ((1 : Nat) : Int) p c = 0 := by omega
        rw [e] at hcon
        exact ⟨⟨_, hcon⟩, _, _, hcon, by omega⟩
      · -- onto the row behind the last line
        have hA : ∀ i j : Int, (s : Int) ≤ i → 0 ≤ j → i + j < 2 * (s : Int) - 1 → ok (2 * (s : Int) - 1) (fun i j => Dc s l p i j) true i j := fun i j h1 h2 h3 => ⟨by omega, h2, h3, by simp only [Dc, if_pos h1]⟩
        have hrow : ∃ y, 0 ≤ y ∧ y ≤ (s : Int) - 2 ∧ Con (2 * (s : Int) - 1) (fun i j => Dc s l p i j) true 0 b s y := by
          by_cases hx : cr s p c = 0
          · exact ⟨0, by omega, by omega, hcon.step (by unfold adj; omega) (hA _ _ (by omega) (by omega) (by omega))⟩
          · exact ⟨cr s p c - 1, by omega, by omega, hcon.step (by unfold adj; omega) (hA _ _ (by omega) (by omega) (by omega))⟩
        obtain ⟨y, hy0, hy1, hy⟩ := hrow
        have toR : ∀ (d : Nat) (y : Int), 0 ≤ y → y + d ≤ (s : Int) - 2 → Con (2 * (s : Int) - 1) (fun i j => Dc s l p i j) true s y s (y + d) := by
          intro d
          induction d with
          | zero => intro y h1 h2; simpa using Con.refl (hA s y (by omega) h1 (by omega))
          | succ d ih => intro y h1 h2; exact (ih y h1 (by omega)).step (by unfold adj; omega) (hA _ _ (by omega) (by omega) (by omega))
        have z1 := toR y.toNat 0 (by omega) (by omega)
        rw [show (0 : Int) + (y.toNat : Int) = y by omega] at z1
        have z2 := toR ((s : Int) - 2 - y).toNat y (by omega) (by omega)
        rw [show y + (((s : Int) - 2 - y).toNat : Int) = (s : Int) - 2 by omega] at z2
        exact ⟨⟨_, hy.trans z1.symm⟩, _, _, hy.trans z2, by omega⟩
    · have hcs : 0 ≤ c ∧ c < (s : Int) * (s : Int) := ⟨hc.1, by rw [← hl']; exact hc.2.1⟩
      rw [lineI_ln h hcs] at h0
      have hln := ln_ok h (p := p) hcs
      refine ⟨hc, cr s p c, hln.2.2.1, hln.2.2.2.1, ?_⟩
      rw [h0]
      rw [h0] at hln
      refine .refl ⟨by omega, by omega, by omega, ?_⟩
      simp only [Dc, if_neg (show ¬ ((s : Int) ≤ 0) by omega), if_neg (show ¬ ((s : Int) ≤ cr s p c) by omega), hln.2.2.2.2]
      rw [hc.2.2]; simp
    · obtain ⟨hok, x, hx0, hx1, hcon⟩ := ha
      have hcs : 0 ≤ a ∧ a < (s : Int) * (s : Int) := ⟨hok.1, by rw [← hl']; exact hok.2.1⟩
      have hbs : 0 ≤ b ∧ b < (s : Int) * (s : Int) := ⟨hbo.1, by rw [← hl']; exact hbo.2.1⟩
      have hln := ln_ok h (p := p) hbs
      refine ⟨hbo, x, hx0, hx1, hcon.step ((mem_near h p hcs hbs).1 hb) ⟨by omega, by omega, by omega, ?_⟩⟩
      simp only [Dc, if_neg (show ¬ ((s : Int) ≤ ln s p b) by omega), if_neg (show ¬ ((s : Int) ≤ cr s p b) by omega), hln.2.2.2.2]
      rw [hbo.2.2]; simp
  · rintro ⟨x, y, ⟨b, hb⟩, _, a', b', hc, hcd⟩
    have hcon := hb.symm.trans hc
    have hD : ∀ i j : Int, ok (2 * (s : Int) - 1) (fun i j => Dc s l p i j) true i j → i < s → j < s ∧ okc l p (cl s p i j) := fun i j hk hi => by
      obtain ⟨k1, k2, k3, k4⟩ := hk
      simp only [Dc, if_neg (show ¬ ((s : Int) ≤ i) by omega)] at k4
      by_cases hj : (s : Int) ≤ j
      · rw [if_pos hj] at k4; cases k4
      · rw [if_neg hj] at k4
        have := cl_ok h (p := p) ⟨k1, hi⟩ ⟨k2, (by omega : j < (s : Int))⟩
        exact ⟨by omega, this.1, by rw [hl']; exact this.2.1, by simpa using k4⟩
    have last : ∀ j : Int, 0 ≤ j → j < s → Reach s l p (cl s p ((s : Int) - 1) j) → Joins s l p := fun j h1 h2 h3 => by
      have := cl_ok h (p := p) (i := (s : Int) - 1) ⟨by omega, by omega⟩ ⟨h1, h2⟩
      exact ⟨_, h3, by rw [lineI_ln h ⟨this.1, this.2.1⟩]; exact this.2.2.1⟩
    have key : ∀ a c : Int, Con (2 * (s : Int) - 1) (fun i j => Dc s l p i j) true 0 b a c → Joins s l p ∨ (a < s ∧ c < s ∧ Reach s l p (cl s p a c)) := by
      intro a c hac
      induction hac with
      | refl hk =>
        obtain ⟨k1, k2⟩ := hD 0 b hk (by omega)
        have := cl_ok h (p := p) (i := 0) ⟨by omega, by omega⟩ ⟨hk.2.1, k1⟩
        exact Or.inr ⟨by omega, k1, reach_start k2 (by rw [lineI_ln h ⟨this.1, this.2.1⟩]; exact this.2.2.1)⟩
      | step g1 g2 g3 ih =>
        rename_i a1 c1 a2 c2
        rcases ih with ih | ⟨i1, i2, i3⟩
        · exact Or.inl ih
        · have ok1 := g1.ok_right
          by_cases ha2 : a2 < s
          · obtain ⟨k1, k2⟩ := hD a2 c2 g3 ha2
            have c1' := cl_ok h (p := p) ⟨ok1.1, i1⟩ ⟨ok1.2.1, i2⟩
            have c2' := cl_ok h (p := p) ⟨g3.1, ha2⟩ ⟨g3.2.1, k1⟩
            refine Or.inr ⟨ha2, k1, reach_step i3 ((mem_near h p ⟨c1'.1, c1'.2.1⟩ ⟨c2'.1, c2'.2.1⟩).2 ?_) k2⟩
            rw [c1'.2.2.1, c1'.2.2.2, c2'.2.2.1, c2'.2.2.2]; exact g2
          · have : a1 = (s : Int) - 1 := by unfold adj at g2; omega
            subst this
            exact Or.inl (last c1 ok1.2.1 i2 i3)
    rcases key a' b' hcon with h1 | ⟨h1, h2, h3⟩
    · exact h1
    · have : a' = (s : Int) - 1 := by omega
      subst this
      exact last b' hc.ok_right.2.1 h2 h3

theorem con_turn {m : Int} {C C' : Int → Int → Bool} {p q : Bool} (hC : ∀ i j, ok m C p i j → C' j i = q) {i j a b : Int} (h : Con m C p i j a b) : Con m C' q j i b a := by
  have go : ∀ i j, ok m C p i j → ok m C' q j i := fun i j k => ⟨k.2.1, k.1, by have := k.2.2.1; omega, hC i j k⟩
  induction h with
  | refl k => exact .refl (go _ _ k)
  | step g1 g2 g3 ih => exact ih.step (adj_swap.1 g2) (go _ _ g3)
theorem wins_turn {m : Int} {C C' : Int → Int → Bool} {p q : Bool} (hC : ∀ i j, ok m C p i j → C' j i = q) (h : Wins m C p) : Wins m C' q := by
  obtain ⟨i, j, ⟨b, hb⟩, ⟨a, ha⟩, c, d, hc, hcd⟩ := h
  exact ⟨j, i, ⟨a, con_turn hC ha⟩, ⟨b, con_turn hC hb⟩, d, c, con_turn hC hc, by omega⟩
/-- A board of a side on which each cell is the first player's or the second's. -/
def Fulls (l : List Int) : Prop := ∀ c : Int, 0 ≤ c → c < (l.length : Int) → rd l c = 1 ∨ rd l c = 2
theorem joins_two {s : Nat} {l : List Int} (h : 1 ≤ s ∧ s ≤ 8) (hl : l.length = s * s) (hv : Fulls l) : Joins s l 2 ↔ Wins (2 * (s : Int) - 1) (fun i j => Dc s l 1 i j) false := by
  have hl' : (l.length : Int) = (s : Int) * (s : Int) := by rw [hl]; push_cast; rfl
  rw [joins_wins h hl]
  have e : ∀ i j : Int, cl s 2 i j = cl s 1 j i := fun i j => rfl
  have hD : ∀ i j : Int, 0 ≤ i → 0 ≤ j → i + j < 2 * (s : Int) - 1 → Dc s l 2 i j = !(Dc s l 1 j i) := fun i j h0 h1 h2 => by
    unfold Dc
    by_cases hi : (s : Int) ≤ i
    · rw [if_pos hi, if_neg (show ¬ (s : Int) ≤ j by omega), if_pos hi]; rfl
    · rw [if_neg hi]
      by_cases hj : (s : Int) ≤ j
      · rw [if_pos hj, if_pos hj]; rfl
      · rw [if_neg hj, if_neg hj, if_neg hi, e]
        have hc := cl_ok h (p := 1) (i := j) (j := i) ⟨by omega, by omega⟩ ⟨by omega, by omega⟩
        rcases hv (cl s 1 j i) hc.1 (by rw [hl']; exact hc.2.1) with hv | hv <;> rw [hv] <;> rfl
  constructor
  · refine wins_turn fun i j k => ?_
    have := hD i j k.1 k.2.1 k.2.2.1
    have k4 := k.2.2.2
    simp only at k4
    rw [k4] at this
    simpa using this.symm
  · refine wins_turn fun i j k => ?_
    have := hD j i k.2.1 k.1 (by have := k.2.2.1; omega)
    have k4 := k.2.2.2
    simp only at k4
    rw [k4] at this
    simpa using this
/-- The theorem of the game: on a full board just one player joins. -/
theorem joins_just {s : Nat} {l : List Int} (h : 1 ≤ s ∧ s ≤ 8) (hl : l.length = s * s) (hv : Fulls l) : (Joins s l 1 ∨ Joins s l 2) ∧ ¬ (Joins s l 1 ∧ Joins s l 2) := by
  rw [joins_two h hl hv, joins_wins h hl]
  have := wins_just (2 * s - 2) (fun i j => Dc s l 1 i j)
  rw [show ((2 * s - 2 : Nat) : Int) + 1 = 2 * (s : Int) - 1 by omega] at this
  exact this
theorem Reach.more {s : Int} {l l' : List Int} {p : Int} (hc : ∀ c, okc l p c → okc l' p c) {c : Int} (h : Reach s l p c) : Reach s l' p c :=
  fun S h1 h2 => h S (fun c k k0 => h1 c (hc c k) k0) (fun a b ha hb hbo => h2 a b ha hb (hc b hbo))
theorem Joins.more {s : Int} {l l' : List Int} {p : Int} (hc : ∀ c, okc l p c → okc l' p c) (h : Joins s l p) : Joins s l' p := by
  obtain ⟨c, h1, h2⟩ := h
  exact ⟨c, h1.more hc, h2⟩
/-- On no board do both players join. -/
theorem joins_not_both {s : Nat} {l : List Int} (h : 1 ≤ s ∧ s ≤ 8) (hl : l.length = s * s) : ¬ (Joins s l 1 ∧ Joins s l 2) := by
  rintro ⟨h1, h2⟩
  let l' := l.map fun x => if x = 2 then (2 : Int) else 1
  have hr : ∀ c : Int, 0 ≤ c → c < (l.length : Int) → rd l' c = if rd l c = 2 then 2 else 1 := fun c h0 h1 => by
    obtain ⟨n, rfl⟩ := Int.eq_ofNat_of_zero_le h0
    have hn : n < l.length := by omega
    rw [rd_nat l n hn, rd_nat l' n (by simpa [l'] using hn)]
    simp [l']
  have hlen : l'.length = l.length := by simp [l']
  refine (joins_just h (l := l') (by rw [hlen, hl]) (fun c h0 h1 => ?_)).2 ⟨h1.more fun c hc => ⟨hc.1, by rw [hlen]; exact hc.2.1, ?_⟩, h2.more fun c hc => ⟨hc.1, by rw [hlen]; exact hc.2.1, ?_⟩⟩
  · rw [hlen] at h1
    rw [hr c h0 h1]; split <;> simp
  · rw [hr c hc.1 hc.2.1, hc.2.2]; rfl
  · rw [hr c hc.1 hc.2.1, hc.2.2]; rfl
end Go.Proofs.YtcfdlbjngpmcaaaDoor.PAll
end

section
/- need on a full board: 0 if the player joins the lines, -1 if not. -/
namespace Go.Proofs.YtcfdlbjngpmcaaaDoor.PAll
open Go.RowKit Go.Proofs.YtcfdlbjngpmcaaaDoorW.PrintWords Go.Proofs.YtcfdlbjngpmcaaaDoorW.PrintLast
set_option linter.unusedVariables false
set_option linter.unusedSimpArgs false

/-- A board of a side, full. -/
structure Full (s : Nat) (l : List Int) : Prop where
  side : 1 ≤ s ∧ s ≤ 8
  n : l.length = s * s
  v : ∀ c : Int, 0 ≤ c → c < (l.length : Int) → rd l c = 1 ∨ rd l c = 2
theorem Full.le {s : Nat} {l : List Int} (h : Full s l) : l.length ≤ 64 := by
  have h1 := h.side
  have h2 : s * s ≤ 8 * 8 := Nat.mul_le_mul h1.2 h1.2
  rw [h.n]; omega
theorem cost0 {s : Nat} {l : List Int} (h : Full s l) {c : Int} (h0 : 0 ≤ c) (h1 : c < (l.length : Int)) : impl_Hex_need_1.f c (s : Int) l = some 0 := by
  have hv := h.v c h0 h1
  have hb : (rd l c == 0) = false := by rw [beq_eq_false_iff_ne]; omega
  unfold impl_Hex_need_1.f impl_bit.f
  simp only [if_pos h0, if_pos h1, hb, Bool.false_eq_true, if_false, Option.bind_some]
theorem open0 {s : Nat} {l : List Int} (h : Full s l) {c p : Int} (h0 : 0 ≤ c) (h1 : c < (l.length : Int)) : impl_Hex_need_2.f c (s : Int) l p = some (rd l c == p) := by
  have hv := h.v c h0 h1
  have hb : ¬ (rd l c = 0) := by omega
  unfold impl_Hex_need_2.f
  simp only [if_pos h0, if_pos h1, if_neg hb]

/-- How many cells have no entry yet. -/
def missing (n : Nat) (m : List (Int × Int)) : Nat := (List.range n).countP fun (c : Nat) => (mget m (c : Int)).isNone
theorem countP_less (L : List Nat) (hL : L.Nodup) (P : Nat → Bool) (c : Nat) (hc : c ∈ L) (hP : P c = true) : L.countP (fun x => P x && !(x == c)) + 1 = L.countP P := by
  induction L with
  | nil => cases hc
  | cons a t ih =>
    rw [List.nodup_cons] at hL
    rw [List.countP_cons, List.countP_cons]
    rcases List.mem_cons.1 hc with rfl | hc'
    · have : t.countP (fun x => P x && !(x == c)) = t.countP P := List.countP_congr fun x hx => by
        have : (x == c) = false := by rw [beq_eq_false_iff_ne]; intro e; exact hL.1 (e ▸ hx)
        simp [this]
      rw [this]; simp [hP]
    · have hne : (a == c) = false := by rw [beq_eq_false_iff_ne]; intro e; exact hL.1 (e ▸ hc')
      have := ih hL.2 hc'
      rw [hne]
      simp only [Bool.not_false, Bool.and_true]
      omega
theorem missing_put {n : Nat} {m : List (Int × Int)} {c : Nat} (hc : c < n) (hm : mget m (c : Int) = none) (v : Int) : missing n (mput m (c : Int) v) + 1 = missing n m := by
  unfold missing
  rw [← countP_less (List.range n) List.nodup_range (fun (c : Nat) => (mget m (c : Int)).isNone) c (List.mem_range.2 hc) (by simp [hm])]
  refine congrArg (· + 1) (List.countP_congr fun x _ => ?_)
  simp only [mput, mget]
  by_cases e : x = c
  · subst e; simp
  · have e1 : ¬ ((c : Int) = (x : Int)) := by omega
    have e2 : (x == c) = false := by rw [beq_eq_false_iff_ne]; exact e
    simp [e1, e2]
/-- What is known of the map: its cells are the player's, and joined to the first line; all at no cost. -/
structure KInv (s : Nat) (l : List Int) (p : Int) (m : List (Int × Int)) : Prop where
  zero : ∀ q ∈ m, q.2 = 0
  good : ∀ c v, mget m c = some v → v = 0 ∧ okc l p c ∧ Reach (s : Int) l p c
  len : m.length + missing l.length m = l.length
def Grows (m m' : List (Int × Int)) : Prop := ∀ c v, mget m c = some v → mget m' c = some v
theorem Grows.refl (m : List (Int × Int)) : Grows m m := fun _ _ h => h
theorem Grows.trans {a b c : List (Int × Int)} (h : Grows a b) (k : Grows b c) : Grows a c := fun x v e => k x v (h x v e)
theorem grows_put {m : List (Int × Int)} {c : Int} (h : mget m c = none) (v : Int) : Grows m (mput m c v) := fun x w e => by
  simp only [mput, mget]
  by_cases z : c = x
  · subst z; rw [h] at e; cases e
  · rw [if_neg z]; exact e
theorem KInv.put {s : Nat} {l : List Int} {p : Int} {m : List (Int × Int)} (h : KInv s l p m) {c : Int} (hc : okc l p c) (hr : Reach (s : Int) l p c) (hm : mget m c = none) : KInv s l p (mput m c 0) ∧ missing l.length (mput m c 0) < missing l.length m ∧ m.length < l.length := by
  obtain ⟨n, rfl⟩ := Int.eq_ofNat_of_zero_le hc.1
  have hn : n < l.length := by have := hc.2.1; omega
  have h1 := missing_put hn hm 0
  have h2 := h.len
  refine ⟨⟨fun q hq => ?_, fun x v e => ?_, ?_⟩, by omega, by omega⟩
  · rcases List.mem_cons.1 hq with rfl | hq
    · rfl
    · exact h.zero q hq
  · simp only [mput, mget] at e
    by_cases z : (n : Int) = x
    · rw [if_pos z] at e; cases e; subst z; exact ⟨rfl, hc, hr⟩
    · rw [if_neg z] at e; exact h.good x v e
  · simp only [mput, List.length_cons] at h1 ⊢
    omega
theorem need_l3 {s : Nat} {l : List Int} {p : Int} (hF : Full s l) {i : Int} {nr : List Int} (hnr : ∀ b ∈ nr, 0 ≤ b ∧ b < (l.length : Int)) (hn6 : nr.length ≤ 6) (hri : Reach (s : Int) l p i) (hni : nr = nearL (s : Int) i) :
    ∀ (d j : Nat) (m : List (Int × Int)) (ch : Bool), j + d = nr.length → KInv s l p m → ∃ m' ch', KInv s l p m' ∧ Grows m m' ∧ (∀ b ∈ nr.drop j, okc l p b → (mget m' b).isSome = true) ∧ (ch' = true → ch = true ∨ missing l.length m' < missing l.length m) ∧ (ch' = false → m' = m ∧ ch = false) ∧ missing l.length m' ≤ missing l.length m ∧
      ∀ r, Ev (fun k => impl_Hex_need.l2 k (s : Int) l p m' ch' (wrap64 (i + 1))) r → Ev (fun k => impl_Hex_need.l3 k (s : Int) l p m ch i 0 nr (j : Int)) r := by
  have hle := hF.le
  intro d
  induction d with
  | zero =>
    intro j m ch hj hK
    have h1 : ¬ ((j : Int) < (nr.length : Int)) := by omega
    refine ⟨m, ch, hK, Grows.refl m, fun b hb => (by rw [List.drop_of_length_le (by omega)] at hb; cases hb), fun h => Or.inl h, fun h => ⟨rfl, h⟩, Nat.le_refl _, fun r hr => Ev.succ ?_⟩
    simp only [impl_Hex_need.l3, if_neg h1]
    exact hr
  | succ d ih =>
    intro j m ch hj hK
    have h1 : (j : Int) < (nr.length : Int) := by omega
    have h2 : (0 : Int) ≤ (j : Int) := by omega
    have h4 : wrap64 ((j : Int) + 1) = ((j + 1 : Nat) : Int) := by rw [w64 (by omega) (by omega)]; omega
    have hd : nr.drop j = nr[j] :: nr.drop (j + 1) := List.drop_eq_getElem_cons (by omega)
    have hb := hnr nr[j] (List.getElem_mem _)
    have ho := open0 hF (p := p) hb.1 hb.2
    have hc := cost0 hF hb.1 hb.2
    have hadd : wrap64 (0 + 0) = 0 := w64 (by omega) (by omega)
    by_cases e : rd l nr[j] = p
    · have hok : okc l p nr[j] := ⟨hb.1, hb.2, e⟩
      have e' : (rd l nr[j] == p) = true := by simpa using e
      cases hg : mget m nr[j] with
      | none =>
        obtain ⟨hK1, hlt, hml⟩ := hK.put hok (reach_step hri (hni ▸ List.getElem_mem _) hok) hg
        obtain ⟨m', ch', a1, a2, a3, a4, a5, a6, a7⟩ := ih (j + 1) (mput m nr[j] 0) true (by omega) hK1
        refine ⟨m', ch', a1, (grows_put hg 0).trans a2, ?_, fun _ => Or.inr (by omega), fun h => (by have := (a5 h).2; cases this), by omega, fun r hr => Ev.succ ?_⟩
        · intro b hbm hbo
          rw [hd] at hbm
          rcases List.mem_cons.1 hbm with rfl | hbm
          · have := a2 nr[j] 0 (by simp [mput, mget])
            rw [this]; rfl
          · exact a3 b hbm hbo
        · have hml' : m.length < 1048576 := by omega
          simp only [impl_Hex_need.l3, if_pos h1, if_pos h2, rd_nat nr j (by omega), ho, Option.bind_some, e', if_true, hg, hc, if_pos hml', hadd, h4]
          exact a7 r hr
      | some v =>
        obtain ⟨rfl, _, _⟩ := hK.good _ _ hg
        obtain ⟨m', ch', a1, a2, a3, a4, a5, a6, a7⟩ := ih (j + 1) m ch (by omega) hK
        refine ⟨m', ch', a1, a2, ?_, a4, a5, a6, fun r hr => Ev.succ ?_⟩
        · intro b hbm hbo
          rw [hd] at hbm
          rcases List.mem_cons.1 hbm with rfl | hbm
          · rw [a2 _ _ hg]; rfl
          · exact a3 b hbm hbo
        · have hn : ¬ ((0 : Int) < 0) := by omega
          simp only [impl_Hex_need.l3, if_pos h1, if_pos h2, rd_nat nr j (by omega), ho, Option.bind_some, e', if_true, hg, hc, hadd, if_neg hn, h4]
          exact a7 r hr
    · have e' : (rd l nr[j] == p) = false := by simpa using e
      obtain ⟨m', ch', a1, a2, a3, a4, a5, a6, a7⟩ := ih (j + 1) m ch (by omega) hK
      refine ⟨m', ch', a1, a2, ?_, a4, a5, a6, fun r hr => Ev.succ ?_⟩
      · intro b hbm hbo
        rw [hd] at hbm
        rcases List.mem_cons.1 hbm with rfl | hbm
        · exact absurd hbo.2.2 e
        · exact a3 b hbm hbo
      · simp only [impl_Hex_need.l3, if_pos h1, if_pos h2, rd_nat nr j (by omega), ho, Option.bind_some, e', Bool.false_eq_true, if_false, h4]
        exact a7 r hr
/-- Keys are closed from a cell on. -/
def Shut (s : Nat) (l : List Int) (p : Int) (m : List (Int × Int)) (i : Nat) : Prop := ∀ c : Nat, i ≤ c → c < l.length → (mget m (c : Int)).isSome = true → ∀ b ∈ nearL (s : Int) (c : Int), okc l p b → (mget m b).isSome = true
theorem need_l2 {s : Nat} {l : List Int} {p : Int} (hF : Full s l) :
    ∀ (d i : Nat) (m : List (Int × Int)) (ch : Bool), i + d = l.length → KInv s l p m → ∃ m' ch', KInv s l p m' ∧ Grows m m' ∧ (ch' = true → ch = true ∨ missing l.length m' < missing l.length m) ∧ (ch' = false → m' = m ∧ ch = false ∧ Shut s l p m i) ∧ missing l.length m' ≤ missing l.length m ∧
      ∀ r, Ev (fun k => impl_Hex_need.l1 k (s : Int) l p m' ch') r → Ev (fun k => impl_Hex_need.l2 k (s : Int) l p m ch (i : Int)) r := by
  have hle := hF.le
  intro d
  induction d with
  | zero =>
    intro i m ch hi hK
    have h1 : ¬ ((i : Int) < (l.length : Int)) := by omega
    refine ⟨m, ch, hK, Grows.refl m, fun h => Or.inl h, fun h => ⟨rfl, h, fun c h2 h3 => absurd h3 (by omega)⟩, Nat.le_refl _, fun r hr => Ev.succ ?_⟩
    simp only [impl_Hex_need.l2, if_neg h1]
    exact hr
  | succ d ih =>
    intro i m ch hi hK
    have h1 : (i : Int) < (l.length : Int) := by omega
    have h4 : wrap64 ((i : Int) + 1) = ((i + 1 : Nat) : Int) := by rw [w64 (by omega) (by omega)]; omega
    cases hg : mget m (i : Int) with
    | none =>
      obtain ⟨m', ch', a1, a2, a3, a4, a5, a6⟩ := ih (i + 1) m ch (by omega) hK
      refine ⟨m', ch', a1, a2, a3, fun h => ?_, a5, fun r hr => Ev.succ ?_⟩
      · obtain ⟨b1, b2, b3⟩ := a4 h
        refine ⟨b1, b2, fun c hc => ?_⟩
        rcases Nat.lt_or_ge i c with h5 | h5
        · exact b3 c h5
        · have : c = i := by omega
          subst this
          intro _ h6
          rw [hg] at h6; cases h6
      · simp only [impl_Hex_need.l2, if_pos h1, hg, h4]
        exact a6 r hr
    | some v =>
      obtain ⟨rfl, hok, hre⟩ := hK.good _ _ hg
      have hn : i < s * s := by have := hF.n; omega
      obtain ⟨_, _, hb, hl6⟩ := near_at (s := s) (a := i) hF.side hn
      have hb' : ∀ b ∈ nearL (s : Int) (i : Int), 0 ≤ b ∧ b < (l.length : Int) := fun b h => by
        obtain ⟨h5, h6⟩ := hb b h
        refine ⟨h5, ?_⟩
        rw [hF.n]; push_cast; exact h6
      obtain ⟨m1, ch1, c1, c2, c3, c4, c5, c6, c7⟩ := need_l3 (p := p) hF hb' hl6 hre rfl (nearL (s : Int) (i : Int)).length 0 m ch (by omega) hK
      obtain ⟨m', ch', a1, a2, a3, a4, a5, a6⟩ := ih (i + 1) m1 ch1 (by omega) c1
      refine ⟨m', ch', a1, c2.trans a2, fun h => ?_, fun h => ?_, by omega, fun r hr => Ev.succ ?_⟩
      · rcases a3 h with h5 | h5
        · rcases c4 h5 with h6 | h6
          · exact Or.inl h6
          · exact Or.inr (by omega)
        · exact Or.inr (by omega)
      · obtain ⟨b1, b2, b3⟩ := a4 h
        obtain ⟨d1, d2⟩ := c5 b2
        subst d1
        refine ⟨b1, d2, fun c hc => ?_⟩
        rcases Nat.lt_or_ge i c with h5 | h5
        · exact b3 c h5
        · have : c = i := by omega
          subst this
          intro _ _ b hbm hbo
          exact c3 b (by simpa using hbm) hbo
      · simp only [impl_Hex_need.l2, if_pos h1, hg]
        refine Ev.bind (ev_impl_near hF.side hn) ?_
        refine c7 r ?_
        rw [h4]
        exact a6 r hr
theorem need_l1 {s : Nat} {l : List Int} {p : Int} (hF : Full s l) :
    ∀ (d : Nat) (m : List (Int × Int)), missing l.length m < d → KInv s l p m → ∃ m', KInv s l p m' ∧ Grows m m' ∧ Shut s l p m' 0 ∧ Ev (fun k => impl_Hex_need.l1 k (s : Int) l p m true) (bestM (s : Int) p m') := by
  intro d
  induction d with
  | zero => intro m h; omega
  | succ d ih =>
    intro m hd hK
    obtain ⟨m1, ch1, a1, a2, a3, a4, a5, a6⟩ := need_l2 (p := p) hF l.length 0 m false (by omega) hK
    cases ch1 with
    | true =>
      rcases a3 rfl with h | h
      · cases h
      · obtain ⟨m', b1, b2, b3, b4⟩ := ih m1 (by omega) a1
        refine ⟨m', b1, a2.trans b2, b3, Ev.succ ?_⟩
        simp only [impl_Hex_need.l1, if_true]
        exact a6 _ b4
    | false =>
      obtain ⟨rfl, _, b3⟩ := a4 rfl
      refine ⟨m1, hK, a2, b3, Ev.succ ?_⟩
      simp only [impl_Hex_need.l1, if_true]
      refine a6 _ (Ev.succ ?_)
      have h5 : (m1.all fun q => decide (0 ≤ q.2)) = true := List.all_eq_true.2 fun q hq => by rw [hK.zero q hq]; rfl
      simp only [impl_Hex_need.l1, Bool.false_eq_true, if_false, h5, if_true]
      exact Ev.now _
theorem need_l0 {s : Nat} {l : List Int} {p : Int} (hF : Full s l) :
    ∀ (d i : Nat) (m : List (Int × Int)), i + d = l.length → KInv s l p m → (∀ c v, mget m c = some v → c < (i : Int)) → (∀ c : Int, okc l p c → lineI (s : Int) p c = 0 → c < (i : Int) → (mget m c).isSome = true) →
      ∃ m', KInv s l p m' ∧ (∀ c : Int, okc l p c → lineI (s : Int) p c = 0 → (mget m' c).isSome = true) ∧ ∀ r, Ev (fun k => impl_Hex_need.l1 k (s : Int) l p m' true) r → Ev (fun k => impl_Hex_need.l0 k (s : Int) l p m (i : Int)) r := by
  have hle := hF.le
  intro d
  induction d with
  | zero =>
    intro i m hi hK hlt hst
    have h1 : ¬ ((i : Int) < (l.length : Int)) := by omega
    refine ⟨m, hK, fun c hc h0 => hst c hc h0 (by have := hc.2.1; omega), fun r hr => Ev.succ ?_⟩
    simp only [impl_Hex_need.l0, if_neg h1]
    exact hr
  | succ d ih =>
    intro i m hi hK hlt hst
    have h1 : (i : Int) < (l.length : Int) := by omega
    have h2 : (0 : Int) ≤ (i : Int) := by omega
    have h4 : wrap64 ((i : Int) + 1) = ((i + 1 : Nat) : Int) := by rw [w64 (by omega) (by omega)]; omega
    have ho := open0 hF (p := p) h2 h1
    have hc := cost0 hF h2 h1
    have hfresh : mget m (i : Int) = none := by
      cases hg : mget m (i : Int) with
      | none => rfl
      | some v => have := hlt _ _ hg; omega
    by_cases hl0 : lineI (s : Int) p (i : Int) = 0 ∧ rd l (i : Int) = p
    · have hok : okc l p (i : Int) := ⟨h2, h1, hl0.2⟩
      have e' : (rd l (i : Int) == p) = true := by simpa using hl0.2
      obtain ⟨hK1, _, hml⟩ := hK.put hok (reach_start hok hl0.1) hfresh
      obtain ⟨m', a1, a2, a3⟩ := ih (i + 1) (mput m (i : Int) 0) (by omega) hK1 (fun c v h => by
          simp only [mput, mget] at h
          by_cases z : (i : Int) = c
          · omega
          · rw [if_neg z] at h; have := hlt _ _ h; omega) (fun c hco hc0 hci => by
          simp only [mput, mget]
          by_cases z : (i : Int) = c
          · rw [if_pos z]; rfl
          · rw [if_neg z]; exact hst c hco hc0 (by omega))
      refine ⟨m', a1, a2, fun r hr => Ev.succ ?_⟩
      have hml' : m.length < 1048576 := by omega
      simp only [impl_Hex_need.l0, if_pos h1, if_pos hl0.1, ho, Option.bind_some, e', if_true, hc, if_pos hml', h4]
      exact a3 r hr
    · obtain ⟨m', a1, a2, a3⟩ := ih (i + 1) m (by omega) hK (fun c v h => by have := hlt _ _ h; omega) (fun c hco hc0 hci => by
          by_cases z : (i : Int) = c
          · exact absurd ⟨z ▸ hc0, z ▸ hco.2.2⟩ hl0
          · exact hst c hco hc0 (by omega))
      refine ⟨m', a1, a2, fun r hr => Ev.succ ?_⟩
      by_cases h5 : lineI (s : Int) p (i : Int) = 0
      · have e' : (rd l (i : Int) == p) = false := by
          rw [beq_eq_false_iff_ne]; exact fun e => hl0 ⟨h5, e⟩
        simp only [impl_Hex_need.l0, if_pos h1, if_pos h5, ho, Option.bind_some, e', Bool.false_eq_true, if_false, h4]
        exact a3 r hr
      · simp only [impl_Hex_need.l0, if_pos h1, if_neg h5, h4]
        exact a3 r hr
theorem best_fold {M : List (Int × Int)} (s p : Int) (z : ∀ q ∈ M, q.2 = 0) : ((M.foldr (fun p' b => if lineI s p p'.1 = wrap64 (s - 1) ∧ (b < 0 ∨ p'.2 < b) then p'.2 else b) (-1)) = 0 ∧ ∃ q ∈ M, lineI s p q.1 = wrap64 (s - 1)) ∨ ((M.foldr (fun p' b => if lineI s p p'.1 = wrap64 (s - 1) ∧ (b < 0 ∨ p'.2 < b) then p'.2 else b) (-1)) = -1 ∧ ∀ q ∈ M, lineI s p q.1 ≠ wrap64 (s - 1)) := by
  induction M with
  | nil => exact Or.inr ⟨rfl, fun q hq => (by cases hq)⟩
  | cons a t ih =>
    have za := z a List.mem_cons_self
    rw [List.foldr_cons]
    rcases ih (fun q hq => z q (List.mem_cons_of_mem _ hq)) with ⟨h1, q, hq, h2⟩ | ⟨h1, h2⟩
    · refine Or.inl ⟨?_, q, List.mem_cons_of_mem _ hq, h2⟩
      rw [h1, za, if_neg (by omega)]
    · rw [h1]
      by_cases h3 : lineI s p a.1 = wrap64 (s - 1)
      · refine Or.inl ⟨?_, a, List.mem_cons_self, h3⟩
        rw [if_pos ⟨h3, Or.inl (by omega)⟩, za]
      · refine Or.inr ⟨?_, fun q hq => ?_⟩
        · rw [if_neg (fun h => h3 h.1)]
        · rcases List.mem_cons.1 hq with rfl | hq
          · exact h3
          · exact h2 q hq
theorem mget_in {m : List (Int × Int)} {c v : Int} (h : mget m c = some v) : (c, v) ∈ m := by
  induction m with
  | nil => cases h
  | cons a t ih =>
    simp only [mget] at h
    by_cases z : a.1 = c
    · rw [if_pos z] at h
      have : a = (c, v) := by cases a; simp_all
      rw [this]; exact List.mem_cons_self
    · rw [if_neg z] at h; exact List.mem_cons_of_mem _ (ih h)
/-- need on a full board. -/
theorem ev_need {s : Nat} {l : List Int} {p : Int} (hF : Full s l) : ∃ r, Ev (fun k => impl_Hex_need.f k (s : Int) l p) r ∧ (r = 0 ↔ Joins (s : Int) l p) := by
  have hle := hF.le
  have hs := hF.side
  obtain ⟨m1, a1, a2, a3⟩ := need_l0 (p := p) hF l.length 0 [] (by omega) ⟨fun q hq => (by cases hq), fun c v h => (by cases h), by simp [missing, mget]⟩ (fun c v h => (by cases h)) (fun c hc _ h => by have := hc.1; omega)
  obtain ⟨m', b1, b2, b3, b4⟩ := need_l1 (p := p) hF _ m1 (Nat.lt_succ_self _) a1
  refine ⟨bestM (s : Int) p m', ?_, ?_⟩
  · unfold impl_Hex_need.f
    have h1 : ¬ ((s : Int) = 0) := by omega
    have h2 : l.length ≤ 1048576 := by omega
    simp only [if_neg h1, if_pos h2]
    exact a3 _ b4
  · have hw : wrap64 ((s : Int) - 1) = (s : Int) - 1 := w64 (by omega) (by omega)
    have hz : ∀ q ∈ m'.filter (fun p => mget m' p.1 == some p.2), q.2 = 0 := fun q hq => b1.zero q (List.mem_filter.1 hq).1
    have hall : ∀ c, Reach (s : Int) l p c → (mget m' c).isSome = true := fun c hc => by
      refine (hc (fun c => okc l p c ∧ (mget m' c).isSome = true) (fun c h1 h2 => ⟨h1, ?_⟩) (fun a b ha hb hob => ⟨hob, ?_⟩)).2
      · obtain ⟨v, hv⟩ := Option.isSome_iff_exists.1 (a2 c h1 h2)
        rw [b2 _ _ hv]; rfl
      · obtain ⟨n, rfl⟩ := Int.eq_ofNat_of_zero_le ha.1.1
        exact b3 n (Nat.zero_le _) (by have := ha.1.2.1; omega) ha.2 b hb hob
    unfold bestM
    rcases best_fold (s : Int) p hz with ⟨h1, q, hq, h2⟩ | ⟨h1, h2⟩
    · rw [h1]
      refine ⟨fun _ => ?_, fun _ => rfl⟩
      obtain ⟨hq1, hq2⟩ := List.mem_filter.1 hq
      have hq3 : mget m' q.1 = some q.2 := by simpa using hq2
      exact ⟨q.1, (b1.good _ _ hq3).2.2, by rw [h2, hw]⟩
    · rw [h1]
      refine ⟨fun h => by omega, fun ⟨c, hc, hcl⟩ => ?_⟩
      obtain ⟨v, hv⟩ := Option.isSome_iff_exists.1 (hall c hc)
      have := h2 (c, v) (List.mem_filter.2 ⟨mget_in hv, by simpa using hv⟩)
      exact absurd (by rw [hw]; exact hcl) this
end Go.Proofs.YtcfdlbjngpmcaaaDoor.PAll
end

section
/- The reference's search on any board: it finds whether a player joins the two lines. -/
namespace Go.Proofs.YtcfdlbjngpmcaaaDoor.PAll
open Go.RowKit Go.Proofs.YtcfdlbjngpmcaaaDoorW.PrintWords Go.Proofs.YtcfdlbjngpmcaaaDoorW.PrintLast
set_option linter.unusedVariables false
set_option linter.unusedSimpArgs false

/-- How many cells are not met. -/
def missB (n : Nat) (m : List Bool) : Nat := (List.range n).countP fun (c : Nat) => !(m.getD c false)
theorem missB_put {n : Nat} {m : List Bool} {c : Nat} (hc : c < n) (hl : m.length = n) (hm : m.getD c false = false) : missB n (m.set c true) + 1 = missB n m := by
  unfold missB
  rw [← countP_less (List.range n) List.nodup_range (fun (c : Nat) => !(m.getD c false)) c (List.mem_range.2 hc) (by show (!(m.getD c false)) = true; rw [hm]; rfl)]
  refine congrArg (· + 1) (List.countP_congr fun x _ => ?_)
  simp only [List.getD_eq_getElem?_getD, List.getElem?_set]
  by_cases e : c = x
  · subst e; simp [hl, hc]
  · have e2 : (x == c) = false := by rw [beq_eq_false_iff_ne]; exact fun h => e h.symm
    simp [e, e2]
/-- What is known in the search. -/
structure QInv (s : Nat) (l : List Int) (p : Int) (met : List Bool) (q : List Int) : Prop where
  len : met.length = l.length
  cnt : q.length + missB l.length met = l.length
  iff : ∀ c : Int, 0 ≤ c → c < (l.length : Int) → (rdOf false met c = true ↔ c ∈ q)
  good : ∀ c ∈ q, okc l p c ∧ Reach (s : Int) l p c
theorem QInv.put {s : Nat} {l : List Int} {p : Int} {met : List Bool} {q : List Int} (h : QInv s l p met q) {c : Int} (hc : okc l p c) (hr : Reach (s : Int) l p c) (hn : c ∉ q) : QInv s l p (met.set c.toNat true) (q ++ [c]) := by
  obtain ⟨n, rfl⟩ := Int.eq_ofNat_of_zero_le hc.1
  have hn' : n < l.length := by have := hc.2.1; omega
  have hf : met.getD n false = false := by
    have := h.iff n hc.1 hc.2.1
    unfold rdOf at this
    simp only [Int.toNat_natCast] at this
    cases hm : met.getD n false with
    | false => rfl
    | true => exact absurd (this.1 hm) hn
  have h1 := missB_put hn' h.len hf
  have h2 := h.cnt
  refine ⟨by simpa using h.len, by simp only [List.length_append, List.length_cons, List.length_nil, Int.toNat_natCast]; omega, fun x hx0 hx1 => ?_, fun x hx => ?_⟩
  · obtain ⟨m, rfl⟩ := Int.eq_ofNat_of_zero_le hx0
    have h3 := h.iff m hx0 hx1
    unfold rdOf at h3 ⊢
    simp only [Int.toNat_natCast, List.getD_eq_getElem?_getD, List.getElem?_set, List.mem_append, List.mem_singleton] at h3 ⊢
    by_cases e : n = m
    · subst e
      have : n < met.length := by rw [h.len]; exact hn'
      simp [this]
    · have : ¬ ((m : Int) = (n : Int)) := by omega
      simp only [if_neg e, this, or_false]
      exact h3
  · rcases List.mem_append.1 hx with hx | hx
    · exact h.good x hx
    · rw [List.mem_singleton] at hx; subst hx; exact ⟨hc, hr⟩
theorem bfs_l2 {s : Nat} {l : List Int} {p : Int} (h64 : l.length ≤ 64) {i : Nat} {a : Int} {nr : List Int} (hnr : ∀ b ∈ nr, 0 ≤ b ∧ b < (l.length : Int)) (hn6 : nr.length ≤ 6) (hra : Reach (s : Int) l p a) (hni : nr = nearL (s : Int) a) (hi : i < l.length) :
    ∀ (d j : Nat) (met : List Bool) (q : List Int), j + d = nr.length → QInv s l p met q → ∃ met' t, QInv s l p met' (q ++ t) ∧ (∀ b ∈ nr.drop j, okc l p b → b ∈ q ++ t) ∧
      ∀ r, Ev (fun k => spec_l06Joins.l1 k (s : Int) l p met' (q ++ t) ((i + 1 : Nat) : Int)) r → Ev (fun k => spec_l06Joins.l2 k (s : Int) l p met q (i : Int) nr (j : Int)) r := by
  intro d
  induction d with
  | zero =>
    intro j met q hj hQ
    have h1 : ¬ ((j : Int) < (nr.length : Int)) := by omega
    refine ⟨met, [], by simpa using hQ, fun b hb => (by rw [List.drop_of_length_le (by omega)] at hb; cases hb), fun r hr => Ev.succ ?_⟩
    have h4 : wrap64 ((i : Int) + 1) = ((i + 1 : Nat) : Int) := by rw [w64 (by omega) (by omega)]; omega
    simp only [spec_l06Joins.l2, if_neg h1, h4]
    rw [List.append_nil] at hr
    exact hr
  | succ d ih =>
    intro j met q hj hQ
    have h1 : (j : Int) < (nr.length : Int) := by omega
    have h2 : (0 : Int) ≤ (j : Int) := by omega
    have h4 : wrap64 ((j : Int) + 1) = ((j + 1 : Nat) : Int) := by rw [w64 (by omega) (by omega)]; omega
    have hd : nr.drop j = nr[j] :: nr.drop (j + 1) := List.drop_eq_getElem_cons (by omega)
    have hb := hnr nr[j] (List.getElem_mem _)
    have hbm : nr[j] < (met.length : Int) := by rw [hQ.len]; exact hb.2
    have hiff := hQ.iff nr[j] hb.1 hb.2
    by_cases hin : nr[j] ∈ q
    · obtain ⟨met', t, a1, a2, a3⟩ := ih (j + 1) met q (by omega) hQ
      refine ⟨met', t, a1, fun b hbm' hbo => ?_, fun r hr => Ev.succ ?_⟩
      · rw [hd] at hbm'
        rcases List.mem_cons.1 hbm' with rfl | hbm'
        · exact List.mem_append_left _ hin
        · exact a2 b hbm' hbo
      · simp only [spec_l06Joins.l2, if_pos h1, if_pos h2, rd_nat nr j (by omega), if_pos hb.1, if_pos hbm, if_pos (hiff.2 hin), h4]
        exact a3 r hr
    · have hnm : ¬ (rdOf false met nr[j] = true) := fun h => hin (hiff.1 h)
      by_cases e : rd l nr[j] = p
      · have hok : okc l p nr[j] := ⟨hb.1, hb.2, e⟩
        have hQ' := hQ.put hok (reach_step hra (hni ▸ List.getElem_mem _) hok) hin
        obtain ⟨met', t, a1, a2, a3⟩ := ih (j + 1) _ _ (by omega) hQ'
        refine ⟨met', nr[j] :: t, by simpa using a1, fun b hbm' hbo => ?_, fun r hr => Ev.succ ?_⟩
        · rw [hd] at hbm'
          rcases List.mem_cons.1 hbm' with rfl | hbm'
          · exact List.mem_append_right _ List.mem_cons_self
          · have := a2 b hbm' hbo; simpa using this
        · have hq : q.length < 17592186044416 := by have := hQ.cnt; omega
          simp only [spec_l06Joins.l2, if_pos h1, if_pos h2, rd_nat nr j (by omega), if_pos hb.1, if_pos hbm, if_neg hnm, if_pos hb.2, if_pos e, if_pos hq, h4]
          exact a3 r (by simpa using hr)
      · obtain ⟨met', t, a1, a2, a3⟩ := ih (j + 1) met q (by omega) hQ
        refine ⟨met', t, a1, fun b hbm' hbo => ?_, fun r hr => Ev.succ ?_⟩
        · rw [hd] at hbm'
          rcases List.mem_cons.1 hbm' with rfl | hbm'
          · exact absurd hbo.2.2 e
          · exact a2 b hbm' hbo
        · simp only [spec_l06Joins.l2, if_pos h1, if_pos h2, rd_nat nr j (by omega), if_pos hb.1, if_pos hbm, if_neg hnm, if_pos hb.2, if_neg e, h4]
          exact a3 r hr
theorem bfs_test {s : Nat} {p : Int} (hs : 1 ≤ s ∧ s ≤ 8) (hp : p = 1 ∨ p = 2) (l : List Int) (met : List Bool) (q : List Int) (i : Nat) (hi : i < q.length) (k : Nat) :
    spec_l06Joins.l1 (k + 1) (s : Int) l p met q (i : Int) = spec_l06Joins.j2 k (s : Int) l p met q (i : Int) (rd q (i : Int)) (decide (lineI (s : Int) p (rd q (i : Int)) = (s : Int) - 1)) := by
  have h1 : (i : Int) < (q.length : Int) := by omega
  have h2 : (0 : Int) ≤ (i : Int) := by omega
  have h0 : ¬ ((s : Int) = 0) := by omega
  have hw : wrap64 ((s : Int) - 1) = (s : Int) - 1 := w64 (by omega) (by omega)
  simp only [spec_l06Joins.l1, if_pos h1, if_pos h2, if_neg h0, hw]
  unfold lineI
  rcases hp with rfl | rfl
  · simp only [if_true]
    have h12 : ¬ ((1 : Int) = 2) := by omega
    by_cases e : wrap64 (Int.tdiv (rd q (i : Int)) (s : Int)) = (s : Int) - 1
    · simp only [if_pos e, decide_eq_true e]
    · simp only [if_neg e, if_neg h12, decide_eq_false e]
  · have h21 : ¬ ((2 : Int) = 1) := by omega
    simp only [if_neg h21, if_true]
    by_cases e : Int.tmod (rd q (i : Int)) (s : Int) = (s : Int) - 1
    · rw [decide_eq_true e, beq_iff_eq.2 e]
    · rw [decide_eq_false e, beq_eq_false_iff_ne.2 e]
theorem bfs_l1 {s : Nat} {l : List Int} {p : Int} (hs : 1 ≤ s ∧ s ≤ 8) (hl : l.length = s * s) (hp : p = 1 ∨ p = 2) :
    ∀ (d i : Nat) (met : List Bool) (q : List Int), i + d = l.length → i ≤ q.length → QInv s l p met q → (∀ c, okc l p c → lineI (s : Int) p c = 0 → c ∈ q) → (∀ j, (h : j < q.length) → j < i → lineI (s : Int) p q[j] ≠ (s : Int) - 1 ∧ ∀ b ∈ nearL (s : Int) q[j], okc l p b → b ∈ q) →
      ∃ r, Ev (fun k => spec_l06Joins.l1 k (s : Int) l p met q (i : Int)) r ∧ (r = true ↔ Joins (s : Int) l p) := by
  have h64 : l.length ≤ 64 := by rw [hl]; exact Nat.mul_le_mul hs.2 hs.2
  have stop : ∀ (met : List Bool) (q : List Int), QInv s l p met q → (∀ c, okc l p c → lineI (s : Int) p c = 0 → c ∈ q) → (∀ j, (h : j < q.length) → j < q.length → lineI (s : Int) p q[j] ≠ (s : Int) - 1 ∧ ∀ b ∈ nearL (s : Int) q[j], okc l p b → b ∈ q) → ∃ r, Ev (fun k => spec_l06Joins.l1 k (s : Int) l p met q (q.length : Int)) r ∧ (r = true ↔ Joins (s : Int) l p) := by
    intro met q hQ hst hcl
    refine ⟨false, Ev.succ ?_, ⟨fun h => (by cases h), fun ⟨c, hc, hcl'⟩ => ?_⟩⟩
    · have h1 : ¬ ((q.length : Int) < (q.length : Int)) := by omega
      simp only [spec_l06Joins.l1, if_neg h1]
      exact Ev.now _
    · have hm : c ∈ q := hc (fun c => c ∈ q) (fun c h1 h2 => hst c h1 h2) (fun a b ha hb hbo => by
        obtain ⟨j, hj, rfl⟩ := List.mem_iff_getElem.1 ha
        exact (hcl j hj hj).2 b hb hbo)
      obtain ⟨j, hj, rfl⟩ := List.mem_iff_getElem.1 hm
      exact absurd hcl' (hcl j hj hj).1
  intro d
  induction d with
  | zero =>
    intro i met q hi hiq hQ hst hcl
    have : i = q.length := by have := hQ.cnt; omega
    subst this
    exact stop met q hQ hst hcl
  | succ d ih =>
    intro i met q hi hiq hQ hst hcl
    rcases Nat.lt_or_ge i q.length with hlt | hge
    · have hg := hQ.good q[i] (List.getElem_mem _)
      have hrd : rd q (i : Int) = q[i] := rd_nat q i hlt
      by_cases e : lineI (s : Int) p q[i] = (s : Int) - 1
      · refine ⟨true, Ev.step (fun k => bfs_test hs hp l met q i hlt k) (Ev.succ ?_), ⟨fun _ => ⟨q[i], hg.2, e⟩, fun _ => rfl⟩⟩
        rw [hrd, decide_eq_true e]
        simp only [spec_l06Joins.j2, if_true]
        exact Ev.now _
      · obtain ⟨n, hn⟩ := Int.eq_ofNat_of_zero_le hg.1.1
        have hnl : n < s * s := by have := hg.1.2.1; omega
        obtain ⟨_, _, hb, hl6⟩ := near_at hs hnl
        rw [← hn] at hb hl6
        have hb' : ∀ b ∈ nearL (s : Int) q[i], 0 ≤ b ∧ b < (l.length : Int) := fun b h => by
          obtain ⟨h5, h6⟩ := hb b h
          refine ⟨h5, ?_⟩
          rw [hl]; push_cast; exact h6
        obtain ⟨met', t, a1, a2, a3⟩ := bfs_l2 (p := p) (i := i) h64 hb' hl6 hg.2 rfl (by omega) (nearL (s : Int) q[i]).length 0 met q (by omega) hQ
        obtain ⟨r, b1, b2⟩ := ih (i + 1) met' (q ++ t) (by omega) (by simp; omega) a1 (fun c h1 h2 => List.mem_append_left _ (hst c h1 h2)) (fun j h1 h2 => by
          have hjq : j < q.length := by omega
          have e1 : (q ++ t)[j] = q[j] := List.getElem_append_left hjq
          rw [e1]
          rcases Nat.lt_or_ge j i with h3 | h3
          · exact ⟨(hcl j hjq h3).1, fun b k1 k2 => List.mem_append_left _ ((hcl j hjq h3).2 b k1 k2)⟩
          · have : j = i := by omega
            subst this
            exact ⟨e, fun b k1 k2 => a2 b (by simpa using k1) k2⟩)
        refine ⟨r, Ev.step (fun k => bfs_test hs hp l met q i hlt k) (Ev.succ ?_), b2⟩
        rw [hrd, decide_eq_false e]
        simp only [spec_l06Joins.j2, Bool.false_eq_true, if_false]
        have := ev_spec_near hs hnl
        rw [← hn] at this
        exact Ev.bind this (a3 r b1)
    · have : i = q.length := by omega
      subst this
      exact stop met q hQ hst hcl
/-- The k-th cell of the first line. -/
def stI (s p k : Int) : Int := if p = 2 then s * k else k
theorem stI_cl {p : Int} (hp : p = 1 ∨ p = 2) (s k : Int) : stI s p k = cl s p 0 k := by
  unfold stI cl
  rcases hp with rfl | rfl
  · simp
  · simp [Int.mul_comm]
theorem stI_ok {s : Nat} (hs : 1 ≤ s ∧ s ≤ 8) {p : Int} (hp : p = 1 ∨ p = 2) {k : Int} (hk : 0 ≤ k ∧ k < (s : Int)) : 0 ≤ stI s p k ∧ stI s p k < (s : Int) * (s : Int) ∧ lineI s p (stI s p k) = 0 ∧ cr s p (stI s p k) = k := by
  have h2 := cl_ok hs (p := p) (i := 0) ⟨by omega, by omega⟩ hk
  rw [stI_cl hp]
  exact ⟨h2.1, h2.2.1, by rw [lineI_ln hs ⟨h2.1, h2.2.1⟩]; exact h2.2.2.1, h2.2.2.2⟩
theorem stI_all {s : Nat} (hs : 1 ≤ s ∧ s ≤ 8) {p : Int} (hp : p = 1 ∨ p = 2) {c : Int} (hc : 0 ≤ c ∧ c < (s : Int) * (s : Int)) (h0 : lineI s p c = 0) : ∃ k, 0 ≤ k ∧ k < (s : Int) ∧ stI s p k = c := by
  have h1 := ln_ok hs (p := p) hc
  rw [lineI_ln hs hc] at h0
  refine ⟨cr s p c, h1.2.2.1, h1.2.2.2.1, ?_⟩
  rw [stI_cl hp]
  have h2 := h1.2.2.2.2
  rw [h0] at h2
  exact h2
theorem small64 {x : Int} (h0 : 0 ≤ x) (h1 : x < 65) : wrap64 x = x := w64 (by omega) (by omega)
theorem bfs_start {s : Nat} {p : Int} (hs : 1 ≤ s ∧ s ≤ 8) (hp : p = 1 ∨ p = 2) (l : List Int) (hl : l.length = s * s) (met : List Bool) (hm : met.length = l.length) (q : List Int) (hq : q.length < 17592186044416) (i : Nat) (hi : i < s) (k : Nat) :
    spec_l06Joins.l0 (k + 1) (s : Int) l p met q (i : Int) = if rd l (stI s p i) = p then spec_l06Joins.l0 k (s : Int) l p (met.set (stI s p i).toNat true) (q ++ [stI s p i]) ((i + 1 : Nat) : Int) else spec_l06Joins.l0 k (s : Int) l p met q ((i + 1 : Nat) : Int) := by
  have h1 : (i : Int) < (s : Int) := by omega
  have h2 : (0 : Int) ≤ (i : Int) := by omega
  have h4 : wrap64 ((i : Int) + 1) = ((i + 1 : Nat) : Int) := by rw [w64 (by omega) (by omega)]; omega
  have hst := stI_ok hs hp (k := (i : Int)) ⟨h2, h1⟩
  have hll : (l.length : Int) = (s : Int) * (s : Int) := by rw [hl]; push_cast; rfl
  have h88 : (s : Int) * (s : Int) < 65 := by
    have : s * s < 65 := Nat.lt_of_le_of_lt (Nat.mul_le_mul hs.2 hs.2) (by decide)
    exact_mod_cast this
  rcases hp with rfl | rfl
  · have h12 : ¬ ((1 : Int) = 2) := by omega
    have e : stI (s : Int) 1 (i : Int) = (i : Int) := by unfold stI; rw [if_neg h12]
    rw [e] at hst ⊢
    have h5 : (i : Int) < (l.length : Int) := hll ▸ hst.2.1
    have h6 : (i : Int) < (met.length : Int) := by rw [hm]; exact h5
    simp only [spec_l06Joins.l0, if_pos h1, if_neg h12, if_pos h2, if_pos h5, if_pos h6, if_pos hq, h4]
  · have e : stI (s : Int) 2 (i : Int) = (s : Int) * (i : Int) := by unfold stI; rw [if_pos rfl]
    rw [e] at hst ⊢
    have hw : wrap64 ((s : Int) * (i : Int)) = (s : Int) * (i : Int) := small64 hst.1 (Int.lt_trans hst.2.1 h88)
    have h5 : (s : Int) * (i : Int) < (l.length : Int) := hll ▸ hst.2.1
    have h6 : (s : Int) * (i : Int) < (met.length : Int) := by rw [hm]; exact h5
    simp only [spec_l06Joins.l0, if_pos h1, if_true, hw, if_pos hst.1, if_pos h5, if_pos h6, if_pos hq, h4]
theorem bfs_l0 {s : Nat} {l : List Int} {p : Int} (hs : 1 ≤ s ∧ s ≤ 8) (hl : l.length = s * s) (hp : p = 1 ∨ p = 2) :
    ∀ (d i : Nat) (met : List Bool) (q : List Int), i + d = s → QInv s l p met q → (∀ c ∈ q, ∃ j, 0 ≤ j ∧ j < (i : Int) ∧ c = stI s p j) → (∀ j : Int, 0 ≤ j → j < (i : Int) → okc l p (stI s p j) → stI s p j ∈ q) →
      ∃ r, Ev (fun k => spec_l06Joins.l0 k (s : Int) l p met q (i : Int)) r ∧ (r = true ↔ Joins (s : Int) l p) := by
  have hll : (l.length : Int) = (s : Int) * (s : Int) := by rw [hl]; push_cast; rfl
  have h88 : s * s ≤ 8 * 8 := Nat.mul_le_mul hs.2 hs.2
  intro d
  induction d with
  | zero =>
    intro i met q hi hQ hq1 hq2
    obtain ⟨r, h1, h2⟩ := bfs_l1 hs hl hp l.length 0 met q (by omega) (by omega) hQ (fun c hc h0 => by
      obtain ⟨k, k1, k2, k3⟩ := stI_all hs hp ⟨hc.1, by rw [← hll]; exact hc.2.1⟩ h0
      subst k3
      exact hq2 k k1 (by omega) hc) (fun j _ h => absurd h (by omega))
    refine ⟨r, Ev.succ ?_, h2⟩
    have h3 : ¬ ((i : Int) < (s : Int)) := by omega
    simp only [spec_l06Joins.l0, if_neg h3]
    exact h1
  | succ d ih =>
    intro i met q hi hQ hq1 hq2
    have hst := stI_ok hs hp (k := (i : Int)) ⟨by omega, by omega⟩
    have hql : q.length < 17592186044416 := by have := hQ.cnt; omega
    have hstep := fun k => bfs_start hs hp l hl met hQ.len q hql i (by omega) k
    by_cases e : rd l (stI s p i) = p
    · have hok : okc l p (stI s p i) := ⟨hst.1, by rw [hll]; exact hst.2.1, e⟩
      have hfr : stI s p i ∉ q := fun h => by
        obtain ⟨j, j1, j2, j3⟩ := hq1 _ h
        have := stI_ok hs hp (k := j) ⟨j1, by omega⟩
        rw [← j3, hst.2.2.2] at this
        omega
      obtain ⟨r, h1, h2⟩ := ih (i + 1) _ _ (by omega) (hQ.put hok (reach_start hok hst.2.2.1) hfr) (fun c hc => by
        rcases List.mem_append.1 hc with hc | hc
        · obtain ⟨j, j1, j2, j3⟩ := hq1 c hc
          exact ⟨j, j1, by omega, j3⟩
        · rw [List.mem_singleton] at hc
          exact ⟨i, by omega, by omega, hc⟩) (fun j j1 j2 j3 => by
        by_cases z : j = (i : Int)
        · subst z; exact List.mem_append_right _ (List.mem_singleton.2 rfl)
        · exact List.mem_append_left _ (hq2 j j1 (by omega) j3))
      refine ⟨r, Ev.step (fun k => ?_) h1, h2⟩
      rw [hstep k, if_pos e]
    · obtain ⟨r, h1, h2⟩ := ih (i + 1) met q (by omega) hQ (fun c hc => by
          obtain ⟨j, j1, j2, j3⟩ := hq1 c hc
          exact ⟨j, j1, by omega, j3⟩) (fun j j1 j2 j3 => by
        by_cases z : j = (i : Int)
        · subst z; exact absurd j3.2.2 e
        · exact hq2 j j1 (by omega) j3)
      refine ⟨r, Ev.step (fun k => ?_) h1, h2⟩
      rw [hstep k, if_neg e]
/-- The reference's search, on any board of a side. -/
theorem ev_joins {s : Nat} {l : List Int} {p : Int} (hs : 1 ≤ s ∧ s ≤ 8) (hl : l.length = s * s) (hp : p = 1 ∨ p = 2) : ∃ r, Ev (fun k => spec_l06Joins.f k (s : Int) l p) r ∧ (r = true ↔ Joins (s : Int) l p) := by
  have hll : (l.length : Int) = (s : Int) * (s : Int) := by rw [hl]; push_cast; rfl
  have h88 : (s : Int) * (s : Int) ≤ 64 := by
    have : s * s ≤ 8 * 8 := Nat.mul_le_mul hs.2 hs.2
    exact_mod_cast this
  have h00 : 0 ≤ (s : Int) * (s : Int) := by omega
  have hw : wrap64 ((s : Int) * (s : Int)) = (s : Int) * (s : Int) := w64 (by omega) (by omega)
  have hrep : ((s : Int) * (s : Int)).toNat = l.length := by omega
  have hle : l.length ≤ 281474976710656 := by omega
  obtain ⟨r, h1, h2⟩ := bfs_l0 hs hl hp s 0 (List.replicate l.length false) [] (by omega) ⟨by simp, by
      simp only [List.length_nil, Nat.zero_add, missB]
      rw [List.countP_eq_length.2]
      · simp
      · intro x hx
        simp [List.getD_eq_getElem?_getD, List.getElem?_replicate, List.mem_range.1 hx], fun c h0 h1 => by
      constructor
      · intro h
        simp only [rdOf, List.getD_eq_getElem?_getD, List.getElem?_replicate] at h
        split at h <;> simp at h
      · intro h; exact absurd h (by simp), fun c hc => (by cases hc)⟩ (fun c hc => (by cases hc)) (fun j h0 h1 => absurd h1 (by omega))
  refine ⟨r, ?_, h2⟩
  unfold spec_l06Joins.f
  simp only [hw, if_pos h00, hrep, if_pos hle]
  exact h1
/-- Who joins on a board, by the reference. -/
noncomputable def joinerN (s : Int) (l : List Int) : Int := by
  classical
  exact if Joins s l 1 then 1 else if Joins s l 2 then 2 else 0
theorem ev_specJoiner {s : Nat} {l : List Int} (hs : 1 ≤ s ∧ s ≤ 8) (hl : l.length = s * s) : Ev (fun k => spec_l06Joiner.f k (s : Int) l) (joinerN s l) := by
  obtain ⟨r1, a1, b1⟩ := ev_joins hs hl (p := 1) (Or.inl rfl)
  obtain ⟨r2, a2, b2⟩ := ev_joins hs hl (p := 2) (Or.inr rfl)
  have w1 : wrap64 (1 + 1) = 2 := w64 (by omega) (by omega)
  have w2 : wrap64 (2 + 1) = 3 := w64 (by omega) (by omega)
  have l1 : (1 : Int) < 3 := by omega
  have l2 : (2 : Int) < 3 := by omega
  have l3 : ¬ ((3 : Int) < 3) := by omega
  unfold spec_l06Joiner.f joinerN
  refine Ev.succ ?_
  simp only [spec_l06Joiner.l0, if_pos l1, w1]
  refine Ev.bind a1 ?_
  cases r1 with
  | true => rw [if_pos (b1.1 rfl)]; exact Ev.now _
  | false =>
    have n1 : ¬ Joins (s : Int) l 1 := fun h => by cases b1.2 h
    rw [if_neg n1]
    simp only [Bool.false_eq_true, if_false]
    refine Ev.succ ?_
    simp only [spec_l06Joiner.l0, if_pos l2, w2]
    refine Ev.bind a2 ?_
    cases r2 with
    | true => rw [if_pos (b2.1 rfl)]; exact Ev.now _
    | false =>
      have n2 : ¬ Joins (s : Int) l 2 := fun h => by cases b2.2 h
      rw [if_neg n2]
      simp only [Bool.false_eq_true, if_false]
      refine Ev.succ ?_
      simp only [spec_l06Joiner.l0, if_neg l3]
      exact Ev.now _
theorem ev_implJoiner {s : Nat} {l : List Int} (hF : Full s l) : Ev (fun k => impl_Hex_joiner.f k (s : Int) l) (joinerN s l) := by
  obtain ⟨r1, a1, b1⟩ := ev_need hF (p := 1)
  obtain ⟨r2, a2, b2⟩ := ev_need hF (p := 2)
  unfold impl_Hex_joiner.f
  simp only [Option.bind_some]
  have w1 : wrap64 (0 + 1) = 1 := w64 (by omega) (by omega)
  have w2 : wrap64 (1 + 1) = 2 := w64 (by omega) (by omega)
  have e0 : ∀ k, impl_Hex_joiner.l0 (k + 1) [1, 2] (([1, 2] : List Int).length : Int) 0 (s : Int) l = (impl_Hex_need.f k (s : Int) l 1).bind fun t => (if t = 0 then some 1 else impl_Hex_joiner.l0 k [1, 2] (([1, 2] : List Int).length : Int) 1 (s : Int) l) := fun k => by
    simp only [impl_Hex_joiner.l0, w1]; rfl
  have e1 : ∀ k, impl_Hex_joiner.l0 (k + 1) [1, 2] (([1, 2] : List Int).length : Int) 1 (s : Int) l = (impl_Hex_need.f k (s : Int) l 2).bind fun t => (if t = 0 then some 2 else impl_Hex_joiner.l0 k [1, 2] (([1, 2] : List Int).length : Int) 2 (s : Int) l) := fun k => by
    simp only [impl_Hex_joiner.l0, w2]; rfl
  have e2 : ∀ k, impl_Hex_joiner.l0 (k + 1) [1, 2] (([1, 2] : List Int).length : Int) 2 (s : Int) l = some 0 := fun k => by
    simp only [impl_Hex_joiner.l0]; rfl
  refine Ev.step e0 (Ev.bind a1 ?_)
  unfold joinerN
  by_cases n1 : Joins (s : Int) l 1
  · simp only [if_pos n1, if_pos (b1.2 n1)]; exact Ev.now _
  · have m1 : ¬ (r1 = 0) := fun h => n1 (b1.1 h)
    simp only [if_neg n1, if_neg m1]
    refine Ev.step e1 (Ev.bind a2 ?_)
    by_cases n2 : Joins (s : Int) l 2
    · simp only [if_pos n2, if_pos (b2.2 n2)]; exact Ev.now _
    · have m2 : ¬ (r2 = 0) := fun h => n2 (b2.1 h)
      simp only [if_neg n2, if_neg m2]
      exact Ev.step e2 (Ev.now _)
end Go.Proofs.YtcfdlbjngpmcaaaDoor.PAll
end

section
/- What both sides' tests of a board and its counts come to. -/
namespace Go.Proofs.YtcfdlbjngpmcaaaDoor.PAll
open Go.RowKit Go.Proofs.YtcfdlbjngpmcaaaDoorW.PrintWords Go.Proofs.YtcfdlbjngpmcaaaDoorW.PrintLast
set_option linter.unusedVariables false
set_option linter.unusedSimpArgs false

/-- A board. -/
def isB (a : Int) (l : List Int) : Bool := decide (1 ≤ a ∧ a ≤ 8) && decide ((l.length : Int) = a * a) && l.all fun c => decide (0 ≤ c ∧ c ≤ 2)
theorem isB_iff {a : Int} {l : List Int} : isB a l = true ↔ ∃ s : Nat, a = (s : Int) ∧ (1 ≤ s ∧ s ≤ 8) ∧ l.length = s * s ∧ ∀ c ∈ l, 0 ≤ c ∧ c ≤ 2 := by
  unfold isB
  simp only [Bool.and_eq_true, decide_eq_true_eq, List.all_eq_true]
  constructor
  · rintro ⟨⟨h1, h2⟩, h3⟩
    obtain ⟨s, rfl⟩ := Int.eq_ofNat_of_zero_le (by omega : 0 ≤ a)
    exact ⟨s, rfl, by omega, by exact_mod_cast h2, h3⟩
  · rintro ⟨s, rfl, h1, h2, h3⟩
    exact ⟨⟨by omega, by exact_mod_cast h2⟩, h3⟩
theorem side_sq {a : Int} (h : 1 ≤ a ∧ a ≤ 8) : wrap64 (a * a) = a * a := by
  have h1 : a * a ≤ 8 * 8 := Int.mul_le_mul h.2 h.2 (by omega) (by omega)
  have h2 : 0 ≤ a * a := Int.mul_nonneg (by omega) (by omega)
  exact small64 h2 (by omega)
theorem specIn_f (a b c : Int) : spec_l01In.f a b c = some (decide (b ≤ a ∧ a ≤ c)) := by
  unfold spec_l01In.f
  by_cases h : a ≥ b
  · rw [if_pos h]
    have : (b ≤ a ∧ a ≤ c) ↔ a ≤ c := ⟨fun h => h.2, fun k => ⟨h, k⟩⟩
    simp only [this]
  · rw [if_neg h, decide_eq_false (fun k => h k.1)]
theorem within_f (a b c : Int) : impl_within.f a b c = some (decide (b ≤ a ∧ a ≤ c)) := by
  unfold impl_within.f
  by_cases h : b ≤ a
  · rw [if_pos h]
    have : (b ≤ a ∧ a ≤ c) ↔ a ≤ c := ⟨fun h => h.2, fun k => ⟨h, k⟩⟩
    simp only [this]
  · rw [if_neg h, decide_eq_false (fun k => h k.1)]
theorem specIs_l0 (a : Int) (l : List Int) (hm : l.length ≤ 35184372088832) : ∀ (d i : Nat), i + d = l.length → Ev (fun k => spec_l06Is.l0 k (i : Int) a l) ((l.drop i).all fun c => decide (0 ≤ c ∧ c ≤ 2)) := by
  intro d
  induction d with
  | zero =>
    intro i hi
    refine Ev.succ ?_
    have h1 : ¬ ((i : Int) < (l.length : Int)) := by omega
    simp only [spec_l06Is.l0, if_neg h1]
    rw [List.drop_of_length_le (by omega)]
    exact Ev.now _
  | succ d ih =>
    intro i hi
    refine Ev.succ ?_
    have h1 : (i : Int) < (l.length : Int) := by omega
    have h2 : (0 : Int) ≤ (i : Int) := by omega
    have h4 : wrap64 ((i : Int) + 1) = ((i + 1 : Nat) : Int) := by rw [w64 (by omega) (by omega)]; omega
    simp only [spec_l06Is.l0, if_pos h1, if_pos h2, specIn_f, Option.bind_some, rd_nat l i (by omega), h4]
    rw [List.drop_eq_getElem_cons (by omega : i < l.length), List.all_cons]
    by_cases h : 0 ≤ l[i] ∧ l[i] ≤ 2
    · rw [decide_eq_true h]
      simp only [if_true, Bool.true_and]
      exact ih (i + 1) (by omega)
    · rw [decide_eq_false h]
      simp only [Bool.false_eq_true, if_false, Bool.false_and]
      exact Ev.now _
theorem ev_specIs (a : Int) (l : List Int) (hm : l.length ≤ 35184372088832) : Ev (fun k => spec_l06Is.f k a l) (isB a l) := by
  unfold spec_l06Is.f isB
  simp only [specIn_f, Option.bind_some]
  by_cases h : 1 ≤ a ∧ a ≤ 8
  · simp only [decide_eq_true h, if_true, Bool.true_and, side_sq h]
    refine Ev.succ ?_
    by_cases e : (l.length : Int) = a * a
    · have e' : ((l.length : Int) != a * a) = false := by simp [e]
      simp only [spec_l06Is.j0, e', Bool.false_eq_true, if_false, decide_eq_true e, Bool.true_and]
      exact specIs_l0 a l hm l.length 0 (by omega)
    · have e' : ((l.length : Int) != a * a) = true := by simp [e]
      simp only [spec_l06Is.j0, e', if_true, decide_eq_false e, Bool.false_and]
      exact Ev.now _
  · simp only [decide_eq_false h, Bool.false_eq_true, if_false, Bool.false_and]
    refine Ev.succ ?_
    simp only [spec_l06Is.j0, if_true]
    exact Ev.now _
theorem implIdx_l0 (l : List Int) (hm : l.length ≤ 35184372088832) : ∀ (d i : Nat), i + d = l.length → ∃ r, Ev (fun k => slices_IndexFunc_int64_int64_impl_IsHex_1.l0 k l (l.length : Int) (i : Int)) r ∧ (decide (r ≥ 0) = !((l.drop i).all fun c => decide (0 ≤ c ∧ c ≤ 2))) := by
  intro d
  induction d with
  | zero =>
    intro i hi
    refine ⟨-1, Ev.succ ?_, ?_⟩
    · have h1 : ¬ ((i : Int) < (l.length : Int)) := by omega
      simp only [slices_IndexFunc_int64_int64_impl_IsHex_1.l0, if_neg h1]
      exact Ev.now _
    · rw [List.drop_of_length_le (by omega)]; rfl
  | succ d ih =>
    intro i hi
    have h1 : (i : Int) < (l.length : Int) := by omega
    have h2 : (0 : Int) ≤ (i : Int) := by omega
    have h4 : wrap64 ((i : Int) + 1) = ((i + 1 : Nat) : Int) := by rw [w64 (by omega) (by omega)]; omega
    rw [List.drop_eq_getElem_cons (by omega : i < l.length), List.all_cons]
    by_cases h : 0 ≤ l[i] ∧ l[i] ≤ 2
    · obtain ⟨r, h5, h6⟩ := ih (i + 1) (by omega)
      refine ⟨r, Ev.succ ?_, by rw [h6, decide_eq_true h, Bool.true_and]⟩
      simp only [slices_IndexFunc_int64_int64_impl_IsHex_1.l0, if_pos h1, if_pos h2, impl_IsHex_1.f, within_f, Option.bind_some, rd_nat l i (by omega), decide_eq_true h, Bool.not_true, Bool.false_eq_true, if_false, h4]
      exact h5
    · refine ⟨(i : Int), Ev.succ ?_, by rw [decide_eq_false h, Bool.false_and, decide_eq_true (by omega)]; rfl⟩
      simp only [slices_IndexFunc_int64_int64_impl_IsHex_1.l0, if_pos h1, if_pos h2, impl_IsHex_1.f, within_f, Option.bind_some, rd_nat l i (by omega), decide_eq_false h, Bool.not_false, if_true]
      exact Ev.now _
theorem ev_implIs (a : Int) (l : List Int) (hm : l.length ≤ 35184372088832) : Ev (fun k => impl_IsHex.f k a l) (isB a l) := by
  unfold impl_IsHex.f isB
  simp only [within_f, Option.bind_some, impl_size_int64.f]
  by_cases h : 1 ≤ a ∧ a ≤ 8
  · simp only [decide_eq_true h, if_true, Bool.true_and, side_sq h]
    by_cases e : (l.length : Int) = a * a
    · simp only [if_pos e, decide_eq_true e, Bool.true_and]
      obtain ⟨r, h5, h6⟩ := implIdx_l0 l hm l.length 0 (by omega)
      refine Ev.bind (a := !(l.all fun c => decide (0 ≤ c ∧ c ≤ 2))) ?_ (by simp only [Bool.not_not]; exact Ev.now _)
      unfold slices_ContainsFunc_int64_int64_impl_IsHex_1.f slices_IndexFunc_int64_int64_impl_IsHex_1.f
      refine Ev.bind h5 ?_
      rw [List.drop_zero] at h6
      rw [h6]
      exact Ev.now _
    · simp only [if_neg e, decide_eq_false e, Bool.false_and]
      exact Ev.now _
  · simp only [decide_eq_false h, Bool.false_eq_true, if_false, Bool.false_and]
    exact Ev.now _

/-- The cells with a number. -/
def cellsN (l : List Int) (n : Int) : List Int := ((List.range l.length).filter fun (c : Nat) => rd l (c : Int) == n).map fun (c : Nat) => (c : Int)
def cellsTo (l : List Int) (n : Int) (i : Nat) : List Int := ((List.range i).filter fun (c : Nat) => rd l (c : Int) == n).map fun (c : Nat) => (c : Int)
theorem cellsTo_succ (l : List Int) (n : Int) (i : Nat) : cellsTo l n (i + 1) = if rd l (i : Int) = n then cellsTo l n i ++ [(i : Int)] else cellsTo l n i := by
  unfold cellsTo
  rw [List.range_succ, List.filter_append, List.map_append]
  by_cases h : rd l (i : Int) = n
  · have : (rd l (i : Int) == n) = true := by simpa using h
    simp [h]
  · simp [h]
theorem cellsTo_le (l : List Int) (n : Int) (i : Nat) : (cellsTo l n i).length ≤ i := by
  unfold cellsTo
  rw [List.length_map]
  exact Nat.le_trans (List.length_filter_le _ _) (by simp)
theorem mem_cellsN {l : List Int} {n c : Int} : c ∈ cellsN l n ↔ okc l n c := by
  unfold cellsN okc
  rw [List.mem_map]
  constructor
  · rintro ⟨a, h, rfl⟩
    obtain ⟨h1, h2⟩ := List.mem_filter.1 h
    have := List.mem_range.1 h1
    exact ⟨by omega, by omega, by simpa using h2⟩
  · rintro ⟨h1, h2, h3⟩
    obtain ⟨a, rfl⟩ := Int.eq_ofNat_of_zero_le h1
    exact ⟨a, List.mem_filter.2 ⟨List.mem_range.2 (by omega), by simpa using h3⟩, rfl⟩
theorem cellsN_nodup (l : List Int) (n : Int) : (cellsN l n).Nodup := by
  unfold cellsN
  have h : ((List.range l.length).filter fun (c : Nat) => rd l (c : Int) == n).Pairwise (· ≠ ·) := (List.nodup_range (n := l.length)).sublist List.filter_sublist
  exact List.Pairwise.map _ (fun a b h => by omega) h
theorem implCells_l0 (a n : Int) (l : List Int) (hm : l.length ≤ 1048576) : ∀ (d i : Nat), i + d = l.length → Ev (fun k => impl_chosen_impl_Hex_cells_1.l0 k (cellsTo l n i) (l.length : Int) (i : Int) a l n) (cellsN l n) := by
  intro d
  induction d with
  | zero =>
    intro i hi
    refine Ev.succ ?_
    have h1 : ¬ ((i : Int) < (l.length : Int)) := by omega
    simp only [impl_chosen_impl_Hex_cells_1.l0, if_neg h1]
    obtain rfl : i = l.length := by omega
    exact Ev.now _
  | succ d ih =>
    intro i hi
    refine Ev.succ ?_
    have h1 : (i : Int) < (l.length : Int) := by omega
    have h2 : (0 : Int) ≤ (i : Int) := by omega
    have h3 : (cellsTo l n i).length < 17592186044416 := by have := cellsTo_le l n i; omega
    have h4 : wrap64 ((i : Int) + 1) = ((i + 1 : Nat) : Int) := by rw [w64 (by omega) (by omega)]; omega
    have h5 := ih (i + 1) (by omega)
    rw [cellsTo_succ] at h5
    by_cases h : rd l (i : Int) = n
    · have e : (rd l (i : Int) == n) = true := by simpa using h
      rw [if_pos h] at h5
      simp only [impl_chosen_impl_Hex_cells_1.l0, if_pos h1, impl_Hex_cells_1.f, if_pos h2, Option.bind_some, e, if_true, if_pos h3, h4]
      exact h5
    · have e : (rd l (i : Int) == n) = false := by simpa using h
      rw [if_neg h] at h5
      simp only [impl_chosen_impl_Hex_cells_1.l0, if_pos h1, impl_Hex_cells_1.f, if_pos h2, Option.bind_some, e, Bool.false_eq_true, if_false, h4]
      exact h5
theorem ev_implCells (a n : Int) (l : List Int) (hm : l.length ≤ 1048576) : Ev (fun k => impl_Hex_cells.f k a l n) (cellsN l n) := by
  unfold impl_Hex_cells.f impl_size_int64.f impl_chosen_impl_Hex_cells_1.f
  simp only [Option.bind_some]
  exact Ev.bind (implCells_l0 a n l hm l.length 0 (by omega)) (Ev.now _)
theorem specEmpty_l0 (a : Int) (l : List Int) (hm : l.length ≤ 64) (h9 : (cellsN l 0).length ≤ 9) : ∀ (d i : Nat), i + d = l.length → Ev (fun k => spec_l06Empty.l0 k (cellsTo l 0 i) (((3 ^ (cellsTo l 0 i).length : Nat) : Int)) (i : Int) a l) (cellsN l 0, List.replicate (3 ^ (cellsN l 0).length) 0) := by
  have hmono : ∀ i, i ≤ l.length → (cellsTo l 0 i).length ≤ (cellsN l 0).length := fun i hi => by
    unfold cellsTo cellsN
    rw [List.length_map, List.length_map, ← List.countP_eq_length_filter, ← List.countP_eq_length_filter]
    exact List.Sublist.countP_le (List.range_sublist.2 hi)
  intro d
  induction d with
  | zero =>
    intro i hi
    refine Ev.succ ?_
    have h1 : ¬ ((i : Int) < (l.length : Int)) := by omega
    obtain rfl : i = l.length := by omega
    have h5 : 3 ^ (cellsN l 0).length ≤ 3 ^ 9 := Nat.pow_le_pow_right (by omega) h9
    have e : cellsTo l 0 l.length = cellsN l 0 := rfl
    rw [e]
    have h6 : (0 : Int) ≤ ((3 ^ (cellsN l 0).length : Nat) : Int) := Int.natCast_nonneg _
    have h7 : 3 ^ (cellsN l 0).length ≤ 35184372088832 := by omega
    simp only [spec_l06Empty.l0, if_neg h1, if_pos h6, Int.toNat_natCast, if_pos h7]
    exact Ev.now _
  | succ d ih =>
    intro i hi
    refine Ev.succ ?_
    have h1 : (i : Int) < (l.length : Int) := by omega
    have h2 : (0 : Int) ≤ (i : Int) := by omega
    have h3 : (cellsTo l 0 i).length < 17592186044416 := by have := cellsTo_le l 0 i; omega
    have h4 : wrap64 ((i : Int) + 1) = ((i + 1 : Nat) : Int) := by rw [w64 (by omega) (by omega)]; omega
    have h5 := ih (i + 1) (by omega)
    have h8 := hmono (i + 1) (by omega)
    rw [cellsTo_succ] at h5 h8
    by_cases h : rd l (i : Int) = 0
    · rw [if_pos h] at h5 h8
      have h6 : 3 ^ (cellsTo l 0 i).length ≤ 3 ^ 9 := Nat.pow_le_pow_right (by omega) (by simp at h8; omega)
      have h7 : wrap64 (((3 ^ (cellsTo l 0 i).length : Nat) : Int) * 3) = ((3 ^ (cellsTo l 0 i ++ [(i : Int)]).length : Nat) : Int) := by
        have hz : ∀ z : Nat, z ≤ 3 ^ 9 → wrap64 ((z : Int) * 3) = ((z * 3 : Nat) : Int) := fun z hz => by rw [w64 (by omega) (by omega)]; push_cast; rfl
        rw [hz _ h6, List.length_append, List.length_singleton, Nat.pow_succ]
      simp only [spec_l06Empty.l0, if_pos h1, if_pos h2, if_pos h, if_pos h3, h4, h7]
      exact h5
    · rw [if_neg h] at h5
      simp only [spec_l06Empty.l0, if_pos h1, if_pos h2, if_neg h, h4]
      exact h5
theorem ev_specEmpty (a : Int) (l : List Int) (hm : l.length ≤ 64) (h9 : (cellsN l 0).length ≤ 9) : Ev (fun k => spec_l06Empty.f k a l) (cellsN l 0, List.replicate (3 ^ (cellsN l 0).length) 0) := by
  unfold spec_l06Empty.f
  exact specEmpty_l0 a l hm h9 l.length 0 (by omega)

/-- How often a number stands in the first cells. -/
def cntTo (l : List Int) (n : Int) (i : Nat) : Int := ((cellsTo l n i).length : Int)
theorem cntTo_succ (l : List Int) (n : Int) (i : Nat) : cntTo l n (i + 1) = cntTo l n i + if rd l (i : Int) = n then 1 else 0 := by
  unfold cntTo
  rw [cellsTo_succ]
  split <;> simp
def moverN (l : List Int) : Int := if cntTo l 1 l.length - cntTo l 2 l.length = 0 then 1 else if cntTo l 1 l.length - cntTo l 2 l.length = 1 then 2 else 0
theorem specMover_l0 (a : Int) (l : List Int) (hm : l.length ≤ 64) (hv : ∀ c ∈ l, 0 ≤ c ∧ c ≤ 2) : ∀ (d i : Nat), i + d = l.length → Ev (fun k => spec_l06Mover.l0 k [cntTo l 0 i, cntTo l 1 i, cntTo l 2 i] (i : Int) a l) (moverN l, cntTo l 0 l.length) := by
  intro d
  induction d with
  | zero =>
    intro i hi
    refine Ev.succ ?_
    have h1 : ¬ ((i : Int) < (l.length : Int)) := by omega
    obtain rfl : i = l.length := by omega
    have k1 := cellsTo_le l 1 l.length
    have k2 := cellsTo_le l 2 l.length
    have hw : wrap64 (cntTo l 1 l.length - cntTo l 2 l.length) = cntTo l 1 l.length - cntTo l 2 l.length := by
      unfold cntTo; exact w64 (by omega) (by omega)
    have e0 : ∀ x y z : Int, rd [x, y, z] 0 = x := fun _ _ _ => rfl
    have e1 : ∀ x y z : Int, rd [x, y, z] 1 = y := fun _ _ _ => rfl
    have e2 : ∀ x y z : Int, rd [x, y, z] 2 = z := fun _ _ _ => rfl
    have l3 : ∀ x y z : Int, (([x, y, z] : List Int).length : Int) = 3 := fun _ _ _ => rfl
    have g0 : (0 : Int) < 3 := by omega
    have g1 : (1 : Int) < 3 := by omega
    have g2 : (2 : Int) < 3 := by omega
    simp only [spec_l06Mover.l0, if_neg h1, l3, if_pos g0, if_pos g1, if_pos g2, e0, e1, e2, hw]
    unfold moverN
    split
    · exact Ev.now _
    · split
      · exact Ev.now _
      · exact Ev.now _
  | succ d ih =>
    intro i hi
    refine Ev.succ ?_
    have h1 : (i : Int) < (l.length : Int) := by omega
    have h2 : (0 : Int) ≤ (i : Int) := by omega
    have h4 : wrap64 ((i : Int) + 1) = ((i + 1 : Nat) : Int) := by rw [w64 (by omega) (by omega)]; omega
    have h5 := ih (i + 1) (by omega)
    rw [cntTo_succ, cntTo_succ, cntTo_succ] at h5
    have hb := hv l[i] (List.getElem_mem _)
    have hr := rd_nat l i (by omega)
    have b0 : wrap64 (cntTo l 0 i + 1) = cntTo l 0 i + 1 := by
      have := cellsTo_le l 0 i
      unfold cntTo; exact w64 (by omega) (by omega)
    have b1 : wrap64 (cntTo l 1 i + 1) = cntTo l 1 i + 1 := by
      have := cellsTo_le l 1 i
      unfold cntTo; exact w64 (by omega) (by omega)
    have b2 : wrap64 (cntTo l 2 i + 1) = cntTo l 2 i + 1 := by
      have := cellsTo_le l 2 i
      unfold cntTo; exact w64 (by omega) (by omega)
    have l3 : ∀ x y z : Int, (([x, y, z] : List Int).length : Int) = 3 := fun _ _ _ => rfl
    have e0 : ∀ x y z : Int, rd [x, y, z] 0 = x := fun _ _ _ => rfl
    have e1 : ∀ x y z : Int, rd [x, y, z] 1 = y := fun _ _ _ => rfl
    have e2 : ∀ x y z : Int, rd [x, y, z] 2 = z := fun _ _ _ => rfl
    rw [hr] at h5
    rcases (by omega : l[i] = 0 ∨ l[i] = 1 ∨ l[i] = 2) with e | e | e
    · rw [e] at h5 hr
      have g : (0 : Int) < 3 := by omega
      simp only [spec_l06Mover.l0, if_pos h1, if_pos h2, hr, l3, if_pos g, e0, b0, h4, Int.le_refl, if_true]
      simpa using h5
    · rw [e] at h5 hr
      have g : (1 : Int) < 3 := by omega
      have g' : (0 : Int) ≤ 1 := by omega
      simp only [spec_l06Mover.l0, if_pos h1, if_pos h2, hr, l3, if_pos g, if_pos g', e1, b1, h4]
      simpa using h5
    · rw [e] at h5 hr
      have g : (2 : Int) < 3 := by omega
      have g' : (0 : Int) ≤ 2 := by omega
      simp only [spec_l06Mover.l0, if_pos h1, if_pos h2, hr, l3, if_pos g, if_pos g', e2, b2, h4]
      simpa using h5
theorem ev_specMover (a : Int) (l : List Int) (hm : l.length ≤ 64) (hv : ∀ c ∈ l, 0 ≤ c ∧ c ≤ 2) : Ev (fun k => spec_l06Mover.f k a l) (moverN l, ((cellsN l 0).length : Int)) := by
  unfold spec_l06Mover.f
  exact specMover_l0 a l hm hv l.length 0 (by omega)
end Go.Proofs.YtcfdlbjngpmcaaaDoor.PAll
end

section
/- The value of a position of the game, told by a plain recursion on the empty cells; who has joined the lines is its winner. -/
namespace Go.Proofs.YtcfdlbjngpmcaaaDoor.PAll
open Go.RowKit Go.Proofs.YtcfdlbjngpmcaaaDoorW.PrintWords Go.Proofs.YtcfdlbjngpmcaaaDoorW.PrintLast
set_option linter.unusedVariables false
set_option linter.unusedSimpArgs false

theorem cells_count (l : List Int) (n : Int) : (cellsN l n).length = (List.range l.length).countP fun (c : Nat) => rd l (c : Int) == n := by
  rw [cellsN, List.length_map, List.countP_eq_length_filter]
theorem countP_swap {L : List Nat} (hL : L.Nodup) {P Q : Nat → Bool} {c : Nat} (hc : c ∈ L) (hP : P c = true) (hQ : Q c = false) (h : ∀ x, x ≠ c → P x = Q x) : L.countP Q + 1 = L.countP P := by
  rw [← countP_less L hL P c hc hP]
  refine congrArg (· + 1) (List.countP_congr fun x _ => ?_)
  by_cases e : x = c
  · subst e; simp [hQ]
  · have : (x == c) = false := by rw [beq_eq_false_iff_ne]; exact e
    rw [this, h x e]; simp
theorem rd_setN {l : List Int} {c : Nat} (hc : c < l.length) (v : Int) (x : Nat) : rd (l.set c v) (x : Int) = if x = c then v else rd l (x : Int) := by
  unfold rd
  rw [List.getD_eq_getElem?_getD, List.getElem?_set, Int.toNat_natCast]
  by_cases e : c = x
  · subst e; simp [hc]
  · rw [if_neg e, if_neg (fun z => e z.symm), List.getD_eq_getElem?_getD]
theorem rd_set_sameI {xs : List Int} {c : Int} (h0 : 0 ≤ c) (h1 : c < (xs.length : Int)) {v : Int} : rd (xs.set c.toNat v) c = v := by
  unfold rd
  rw [List.getD_eq_getElem?_getD, List.getElem?_set, if_pos rfl, if_pos (by omega)]; rfl
theorem rd_set_neI {xs : List Int} {c d : Int} (hc : 0 ≤ c) (hd : 0 ≤ d) (h : c ≠ d) {v : Int} : rd (xs.set c.toNat v) d = rd xs d := by
  unfold rd
  rw [List.getD_eq_getElem?_getD, List.getElem?_set, if_neg (by omega), List.getD_eq_getElem?_getD]
theorem ext_rd {xs ys : List Int} (hl : xs.length = ys.length) (h : ∀ c : Nat, c < xs.length → rd xs (c : Int) = rd ys (c : Int)) : xs = ys := by
  refine List.ext_getElem hl fun i h1 h2 => ?_
  have := h i h1
  rw [rd_nat xs i h1, rd_nat ys i h2] at this
  exact this
/-- What a move does to the numbers of cells. -/
theorem move_counts {l : List Int} {c v : Int} (hc : okc l 0 c) (hv : v ≠ 0) : (cellsN (l.set c.toNat v) 0).length + 1 = (cellsN l 0).length ∧ (cellsN (l.set c.toNat v) v).length = (cellsN l v).length + 1 ∧ ∀ n, n ≠ 0 → n ≠ v → (cellsN (l.set c.toNat v) n).length = (cellsN l n).length := by
  obtain ⟨c, rfl⟩ := Int.eq_ofNat_of_zero_le hc.1
  have hcl : c < l.length := by have := hc.2.1; omega
  have hr := rd_setN hcl v
  rw [Int.toNat_natCast]
  simp only [cells_count, List.length_set]
  have hmem : c ∈ List.range l.length := List.mem_range.2 hcl
  refine ⟨countP_swap List.nodup_range hmem (by simpa using hc.2.2) (by rw [hr, if_pos rfl]; simpa using hv) (fun x hx => by rw [hr, if_neg hx]), (countP_swap List.nodup_range hmem (by rw [hr, if_pos rfl]; simp) (by rw [hc.2.2]; simpa using fun e => hv e.symm) (fun x hx => by rw [hr, if_neg hx])).symm, fun n h0 h1 => List.countP_congr fun x _ => ?_⟩
  rw [hr]
  by_cases e : x = c
  · subst e
    have e1 : (v == n) = false := by rw [beq_eq_false_iff_ne]; exact fun z => h1 z.symm
    have e2 : ((0 : Int) == n) = false := by rw [beq_eq_false_iff_ne]; exact fun z => h0 z.symm
    rw [if_pos rfl, hc.2.2, e1, e2]
  · rw [if_neg e]
/-- The mover's number, of a position. -/
def mvI (l : List Int) : Int := 1 + (((cellsN l 1).length : Int) - ((cellsN l 2).length : Int))
structure Pos (s : Nat) (l : List Int) : Prop where
  side : 1 ≤ s ∧ s ≤ 8
  n : l.length = s * s
  v : ∀ c : Int, 0 ≤ c → c < (l.length : Int) → rd l c = 0 ∨ rd l c = 1 ∨ rd l c = 2
  mv : mvI l = 1 ∨ mvI l = 2
theorem Pos.le {s : Nat} {l : List Int} (h : Pos s l) : l.length ≤ 64 := by
  have h2 : s * s ≤ 8 * 8 := Nat.mul_le_mul h.side.2 h.side.2
  rw [h.n]; omega
theorem Pos.ne {s : Nat} {l : List Int} (h : Pos s l) : l ≠ [] := fun e => by
  have h2 := h.n
  have h3 : 1 * 1 ≤ s * s := Nat.mul_le_mul h.side.1 h.side.1
  rw [e] at h2
  simp at h2; omega
theorem Pos.move {s : Nat} {l : List Int} (h : Pos s l) {c : Int} (hc : okc l 0 c) : Pos s (l.set c.toNat (mvI l)) ∧ mvI (l.set c.toNat (mvI l)) = 3 - mvI l ∧ (cellsN (l.set c.toNat (mvI l)) 0).length + 1 = (cellsN l 0).length := by
  have hm := h.mv
  have hk := move_counts hc (v := mvI l) (by omega)
  have hmv : mvI (l.set c.toNat (mvI l)) = 3 - mvI l := by
    rcases hm with e | e
    · have h1 := hk.2.1
      have h2 := hk.2.2 2 (by omega) (by omega)
      rw [e] at h1 h2 ⊢
      unfold mvI at e ⊢
      rw [h1, h2]; omega
    · have h1 := hk.2.1
      have h2 := hk.2.2 1 (by omega) (by omega)
      rw [e] at h1 h2 ⊢
      unfold mvI at e ⊢
      rw [h1, h2]; omega
  refine ⟨⟨h.side, by rw [List.length_set]; exact h.n, fun x h0 h1 => ?_, by rw [hmv]; omega⟩, hmv, hk.1⟩
  rw [List.length_set] at h1
  obtain ⟨x, rfl⟩ := Int.eq_ofNat_of_zero_le h0
  obtain ⟨c, rfl⟩ := Int.eq_ofNat_of_zero_le hc.1
  rw [Int.toNat_natCast, rd_setN (by have := hc.2.1; omega)]
  split
  · exact Or.inr hm
  · exact h.v x h0 h1
theorem Pos.full {s : Nat} {l : List Int} (h : Pos s l) (h0 : (cellsN l 0).length = 0) : Full s l := by
  refine ⟨h.side, h.n, fun c h1 h2 => ?_⟩
  rcases h.v c h1 h2 with e | e
  · have : c ∈ cellsN l 0 := mem_cellsN.2 ⟨h1, h2, e⟩
    rw [List.eq_nil_of_length_eq_zero h0] at this
    cases this
  · exact e
theorem Full.fulls {s : Nat} {l : List Int} (h : Full s l) : Fulls l := h.v
open Classical in
/-- The winner, told by a recursion on the number of empty cells. -/
noncomputable def wv (s : Int) : Nat → List Int → Int
  | 0, l => joinerN s l
  | n + 1, l => if ∃ c, c ∈ cellsN l 0 ∧ wv s n (l.set c.toNat (mvI l)) = mvI l then mvI l else 3 - mvI l
noncomputable def W (s : Nat) (l : List Int) : Int := wv s (cellsN l 0).length l
theorem W_full {s : Nat} {l : List Int} (h : (cellsN l 0).length = 0) : W s l = joinerN s l := by unfold W; rw [h]; rfl
theorem W_more {s : Nat} {l : List Int} {n : Nat} (hP : Pos s l) (h : (cellsN l 0).length = n + 1) :
    ((∃ c, c ∈ cellsN l 0 ∧ W s (l.set c.toNat (mvI l)) = mvI l) → W s l = mvI l) ∧ ((¬ ∃ c, c ∈ cellsN l 0 ∧ W s (l.set c.toNat (mvI l)) = mvI l) → W s l = 3 - mvI l) := by
  have e : ∀ c, c ∈ cellsN l 0 → W s (l.set c.toNat (mvI l)) = wv s n (l.set c.toNat (mvI l)) := fun c hc => by
    have := (hP.move (mem_cellsN.1 hc)).2.2
    unfold W
    rw [show (cellsN (l.set c.toNat (mvI l)) 0).length = n by omega]
  constructor
  · rintro ⟨c, hc, hw⟩
    unfold W
    rw [h, wv, if_pos ⟨c, hc, by rw [← e c hc]; exact hw⟩]
  · intro hn
    unfold W
    rw [h, wv, if_neg (fun ⟨c, hc, hw⟩ => hn ⟨c, hc, by rw [e c hc]; exact hw⟩)]
theorem joinerN_full {s : Nat} {l : List Int} (hF : Full s l) : joinerN s l = 1 ∨ joinerN s l = 2 := by
  have := (joins_just hF.side hF.n hF.fulls).1
  unfold joinerN
  by_cases h1 : Joins (s : Int) l 1
  · rw [if_pos h1]; exact Or.inl rfl
  · rw [if_neg h1]
    rcases this with h | h
    · exact absurd h h1
    · rw [if_pos h]; exact Or.inr rfl
theorem W_cases {s : Nat} {l : List Int} (hP : Pos s l) : W s l = 1 ∨ W s l = 2 := by
  have hm := hP.mv
  cases hn : (cellsN l 0).length with
  | zero => rw [W_full hn]; exact joinerN_full (hP.full hn)
  | succ n =>
    by_cases h : ∃ c, c ∈ cellsN l 0 ∧ W s (l.set c.toNat (mvI l)) = mvI l
    · rw [(W_more hP hn).1 h]; exact hm
    · rw [(W_more hP hn).2 h]; omega
theorem joinerN_of {s : Nat} {l : List Int} (hs : 1 ≤ s ∧ s ≤ 8) (hl : l.length = s * s) {p : Int} (hp : p = 1 ∨ p = 2) (h : Joins s l p) : joinerN s l = p := by
  unfold joinerN
  rcases hp with rfl | rfl
  · rw [if_pos h]
  · rw [if_neg (fun h1 => joins_not_both hs hl ⟨h1, h⟩), if_pos h]
/-- Who has joined the lines is the winner. -/
theorem W_joined {s : Nat} : ∀ (n : Nat) (l : List Int) (p : Int), (cellsN l 0).length = n → Pos s l → (p = 1 ∨ p = 2) → Joins s l p → W s l = p := by
  intro n
  induction n with
  | zero =>
    intro l p hn hP hp h
    rw [W_full hn]
    exact joinerN_of hP.side hP.n hp h
  | succ n ih =>
    intro l p hn hP hp h
    have hm := hP.mv
    have hch : ∀ c, c ∈ cellsN l 0 → W s (l.set c.toNat (mvI l)) = p := fun c hc => by
      have hok := mem_cellsN.1 hc
      obtain ⟨h1, h2, h3⟩ := hP.move hok
      refine ih _ p (by omega) h1 hp (h.more fun x hx => ?_)
      obtain ⟨x, rfl⟩ := Int.eq_ofNat_of_zero_le hx.1
      obtain ⟨c, rfl⟩ := Int.eq_ofNat_of_zero_le hok.1
      refine ⟨hx.1, by rw [List.length_set]; exact hx.2.1, ?_⟩
      rw [Int.toNat_natCast, rd_setN (by have := hok.2.1; omega), if_neg ?_]
      · exact hx.2.2
      · rintro rfl
        have := hx.2.2
        rw [hok.2.2] at this
        omega
    by_cases e : mvI l = p
    · obtain ⟨c, hc⟩ : ∃ c, c ∈ cellsN l 0 := List.exists_mem_of_length_pos (by omega)
      rw [(W_more hP hn).1 ⟨c, hc, by rw [hch c hc, e]⟩, e]
    · rw [(W_more hP hn).2 (fun ⟨c, hc, hw⟩ => e (by rw [← hw, hch c hc]))]
      omega
theorem joins_of_joinerN {s : Nat} {l : List Int} (h : joinerN s l ≠ 0) : (joinerN s l = 1 ∨ joinerN s l = 2) ∧ Joins s l (joinerN s l) := by
  unfold joinerN at *
  by_cases h1 : Joins (s : Int) l 1
  · rw [if_pos h1]; exact ⟨Or.inl rfl, h1⟩
  · rw [if_neg h1] at h ⊢
    by_cases h2 : Joins (s : Int) l 2
    · rw [if_pos h2]; exact ⟨Or.inr rfl, h2⟩
    · rw [if_neg h2] at h; exact absurd rfl h
end Go.Proofs.YtcfdlbjngpmcaaaDoor.PAll
end

section
/- The program's search with its map: it finds each position's value. -/
namespace Go.Proofs.YtcfdlbjngpmcaaaDoor.PAll
open Go.RowKit Go.Proofs.YtcfdlbjngpmcaaaDoorW.PrintWords Go.Proofs.YtcfdlbjngpmcaaaDoorW.PrintLast
set_option linter.unusedVariables false
set_option linter.unusedSimpArgs false

def dig (c : Int) : UInt8 := if c = 0 then 48 else if c = 1 then 49 else 50
/-- A board's text. -/
def keyL (l : List Int) : List UInt8 := l.map dig
theorem keyL_inj {s : Nat} {l l' : List Int} (h : Pos s l) (h' : Pos s l') (e : keyL l = keyL l') : l = l' := by
  have hl : l.length = l'.length := by rw [h.n, h'.n]
  refine List.ext_getElem hl fun i h1 h2 => ?_
  have h3 : (keyL l)[i]? = (keyL l')[i]? := by rw [e]
  unfold keyL at h3
  rw [List.getElem?_map, List.getElem?_map, List.getElem?_eq_getElem h1, List.getElem?_eq_getElem h2] at h3
  simp only [Option.map_some, Option.some.injEq] at h3
  have a := h.v i (by omega) (by omega)
  have b := h'.v i (by omega) (by omega)
  rw [rd_nat l i h1] at a
  rw [rd_nat l' i h2] at b
  rcases a with a | a | a <;> rcases b with b | b | b <;> rw [a, b] at h3 ⊢ <;> exact absurd h3 (by decide)
theorem decimal_dig {c : Int} (h : c = 0 ∨ c = 1 ∨ c = 2) : impl_decimal.f c = some ⟨[dig c].toArray⟩ := by
  unfold impl_decimal.f
  rcases h with rfl | rfl | rfl <;> (first | decide +kernel | (simp [Lib.decDigits, dig]; done))
def wordsTo (l : List Int) (i : Nat) : List ByteArray := (l.take i).map fun c => ⟨[dig c].toArray⟩
theorem joinNil (xs : List (List UInt8)) : Lib.join xs [] = xs.flatten := by
  unfold Lib.join List.intercalate
  induction xs with
  | nil => rfl
  | cons a t ih =>
    cases t with
    | nil => rfl
    | cons b r =>
      rw [List.intersperse_cons_cons, List.flatten_cons, List.flatten_cons, ih, List.nil_append]; simp
theorem words_join (l : List Int) : Lib.join ((wordsTo l l.length).map (·.data.toList)) [] = keyL l := by
  rw [joinNil]
  unfold wordsTo keyL
  rw [List.take_length]
  induction l with
  | nil => rfl
  | cons a t ih => simp only [List.map_cons, List.flatten_cons] at ih ⊢; rw [ih]; rfl
theorem joined_l0 {s : Nat} {l : List Int} (h : Pos s l) : ∀ (d i : Nat), i + d = l.length → Ev (fun k => impl_joined.l0 k ⟨#[]⟩ (wordsTo l i) l (l.length : Int) (i : Int)) ⟨(keyL l).toArray⟩ := by
  have hle := h.le
  intro d
  induction d with
  | zero =>
    intro i hi
    refine Ev.succ ?_
    have h1 : ¬ ((i : Int) < (l.length : Int)) := by omega
    obtain rfl : i = l.length := by omega
    have hj := words_join l
    have hw : (wordsTo l l.length).length ≤ 140737488355328 := by simp [wordsTo]; omega
    have hk : (keyL l).length ≤ 140737488355328 := by simp [keyL]; omega
    have hs : strings_Join.f (wordsTo l l.length) ⟨#[]⟩ = some ⟨(keyL l).toArray⟩ := by
      unfold strings_Join.f
      have hj' : Lib.join ((wordsTo l l.length).map (·.data.toList)) (⟨#[]⟩ : ByteArray).data.toList = keyL l := hj
      rw [hj', if_pos ⟨hw, hk⟩]
    simp only [impl_joined.l0, if_neg h1, hs, Option.bind_some]
    exact Ev.now _
  | succ d ih =>
    intro i hi
    refine Ev.succ ?_
    have h1 : (i : Int) < (l.length : Int) := by omega
    have h2 : (0 : Int) ≤ (i : Int) := by omega
    have h4 : wrap64 ((i : Int) + 1) = ((i + 1 : Nat) : Int) := by rw [w64 (by omega) (by omega)]; omega
    have hv := h.v i h2 h1
    have h3 : (wordsTo l i).length < 8796093022208 := by
      have : (wordsTo l i).length ≤ i := by simp [wordsTo]; omega
      omega
    have h5 : wordsTo l (i + 1) = wordsTo l i ++ [⟨[dig (rd l (i : Int))].toArray⟩] := by
      unfold wordsTo
      rw [List.take_succ_eq_append_getElem (by omega : i < l.length), List.map_append, rd_nat l i (by omega)]
      rfl
    have h6 := ih (i + 1) (by omega)
    rw [h5] at h6
    simp only [impl_joined.l0, if_pos h1, if_pos h2, decimal_dig hv, Option.bind_some, if_pos h3, h4]
    exact h6
theorem ev_joined {s : Nat} {l : List Int} (h : Pos s l) : Ev (fun k => impl_joined.f k l ⟨#[]⟩) ⟨(keyL l).toArray⟩ := by
  unfold impl_joined.f
  exact joined_l0 h l.length 0 (by omega)
theorem ev_implMover {l : List Int} (h : l.length ≤ 64) (a : Int) : Ev (fun k => impl_Hex_mover.f k a l) (mvI l, decide (mvI l = 1 ∨ mvI l = 2)) := by
  unfold impl_Hex_mover.f
  refine Ev.bind (ev_implCells a 1 l (by omega)) (Ev.bind (ev_implCells a 2 l (by omega)) ?_)
  have h1 := cellsTo_le l 1 l.length
  have h2 := cellsTo_le l 2 l.length
  have e1 : cellsTo l 1 l.length = cellsN l 1 := rfl
  have e2 : cellsTo l 2 l.length = cellsN l 2 := rfl
  rw [e1] at h1
  rw [e2] at h2
  have w1 : wrap64 (((cellsN l 1).length : Int) - ((cellsN l 2).length : Int)) = ((cellsN l 1).length : Int) - ((cellsN l 2).length : Int) := w64 (by omega) (by omega)
  have w2 : wrap64 (1 + (((cellsN l 1).length : Int) - ((cellsN l 2).length : Int))) = mvI l := w64 (by omega) (by omega)
  simp only [w1, w2]
  by_cases c : ((cellsN l 1).length : Int) - ((cellsN l 2).length : Int) = 0
  · have : mvI l = 1 ∨ mvI l = 2 := by unfold mvI; omega
    simp only [if_pos c, decide_eq_true this]
    exact Ev.now _
  · have e : ((((cellsN l 1).length : Int) - ((cellsN l 2).length : Int)) == 1) = decide (mvI l = 1 ∨ mvI l = 2) := by
      unfold mvI
      by_cases c2 : ((cellsN l 1).length : Int) - ((cellsN l 2).length : Int) = 1
      · rw [beq_iff_eq.2 c2, decide_eq_true (by omega)]
      · rw [beq_eq_false_iff_ne.2 c2, decide_eq_false (by omega)]
    simp only [if_neg c, e]
    exact Ev.now _
/-- What the map tells is right. -/
def Sound (s : Nat) (m : SMap) : Prop := ∀ l, Pos s l → ∀ v, sget m (keyL l) = some v → v = W s l
theorem Sound.put {s : Nat} {m : SMap} (h : Sound s m) {l : List Int} (hP : Pos s l) : Sound s ((keyL l, W s l) :: m) := by
  intro l' hP' v hv
  simp only [sget] at hv
  by_cases e : keyL l = keyL l'
  · rw [if_pos e] at hv
    cases hv
    rw [keyL_inj hP hP' e]
  · rw [if_neg e] at hv
    exact h l' hP' v hv
/-- How many positions are looked at, at most. -/
def Tn : Nat → Nat
  | 0 => 1
  | n + 1 => 1 + (n + 1) * Tn n
theorem wf_small {x : Int} (h : x = 1 ∨ x = 2) : (Lit.int .i64 x).wf = true := by rcases h with rfl | rfl <;> decide
theorem fin_ok {s : Nat} {l : List Int} {m : SMap} (hP : Pos s l) {out : Int} (ho : out = W s l) (hm : m.length < 1048576) : impl_find.fin ⟨(keyL l).toArray⟩ out m = some (W s l, (keyL l, W s l) :: m) := by
  unfold impl_find.fin
  rw [ho, if_pos ⟨hm, wf_small (W_cases hP)⟩]
theorem with_ok {s : Nat} {l : List Int} (hP : Pos s l) {c v : Int} (hc : 0 ≤ c ∧ c < (l.length : Int)) : impl_Hex_with.f (s : Int) l c v = some ((s : Int), l.set c.toNat v) := by
  have hle := hP.le
  unfold impl_Hex_with.f slices_Clone_int64_int64.f
  rw [if_neg hP.ne, if_pos (by omega)]
  simp only [Option.bind_some, if_pos hc.1, if_pos hc.2]
theorem find_loop {s : Nat} {l : List Int} {n : Nat} (hP : Pos s l) (hn : (cellsN l 0).length = n + 1)
    (ih : ∀ (l' : List Int) (m : SMap), Pos s l' → (cellsN l' 0).length = n → Sound s m → m.length + Tn n ≤ 1048576 → ∃ m', Ev (fun k => impl_find.f k (s : Int) l' m) (W s l', m') ∧ Sound s m' ∧ m'.length ≤ m.length + Tn n) :
    ∀ (d i : Nat) (m : SMap), i + d = (cellsN l 0).length → Sound s m → m.length + d * Tn n + 1 ≤ 1048576 → (∀ j : Nat, j < i → W s (l.set (rd (cellsN l 0) (j : Int)).toNat (mvI l)) ≠ mvI l) →
      ∃ m', Ev (fun k => impl_find.l0 k (s : Int) l (mvI l) ⟨(keyL l).toArray⟩ (cellsN l 0) m (3 - mvI l) (i : Int)) (W s l, m') ∧ Sound s m' ∧ m'.length ≤ m.length + d * Tn n + 1 := by
  have hle := hP.le
  have hcl := cellsTo_le l 0 l.length
  have e0 : cellsTo l 0 l.length = cellsN l 0 := rfl
  rw [e0] at hcl
  intro d
  induction d with
  | zero =>
    intro i m hi hS hm hno
    obtain rfl : i = (cellsN l 0).length := by omega
    have h1 : ¬ (((cellsN l 0).length : Int) < ((cellsN l 0).length : Int)) := by omega
    have hW : W s l = 3 - mvI l := (W_more hP hn).2 (fun ⟨c, hc, hw⟩ => by
      obtain ⟨j, hj, rfl⟩ := List.mem_iff_getElem.1 hc
      exact hno j hj (by rw [rd_nat _ j hj]; exact hw))
    refine ⟨(keyL l, W s l) :: m, Ev.succ ?_, hS.put hP, by simp⟩
    simp only [impl_find.l0, if_neg h1, fin_ok hP hW.symm (by omega : m.length < 1048576)]
    exact Ev.now _
  | succ d ihd =>
    intro i m hi hS hm hno
    have h1 : (i : Int) < ((cellsN l 0).length : Int) := by omega
    have h2 : (0 : Int) ≤ (i : Int) := by omega
    have h4 : wrap64 ((i : Int) + 1) = ((i + 1 : Nat) : Int) := by rw [w64 (by omega) (by omega)]; omega
    have hr : rd (cellsN l 0) (i : Int) = (cellsN l 0)[i] := rd_nat _ i (by omega)
    have hok := mem_cellsN.1 (List.getElem_mem (by omega : i < (cellsN l 0).length))
    rw [← hr] at hok
    obtain ⟨hP', _, hn'⟩ := hP.move hok
    have hT : (d + 1) * Tn n = d * Tn n + Tn n := Nat.succ_mul d (Tn n)
    obtain ⟨m1, e1, hS1, hl1⟩ := ih _ m hP' (by omega) hS (by omega)
    have hw := with_ok hP (v := mvI l) ⟨hok.1, hok.2.1⟩
    by_cases c : W s (l.set (rd (cellsN l 0) (i : Int)).toNat (mvI l)) = mvI l
    · have hW : W s l = mvI l := (W_more hP hn).1 ⟨_, mem_cellsN.2 hok, c⟩
      refine ⟨(keyL l, W s l) :: m1, Ev.succ ?_, hS1.put hP, by simp only [List.length_cons]; omega⟩
      simp only [impl_find.l0, if_pos h1, if_pos h2, hw, Option.bind_some]
      refine Ev.bind e1 ?_
      simp only [if_pos c, fin_ok hP hW.symm (by omega : m1.length < 1048576)]
      exact Ev.now _
    · obtain ⟨m2, e2, hS2, hl2⟩ := ihd (i + 1) m1 (by omega) hS1 (by omega) (fun j hj => by
        rcases Nat.lt_or_ge j i with h5 | h5
        · exact hno j h5
        · have : j = i := by omega
          subst this; exact c)
      refine ⟨m2, Ev.succ ?_, hS2, by omega⟩
      simp only [impl_find.l0, if_pos h1, if_pos h2, hw, Option.bind_some]
      refine Ev.bind e1 ?_
      simp only [if_neg c, h4]
      exact e2
theorem ev_find {s : Nat} : ∀ (n : Nat) (l : List Int) (m : SMap), Pos s l → (cellsN l 0).length = n → Sound s m → m.length + Tn n ≤ 1048576 → ∃ m', Ev (fun k => impl_find.f k (s : Int) l m) (W s l, m') ∧ Sound s m' ∧ m'.length ≤ m.length + Tn n := by
  intro n
  induction n with
  | zero =>
    intro l m hP hn hS hm
    have hle := hP.le
    have hks : (⟨(keyL l).toArray⟩ : ByteArray).size ≤ 1048576 := by
      show (keyL l).toArray.size ≤ 1048576
      simp [keyL]; omega
    cases hg : sget m (keyL l) with
    | some v =>
      have hv := hS l hP v hg
      subst hv
      refine ⟨m, Ev.succ ?_, hS, by omega⟩
      simp only [impl_find.f]
      refine Ev.bind (ev_joined hP) ?_
      simp only [if_pos hks, hg]
      exact Ev.now _
    | none =>
      have hW := W_full (s := s) hn
      have h1 : ¬ ((0 : Int) < ((cellsN l 0).length : Int)) := by omega
      have h0 : ((cellsN l 0).length : Int) = 0 := by omega
      refine ⟨(keyL l, W s l) :: m, Ev.succ ?_, hS.put hP, by simp [Tn]⟩
      simp only [impl_find.f]
      refine Ev.bind (ev_joined hP) ?_
      simp only [if_pos hks, hg]
      refine Ev.bind (ev_implMover hle _) (Ev.bind (ev_implCells _ 0 l (by omega)) ?_)
      simp only [if_pos h0]
      refine Ev.bind (ev_implJoiner (hP.full hn)) (Ev.succ ?_)
      simp only [Tn] at hm
      simp only [impl_find.l0, if_neg h1, fin_ok hP hW.symm (by omega : m.length < 1048576)]
      exact Ev.now _
  | succ n ih =>
    intro l m hP hn hS hm
    have hle := hP.le
    have hks : (⟨(keyL l).toArray⟩ : ByteArray).size ≤ 1048576 := by
      show (keyL l).toArray.size ≤ 1048576
      simp [keyL]; omega
    cases hg : sget m (keyL l) with
    | some v =>
      have hv := hS l hP v hg
      subst hv
      refine ⟨m, Ev.succ ?_, hS, by omega⟩
      simp only [impl_find.f]
      refine Ev.bind (ev_joined hP) ?_
      simp only [if_pos hks, hg]
      exact Ev.now _
    | none =>
      have hmv := hP.mv
      have h0 : ¬ ((cellsN l 0).length : Int) = 0 := by omega
      have hw3 : wrap64 (3 - mvI l) = 3 - mvI l := w64 (by omega) (by omega)
      have hT : Tn (n + 1) = 1 + (n + 1) * Tn n := rfl
      obtain ⟨m', e1, hS1, hl1⟩ := find_loop hP hn ih (n + 1) 0 m (by omega) hS (by omega) (fun j hj => absurd hj (by omega))
      refine ⟨m', Ev.succ ?_, hS1, by omega⟩
      simp only [impl_find.f]
      refine Ev.bind (ev_joined hP) ?_
      simp only [if_pos hks, hg]
      refine Ev.bind (ev_implMover hle _) (Ev.bind (ev_implCells _ 0 l (by omega)) ?_)
      simp only [if_neg h0, hw3]
      exact e1
end Go.Proofs.YtcfdlbjngpmcaaaDoor.PAll
end

section
/- The reference's search with its table: it finds each position's value. -/
namespace Go.Proofs.YtcfdlbjngpmcaaaDoor.PAll
open Go.RowKit Go.Proofs.YtcfdlbjngpmcaaaDoorW.PrintWords Go.Proofs.YtcfdlbjngpmcaaaDoorW.PrintLast
set_option linter.unusedVariables false
set_option linter.unusedSimpArgs false

/-- The number with these digits, in base 3, the lowest first. -/
def num3 : List Int → Int
  | [] => 0
  | d :: t => d + 3 * num3 t
def Dig (ds : List Int) : Prop := ∀ d ∈ ds, d = 0 ∨ d = 1 ∨ d = 2
theorem num3_bound : ∀ ds : List Int, Dig ds → 0 ≤ num3 ds ∧ num3 ds < ((3 ^ ds.length : Nat) : Int)
  | [], _ => by simp [num3]
  | d :: t, h => by
    have h1 := num3_bound t (fun x hx => h x (List.mem_cons_of_mem _ hx))
    have h2 := h d List.mem_cons_self
    rw [List.length_cons, Nat.pow_succ]
    unfold num3
    push_cast at h1 ⊢
    omega
theorem num3_inj : ∀ ds es : List Int, Dig ds → Dig es → ds.length = es.length → num3 ds = num3 es → ds = es
  | [], [], _, _, _, _ => rfl
  | d :: t, e :: r, h, k, hl, hn => by
    have h2 := h d List.mem_cons_self
    have k2 := k e List.mem_cons_self
    unfold num3 at hn
    have hde : d = e := by omega
    have htr := num3_inj t r (fun x hx => h x (List.mem_cons_of_mem _ hx)) (fun x hx => k x (List.mem_cons_of_mem _ hx)) (by simpa using hl) (by omega)
    rw [hde, htr]
theorem num3_set : ∀ (ds : List Int) (i : Nat) (v : Int) (h : i < ds.length), num3 (ds.set i v) = num3 ds + (v - ds[i]) * ((3 ^ i : Nat) : Int)
  | [], i, v, h => absurd h (by simp)
  | d :: t, 0, v, h => by simp [num3]; omega
  | d :: t, i + 1, v, h => by
    have ht : i < t.length := by simpa using h
    have h1 := num3_set t i v ht
    rw [List.set_cons_succ, num3, num3, h1, List.getElem_cons_succ, Nat.pow_succ]
    have e : (v - t[i]) * ((3 ^ i * 3 : Nat) : Int) = 3 * ((v - t[i]) * ((3 ^ i : Nat) : Int)) := by
      rw [Int.natCast_mul, ← Int.mul_assoc, Int.mul_comm]; rfl
    rw [e]
    generalize (v - t[i]) * ((3 ^ i : Nat) : Int) = p
    omega
theorem num3_zero : ∀ n : Nat, num3 (List.replicate n 0) = 0
  | 0 => rfl
  | n + 1 => by rw [List.replicate_succ, num3, num3_zero n]; rfl

/-- A position that comes from the first one. -/
structure Desc (s : Nat) (l0 l : List Int) : Prop where
  P : Pos s l
  len : l.length = l0.length
  out : ∀ c : Int, 0 ≤ c → c < (l0.length : Int) → rd l0 c ≠ 0 → rd l c = rd l0 c
def digs (l0 l : List Int) : List Int := (cellsN l0 0).map (rd l)
def numL (l0 l : List Int) : Int := num3 (digs l0 l)
theorem digs_dig {s : Nat} {l0 l : List Int} (h : Desc s l0 l) : Dig (digs l0 l) := by
  intro d hd
  obtain ⟨c, hc, rfl⟩ := List.mem_map.1 hd
  have := mem_cellsN.1 hc
  exact h.P.v c this.1 (by rw [h.len]; exact this.2.1)
theorem numL_inj {s : Nat} {l0 l l' : List Int} (h : Desc s l0 l) (h' : Desc s l0 l') (e : numL l0 l = numL l0 l') : l = l' := by
  have hd := num3_inj _ _ (digs_dig h) (digs_dig h') (by simp [digs]) e
  refine ext_rd (by rw [h.len, h'.len]) fun c hc => ?_
  have hc0 : c < l0.length := by rw [← h.len]; exact hc
  by_cases z : rd l0 (c : Int) = 0
  · have hm : (c : Int) ∈ cellsN l0 0 := mem_cellsN.2 ⟨by omega, by omega, z⟩
    have := List.map_inj_left.1 hd (c : Int) hm
    exact this
  · rw [h.out c (by omega) (by omega) z, h'.out c (by omega) (by omega) z]
theorem numL_bound {s : Nat} {l0 l : List Int} (h : Desc s l0 l) : 0 ≤ numL l0 l ∧ numL l0 l < ((3 ^ (cellsN l0 0).length : Nat) : Int) := by
  have := num3_bound _ (digs_dig h)
  rw [show (digs l0 l).length = (cellsN l0 0).length by simp [digs]] at this
  exact this
theorem Desc.empty {s : Nat} {l0 l : List Int} (h : Desc s l0 l) {c : Int} (hc : okc l 0 c) : c ∈ cellsN l0 0 := by
  refine mem_cellsN.2 ⟨hc.1, by rw [← h.len]; exact hc.2.1, ?_⟩
  by_cases z : rd l0 c = 0
  · exact z
  · have := h.out c hc.1 (by rw [← h.len]; exact hc.2.1) z
    rw [hc.2.2] at this
    exact absurd this.symm z
theorem Desc.move {s : Nat} {l0 l : List Int} (h : Desc s l0 l) {i : Nat} (hi : i < (cellsN l0 0).length) (hz : rd l (rd (cellsN l0 0) (i : Int)) = 0) :
    okc l 0 (rd (cellsN l0 0) (i : Int)) ∧ Desc s l0 (l.set (rd (cellsN l0 0) (i : Int)).toNat (mvI l)) ∧ numL l0 (l.set (rd (cellsN l0 0) (i : Int)).toNat (mvI l)) = numL l0 l + mvI l * ((3 ^ i : Nat) : Int) := by
  have hr : rd (cellsN l0 0) (i : Int) = (cellsN l0 0)[i] := rd_nat _ i hi
  have hin := mem_cellsN.1 (List.getElem_mem hi)
  have hok : okc l 0 (rd (cellsN l0 0) (i : Int)) := ⟨by rw [hr]; exact hin.1, by rw [hr, h.len]; exact hin.2.1, hz⟩
  obtain ⟨c, hc⟩ := Int.eq_ofNat_of_zero_le hok.1
  have hcl : c < l.length := by have := hok.2.1; omega
  refine ⟨hok, ⟨(h.P.move hok).1, by rw [List.length_set, h.len], fun x h0 h1 hx => ?_⟩, ?_⟩
  · obtain ⟨x, rfl⟩ := Int.eq_ofNat_of_zero_le h0
    rw [hc, Int.toNat_natCast, rd_setN hcl, if_neg ?_]
    · exact h.out x h0 h1 hx
    · rintro rfl
      rw [← hr, hc] at hin
      exact hx hin.2.2
  · have key : ∀ (j : Nat) (hj : j < (cellsN l0 0).length), rd (l.set (rd (cellsN l0 0) (i : Int)).toNat (mvI l)) (cellsN l0 0)[j] = if i = j then mvI l else rd l (cellsN l0 0)[j] := by
      intro j hj
      have hjin := mem_cellsN.1 (List.getElem_mem hj)
      have hinj : (cellsN l0 0)[i] = (cellsN l0 0)[j] → i = j := fun e => (List.getElem_inj (cellsN_nodup l0 0)).1 e
      rw [← hr, hc] at hinj
      rw [hc, Int.toNat_natCast]
      have hij : i = j → (cellsN l0 0)[j] = (c : Int) := fun e => by subst e; rw [← hr, hc]
      generalize (cellsN l0 0)[j] = y at hjin hinj hij ⊢
      obtain ⟨x, rfl⟩ := Int.eq_ofNat_of_zero_le hjin.1
      rw [rd_setN hcl]
      by_cases e : i = j
      · have := hij e
        rw [if_pos e, if_pos (by omega)]
      · rw [if_neg e, if_neg (fun z => e (hinj (by rw [z])))]
    have hds : digs l0 (l.set (rd (cellsN l0 0) (i : Int)).toNat (mvI l)) = (digs l0 l).set i (mvI l) := by
      refine List.ext_getElem (by simp [digs]) fun j h1 h2 => ?_
      have hj : j < (cellsN l0 0).length := by simpa [digs] using h1
      rw [List.getElem_set]
      simp only [digs, List.getElem_map]
      exact key j hj
    unfold numL
    rw [hds, num3_set _ i _ (by simpa [digs] using hi)]
    have : (digs l0 l)[i]'(by simpa [digs] using hi) = 0 := by
      simp only [digs, List.getElem_map]
      rw [← hr]; exact hz
    rw [this]
    congr 2
    omega
/-- What the table tells is right. -/
structure KS (s : Nat) (l0 known : List Int) : Prop where
  len : known.length = 3 ^ (cellsN l0 0).length
  ok : ∀ l, Desc s l0 l → rd known (numL l0 l) > 0 → rd known (numL l0 l) = W s l
theorem KS.set {s : Nat} {l0 known l : List Int} (h : KS s l0 known) (hD : Desc s l0 l) : KS s l0 (known.set (numL l0 l).toNat (W s l)) := by
  have hb := numL_bound hD
  refine ⟨by rw [List.length_set]; exact h.len, fun l' hD' hp => ?_⟩
  have hb' := numL_bound hD'
  by_cases e : numL l0 l = numL l0 l'
  · rw [← e, rd_set_sameI hb.1 (by rw [h.len]; exact hb.2), numL_inj hD hD' e]
  · rw [rd_set_neI hb.1 hb'.1 e] at hp ⊢
    exact h.ok l' hD' hp
theorem pow_le9 {i : Nat} (h : i ≤ 9) : 3 ^ i ≤ 19683 := Nat.le_trans (Nat.pow_le_pow_right (by omega) h) (by decide)
theorem pow_step {i : Nat} (h : i ≤ 9) : wrap64 (((3 ^ i : Nat) : Int) * 3) = ((3 ^ (i + 1) : Nat) : Int) := by
  have hz : ∀ z : Nat, z ≤ 19683 → wrap64 ((z : Int) * 3) = ((z * 3 : Nat) : Int) := fun z hz => by rw [w64 (by omega) (by omega)]; push_cast; rfl
  rw [hz _ (pow_le9 h), Nat.pow_succ]
theorem mul_step {i : Nat} (h : i ≤ 9) {v : Int} (hv : v = 1 ∨ v = 2) : wrap64 (v * ((3 ^ i : Nat) : Int)) = v * ((3 ^ i : Nat) : Int) := by
  have hz : ∀ z : Nat, z ≤ 19683 → wrap64 (v * (z : Int)) = v * (z : Int) := fun z hz => by rcases hv with e | e <;> rw [e] <;> exact w64 (by omega) (by omega)
  exact hz _ (pow_le9 h)
theorem num_w {m : Nat} (h : m ≤ 9) {x : Int} (h0 : 0 ≤ x) (h1 : x < ((3 ^ m : Nat) : Int)) : wrap64 x = x := by
  have h2 := pow_le9 h
  generalize 3 ^ m = y at h1 h2
  exact w64 (by omega) (by omega)
theorem own_ok {l : List Int} (h : l.length ≤ 64) : spec_l01Own.f l = some l := by
  unfold spec_l01Own.f
  simp only [Option.bind_some, List.length_nil, Nat.zero_add, List.nil_append]
  rw [if_pos (by omega)]
theorem winner_fin {s : Nat} {l0 l : List Int} (hD : Desc s l0 l) {out : Int} {known : List Int} (i : Nat) (p : Int) (ho : out = W s l) (hK : KS s l0 known) :
    Ev (fun k => spec_l06Winner.j1 k (s : Int) l (cellsN l0 0) known (numL l0 l) (mvI l) out p (i : Int) false) (W s l, known.set (numL l0 l).toNat (W s l)) := by
  have hb := numL_bound hD
  have hlt : numL l0 l < (known.length : Int) := by rw [hK.len]; exact hb.2
  subst ho
  refine Ev.succ ?_
  simp only [spec_l06Winner.j1, Bool.false_eq_true, if_false, if_pos hb.1, if_pos hlt]
  exact Ev.now _
/-- One round of the reference's loop over the moves. -/
theorem winner_round {s : Nat} {l0 l : List Int} (h9 : (cellsN l0 0).length ≤ 9) (hD : Desc s l0 l) {i : Nat} (hi : i < (cellsN l0 0).length) {out : Int} (ho : out = 3 - mvI l) (known : List Int) (k : Nat) :
    spec_l06Winner.l0 (k + 2) (s : Int) l (cellsN l0 0) known (numL l0 l) (mvI l) out ((3 ^ i : Nat) : Int) (i : Int) = (if rd l (rd (cellsN l0 0) (i : Int)) = 0 then ((spec_l06Winner.f k (s : Int) (l.set (rd (cellsN l0 0) (i : Int)).toNat (mvI l)) (cellsN l0 0) known (wrap64 (numL l0 l + mvI l * ((3 ^ i : Nat) : Int))) (3 - mvI l)).bind fun bt => (if bt.1 = mvI l then spec_l06Winner.l0 k (s : Int) l (cellsN l0 0) bt.2 (numL l0 l) (mvI l) (mvI l) ((3 ^ (i + 1) : Nat) : Int) ((i + 1 : Nat) : Int) else spec_l06Winner.l0 k (s : Int) l (cellsN l0 0) bt.2 (numL l0 l) (mvI l) out ((3 ^ (i + 1) : Nat) : Int) ((i + 1 : Nat) : Int))) else spec_l06Winner.l0 k (s : Int) l (cellsN l0 0) known (numL l0 l) (mvI l) out ((3 ^ (i + 1) : Nat) : Int) ((i + 1 : Nat) : Int)) := by
  have hmv := hD.P.mv
  have hle := hD.P.le
  have h1 : (i : Int) < ((cellsN l0 0).length : Int) := by omega
  have hi0 : (0 : Int) ≤ (i : Int) := by omega
  have h4 : wrap64 ((i : Int) + 1) = ((i + 1 : Nat) : Int) := by rw [w64 (by omega) (by omega)]; omega
  have hw3 : wrap64 (3 - mvI l) = 3 - mvI l := w64 (by omega) (by omega)
  have hne : (out != mvI l) = true := by rw [bne_iff_ne, ho]; omega
  have hr : rd (cellsN l0 0) (i : Int) = (cellsN l0 0)[i] := rd_nat _ i hi
  have hin := mem_cellsN.1 (List.getElem_mem hi)
  rw [← hr] at hin
  have hel : rd (cellsN l0 0) (i : Int) < (l.length : Int) := by rw [hD.len]; exact hin.2.1
  have hp3 := pow_step (by omega : i ≤ 9)
  have hmp := mul_step (by omega : i ≤ 9) hmv
  have hown := own_ok hle
  simp only [spec_l06Winner.l0, if_pos h1, hne, spec_l06Winner.j1, if_true, if_pos hi0, if_pos hin.1, if_pos hel, hown, Option.bind_some, hmp, hw3, hp3, h4]
theorem winner_loop {s : Nat} {l0 l : List Int} {n : Nat} (h9 : (cellsN l0 0).length ≤ 9) (hD : Desc s l0 l) (hn : (cellsN l 0).length = n + 1)
    (ihn : ∀ (l' known : List Int), (cellsN l' 0).length = n → Desc s l0 l' → KS s l0 known → ∃ known', Ev (fun k => spec_l06Winner.f k (s : Int) l' (cellsN l0 0) known (numL l0 l') (mvI l')) (W s l', known') ∧ KS s l0 known') :
    ∀ (d i : Nat) (known : List Int) (out : Int), i + d = (cellsN l0 0).length → KS s l0 known → ((out = mvI l ∧ ∃ c, c ∈ cellsN l 0 ∧ W s (l.set c.toNat (mvI l)) = mvI l) ∨ (out = 3 - mvI l ∧ ∀ j : Nat, j < i → rd l (rd (cellsN l0 0) (j : Int)) = 0 → W s (l.set (rd (cellsN l0 0) (j : Int)).toNat (mvI l)) ≠ mvI l)) →
      ∃ known', Ev (fun k => spec_l06Winner.l0 k (s : Int) l (cellsN l0 0) known (numL l0 l) (mvI l) out ((3 ^ i : Nat) : Int) (i : Int)) (W s l, known') ∧ KS s l0 known' := by
  have hP := hD.P
  have hmore := W_more hP hn
  intro d
  induction d with
  | zero =>
    intro i known out hi hK hout
    have h1 : ¬ ((i : Int) < ((cellsN l0 0).length : Int)) := by omega
    have ho : out = W s l := by
      rcases hout with ⟨h2, h3⟩ | ⟨h2, h3⟩
      · rw [h2, hmore.1 h3]
      · rw [h2, hmore.2 (fun ⟨c, hc, hw⟩ => ?_)]
        have hok := mem_cellsN.1 hc
        obtain ⟨j, hjl, hjc⟩ := List.mem_iff_getElem.1 (hD.empty hok)
        have hrj : rd (cellsN l0 0) (j : Int) = c := by rw [rd_nat _ j hjl, hjc]
        exact h3 j (by omega) (by rw [hrj]; exact hok.2.2) (by rw [hrj]; exact hw)
    refine ⟨_, Ev.succ ?_, hK.set hD⟩
    simp only [spec_l06Winner.l0, if_neg h1]
    exact winner_fin hD i _ ho hK
  | succ d ih =>
    intro i known out hi hK hout
    have h1 : (i : Int) < ((cellsN l0 0).length : Int) := by omega
    rcases hout with ⟨h2, h3⟩ | ⟨h2, h3⟩
    · refine ⟨_, Ev.succ ?_, hK.set hD⟩
      have hne : (out != mvI l) = false := by rw [h2]; simp
      simp only [spec_l06Winner.l0, if_pos h1, hne]
      exact winner_fin hD i _ (by rw [h2, hmore.1 h3]) hK
    · have hround := winner_round h9 hD (by omega : i < (cellsN l0 0).length) h2 known
      by_cases hz : rd l (rd (cellsN l0 0) (i : Int)) = 0
      · obtain ⟨hok, hD', hnum⟩ := hD.move (by omega : i < (cellsN l0 0).length) hz
        obtain ⟨_, hmv', hn'⟩ := hP.move hok
        obtain ⟨k1, e1, hK2⟩ := ihn _ known (by omega) hD' hK
        rw [hmv', hnum] at e1
        have hb' := numL_bound hD'
        rw [hnum] at hb'
        have hnp := num_w h9 hb'.1 hb'.2
        by_cases hw : W s (l.set (rd (cellsN l0 0) (i : Int)).toNat (mvI l)) = mvI l
        · obtain ⟨k2, e2, e3⟩ := ih (i + 1) k1 (mvI l) (by omega) hK2 (Or.inl ⟨rfl, _, mem_cellsN.2 hok, hw⟩)
          refine ⟨k2, Ev.succ (Ev.step hround ?_), e3⟩
          simp only [if_pos hz, hnp]
          refine Ev.bind e1 ?_
          simp only [if_pos hw]
          exact e2
        · obtain ⟨k2, e2, e3⟩ := ih (i + 1) k1 out (by omega) hK2 (Or.inr ⟨h2, fun j hjl hjz => by
            rcases Nat.lt_or_ge j i with h5 | h5
            · exact h3 j h5 hjz
            · have : j = i := by omega
              subst this; exact hw⟩)
          refine ⟨k2, Ev.succ (Ev.step hround ?_), e3⟩
          simp only [if_pos hz, hnp]
          refine Ev.bind e1 ?_
          simp only [if_neg hw]
          exact e2
      · obtain ⟨k2, e2, e3⟩ := ih (i + 1) known out (by omega) hK (Or.inr ⟨h2, fun j hjl hjz => by
          rcases Nat.lt_or_ge j i with h5 | h5
          · exact h3 j h5 hjz
          · have : j = i := by omega
            subst this; exact absurd hjz hz⟩)
        refine ⟨k2, Ev.succ (Ev.step hround ?_), e3⟩
        simp only [if_neg hz]
        exact e2
theorem ev_winner {s : Nat} {l0 : List Int} (h9 : (cellsN l0 0).length ≤ 9) : ∀ (n : Nat) (l known : List Int), (cellsN l 0).length = n → Desc s l0 l → KS s l0 known →
    ∃ known', Ev (fun k => spec_l06Winner.f k (s : Int) l (cellsN l0 0) known (numL l0 l) (mvI l)) (W s l, known') ∧ KS s l0 known' := by
  intro n
  induction n with
  | zero =>
    intro l known hn hD hK
    have hP := hD.P
    have hb := numL_bound hD
    have hlt : numL l0 l < (known.length : Int) := by rw [hK.len]; exact hb.2
    by_cases hpos : rd known (numL l0 l) > 0
    · refine ⟨known, Ev.succ ?_, hK⟩
      simp only [spec_l06Winner.f, if_pos hb.1, if_pos hlt, if_pos hpos]
      rw [hK.ok l hD hpos]
      exact Ev.now _
    · have hj : joinerN s l ≠ 0 := by rcases joinerN_full (hP.full hn) with z | z <;> rw [z] <;> decide
      have h1 := joins_of_joinerN hj
      have hW : joinerN s l = W s l := (W_joined _ l _ rfl hP h1.1 h1.2).symm
      refine ⟨known.set (numL l0 l).toNat (W s l), Ev.succ ?_, hK.set hD⟩
      simp only [spec_l06Winner.f, if_pos hb.1, if_pos hlt, if_neg hpos]
      refine Ev.bind (ev_specJoiner hP.side hP.n) ?_
      have hj' : ¬ (W s l = 0) := by rw [← hW]; exact hj
      simp only [hW, if_neg hj']
      exact Ev.now _
  | succ n ihn =>
    intro l known hn hD hK
    have hP := hD.P
    have hmv := hP.mv
    have hw3 : wrap64 (3 - mvI l) = 3 - mvI l := w64 (by omega) (by omega)
    have hb := numL_bound hD
    have hlt : numL l0 l < (known.length : Int) := by rw [hK.len]; exact hb.2
    by_cases hpos : rd known (numL l0 l) > 0
    · refine ⟨known, Ev.succ ?_, hK⟩
      simp only [spec_l06Winner.f, if_pos hb.1, if_pos hlt, if_pos hpos]
      rw [hK.ok l hD hpos]
      exact Ev.now _
    · by_cases hj : joinerN s l = 0
      · obtain ⟨k', e1, e2⟩ := winner_loop h9 hD hn ihn (cellsN l0 0).length 0 known (3 - mvI l) (by omega) hK (Or.inr ⟨rfl, fun j hj => absurd hj (by omega)⟩)
        refine ⟨k', Ev.succ ?_, e2⟩
        simp only [spec_l06Winner.f, if_pos hb.1, if_pos hlt, if_neg hpos]
        refine Ev.bind (ev_specJoiner hP.side hP.n) ?_
        simp only [hj, if_true, hw3]
        exact e1
      · have h1 := joins_of_joinerN hj
        have hW : joinerN s l = W s l := (W_joined _ l _ rfl hP h1.1 h1.2).symm
        refine ⟨known.set (numL l0 l).toNat (W s l), Ev.succ ?_, hK.set hD⟩
        simp only [spec_l06Winner.f, if_pos hb.1, if_pos hlt, if_neg hpos]
        refine Ev.bind (ev_specJoiner hP.side hP.n) ?_
        have hj' : ¬ (W s l = 0) := by rw [← hW]; exact hj
        simp only [hW, if_neg hj']
        exact Ev.now _
end Go.Proofs.YtcfdlbjngpmcaaaDoor.PAll
end

section
/- What the laws' own helpers over boards come to, and HexWinner on both sides. -/
namespace Go.Proofs.YtcfdlbjngpmcaaaDoor.PAll
open Go.RowKit Go.Proofs.YtcfdlbjngpmcaaaDoorW.PrintWords Go.Proofs.YtcfdlbjngpmcaaaDoorW.PrintLast
set_option linter.unusedVariables false
set_option linter.unusedSimpArgs false

theorem ev_toHex (a : Int) (l : List Int) (hm : l.length ≤ 35184372088832) : Ev (fun k => laws_toHex.f k a l) (a, l) := by
  unfold laws_toHex.f
  exact Ev.bind (ev_toInt64S l hm) (Ev.now _)
theorem ev_eqHex (a : Int) (l : List Int) (hm : l.length ≤ 35184372088832) : Ev (fun k => laws_eqHex.f k a l a l) true := by
  unfold laws_eqHex.f
  simp only [if_true]
  refine Ev.bind (ev_eqInt64S l l hm) ?_
  simp only [decide_true, if_true]
  exact Ev.now _
theorem szHex_f (a : Int) (l : List Int) (n : Int) (hl : l.length ≤ maxLen) (h0 : 0 ≤ n) (h1 : n ≤ 35184372088832) : ∃ t, laws_szHex.f a l n = some t ∧ (¬ t < 0 → (l.length : Int) ≤ n) := by
  unfold laws_szHex.f laws_szInt64S.f
  have hw : wrap64 (n - (l.length : Int)) = n - (l.length : Int) := by
    simp only [maxLen] at hl
    exact w64 (by omega) (by omega)
  rw [hw]
  by_cases h : n - (l.length : Int) < 0
  · rw [if_pos h]
    have h1 : (-1 : Int) < 0 := by omega
    simp only [Option.bind_some, if_pos h1]
    exact ⟨-1, rfl, fun h => absurd h1 h⟩
  · rw [if_neg h]
    simp only [Option.bind_some, if_neg h]
    exact ⟨_, rfl, fun _ => by omega⟩
/-- The code of a position that can be searched. -/
def codeN (a : Int) (l : List Int) : Int := if isB a l = true then (if mvI l = 1 ∨ mvI l = 2 then (if (cellsN l 0).length ≤ 9 then 0 else 3) else 5) else 1
theorem mover_mvI (l : List Int) : moverN l = if mvI l = 1 ∨ mvI l = 2 then mvI l else 0 := by
  unfold moverN mvI cntTo
  have e1 : cellsTo l 1 l.length = cellsN l 1 := rfl
  have e2 : cellsTo l 2 l.length = cellsN l 2 := rfl
  rw [e1, e2]
  by_cases c : ((cellsN l 1).length : Int) - ((cellsN l 2).length : Int) = 0
  · rw [if_pos c, if_pos (by omega)]; omega
  · rw [if_neg c]
    by_cases c2 : ((cellsN l 1).length : Int) - ((cellsN l 2).length : Int) = 1
    · rw [if_pos c2, if_pos (by omega)]; omega
    · rw [if_neg c2, if_neg (by omega)]
theorem ev_specCode (a : Int) (l : List Int) (hm : l.length ≤ 1048576) : Ev (fun k => spec_l06Code.f k a l) (if codeN a l = 0 then (mvI l, 0) else (0, codeN a l)) := by
  unfold spec_l06Code.f
  refine Ev.bind (ev_specIs a l (by omega)) ?_
  unfold codeN
  by_cases hB : isB a l = true
  · obtain ⟨s, rfl, h1, h2, h3⟩ := isB_iff.1 hB
    have h64 : l.length ≤ 64 := by rw [h2]; exact Nat.mul_le_mul h1.2 h1.2
    simp only [if_pos hB]
    refine Ev.bind (ev_specMover _ l h64 h3) ?_
    simp only [mover_mvI]
    by_cases hm : mvI l = 1 ∨ mvI l = 2
    · have h0 : ¬ (mvI l = 0) := by omega
      simp only [if_pos hm, if_neg h0]
      by_cases h9 : (cellsN l 0).length ≤ 9
      · have h9' : ¬ (((cellsN l 0).length : Int) > 9) := by omega
        simp only [if_pos h9, if_neg h9', if_true]
        exact Ev.now _
      · have h9' : ((cellsN l 0).length : Int) > 9 := by omega
        have h30 : ¬ ((3 : Int) = 0) := by omega
        simp only [if_neg h9, if_pos h9', if_neg h30]
        exact Ev.now _
    · have h50 : ¬ ((5 : Int) = 0) := by omega
      simp only [if_neg hm, if_true, if_neg h50]
      exact Ev.now _
  · have h10 : ¬ ((1 : Int) = 0) := by omega
    simp only [if_neg hB, if_neg h10]
    exact Ev.now _
theorem ev_implCode (a : Int) (l : List Int) (hm : l.length ≤ 1048576) : Ev (fun k => impl_hexCode.f k a l) (codeN a l) := by
  have hmover : Ev (fun k => impl_HexMover.f k a l) (if isB a l = true then (if mvI l = 1 ∨ mvI l = 2 then (mvI l, 0) else (0, 5)) else (0, 1)) := by
    unfold impl_HexMover.f
    refine Ev.bind (ev_implIs a l (by omega)) ?_
    by_cases hB : isB a l = true
    · obtain ⟨s, rfl, h1, h2, h3⟩ := isB_iff.1 hB
      have h64 : l.length ≤ 64 := by rw [h2]; exact Nat.mul_le_mul h1.2 h1.2
      simp only [if_pos hB]
      refine Ev.bind (ev_implMover h64 _) ?_
      by_cases hm : mvI l = 1 ∨ mvI l = 2
      · simp only [if_pos hm, decide_eq_true hm, if_true]
        exact Ev.now _
      · simp only [if_neg hm, decide_eq_false hm, Bool.false_eq_true, if_false]
        exact Ev.now _
    · simp only [if_neg hB]
      exact Ev.now _
  unfold impl_hexCode.f
  refine Ev.bind hmover ?_
  unfold codeN
  by_cases hB : isB a l = true
  · simp only [if_pos hB]
    by_cases hm' : mvI l = 1 ∨ mvI l = 2
    · simp only [if_pos hm', if_true]
      refine Ev.bind (ev_implCells a 0 l hm) ?_
      by_cases h9 : (cellsN l 0).length ≤ 9
      · have h9' : ¬ (((cellsN l 0).length : Int) > 9) := by omega
        simp only [if_pos h9, if_neg h9']
        exact Ev.now _
      · have h9' : ((cellsN l 0).length : Int) > 9 := by omega
        simp only [if_neg h9, if_pos h9']
        exact Ev.now _
    · have h50 : ¬ ((5 : Int) = 0) := by omega
      simp only [if_neg hm', if_neg h50]
      exact Ev.now _
  · have h10 : ¬ ((1 : Int) = 0) := by omega
    simp only [if_neg hB, if_neg h10]
    exact Ev.now _
theorem codeN_pos {a : Int} {l : List Int} (h : codeN a l = 0) : ∃ s : Nat, a = (s : Int) ∧ Pos s l ∧ (cellsN l 0).length ≤ 9 := by
  unfold codeN at h
  by_cases hB : isB a l = true
  · rw [if_pos hB] at h
    by_cases hm : mvI l = 1 ∨ mvI l = 2
    · rw [if_pos hm] at h
      by_cases h9 : (cellsN l 0).length ≤ 9
      · obtain ⟨s, rfl, h1, h2, h3⟩ := isB_iff.1 hB
        refine ⟨s, rfl, ⟨h1, h2, fun c h4 h5 => ?_, hm⟩, h9⟩
        obtain ⟨n, rfl⟩ := Int.eq_ofNat_of_zero_le h4
        have := h3 l[n] (List.getElem_mem (by omega))
        rw [rd_nat l n (by omega)]
        omega
      · rw [if_neg h9] at h; cases h
    · rw [if_neg hm] at h; cases h
  · rw [if_neg hB] at h; cases h
theorem Desc.first {s : Nat} {l : List Int} (h : Pos s l) : Desc s l l := ⟨h, rfl, fun _ _ _ _ => rfl⟩
theorem numL_first (l : List Int) : numL l l = 0 := by
  unfold numL
  have : digs l l = List.replicate (cellsN l 0).length 0 := by
    unfold digs
    refine List.ext_getElem (by simp) fun i h1 h2 => ?_
    simp only [List.getElem_map, List.getElem_replicate]
    exact (mem_cellsN.1 (List.getElem_mem (by simpa using h1))).2.2
  rw [this, num3_zero]
theorem KS.first (s : Nat) (l : List Int) : KS s l (List.replicate (3 ^ (cellsN l 0).length) 0) := by
  refine ⟨by simp, fun l' _ h => ?_⟩
  exfalso
  unfold rd at h
  rw [List.getD_eq_getElem?_getD, List.getElem?_replicate] at h
  split at h <;> simp at h
theorem Tn_le : ∀ n, n ≤ 9 → Tn n ≤ 1048576 := by
  intro n hn
  have h : (List.range 10).all (fun n => decide (Tn n ≤ 1048576)) = true := by decide +kernel
  have := List.all_eq_true.1 h n (List.mem_range.2 (by omega))
  simpa using this
end Go.Proofs.YtcfdlbjngpmcaaaDoor.PAll
end
