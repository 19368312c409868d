/- strings.Join: the texts of a list, with a text between. -/
import Derived.Test.YtankgbfddgpfmaaPAllx0
import Derived.Test.YtankgbfddgpfmaaGShelf
namespace Go.Proofs.Ytankgbfddgpfmaa.PAll
open Go.RowKit Go.Proofs.YtankgbfddgpfmaaW.PrintWords Go.Proofs.YtankgbfddgpfmaaW.PrintLast
set_option linter.unusedVariables false

def strings_Join.f (l0 : List ByteArray) (a1 : ByteArray) : Option ByteArray :=
  if l0.length ≤ 140737488355328 ∧ (Lib.join (l0.map (·.data.toList)) a1.data.toList).length ≤ 140737488355328 then some ⟨(Lib.join (l0.map (·.data.toList)) a1.data.toList).toArray⟩ else none
theorem strings_Join.calls (A0 : Option Addr) (c0 : Nat) (l0 : List ByteArray) (a1 : ByteArray) (r : ByteArray) (w : World) (hr0 : Kd.C Kd.string w A0 l0.length l0) (hc0 : l0.length ≤ c0) (h : strings_Join.f l0 a1 = some r) :
    Calls Try.prog 63 #[.slice A0 l0.length c0, .string a1] w fun e w' => e = .returned (.string r) ∧ Below w.heap.size w w' := by
  unfold strings_Join.f at h
  split at h <;> rename_i hs
  case isFalse => cases h
  obtain rfl := Option.some.inj h
  cases l0 with
  | nil =>
    refine (Try.strings_Join_none A0 c0 a1 w).mono ?_
    rintro e w' ⟨rfl, rfl⟩
    exact ⟨rfl, Below.refl _ _⟩
  | cons x t =>
    obtain ⟨ad, rfl, h0⟩ := Kd.at_string hr0 0 (by omega) (by simp)
    obtain ⟨bk, o, q⟩ := ad
    have hlt := World.block_lt_of_cell? w _ h0
    have hq : q = none := by
      cases q with
      | none => rfl
      | some q =>
        exfalso
        simp only [World.cell?, Addr.add] at h0
        split at h0
        · simp at h0
        · cases h0
    subst hq
    refine (Try.strings_Join bk o c0 (x :: t) a1 w ?_ hlt hs.1 hc0 hs.2)
    intro j y hj
    have hjl : j < (x :: t).length := (List.getElem?_eq_some_iff.1 hj).1
    obtain ⟨ad, e, hx⟩ := Kd.at_string hr0 (j : Int) (by omega) (by omega)
    cases e
    have : rdOf ByteArray.empty (x :: t) (j : Int) = y := by
      simp only [rdOf, Int.toNat_natCast, List.getD_eq_getElem?_getD, hj, Option.getD_some]
    rw [this, Int.toNat_natCast] at hx
    rw [add_at] at hx
    exact hx
end Go.Proofs.Ytankgbfddgpfmaa.PAll
