/- slices.Clone at a list of whole numbers that is not empty. -/
import Derived.Test.YtcfdlbjngpmcaaaPAllx0
import Derived.Test.YtcfdlbjngpmcaaaGShelf
import Derived.Test.YtcfdlbjngpmcaaaGInts
namespace Go.Proofs.Ytcfdlbjngpmcaaa.PAll
open Go.RowKit Go.Proofs.YtcfdlbjngpmcaaaW.PrintWords Go.Proofs.YtcfdlbjngpmcaaaW.PrintLast Go.Proofs.Ytcfdlbjngpmcaaa.GInts
set_option linter.unusedVariables false

def slices_Clone_int64_int64.f (l0 : List Int) : Option (List Int) := if l0 = [] then none else if l0.length ≤ 1048576 then some l0 else none
theorem slices_Clone_int64_int64.calls (A0 : Option Addr) (c0 : Nat) (l0 : List Int) (r : List Int) (w : World) (hr0 : Kd.C (Kd.int .i64) w A0 l0.length l0) (hc0 : l0.length ≤ c0) (h : slices_Clone_int64_int64.f l0 = some r) :
    Calls Try.prog 43 #[.slice A0 l0.length c0] w fun e w' => ∃ v0_ : Value, e = .returned (v0_) ∧ Kd.R (Kd.int .i64) 2 w' w.heap.size (fun _ => True) v0_ r ∧ Below w.heap.size w w' := by
  unfold slices_Clone_int64_int64.f at h
  split at h <;> rename_i hne
  · cases h
  split at h <;> rename_i hlen
  case isFalse => cases h
  obtain rfl := Option.some.inj h
  have hpos : 0 < l0.length := List.length_pos_iff.2 hne
  obtain ⟨ad, rfl, h0⟩ := Kd.at_int hr0 0 (by omega) (by omega)
  obtain ⟨bk, o, q⟩ := ad
  have hq : q = none := by
    cases q with
    | none => rfl
    | some q =>
      exfalso
      simp only [World.cell?, Addr.add] at h0
      split at h0
      · simp at h0
      · cases h0
  subst hq
  obtain ⟨i0, hi, hz0, hz1, hz2⟩ := info_parts info2
  refine (Try.slices_Clone i0 (.int .i64 0) 1 8 hi hz0 hz1 hz2 rfl (by decide) (fun _ => Try.sizeOf2 _) bk o l0.length c0 (nums .i64 l0) w (by rw [nums_length, Nat.mul_one]) (by simp only [maxLen]; omega) (by omega) ?_ ?_).mono ?_
  · intro j u hj
    have hjl : j < l0.length := by have := (List.getElem?_eq_some_iff.1 hj).1; rwa [nums_length] at this
    obtain ⟨ad, e, hx⟩ := Kd.at_int hr0 (j : Int) (by omega) (by omega)
    cases e
    rw [Int.toNat_natCast, add_at] at hx
    rw [hx]
    simp only [nums, List.getElem?_map, List.getElem?_eq_getElem hjl, Option.map_some, Option.some.injEq] at hj
    rw [← hj]
    simp [rd, List.getD_eq_getElem?_getD, hjl]
  · intro u hu
    obtain ⟨x, _, rfl⟩ := List.mem_map.1 hu
    rfl
  · rintro e w' ⟨v, rfl, ho, hv, hb⟩
    exact ⟨v, rfl, R_nums.2 ⟨fun _ _ => trivial, ho⟩, hb⟩
end Go.Proofs.Ytcfdlbjngpmcaaa.PAll
