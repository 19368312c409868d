/- Texts of this claim that follow each other, laid together. -/
import Derived.Test.YtcfdlbjngpmcaaaDoorPAllx0
import Derived.Test.YtcfdlbjngpmcaaaDoorMerged7

section
/- decimal at small numbers: their digits. -/
namespace Go.Proofs.YtcfdlbjngpmcaaaDoor.PAll
open Go.RowKit Go.Proofs.YtcfdlbjngpmcaaaDoorW.PrintWords Go.Proofs.YtcfdlbjngpmcaaaDoorW.PrintLast Go.Proofs.YtcfdlbjngpmcaaaDoorW.PrintMore
set_option linter.unusedVariables false

def impl_decimal.f (a0 : Int) : Option ByteArray := if 0 ≤ a0 ∧ a0 < 100 then some ⟨(Lib.decDigits a0.toNat).toArray⟩ else none
set_option maxRecDepth 100000 in
theorem impl_decimal.calls (a0 : Int) (r : ByteArray) (w : World) (h : impl_decimal.f a0 = some r) :
    Calls Tryd.prog 44 #[.int .i64 a0] w fun e w' => e = .returned (.string r) ∧ Drawn0 w w' := by
  unfold impl_decimal.f at h
  split at h <;> rename_i hs
  case isFalse => cases h
  obtain rfl := Option.some.inj h
  obtain ⟨n, rfl⟩ := Int.eq_ofNat_of_zero_le hs.1
  have hn : n < 100 := by omega
  rw [Int.toNat_natCast]
  have h51 : ∀ w : World, Calls Tryd.prog 51 #[.int .i64 (n : Int), .int .i64 10] w fun e w' => e = .returned (.string ⟨(Lib.decDigits n).toArray⟩) ∧ Drawn0 w w' := by
    intro w
    go_enter Tryd.func51, Tryd.ntmps51
    go_wp2_with (first | (go_at_call 60; refine (Tryd.internal_strconv_FormatInt_10_small n hn _).mono ?_; rintro e w' ⟨rfl, rfl⟩))
    go_ret
    exact ⟨by first | rfl | (simp; done), by repeat (first | exact Drawn0.refl _ | apply Drawn0.step)⟩
  go_enter Tryd.func44, Tryd.ntmps44
  go_wp2_with (first | (go_at_call 51; refine (h51 _).mono ?_; rintro e w' ⟨rfl, ⟨nd, rfl⟩⟩))
  go_ret
  exact ⟨by first | rfl | (simp; done), by repeat (first | exact Drawn0.refl _ | apply Drawn0.step)⟩
end Go.Proofs.YtcfdlbjngpmcaaaDoor.PAll
end

section
/- strings.Join: the texts of a list, with a text between. -/
namespace Go.Proofs.YtcfdlbjngpmcaaaDoor.PAll
open Go.RowKit Go.Proofs.YtcfdlbjngpmcaaaDoorW.PrintWords Go.Proofs.YtcfdlbjngpmcaaaDoorW.PrintLast
set_option linter.unusedVariables false

def strings_Join.f (l0 : List ByteArray) (a1 : ByteArray) : Option ByteArray :=
  if l0.length ≤ 140737488355328 ∧ (Lib.join (l0.map (·.data.toList)) a1.data.toList).length ≤ 140737488355328 then some ⟨(Lib.join (l0.map (·.data.toList)) a1.data.toList).toArray⟩ else none
theorem strings_Join.calls (A0 : Option Addr) (c0 : Nat) (l0 : List ByteArray) (a1 : ByteArray) (r : ByteArray) (w : World) (hr0 : Kd.C Kd.string w A0 l0.length l0) (hc0 : l0.length ≤ c0) (h : strings_Join.f l0 a1 = some r) :
    Calls Tryd.prog 45 #[.slice A0 l0.length c0, .string a1] w fun e w' => e = .returned (.string r) ∧ Below w.heap.size w w' := by
  unfold strings_Join.f at h
  split at h <;> rename_i hs
  case isFalse => cases h
  obtain rfl := Option.some.inj h
  cases l0 with
  | nil =>
    refine (Tryd.strings_Join_none A0 c0 a1 w).mono ?_
    rintro e w' ⟨rfl, rfl⟩
    exact ⟨rfl, Below.refl _ _⟩
  | cons x t =>
    obtain ⟨ad, rfl, h0⟩ := Kd.at_string hr0 0 (by omega) (by simp)
    obtain ⟨bk, o, q⟩ := ad
    have hlt := World.block_lt_of_cell? w _ h0
    have hq : q = none := by
      cases q with
      | none => rfl
      | some q =>
        exfalso
        simp only [World.cell?, Addr.add] at h0
        split at h0
        · simp at h0
        · cases h0
    subst hq
    refine (Tryd.strings_Join bk o c0 (x :: t) a1 w ?_ hlt hs.1 hc0 hs.2)
    intro j y hj
    have hjl : j < (x :: t).length := (List.getElem?_eq_some_iff.1 hj).1
    obtain ⟨ad, e, hx⟩ := Kd.at_string hr0 (j : Int) (by omega) (by omega)
    cases e
    have : rdOf ByteArray.empty (x :: t) (j : Int) = y := by
      simp only [rdOf, Int.toNat_natCast, List.getD_eq_getElem?_getD, hj, Option.getD_some]
    rw [this, Int.toNat_natCast] at hx
    rw [add_at] at hx
    exact hx
end Go.Proofs.YtcfdlbjngpmcaaaDoor.PAll
end
