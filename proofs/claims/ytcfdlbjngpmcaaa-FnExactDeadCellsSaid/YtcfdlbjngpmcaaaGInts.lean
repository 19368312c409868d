/- Rows of whole numbers of a call's own, said by their cells: helpers for the contracts of library functions. -/
import Derived.Test.YtcfdlbjngpmcaaaWWords
import Derived.Test.YtcfdlbjngpmcaaaWKept
namespace Go.Proofs.Ytcfdlbjngpmcaaa.GInts
open Go.RowKit Go.Proofs.YtcfdlbjngpmcaaaW.PrintWords
set_option linter.unusedVariables false

theorem reps_nums {k : IntKind} {w : World} {base : Nat} {ok : Nat → Prop} {xs : List Int} {inner : List Value} (h : Reps ((Kd.int k).M w base ok) 1 xs inner) : inner = nums k xs := by
  obtain ⟨h1, h2⟩ := h
  refine List.ext_getElem? fun j => ?_
  rcases Nat.lt_or_ge j xs.length with hj | hj
  · have h3 := h2 j _ (List.getElem?_eq_getElem hj)
    have h4 : (inner.drop (j * 1)).take 1 = [.int k xs[j]] := h3
    rw [Nat.mul_one] at h4
    have h5 : ((inner.drop j).take 1)[0]? = some (.int k xs[j]) := by rw [h4]; rfl
    rw [List.getElem?_take, if_pos (by omega), List.getElem?_drop, Nat.add_zero] at h5
    rw [h5, nums, List.getElem?_map, List.getElem?_eq_getElem hj]; rfl
  · rw [List.getElem?_eq_none (by omega), List.getElem?_eq_none (by rw [nums_length]; omega)]

theorem reps_of_nums {k : IntKind} {w : World} {base : Nat} {ok : Nat → Prop} (xs : List Int) : Reps ((Kd.int k).M w base ok) 1 xs (nums k xs) := by
  refine ⟨by rw [nums_length]; omega, fun j p hj => ?_⟩
  show ((nums k xs).drop (j * 1)).take 1 = [.int k p]
  have hjl := (List.getElem?_eq_some_iff.1 hj).1
  have h0 : (nums k xs)[j]? = some (.int k p) := by rw [nums, List.getElem?_map, hj]; rfl
  rw [Nat.mul_one]
  have hl : ((nums k xs).drop j).length ≠ 0 := by rw [List.length_drop, nums_length]; omega
  have hd : (nums k xs).drop j = .int k p :: (nums k xs).drop (j + 1) := by
    rw [List.drop_eq_getElem_cons (by rw [nums_length]; exact hjl)]
    congr 1
    rw [List.getElem?_eq_getElem (by rw [nums_length]; exact hjl)] at h0
    exact Option.some.inj h0
  rw [hd]; rfl

theorem R_nums {k : IntKind} {e : Nat} {w : World} {base : Nat} {ok : Nat → Prop} {v : Value} {xs : List Int} :
    Kd.R (Kd.int k) e w base ok v xs ↔ (∀ q, v.ownBlock = some q → ok q) ∧ w.ownsRow base e 1 v xs.length (nums k xs) := by
  constructor
  · rintro ⟨h0, inner, ho, hr⟩
    have := reps_nums hr
    subst this
    exact ⟨h0, ho⟩
  · rintro ⟨h0, ho⟩
    exact ⟨h0, nums k xs, ho, reps_of_nums xs⟩

end Go.Proofs.Ytcfdlbjngpmcaaa.GInts
