/- Rows of whole numbers of a call's own, said by their cells: helpers for the contracts of library functions. -/
import Derived.Test.YtankgbfddgpfmaaWWords
import Derived.Test.YtankgbfddgpfmaaWKept
namespace Go.Proofs.Ytankgbfddgpfmaa.GInts
open Go.RowKit Go.Proofs.YtankgbfddgpfmaaW.PrintWords
set_option linter.unusedVariables false

theorem reps_nums {k : IntKind} {w : World} {base : Nat} {ok : Nat → Prop} {xs : List Int} {inner : List Value} (h : Reps ((Kd.int k).M w base ok) 1 xs inner) : inner = nums k xs := by
  obtain ⟨h1, h2⟩ := h
  refine List.ext_getElem? fun j => ?_
  rcases Nat.lt_or_ge j xs.length with hj | hj
  · have h3 := h2 j _ (List.getElem?_eq_getElem hj)
    have h4 : (inner.drop (j * 1)).take 1 = [.int k xs[j]] := h3
    rw [Nat.mul_one] at h4
    have h5 : ((inner.drop j).take 1)[0]? = some (.int k xs[j]) := by rw [h4]; rfl
    rw [List.getElem?_take, if_pos (by omega), List.getElem?_drop, Nat.add_zero] at h5
    rw [h5, nums, List.getElem?_map, List.getElem?_eq_getElem hj]; rfl
  · rw [List.getElem?_eq_none (by omega), List.getElem?_eq_none (by rw [nums_length]; omega)]

theorem reps_of_nums {k : IntKind} {w : World} {base : Nat} {ok : Nat → Prop} (xs : List Int) : Reps ((Kd.int k).M w base ok) 1 xs (nums k xs) := by
  refine ⟨by rw [nums_length]; omega, fun j p hj => ?_⟩
  show ((nums k xs).drop (j * 1)).take 1 = [.int k p]
  have hjl := (List.getElem?_eq_some_iff.1 hj).1
  have h0 : (nums k xs)[j]? = some (.int k p) := by rw [nums, List.getElem?_map, hj]; rfl
  rw [Nat.mul_one]
  have hl : ((nums k xs).drop j).length ≠ 0 := by rw [List.length_drop, nums_length]; omega
  have hd : (nums k xs).drop j = .int k p :: (nums k xs).drop (j + 1) := by
    rw [List.drop_eq_getElem_cons (by rw [nums_length]; exact hjl)]
    congr 1
    rw [List.getElem?_eq_getElem (by rw [nums_length]; exact hjl)] at h0
    exact Option.some.inj h0
  rw [hd]; rfl

theorem R_nums {k : IntKind} {e : Nat} {w : World} {base : Nat} {ok : Nat → Prop} {v : Value} {xs : List Int} :
    Kd.R (Kd.int k) e w base ok v xs ↔ (∀ q, v.ownBlock = some q → ok q) ∧ w.ownsRow base e 1 v xs.length (nums k xs) := by
  constructor
  · rintro ⟨h0, inner, ho, hr⟩
    have := reps_nums hr
    subst this
    exact ⟨h0, ho⟩
  · rintro ⟨h0, ho⟩
    exact ⟨h0, nums k xs, ho, reps_of_nums xs⟩

theorem nums_cell {k : IntKind} {w : World} {e g : Nat} {cur : Array Value} {xs : List Int} (hh : w.heap[g]? = some (.cells cur e (0, 0))) (ht : cur.toList.take (xs.length * 1) = nums k xs) (j : Nat) (hj : j < xs.length) :
    w.cell? ⟨g, j, none⟩ = some (.int k (xs.getD j 0)) := by
  rw [cell_of_row w g j cur e (0, 0) hh]
  have h1 : (nums k xs)[j]? = some (.int k (xs.getD j 0)) := by
    rw [nums, List.getElem?_map, List.getElem?_eq_getElem hj, List.getD_eq_getElem?_getD, List.getElem?_eq_getElem hj]; rfl
  rw [← ht, List.getElem?_take, if_pos (by omega)] at h1
  simpa using h1

/-- What a call leaves that wrote one row of the call's own in place, and made new blocks. -/
theorem rewritten {k : IntKind} {e base : Nat} {ok : Nat → Prop} {w0 w w' : World} {g cap : Nat} {cur cur' : Array Value} {ys : List Int}
    (hB : Below w0.heap.size w0 w) (hbase : w0.heap.size ≤ base) (hb : base ≤ g) (hh : w.heap[g]? = some (.cells cur e (0, 0))) (hnc : ys.length ≤ cap) (hcm : cap ≤ maxLen) (hcs : cur.size = cap * 1) (hok : ok g)
    (h1 : w'.os = w.os) (h2 : w'.tape = w.tape) (h3 : w'.output = w.output) (h4 : w.heap.size ≤ w'.heap.size) (h5 : ∀ i, i < w.heap.size → i ≠ g → w'.heap[i]? = w.heap[i]?)
    (h6 : w'.heap[g]? = some (.cells cur' e (0, 0))) (h7 : cur'.size = cur.size) (h8 : cur'.toList.take (ys.length * 1) = nums k ys) :
    Kd.R (Kd.int k) e w' base ok (.slice (some ⟨g, 0, none⟩) ys.length cap) ys ∧ Below w0.heap.size w0 w' ∧ Kept w w' ok := by
  refine ⟨R_nums.2 ⟨fun q hq => ?_, ⟨by rw [nums_length]; omega, .inr ⟨g, cap, cur', rfl, hb, h6, hnc, hcm, by rw [h7, hcs], h8⟩⟩⟩, hB.trans ⟨h1, h2, h3, h4, fun i hi => h5 i (by have := hB.size; omega) (by omega)⟩, h4, fun i hi hn => h5 i hi (fun he => hn (he ▸ hok))⟩
  have : g = q := by simpa [Value.ownBlock] using hq
  exact this ▸ hok

/-! Sorted lists, by a function that the kernel reckons. -/
def ins (x : Int) : List Int → List Int
  | [] => [x]
  | y :: t => if x ≤ y then x :: y :: t else y :: ins x t
def isort : List Int → List Int
  | [] => []
  | x :: t => ins x (isort t)
theorem ins_perm (x : Int) : ∀ l, (ins x l).Perm (x :: l)
  | [] => List.Perm.refl _
  | y :: t => by
    unfold ins
    split
    · exact List.Perm.refl _
    · exact ((ins_perm x t).cons y).trans (List.Perm.swap x y t)
theorem isort_perm : ∀ l, (isort l).Perm l
  | [] => List.Perm.refl _
  | x :: t => (ins_perm x (isort t)).trans ((isort_perm t).cons x)
theorem ins_sorted (x : Int) : ∀ l : List Int, l.Pairwise (· ≤ ·) → (ins x l).Pairwise (· ≤ ·)
  | [], _ => by simp [ins]
  | y :: t, h => by
    obtain ⟨h1, h2⟩ := List.pairwise_cons.1 h
    unfold ins
    split
    · rename_i hxy
      refine List.pairwise_cons.2 ⟨fun z hz => ?_, h⟩
      rcases List.mem_cons.1 hz with rfl | hz
      · exact hxy
      · exact Int.le_trans hxy (h1 z hz)
    · rename_i hxy
      refine List.pairwise_cons.2 ⟨fun z hz => ?_, ins_sorted x t h2⟩
      rcases List.mem_cons.1 ((ins_perm x t).subset hz) with rfl | hz
      · omega
      · exact h1 z hz
theorem isort_sorted : ∀ l, (isort l).Pairwise (· ≤ ·)
  | [] => List.Pairwise.nil
  | x :: t => ins_sorted x _ (isort_sorted t)
theorem sorted_unique {l l' : List Int} (h : l.Pairwise (· ≤ ·)) (h' : l'.Pairwise (· ≤ ·)) (p : l.Perm l') : l = l' :=
  List.Perm.eq_of_pairwise (fun _ _ _ _ h1 h2 => Int.le_antisymm h1 h2) h h' p
theorem mergeSort_isort (l : List Int) : (l.mergeSort fun x y => decide (x ≤ y)) = isort l := by
  refine sorted_unique ?_ (isort_sorted l) ((List.mergeSort_perm l _).trans (isort_perm l).symm)
  have := List.pairwise_mergeSort (le := fun x y : Int => decide (x ≤ y)) (fun a b c h1 h2 => by simp at *; omega) (fun a b => by simp; omega) l
  exact this.imp (fun h => by simpa using h)
theorem isort_length (l : List Int) : (isort l).length = l.length := (isort_perm l).length_eq

end Go.Proofs.Ytankgbfddgpfmaa.GInts
