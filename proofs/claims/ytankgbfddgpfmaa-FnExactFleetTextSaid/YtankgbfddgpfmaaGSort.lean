/- slices.Sort on a row of the call's own: it holds the same numbers, ascending. -/
import Derived.Test.YtankgbfddgpfmaaPAllx0
import Derived.Test.YtankgbfddgpfmaaGInts
import Derived.Test.YtankgbfddgpfmaaGShelf
namespace Go.Proofs.Ytankgbfddgpfmaa.PAll
open Go.RowKit Go.Proofs.YtankgbfddgpfmaaW.PrintWords Go.Proofs.YtankgbfddgpfmaaW.PrintLast Go.Proofs.YtankgbfddgpfmaaW.PrintMore Go.Proofs.Ytankgbfddgpfmaa.GInts
set_option linter.unusedVariables false

def slices_Sort_int64_int64.f (l0 : List Int) : Option (List Int) := if l0.length < 4611686018427387904 then some (isort l0) else none

theorem take_putCells (k : IntKind) (zs : List Int) (cur : Array Value) (h : zs.length ≤ cur.size) : (Go.Sort.putCells (Value.int k) 0 zs.toArray cur).toList.take (zs.length * 1) = nums k zs := by
  refine List.ext_getElem? fun j => ?_
  rw [List.getElem?_take, Nat.mul_one]
  rcases Nat.lt_or_ge j zs.length with hj | hj
  · rw [if_pos hj, Array.getElem?_toList, Go.Sort.putCells, Array.getElem?_mapIdx, Array.getElem?_eq_getElem (by omega), Option.map_some, if_pos ⟨Nat.zero_le _, by simp; omega⟩, nums, List.getElem?_map, List.getElem?_eq_getElem hj]
    simp [hj]
  · rw [if_neg (by omega), List.getElem?_eq_none (by rw [nums_length]; omega)]

theorem slices_Sort_int64_int64.calls (P0_ : Nat → Prop) (u9000_ : Value) (l0 : List Int) (r : List Int) (w0 w : World) (hB : Below w0.heap.size w0 w) (ho0 : Kd.R (Kd.int .i64) 2 w w0.heap.size P0_ u9000_ l0) (h : slices_Sort_int64_int64.f l0 = some r) :
    Calls Try.prog 66 #[u9000_] w fun e w' => e = .returned (.tuple #[]) ∧ Kd.R (Kd.int .i64) 2 w' w0.heap.size (fun k_ => (P0_ k_ ∨ w.heap.size ≤ k_)) u9000_ r ∧ Below w0.heap.size w0 w' ∧ Kept w w' (fun k_ => P0_ k_) := by
  unfold slices_Sort_int64_int64.f at h
  split at h <;> rename_i hsz
  case isFalse => cases h
  rw [← mergeSort_isort] at h
  obtain rfl := Option.some.inj h
  obtain ⟨hok, hl, ho⟩ := R_nums.1 ho0
  rcases ho with ⟨rfl, hn⟩ | ⟨g, cap, cur, rfl, hb, hh, hnc, hcm, hcs, ht⟩
  · obtain rfl : l0 = [] := List.eq_nil_of_length_eq_zero hn
    refine (Try.slices_Sort_int_none none 0 w).mono ?_
    rintro e w' ⟨rfl, rfl⟩
    exact ⟨rfl, by simpa using Kd.R_mono ho0 (fun _ hk => Or.inl hk), hB, Kept.refl _ _⟩
  · have hlt : g < w.heap.size := (Array.getElem?_eq_some_iff.1 hh).1
    have hm : (l0.mergeSort fun x y => decide (x ≤ y)).length = l0.length := List.length_mergeSort _
    have hH : Go.Sort.Holds (Value.int .i64) w g 0 l0.toArray := by
      intro j hj
      have hj' : j < l0.length := by simpa using hj
      refine ⟨?_, blk_frozen hh (0 + j)⟩
      rw [Nat.zero_add, nums_cell hh ht j hj']
      simp [hj', List.getD_eq_getElem?_getD]
    refine (Try.slices_Sort_int g 0 cap l0 w hH hlt hsz).mono ?_
    rintro e w' ⟨rfl, n, os, rfl⟩
    have key := rewritten (k := .i64) (e := 2) (base := w0.heap.size) (ok := P0_) (w0 := w0) (w := w) (g := g) (cap := cap) (cur := cur) (cur' := Go.Sort.putCells (Value.int .i64) 0 (l0.mergeSort fun x y => decide (x ≤ y)).toArray cur)
      (w' := Go.Sort.grow (Go.Sort.putRow (Value.int .i64) (Go.Sort.ahead w n) g 0 (l0.mergeSort fun x y => decide (x ≤ y)).toArray) os) (ys := l0.mergeSort fun x y => decide (x ≤ y))
      hB (Nat.le_refl _) hb hh (by omega) hcm hcs (hok g (by simp [Value.ownBlock])) rfl rfl rfl (by simp) ?_ ?_ (by simp [Go.Sort.putCells]) (take_putCells _ _ _ (by omega))
    · obtain ⟨k1, k2, k3⟩ := key
      rw [hm] at k1
      exact ⟨rfl, Kd.R_mono k1 (fun _ hk => Or.inl hk), k2, k3⟩
    · intro i hi hne
      rw [Go.Sort.heap_grow_old _ _ (by simpa using hi)]
      simp [Go.Sort.putRow, Go.Sort.mapBlock, Array.getElem?_modify, Ne.symm hne]
    · rw [Go.Sort.heap_grow_old _ _ (by simpa using hlt)]
      simp [Go.Sort.putRow, Go.Sort.mapBlock, Array.getElem?_modify, Go.Sort.onCells, hh]
end Go.Proofs.Ytankgbfddgpfmaa.PAll
