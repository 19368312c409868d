/- slices.Compact on a row of the call's own: of each run of equal numbers one stays. -/
import Derived.Test.YtankgbfddgpfmaaPAllx0
import Derived.Test.YtankgbfddgpfmaaGInts
import Derived.Test.YtankgbfddgpfmaaGShelf
import Derived.Test.YtankgbfddgpfmaaGSort
namespace Go.Proofs.Ytankgbfddgpfmaa.PAll
open Go.RowKit Go.Proofs.YtankgbfddgpfmaaW.PrintWords Go.Proofs.YtankgbfddgpfmaaW.PrintLast Go.Proofs.YtankgbfddgpfmaaW.PrintMore Go.Proofs.Ytankgbfddgpfmaa.GInts
set_option linter.unusedVariables false

def slices_Compact_int64_int64.f (l0 : List Int) : Option (List Int) := some (Lib.compact l0)

theorem compact_le (l : List Int) : (Lib.compact l).length ≤ l.length := by
  unfold Lib.compact Lib.compactUpTo
  rw [List.length_map]
  exact Nat.le_trans (List.length_filter_le _ _) (by simp)

theorem slices_Compact_int64_int64.calls (P0_ : Nat → Prop) (u9000_ : Value) (l0 : List Int) (r : List Int) (w0 w : World) (hB : Below w0.heap.size w0 w) (ho0 : Kd.R (Kd.int .i64) 2 w w0.heap.size P0_ u9000_ l0) (h : slices_Compact_int64_int64.f l0 = some r) :
    Calls Try.prog 67 #[u9000_] w fun e w' => ∃ v0_ : Value, e = .returned (v0_) ∧ Kd.R (Kd.int .i64) 2 w' w0.heap.size (fun k_ => (P0_ k_ ∨ w.heap.size ≤ k_)) v0_ r ∧ Below w0.heap.size w0 w' ∧ Kept w w' (fun k_ => P0_ k_) := by
  obtain rfl := Option.some.inj h
  obtain ⟨hok, hl, ho⟩ := R_nums.1 ho0
  rcases ho with ⟨rfl, hn⟩ | ⟨g, cap, cur, rfl, hb, hh, hnc, hcm, hcs, ht⟩
  · obtain rfl : l0 = [] := List.eq_nil_of_length_eq_zero hn
    refine (Try.slices_Compact_int_empty none 0 w).mono ?_
    rintro e w' ⟨rfl, rfl⟩
    exact ⟨_, rfl, Kd.R_mono ho0 (fun _ hk => Or.inl hk), hB, Kept.refl _ _⟩
  · have hlt : g < w.heap.size := (Array.getElem?_eq_some_iff.1 hh).1
    have hc := compact_le l0
    have hH : Go.Sort.Holds (Value.int .i64) w g 0 l0.toArray := by
      intro j hj
      have hj' : j < l0.length := by simpa using hj
      refine ⟨?_, blk_frozen hh (0 + j)⟩
      rw [Nat.zero_add, nums_cell hh ht j hj']
      simp [hj', List.getD_eq_getElem?_getD]
    refine (Try.slices_Compact_int g 0 cap l0 w hH (by simp only [maxLen] at hcm; omega) hnc).mono ?_
    rintro e w' ⟨rfl, n, rfl⟩
    obtain ⟨zs, hzs⟩ : ∃ zs : List Int, zs = Lib.compact l0 ++ List.replicate (l0.length - (Lib.compact l0).length) 0 := ⟨_, rfl⟩
    have hzl : zs.length = l0.length := by rw [hzs, List.length_append, List.length_replicate]; omega
    rw [← hzs]
    have hsz : zs.length ≤ cur.size := by omega
    have key := rewritten (k := .i64) (e := 2) (base := w0.heap.size) (ok := P0_) (w0 := w0) (w := w) (g := g) (cap := cap) (cur := cur) (cur' := Go.Sort.putCells (Value.int .i64) 0 zs.toArray cur)
      (w' := Go.Sort.putRow (Value.int .i64) (Go.Sort.ahead w n) g 0 zs.toArray) (ys := Lib.compact l0)
      hB (Nat.le_refl _) hb hh (by omega) hcm hcs (hok g (by simp [Value.ownBlock])) rfl rfl rfl (by simp) ?_ ?_ (by simp [Go.Sort.putCells]) ?_
    · obtain ⟨k1, k2, k3⟩ := key
      exact ⟨_, rfl, Kd.R_mono k1 (fun _ hk => Or.inl hk), k2, k3⟩
    · intro i hi hne
      simp [Go.Sort.putRow, Go.Sort.mapBlock, Array.getElem?_modify, Ne.symm hne]
    · simp [Go.Sort.putRow, Go.Sort.mapBlock, Array.getElem?_modify, Go.Sort.onCells, hh]
    · have h1 := take_putCells .i64 zs cur hsz
      have h2 : (nums .i64 zs).take ((Lib.compact l0).length * 1) = nums .i64 (Lib.compact l0) := by
        rw [hzs, nums_append]
        exact List.take_left' (by rw [nums_length]; omega)
      rw [← h2, ← h1, List.take_take]
      congr 1
      omega
end Go.Proofs.Ytankgbfddgpfmaa.PAll
