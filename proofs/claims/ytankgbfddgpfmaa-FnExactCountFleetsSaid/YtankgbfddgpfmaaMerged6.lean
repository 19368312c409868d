/- Texts of this claim that follow each other, laid together. -/
import Derived.Test.YtankgbfddgpfmaaWWords
import Derived.Test.YtankgbfddgpfmaaMerged1
import Derived.Shelf.Strings.Builder1
import Derived.Shelf.Strings.Builder2
import Derived.Shelf.Strings.OnBuilder
import Derived.Shelf.Small.Bits
import Derived.Shelf.Strings.BuilderF
import Derived.Shelf.Strings.BuilderK
import Derived.Shelf.Strings.Builder2Cap
import Derived.Shelf.Strconv.Itoa0
import Derived.Ground.SlgnProg
import Derived.Shelf.SlicesG.Turned
import Derived.Shelf.SlicesG.Clone
import Derived.Shelf.SlicesG.CompactI
import Derived.Shelf.SlicesG.SearchI
import Derived.Shelf.SlicesG.Cells
import Derived.Shelf.SlicesE.Index
import Derived.Shelf.SlicesE.Compact
import Derived.Shelf.SlicesE.Clone
import Derived.Ground.SlgfProg
import Derived.Shelf.SlicesE.IndexFunc
import Derived.Ground.SlgmProg
import Derived.Shelf.SortM.Plain
import Derived.Shelf.SortM.SortNone
import Derived.Test.YtankgbfddgpfmaaProg
import Derived.Test.YtankgbfddgpfmaaPAllx0

section
/- Rows of whole numbers of a call's own, said by their cells: helpers for the contracts of library functions. -/
namespace Go.Proofs.Ytankgbfddgpfmaa.GInts
open Go.RowKit Go.Proofs.YtankgbfddgpfmaaW.PrintWords
set_option linter.unusedVariables false

theorem reps_nums {k : IntKind} {w : World} {base : Nat} {ok : Nat → Prop} {xs : List Int} {inner : List Value} (h : Reps ((Kd.int k).M w base ok) 1 xs inner) : inner = nums k xs := by
  obtain ⟨h1, h2⟩ := h
  refine List.ext_getElem? fun j => ?_
  rcases Nat.lt_or_ge j xs.length with hj | hj
  · have h3 := h2 j _ (List.getElem?_eq_getElem hj)
    have h4 : (inner.drop (j * 1)).take 1 = [.int k xs[j]] := h3
    rw [Nat.mul_one] at h4
    have h5 : ((inner.drop j).take 1)[0]? = some (.int k xs[j]) := by rw [h4]; rfl
    rw [List.getElem?_take, if_pos (by omega), List.getElem?_drop, Nat.add_zero] at h5
    rw [h5, nums, List.getElem?_map, List.getElem?_eq_getElem hj]; rfl
  · rw [List.getElem?_eq_none (by omega), List.getElem?_eq_none (by rw [nums_length]; omega)]

theorem reps_of_nums {k : IntKind} {w : World} {base : Nat} {ok : Nat → Prop} (xs : List Int) : Reps ((Kd.int k).M w base ok) 1 xs (nums k xs) := by
  refine ⟨by rw [nums_length]; omega, fun j p hj => ?_⟩
  show ((nums k xs).drop (j * 1)).take 1 = [.int k p]
  have hjl := (List.getElem?_eq_some_iff.1 hj).1
  have h0 : (nums k xs)[j]? = some (.int k p) := by rw [nums, List.getElem?_map, hj]; rfl
  rw [Nat.mul_one]
  have hl : ((nums k xs).drop j).length ≠ 0 := by rw [List.length_drop, nums_length]; omega
  have hd : (nums k xs).drop j = .int k p :: (nums k xs).drop (j + 1) := by
    rw [List.drop_eq_getElem_cons (by rw [nums_length]; exact hjl)]
    congr 1
    rw [List.getElem?_eq_getElem (by rw [nums_length]; exact hjl)] at h0
    exact Option.some.inj h0
  rw [hd]; rfl

theorem R_nums {k : IntKind} {e : Nat} {w : World} {base : Nat} {ok : Nat → Prop} {v : Value} {xs : List Int} :
    Kd.R (Kd.int k) e w base ok v xs ↔ (∀ q, v.ownBlock = some q → ok q) ∧ w.ownsRow base e 1 v xs.length (nums k xs) := by
  constructor
  · rintro ⟨h0, inner, ho, hr⟩
    have := reps_nums hr
    subst this
    exact ⟨h0, ho⟩
  · rintro ⟨h0, ho⟩
    exact ⟨h0, nums k xs, ho, reps_of_nums xs⟩

theorem nums_cell {k : IntKind} {w : World} {e g : Nat} {cur : Array Value} {xs : List Int} (hh : w.heap[g]? = some (.cells cur e (0, 0))) (ht : cur.toList.take (xs.length * 1) = nums k xs) (j : Nat) (hj : j < xs.length) :
    w.cell? ⟨g, j, none⟩ = some (.int k (xs.getD j 0)) := by
  rw [cell_of_row w g j cur e (0, 0) hh]
  have h1 : (nums k xs)[j]? = some (.int k (xs.getD j 0)) := by
    rw [nums, List.getElem?_map, List.getElem?_eq_getElem hj, List.getD_eq_getElem?_getD, List.getElem?_eq_getElem hj]; rfl
  rw [← ht, List.getElem?_take, if_pos (by omega)] at h1
  simpa using h1

/-- What a call leaves that wrote one row of the call's own in place, and made new blocks. -/
theorem rewritten {k : IntKind} {e base : Nat} {ok : Nat → Prop} {w0 w w' : World} {g cap : Nat} {cur cur' : Array Value} {ys : List Int}
    (hB : Below w0.heap.size w0 w) (hbase : w0.heap.size ≤ base) (hb : base ≤ g) (hh : w.heap[g]? = some (.cells cur e (0, 0))) (hnc : ys.length ≤ cap) (hcm : cap ≤ maxLen) (hcs : cur.size = cap * 1) (hok : ok g)
    (h1 : w'.os = w.os) (h2 : w'.tape = w.tape) (h3 : w'.output = w.output) (h4 : w.heap.size ≤ w'.heap.size) (h5 : ∀ i, i < w.heap.size → i ≠ g → w'.heap[i]? = w.heap[i]?)
    (h6 : w'.heap[g]? = some (.cells cur' e (0, 0))) (h7 : cur'.size = cur.size) (h8 : cur'.toList.take (ys.length * 1) = nums k ys) :
    Kd.R (Kd.int k) e w' base ok (.slice (some ⟨g, 0, none⟩) ys.length cap) ys ∧ Below w0.heap.size w0 w' ∧ Kept w w' ok := by
  refine ⟨R_nums.2 ⟨fun q hq => ?_, ⟨by rw [nums_length]; omega, .inr ⟨g, cap, cur', rfl, hb, h6, hnc, hcm, by rw [h7, hcs], h8⟩⟩⟩, hB.trans ⟨h1, h2, h3, h4, fun i hi => h5 i (by have := hB.size; omega) (by omega)⟩, h4, fun i hi hn => h5 i hi (fun he => hn (he ▸ hok))⟩
  have : g = q := by simpa [Value.ownBlock] using hq
  exact this ▸ hok

/-! Sorted lists, by a function that the kernel reckons. -/
def ins (x : Int) : List Int → List Int
  | [] => [x]
  | y :: t => if x ≤ y then x :: y :: t else y :: ins x t
def isort : List Int → List Int
  | [] => []
  | x :: t => ins x (isort t)
theorem ins_perm (x : Int) : ∀ l, (ins x l).Perm (x :: l)
  | [] => List.Perm.refl _
  | y :: t => by
    unfold ins
    split
    · exact List.Perm.refl _
    · exact ((ins_perm x t).cons y).trans (List.Perm.swap x y t)
theorem isort_perm : ∀ l, (isort l).Perm l
  | [] => List.Perm.refl _
  | x :: t => (ins_perm x (isort t)).trans ((isort_perm t).cons x)
theorem ins_sorted (x : Int) : ∀ l : List Int, l.Pairwise (· ≤ ·) → (ins x l).Pairwise (· ≤ ·)
  | [], _ => by simp [ins]
  | y :: t, h => by
    obtain ⟨h1, h2⟩ := List.pairwise_cons.1 h
    unfold ins
    split
    · rename_i hxy
      refine List.pairwise_cons.2 ⟨fun z hz => ?_, h⟩
      rcases List.mem_cons.1 hz with rfl | hz
      · exact hxy
      · exact Int.le_trans hxy (h1 z hz)
    · rename_i hxy
      refine List.pairwise_cons.2 ⟨fun z hz => ?_, ins_sorted x t h2⟩
      rcases List.mem_cons.1 ((ins_perm x t).subset hz) with rfl | hz
      · omega
      · exact h1 z hz
theorem isort_sorted : ∀ l, (isort l).Pairwise (· ≤ ·)
  | [] => List.Pairwise.nil
  | x :: t => ins_sorted x _ (isort_sorted t)
theorem sorted_unique {l l' : List Int} (h : l.Pairwise (· ≤ ·)) (h' : l'.Pairwise (· ≤ ·)) (p : l.Perm l') : l = l' :=
  List.Perm.eq_of_pairwise (fun _ _ _ _ h1 h2 => Int.le_antisymm h1 h2) h h' p
theorem mergeSort_isort (l : List Int) : (l.mergeSort fun x y => decide (x ≤ y)) = isort l := by
  refine sorted_unique ?_ (isort_sorted l) ((List.mergeSort_perm l _).trans (isort_perm l).symm)
  have := List.pairwise_mergeSort (le := fun x y : Int => decide (x ≤ y)) (fun a b c h1 h2 => by simp at *; omega) (fun a b => by simp; omega) l
  exact this.imp (fun h => by simpa using h)
end Go.Proofs.Ytankgbfddgpfmaa.GInts
end

section
/- The library's contracts at this program, laid by the kit's tools lay-shelf and lay-plain, in plain words. -/
namespace Go.Proofs
open Go.Shelf
def Try.laysSlN41_f73_ren : Go.Shelf.Ren := ⟨fun | 41 => 73 | n => n, fun | 22 => 22 | 23 => 2 | 4 => 4 | n => n, fun | n => n⟩
theorem Try.laysSlN41_f73 : Go.Proofs.SlLaysN.n41 Try.prog Try.laysSlN41_f73_ren := {
  mixed := by kernel_rfl
  f41 := ⟨Try.f73.name, by decide, Try.func73.trans (congrArg some (by kernel_rfl))⟩
  t4 := Try.underlying4
  a4 := Try.isAgg4
  z4 := Try.sizeOf4
  v4 := Try.zeroValue4
  t22 := Try.underlying22
  a22 := Try.isAgg22
  z22 := Try.sizeOf22
  v22 := Try.zeroValue22
  t23 := Try.underlying2
  a23 := Try.isAgg2
  z23 := Try.sizeOf2
  v23 := Try.zeroValue2
  i23 := by kernel_rfl }
open Go.RowKit Go.Lib in
theorem Try.slices_Clone_int (b off n c : Nat) (zs : List Int) (w : World) (hz : n ≤ zs.length) (hbig : n * 8 ≤ 140737488355328) (hc : ∀ j, j < zs.length → w.cell? ⟨b, off + j, none⟩ = some (.int .i64 (zs.getD j 0))) :
    Calls Try.prog 73 #[.slice (some ⟨b, off, none⟩) n c] w fun e w' => ∃ v', e = .returned v' ∧ w'.ownsRow w.heap.size 2 1 v' n ((zs.take n).map (Value.int .i64)) ∧ v' ≠ .slice none 0 0 ∧ Below w.heap.size w w' := AnyG.slices_Clone_int Try.laysSlN41_f73 b off n c zs w hz hbig hc
open Go.RowKit Go.Lib in
theorem Try.slices_Clone_int_nil (n c : Nat) (w : World) :
    Calls Try.prog 73 #[.slice none n c] w fun e w' => e = .returned (.slice none 0 0) ∧ w' = w := AnyG.slices_Clone_int_nil Try.laysSlN41_f73 n c w
open Go.RowKit Go.Lib in
theorem Try.slices_Clone_int_zero (a : Addr) (c : Nat) (w : World) :
    Calls Try.prog 73 #[.slice (some a) 0 c] w fun e w' => ∃ v', e = .returned v' ∧ w'.ownsRow w.heap.size 2 1 v' 0 [] ∧ v' ≠ .slice none 0 0 ∧ Below w.heap.size w w' := AnyG.slices_Clone_int_zero Try.laysSlN41_f73 a c w
def Try.laysSlN43_f67_ren : Go.Shelf.Ren := ⟨fun | 43 => 67 | n => n, fun | 22 => 22 | 23 => 2 | 3 => 3 | 4 => 4 | 0 => 0 | n => n, fun | n => n⟩
theorem Try.laysSlN43_f67 : Go.Proofs.SlLaysN.n43 Try.prog Try.laysSlN43_f67_ren := {
  mixed := by kernel_rfl
  f43 := ⟨Try.f67.name, by decide, Try.func67.trans (congrArg some (by kernel_rfl))⟩
  t0 := Try.underlying0
  a0 := Try.isAgg0
  z0 := Try.sizeOf0
  v0 := Try.zeroValue0
  t3 := Try.underlying3
  a3 := Try.isAgg3
  z3 := Try.sizeOf3
  v3 := Try.zeroValue3
  t4 := Try.underlying4
  a4 := Try.isAgg4
  z4 := Try.sizeOf4
  v4 := Try.zeroValue4
  t22 := Try.underlying22
  a22 := Try.isAgg22
  z22 := Try.sizeOf22
  v22 := Try.zeroValue22
  t23 := Try.underlying2
  a23 := Try.isAgg2
  z23 := Try.sizeOf2
  v23 := Try.zeroValue2
  i23 := by kernel_rfl }
open Go.RowKit Go.Lib Go.Sort in
theorem Try.slices_Compact_int (blk off cap : Nat) (zs : List Int) (w : World) (hH : Holds (Value.int .i64) w blk off zs.toArray) (hsz : zs.length ≤ 9223372036854775807) (hcap : zs.length ≤ cap) :
    Calls Try.prog 67 #[.slice (some ⟨blk, off, none⟩) zs.length cap] w fun e w' => e = .returned (.slice (some ⟨blk, off, none⟩) (Lib.compact zs).length cap) ∧ ∃ q, w' = putRow (Value.int .i64) (Sort.ahead w q) blk off (Lib.compact zs ++ List.replicate (zs.length - (Lib.compact zs).length) 0).toArray := AnyG.slices_Compact_int Try.laysSlN43_f67 blk off cap zs w hH hsz hcap
open Go.RowKit Go.Lib Go.Sort in
theorem Try.slices_Compact_int_empty (a : Option Addr) (cap : Nat) (w : World) :
    Calls Try.prog 67 #[.slice a 0 cap] w fun e w' => e = .returned (.slice a 0 cap) ∧ w' = w := AnyG.slices_Compact_int_empty Try.laysSlN43_f67 a cap w
def Try.laysSlM5_f66_ren : Go.Shelf.Ren := ⟨fun | 5 => 66 | 8 => 80 | 7 => 79 | 19 => 98 | 20 => 99 | 10 => 89 | 11 => 90 | 12 => 91 | 13 => 92 | 14 => 93 | 15 => 94 | 16 => 95 | 17 => 96 | 18 => 97 | 30 => 104 | 31 => 105 | 32 => 106 | 33 => 107 | 34 => 108 | 35 => 109 | 40 => 111 | n => n, fun | 23 => 22 | 25 => 2 | 3 => 3 | 32 => 96 | 22 => 22 | 0 => 0 | 44 => 117 | 46 => 70 | 4 => 4 | 36 => 109 | 35 => 108 | 41 => 114 | 5 => 5 | 9 => 9 | 53 => 122 | 57 => 126 | 63 => 129 | 64 => 130 | n => n, fun | n => n⟩
theorem Try.laysSlM5_f66 : Go.Proofs.SlLaysM.n5 Try.prog Try.laysSlM5_f66_ren := {
  mixed := by kernel_rfl
  f5 := ⟨Try.f66.name, by decide, Try.func66.trans (congrArg some (by kernel_rfl))⟩
  f7 := ⟨Try.f79.name, by decide, Try.func79.trans (congrArg some (by kernel_rfl))⟩
  f8 := Try.func80.trans (congrArg some (by kernel_rfl))
  f10 := ⟨Try.f89.name, by decide, Try.func89.trans (congrArg some (by kernel_rfl))⟩
  f11 := ⟨Try.f90.name, by decide, Try.func90.trans (congrArg some (by kernel_rfl))⟩
  f12 := ⟨Try.f91.name, by decide, Try.func91.trans (congrArg some (by kernel_rfl))⟩
  f13 := ⟨Try.f92.name, by decide, Try.func92.trans (congrArg some (by kernel_rfl))⟩
  f14 := ⟨Try.f93.name, by decide, Try.func93.trans (congrArg some (by kernel_rfl))⟩
  f15 := ⟨Try.f94.name, by decide, Try.func94.trans (congrArg some (by kernel_rfl))⟩
  f16 := ⟨Try.f95.name, by decide, Try.func95.trans (congrArg some (by kernel_rfl))⟩
  f17 := ⟨Try.f96.name, by decide, Try.func96.trans (congrArg some (by kernel_rfl))⟩
  f18 := ⟨Try.f97.name, by decide, Try.func97.trans (congrArg some (by kernel_rfl))⟩
  f19 := Try.func98.trans (congrArg some (by kernel_rfl))
  f20 := Try.func99.trans (congrArg some (by kernel_rfl))
  f30 := ⟨Try.f104.name, by decide, Try.func104.trans (congrArg some (by kernel_rfl))⟩
  f31 := Try.func105.trans (congrArg some (by kernel_rfl))
  f32 := Try.func106.trans (congrArg some (by kernel_rfl))
  f33 := ⟨Try.f107.name, by decide, Try.func107.trans (congrArg some (by kernel_rfl))⟩
  f34 := ⟨Try.f108.name, by decide, Try.func108.trans (congrArg some (by kernel_rfl))⟩
  f35 := ⟨Try.f109.name, by decide, Try.func109.trans (congrArg some (by kernel_rfl))⟩
  f40 := ⟨Try.f111.name, by decide, Try.func111.trans (congrArg some (by kernel_rfl))⟩
  t0 := Try.underlying0
  a0 := Try.isAgg0
  z0 := Try.sizeOf0
  v0 := Try.zeroValue0
  t3 := Try.underlying3
  a3 := Try.isAgg3
  z3 := Try.sizeOf3
  v3 := Try.zeroValue3
  t4 := Try.underlying4
  a4 := Try.isAgg4
  z4 := Try.sizeOf4
  v4 := Try.zeroValue4
  t5 := Try.underlying5
  a5 := Try.isAgg5
  z5 := Try.sizeOf5
  v5 := Try.zeroValue5
  t9 := Try.underlying9
  a9 := Try.isAgg9
  z9 := Try.sizeOf9
  v9 := Try.zeroValue9
  t22 := Try.underlying22
  a22 := Try.isAgg22
  z22 := Try.sizeOf22
  v22 := Try.zeroValue22
  t23 := Try.underlying22
  a23 := Try.isAgg22
  z23 := Try.sizeOf22
  v23 := Try.zeroValue22
  t25 := Try.underlying2
  a25 := Try.isAgg2
  z25 := Try.sizeOf2
  v25 := Try.zeroValue2
  t32 := Try.underlying96
  a32 := Try.isAgg96
  z32 := Try.sizeOf96
  v32 := Try.zeroValue96
  t35 := Try.underlying108
  a35 := Try.isAgg108
  z35 := Try.sizeOf108
  v35 := Try.zeroValue108
  t36 := Try.underlying109
  a36 := Try.isAgg109
  z36 := Try.sizeOf109
  v36 := Try.zeroValue109
  t41 := Try.underlying114
  a41 := Try.isAgg114
  z41 := Try.sizeOf114
  v41 := Try.zeroValue114
  t44 := Try.underlying117
  a44 := Try.isAgg117
  z44 := Try.sizeOf117
  v44 := Try.zeroValue117
  t46 := Try.underlying70
  a46 := Try.isAgg70
  z46 := Try.sizeOf70
  v46 := Try.zeroValue70
  t53 := Try.underlying122
  a53 := Try.isAgg122
  z53 := Try.sizeOf122
  v53 := Try.zeroValue122
  t57 := Try.underlying126
  a57 := Try.isAgg126
  z57 := Try.sizeOf126
  v57 := Try.zeroValue126
  t63 := Try.underlying129
  a63 := Try.isAgg129
  z63 := Try.sizeOf129
  v63 := Try.zeroValue129
  t64 := Try.underlying130
  a64 := Try.isAgg130
  z64 := Try.sizeOf130
  v64 := Try.zeroValue130 }
open Go.Sort Go.RowKit in
theorem Try.slices_Sort_int (blk off cap : Nat) (zs : List Int) (w : World) (hH : Holds (Value.int .i64) w blk off zs.toArray) (hblk : blk < w.heap.size) (hsz : zs.length < 4611686018427387904) :
    Calls Try.prog 66 #[.slice (some ⟨blk, off, none⟩) zs.length cap] w fun e w' =>
      e = .returned (.tuple #[]) ∧ ∃ n os, w' = grow (putRow (Value.int .i64) (Sort.ahead w n) blk off (zs.mergeSort fun x y => decide (x ≤ y)).toArray) os := AnyM.slices_Sort_int Try.laysSlM5_f66 blk off cap zs w hH hblk hsz
open Go.RowKit Go.Sort in
theorem Try.slices_Sort_int_none (p : Option Addr) (cap : Nat) (w : World) :
    Calls Try.prog 66 #[.slice p 0 cap] w fun e w' => e = .returned (.tuple #[]) ∧ w' = w := AnyM.slices_Sort_int_none Try.laysSlM5_f66 p cap w
end Go.Proofs
end

section
/- slices.Sort on a row of the call's own: it holds the same numbers, ascending. -/
namespace Go.Proofs.Ytankgbfddgpfmaa.PAll
open Go.RowKit Go.Proofs.YtankgbfddgpfmaaW.PrintWords Go.Proofs.YtankgbfddgpfmaaW.PrintLast Go.Proofs.YtankgbfddgpfmaaW.PrintMore Go.Proofs.Ytankgbfddgpfmaa.GInts
set_option linter.unusedVariables false

def slices_Sort_int64_int64.f (l0 : List Int) : Option (List Int) := if l0.length < 4611686018427387904 then some (isort l0) else none

theorem take_putCells (k : IntKind) (zs : List Int) (cur : Array Value) (h : zs.length ≤ cur.size) : (Go.Sort.putCells (Value.int k) 0 zs.toArray cur).toList.take (zs.length * 1) = nums k zs := by
  refine List.ext_getElem? fun j => ?_
  rw [List.getElem?_take, Nat.mul_one]
  rcases Nat.lt_or_ge j zs.length with hj | hj
  · rw [if_pos hj, Array.getElem?_toList, Go.Sort.putCells, Array.getElem?_mapIdx, Array.getElem?_eq_getElem (by omega), Option.map_some, if_pos ⟨Nat.zero_le _, by simp; omega⟩, nums, List.getElem?_map, List.getElem?_eq_getElem hj]
    simp [hj]
  · rw [if_neg (by omega), List.getElem?_eq_none (by rw [nums_length]; omega)]

theorem slices_Sort_int64_int64.calls (P0_ : Nat → Prop) (u9000_ : Value) (l0 : List Int) (r : List Int) (w0 w : World) (hB : Below w0.heap.size w0 w) (ho0 : Kd.R (Kd.int .i64) 2 w w0.heap.size P0_ u9000_ l0) (h : slices_Sort_int64_int64.f l0 = some r) :
    Calls Try.prog 66 #[u9000_] w fun e w' => e = .returned (.tuple #[]) ∧ Kd.R (Kd.int .i64) 2 w' w0.heap.size (fun k_ => (P0_ k_ ∨ w.heap.size ≤ k_)) u9000_ r ∧ Below w0.heap.size w0 w' ∧ Kept w w' (fun k_ => P0_ k_) := by
  unfold slices_Sort_int64_int64.f at h
  split at h <;> rename_i hsz
  case isFalse => cases h
  rw [← mergeSort_isort] at h
  obtain rfl := Option.some.inj h
  obtain ⟨hok, hl, ho⟩ := R_nums.1 ho0
  rcases ho with ⟨rfl, hn⟩ | ⟨g, cap, cur, rfl, hb, hh, hnc, hcm, hcs, ht⟩
  · obtain rfl : l0 = [] := List.eq_nil_of_length_eq_zero hn
    refine (Try.slices_Sort_int_none none 0 w).mono ?_
    rintro e w' ⟨rfl, rfl⟩
    exact ⟨rfl, by simpa using Kd.R_mono ho0 (fun _ hk => Or.inl hk), hB, Kept.refl _ _⟩
  · have hlt : g < w.heap.size := (Array.getElem?_eq_some_iff.1 hh).1
    have hm : (l0.mergeSort fun x y => decide (x ≤ y)).length = l0.length := List.length_mergeSort _
    have hH : Go.Sort.Holds (Value.int .i64) w g 0 l0.toArray := by
      intro j hj
      have hj' : j < l0.length := by simpa using hj
      refine ⟨?_, blk_frozen hh (0 + j)⟩
      rw [Nat.zero_add, nums_cell hh ht j hj']
      simp [hj', List.getD_eq_getElem?_getD]
    refine (Try.slices_Sort_int g 0 cap l0 w hH hlt hsz).mono ?_
    rintro e w' ⟨rfl, n, os, rfl⟩
    have key := rewritten (k := .i64) (e := 2) (base := w0.heap.size) (ok := P0_) (w0 := w0) (w := w) (g := g) (cap := cap) (cur := cur) (cur' := Go.Sort.putCells (Value.int .i64) 0 (l0.mergeSort fun x y => decide (x ≤ y)).toArray cur)
      (w' := Go.Sort.grow (Go.Sort.putRow (Value.int .i64) (Go.Sort.ahead w n) g 0 (l0.mergeSort fun x y => decide (x ≤ y)).toArray) os) (ys := l0.mergeSort fun x y => decide (x ≤ y))
      hB (Nat.le_refl _) hb hh (by omega) hcm hcs (hok g (by simp [Value.ownBlock])) rfl rfl rfl (by simp) ?_ ?_ (by simp [Go.Sort.putCells]) (take_putCells _ _ _ (by omega))
    · obtain ⟨k1, k2, k3⟩ := key
      rw [hm] at k1
      exact ⟨rfl, Kd.R_mono k1 (fun _ hk => Or.inl hk), k2, k3⟩
    · intro i hi hne
      rw [Go.Sort.heap_grow_old _ _ (by simpa using hi)]
      simp [Go.Sort.putRow, Go.Sort.mapBlock, Array.getElem?_modify, Ne.symm hne]
    · rw [Go.Sort.heap_grow_old _ _ (by simpa using hlt)]
      simp [Go.Sort.putRow, Go.Sort.mapBlock, Array.getElem?_modify, Go.Sort.onCells, hh]
end Go.Proofs.Ytankgbfddgpfmaa.PAll
end

section
/- slices.Compact on a row of the call's own: of each run of equal numbers one stays. -/
namespace Go.Proofs.Ytankgbfddgpfmaa.PAll
open Go.RowKit Go.Proofs.YtankgbfddgpfmaaW.PrintWords Go.Proofs.YtankgbfddgpfmaaW.PrintLast Go.Proofs.YtankgbfddgpfmaaW.PrintMore Go.Proofs.Ytankgbfddgpfmaa.GInts
set_option linter.unusedVariables false

def slices_Compact_int64_int64.f (l0 : List Int) : Option (List Int) := some (Lib.compact l0)

theorem compact_le (l : List Int) : (Lib.compact l).length ≤ l.length := by
  unfold Lib.compact Lib.compactUpTo
  rw [List.length_map]
  exact Nat.le_trans (List.length_filter_le _ _) (by simp)

theorem slices_Compact_int64_int64.calls (P0_ : Nat → Prop) (u9000_ : Value) (l0 : List Int) (r : List Int) (w0 w : World) (hB : Below w0.heap.size w0 w) (ho0 : Kd.R (Kd.int .i64) 2 w w0.heap.size P0_ u9000_ l0) (h : slices_Compact_int64_int64.f l0 = some r) :
    Calls Try.prog 67 #[u9000_] w fun e w' => ∃ v0_ : Value, e = .returned (v0_) ∧ Kd.R (Kd.int .i64) 2 w' w0.heap.size (fun k_ => (P0_ k_ ∨ w.heap.size ≤ k_)) v0_ r ∧ Below w0.heap.size w0 w' ∧ Kept w w' (fun k_ => P0_ k_) := by
  obtain rfl := Option.some.inj h
  obtain ⟨hok, hl, ho⟩ := R_nums.1 ho0
  rcases ho with ⟨rfl, hn⟩ | ⟨g, cap, cur, rfl, hb, hh, hnc, hcm, hcs, ht⟩
  · obtain rfl : l0 = [] := List.eq_nil_of_length_eq_zero hn
    refine (Try.slices_Compact_int_empty none 0 w).mono ?_
    rintro e w' ⟨rfl, rfl⟩
    exact ⟨_, rfl, Kd.R_mono ho0 (fun _ hk => Or.inl hk), hB, Kept.refl _ _⟩
  · have hlt : g < w.heap.size := (Array.getElem?_eq_some_iff.1 hh).1
    have hc := compact_le l0
    have hH : Go.Sort.Holds (Value.int .i64) w g 0 l0.toArray := by
      intro j hj
      have hj' : j < l0.length := by simpa using hj
      refine ⟨?_, blk_frozen hh (0 + j)⟩
      rw [Nat.zero_add, nums_cell hh ht j hj']
      simp [hj', List.getD_eq_getElem?_getD]
    refine (Try.slices_Compact_int g 0 cap l0 w hH (by simp only [maxLen] at hcm; omega) hnc).mono ?_
    rintro e w' ⟨rfl, n, rfl⟩
    obtain ⟨zs, hzs⟩ : ∃ zs : List Int, zs = Lib.compact l0 ++ List.replicate (l0.length - (Lib.compact l0).length) 0 := ⟨_, rfl⟩
    have hzl : zs.length = l0.length := by rw [hzs, List.length_append, List.length_replicate]; omega
    rw [← hzs]
    have hsz : zs.length ≤ cur.size := by omega
    have key := rewritten (k := .i64) (e := 2) (base := w0.heap.size) (ok := P0_) (w0 := w0) (w := w) (g := g) (cap := cap) (cur := cur) (cur' := Go.Sort.putCells (Value.int .i64) 0 zs.toArray cur)
      (w' := Go.Sort.putRow (Value.int .i64) (Go.Sort.ahead w n) g 0 zs.toArray) (ys := Lib.compact l0)
      hB (Nat.le_refl _) hb hh (by omega) hcm hcs (hok g (by simp [Value.ownBlock])) rfl rfl rfl (by simp) ?_ ?_ (by simp [Go.Sort.putCells]) ?_
    · obtain ⟨k1, k2, k3⟩ := key
      exact ⟨_, rfl, Kd.R_mono k1 (fun _ hk => Or.inl hk), k2, k3⟩
    · intro i hi hne
      simp [Go.Sort.putRow, Go.Sort.mapBlock, Array.getElem?_modify, Ne.symm hne]
    · simp [Go.Sort.putRow, Go.Sort.mapBlock, Array.getElem?_modify, Go.Sort.onCells, hh]
    · have h1 := take_putCells .i64 zs cur hsz
      have h2 : (nums .i64 zs).take ((Lib.compact l0).length * 1) = nums .i64 (Lib.compact l0) := by
        rw [hzs, nums_append]
        exact List.take_left' (by rw [nums_length]; omega)
      rw [← h2, ← h1, List.take_take]
      congr 1
      omega
end Go.Proofs.Ytankgbfddgpfmaa.PAll
end
