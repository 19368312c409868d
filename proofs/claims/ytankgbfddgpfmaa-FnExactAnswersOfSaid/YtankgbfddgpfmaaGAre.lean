/- (Sea).areCells: cells are sorted, then looked at. The walk over the region was written by this work's driver of the kit's print, then turned by hand. -/
import Derived.Test.YtankgbfddgpfmaaGSeq
import Derived.Test.YtankgbfddgpfmaaGHelp
import Derived.Test.YtankgbfddgpfmaaPAllx18
namespace Go.Proofs.Ytankgbfddgpfmaa.PAll
open Go.RowKit Go.Proofs.YtankgbfddgpfmaaW.PrintWords Go.Proofs.YtankgbfddgpfmaaW.PrintLast Go.Proofs.YtankgbfddgpfmaaW.PrintMore Go.Proofs.Ytankgbfddgpfmaa.GInts Go.Proofs.Ytankgbfddgpfmaa.GSeq
attribute [local go_sem] max2_int min2_int max_two min_two max_three min_three max_four min_four   -- for this text's walks alone
set_option linter.unusedVariables false
set_option linter.unusedSimpArgs false

theorem isort_length (l : List Int) : (isort l).length = l.length := by rw [← mergeSort_isort, List.length_mergeSort]

/-- Are numbers of a list within bounds, each more than the one ahead? p: the one ahead of the list. -/
def risingB (a b : Int) : Option Int → List Int → Bool
  | _, [] => true
  | none, x :: t => decide (a ≤ x ∧ x ≤ b) && risingB a b (some x) t
  | some p, x :: t => decide (a ≤ x ∧ x ≤ b) && (!decide (x ≤ p) && risingB a b (some x) t)
theorem within_f' (n a b : Int) : impl_within.f n a b = some (decide (a ≤ n ∧ n ≤ b)) := by
  unfold impl_within.f
  by_cases h : a ≤ n
  · rw [if_pos h]; simp [h]
  · rw [if_neg h, decide_eq_false (fun h' => h h'.1)]
theorem ev_rising (s : List Int) (a b : Int) (hm : s.length ≤ 35184372088832) : Ev (fun k => impl_isRising.f k s a b) (risingB a b none s) := by
  unfold impl_isRising.f
  suffices h : ∀ (d i : Nat), i + d = s.length → Ev (fun k => impl_isRising.l0 k s a b s (s.length : Int) (i : Int)) (risingB a b (if 0 < i then some (rd s ((i : Int) - 1)) else none) (s.drop i)) from by simpa using h s.length 0 (by omega)
  intro d
  induction d with
  | zero =>
    intro i hi
    have h1 : ¬ ((i : Int) < (s.length : Int)) := by omega
    refine Ev.succ ?_
    simp only [impl_isRising.l0, if_neg h1]
    exact Ev.cast (Ev.now _) (by rw [List.drop_of_length_le (by omega)]; cases (if 0 < i then some (rd s ((i : Int) - 1)) else none) <;> rfl)
  | succ d ih =>
    intro i hi
    have h1 : (i : Int) < (s.length : Int) := by omega
    have h2 : (0 : Int) ≤ (i : Int) := by omega
    have h4 : wrap64 ((i : Int) + 1) = ((i + 1 : Nat) : Int) := by rw [w64 (by omega) (by omega)]; omega
    have hd : s.drop i = rd s (i : Int) :: s.drop (i + 1) := by rw [List.drop_eq_getElem_cons (by omega), rd_nat s i (by omega)]
    have hih := ih (i + 1) (by omega)
    rw [if_pos (by omega), show ((i + 1 : Nat) : Int) - 1 = (i : Int) by omega] at hih
    rw [hd]
    refine Ev.succ ?_
    simp only [impl_isRising.l0, if_pos h1, if_pos h2, within_f', Option.bind_some, h4]
    by_cases hw : a ≤ rd s (i : Int) ∧ rd s (i : Int) ≤ b
    · simp only [decide_eq_true hw, if_true]
      by_cases hp : 0 < i
      · have h5 : ((i : Nat) : Int) > 0 := by omega
        have h6 : wrap64 ((i : Int) - 1) = (i : Int) - 1 := w64 (by omega) (by omega)
        have h7 : (0 : Int) ≤ (i : Int) - 1 := by omega
        have h8 : (i : Int) - 1 < (s.length : Int) := by omega
        simp only [if_pos h5, h6, if_pos h7, if_pos h8, if_pos hp]
        by_cases g : rd s (i : Int) ≤ rd s ((i : Int) - 1)
        · simp only [if_pos g]
          exact Ev.cast (Ev.now _) (by simp only [risingB, decide_eq_true g, Bool.not_true, Bool.false_and, Bool.and_false])
        · simp only [if_neg g]
          exact Ev.cast hih (by simp only [risingB, decide_eq_false g, decide_eq_true hw, Bool.not_false, Bool.true_and])
      · have h5 : ¬ (((i : Nat) : Int) > 0) := by omega
        simp only [if_neg h5, if_neg hp]
        exact Ev.cast hih (by simp only [risingB, decide_eq_true hw, Bool.true_and])
    · simp only [decide_eq_false hw, Bool.false_eq_true, if_false]
      refine Ev.cast (Ev.now _) ?_
      by_cases hp : 0 < i
      · simp only [if_pos hp, risingB, decide_eq_false hw, Bool.false_and]
      · simp only [if_neg hp, risingB, decide_eq_false hw, Bool.false_and]

theorem values_calls (A : Option Addr) (c : Nat) (l : List Int) (w : World) :
    Calls Try.prog 86 #[.slice A l.length c] w fun e w' => e = .returned (.func (.func 101) #[] #[.pointer (some ⟨w.heap.size, 0, none⟩)]) ∧ w'.heap[w.heap.size]? = some (.cells #[.slice A l.length c] 22 (0, 0)) ∧ Below w.heap.size w w' := by
  go_enter Try.func86, Try.ntmps86
  go_wp2
  go_ret
  exact ⟨rfl, World.alloc_heap_new w _, (Below.refl _ w).alloc (Nat.le_refl _) _⟩

theorem sortsIn (m : Nat) : AnyZI.SortsIn Try.prog Try.sortedA_ren Fence.wide m :=
  ⟨fun blk off cap ss W hH hblk hsz => callsIn_wide.2 (Try.slices_Sort_int blk off cap ss W hH hblk hsz),
   fun p cap W => callsIn_wide.2 (Try.slices_Sort_int_none p cap W)⟩
theorem encs (l : List Int) : l.map Go.encZ = nums .i64 l := rfl
theorem sorted_values (g : Nat) (A : Option Addr) (c : Nat) (l : List Int) (w : World) (hbox : w.heap[g]? = some (.cells #[.slice A l.length c] 22 (0, 0))) (hr : Kd.C (Kd.int .i64) w A l.length l) (hx : l.length ≤ 1048576) :
    Calls Try.prog 85 #[.func (.func 101) #[] #[.pointer (some ⟨g, 0, none⟩)]] w fun e w' => ∃ v : Value, e = .returned v ∧ Kd.R (Kd.int .i64) 2 w' w.heap.size (fun _ => True) v (isort l) ∧ Below w.heap.size w w' := by
  refine (callsIn_wide (n := 6)).1 ?_
  have hseq : SeqB Fence.wide 3 Try.prog 101 #[.pointer (some ⟨g, 0, none⟩)] Go.encZ (fun ss => ss = l) l.length w :=
    fun b J W hW hA hJb hY h0 => vals_in Fence.wide 3 (by omega) trivial rfl b g A c l w hbox hr hx J hJb hY W h0
  have cS := sortedB Try.sortedA Fence.wide 6 trivial trivial trivial trivial rfl (by omega) (sortsIn _) (enters_of Try.func66 (by kernel_rfl) rfl) 101 #[.pointer (some ⟨g, 0, none⟩)] trivial (enters_of Try.func101 (by kernel_rfl) rfl) (fun ss => ss = l) (fun ss h => by rw [h]; omega) l.length (by simp only [maxLen]; omega) (by omega) w hseq
  change CallsIn _ _ Try.prog 85 _ _ _ at cS
  refine cS.mono ?_
  rintro e w' ⟨v, ss, rfl, rfl, hrow, hnil, hb⟩
  refine ⟨v, rfl, R_nums.2 ⟨fun _ _ => trivial, ?_⟩, hb⟩
  rw [isort_length, ← mergeSort_isort]
  exact hrow

/-! ### impl_Sea_areCells: function 74 -/
def impl_Sea_areCells.f (a0_0 : Int) (a0_1 : Int) (l0_2 : List Int) (l1 : List Int) : Option (Bool) := if l1.length ≤ 1048576 then some (risingB 0 (wrap64 (wrap64 (a0_0 * a0_1) - 1)) none (isort l1)) else none
def impl_Sea_areCells.T1 : Bool × List (List Nat × List Nat) := (true, [([], []), ([0], [0]), ([1, 1], [1]), ([], []), ([3, 2], [3]), ([4], [4]), ([2, 5, 4], [2, 5]), ([6, 6, 0, 1, 2, 3, 4, 5, 6], [6])])
def impl_Sea_areCells.B1 : List Nat := [0, 1, 3, 0, 15, 31, 63, 127]
theorem impl_Sea_areCells.tab1 : rtab .any (opsOf Try.f74 1) = impl_Sea_areCells.T1 := by kernel_rfl
theorem impl_Sea_areCells.bits1 : waitsOk impl_Sea_areCells.T1.2 impl_Sea_areCells.B1 = true := by kernel_rfl
set_option maxHeartbeats 8000000 in
set_option maxRecDepth 100000 in
theorem impl_Sea_areCells.calls (a0_0 : Int) (a0_1 : Int) (A0_2 : Option Addr) (c0_2 : Nat) (l0_2 : List Int) (A1 : Option Addr) (c1 : Nat) (l1 : List Int) (r : Bool) (w : World) (hr0_2 : Kd.C (Kd.int .i64) w A0_2 l0_2.length l0_2) (hc0_2 : l0_2.length ≤ c0_2) (hr1 : Kd.C (Kd.int .i64) w A1 l1.length l1) (hc1 : l1.length ≤ c1) (h : impl_Sea_areCells.f a0_0 a0_1 l0_2 l1 = some r) :
    Calls Try.prog 74 #[.agg #[.int .i64 a0_0, .int .i64 a0_1, .slice A0_2 l0_2.length c0_2], .slice A1 l1.length c1] w fun e w' => e = .returned (.bool r) ∧ Below w.heap.size w w' := by
  have hu28 := Try.underlying28
  have HR0_2 := Aside0.mk hr0_2
  have HC0_2 := Aside0.mk hc0_2
  clear hr0_2 hc0_2
  have HR1 := Aside0.mk hr1
  have HC1 := Aside0.mk hc1
  clear hr1 hc1
  have HB := Aside0.mk (Below.refl w.heap.size w)
  unfold impl_Sea_areCells.f at h
  split at h <;> rename_i hlen
  case isFalse => cases h
  obtain ⟨t403, ht403⟩ : ∃ t, isort l1 = t := ⟨_, rfl⟩
  obtain ⟨t406, A50⟩ : ∃ t, impl_Sea_cells.f a0_0 a0_1 l0_2 = some t := ⟨_, rfl⟩
  have h406 : t406 = wrap64 (a0_0 * a0_1) := by unfold impl_Sea_cells.f at A50; exact (Option.some.inj A50).symm
  have A5 := Aside0.mk A50
  clear A50
  rw [ht403, ← h406] at h
  obtain ⟨k, A60⟩ := Ev.rounds (ev_rising t403 0 (wrap64 (t406 - 1)) (by rw [← ht403, isort_length]; omega))
  rw [h] at A60
  clear h
  obtain ⟨t407, rfl⟩ : ∃ t, t = r := ⟨r, rfl⟩
  have A6 := Aside0.mk A60
  clear A60 h406
  go_enter Try.func74, Try.ntmps74
  try go_wp2_with (first | ((with_reducible refine gate_dst (N := 2) rfl ?_); refine box_event ?hg (N := 2) ?hd (cs := #[.int .i64 a0_0, .int .i64 a0_1, .slice A0_2 l0_2.length c0_2]) (t := 28) ?hr ?_; (case hd => rfl); (case hg => rfl); (case hr => first | (go_simp; done) | (go_simp; rfl)); intro gb399 hg w7 hbox hb; have n0_ := Aside0.mk (below_step (by repeat (first | (with_reducible first | exact HB.out | apply below_alloc | apply pw_below_drewN | apply below_drew1) | exact HB.out)) hb); have n1_ := Aside0.mk (hbox); have n2_ := Aside0.mk ((by rw [hg]; exact (below_size (by repeat (first | (with_reducible first | exact HB.out | apply below_alloc | apply pw_below_drewN | apply below_drew1) | exact HB.out))) : w.heap.size ≤ gb399)); have n3_ := Aside0.mk ((by rw [hg]; exact (below_size (by repeat (first | (with_reducible first | exact HB.out | apply below_alloc | apply pw_below_drewN | apply below_drew1) | exact HB.out))) : w.heap.size ≤ gb399)); clear HB; have HB := n0_; have BK399 := n1_; have GW399 := n2_; have GE399 := n3_; clear n0_ n1_ n2_ n3_; clear hb hbox hg))
  have n0_ := Aside0.mk (blk_drew BK399.out)
  have n1_ := Aside0.mk (below_drew1 HB.out)
  clear BK399
  clear HB
  have BK399 := n0_
  have HB := n1_
  clear n0_ n1_
  refine start_ (n := 8) (S := fun w' => w'.cell? ⟨gb399, 0, none⟩ = some (.int .i64 a0_0) ∧ w'.cell? ⟨gb399, 1, none⟩ = some (.int .i64 a0_1) ∧ w'.cell? ⟨gb399, 2, none⟩ = some (.slice A0_2 l0_2.length c0_2)) (ds := []) #[false, false, false, false, false, false, false, false] (by kernel_rfl) rfl rfl ⟨(blk_cell BK399.out 0).trans rfl, (blk_cell BK399.out 1).trans rfl, (blk_cell BK399.out 2).trans rfl⟩ (fun hHeld => ?_); refine with_tabW impl_Sea_areCells.tab1 impl_Sea_areCells.bits1 (fun HT_ HW_ => ?_)
  generalize w7.drew = w8 at BK399 HB hHeld ⊢
  refine pure_ (i := 0) (N := some 5) (v := ?_) (a' := ?_) #[true, false, false, false, false, false, false, false] rfl rfl (any_of HT_.out (by kernel_rfl)) (fun _ _ _ h => h) (Or.inl ⟨by rfl, ?_⟩) ?_ ?_
  rotate_left
  · intro w'
    go_simp
    with_reducible rfl
  rotate_left
  · simp only [Act.put, List.setIfInBounds_toArray, List.set_cons_zero, List.set_cons_succ, i64_w, i32_w]
    rfl
  refine take_ (i := 3) (N := some 8) (v := ?_) (a' := ?_) #[true, false, false, true, false, false, false, false] rfl rfl (take_ofW HT_.out HW_.out (by kernel_rfl)) (fun _ _ _ h => h) (Or.inl ⟨by rfl, ?_⟩) hHeld ?_ ?_
  rotate_left
  · rintro w' ⟨s0, s1, s2⟩
    go_simp
    with_reducible rfl
  rotate_left
  · simp only [Act.put, List.setIfInBounds_toArray, List.set_cons_zero, List.set_cons_succ, i64_w, i32_w]
    rfl
  refine one_ (i := 1) (N := some 6) #[true, true, false, true, false, false, false, false] rfl rfl (one_of HT_.out (by kernel_rfl)) (by decide) (fun K hK => ?_)
  refine goes_ Try.func86 (by kernel_rfl) rfl #[.slice A1 l1.length c1] (by rfl) rfl rfl (by (try simp only [List.map_toArray, List.map_cons, List.map_nil]); first | done | rfl | (simp only [List.length_drop, List.length_take]; rfl)) ?_
  refine (values_calls A1 c1 l1 _).mono ?_
  rintro e w9 ⟨rfl, hbx, hb⟩
  refine ⟨_, rfl, ?_⟩
  obtain ⟨gv, hgv⟩ : ∃ g, w8.heap.size = g := ⟨_, rfl⟩
  rw [hgv] at hbx ⊢
  have HR1v := Aside0.mk (Kd.C_below (Kd.C_below HR1.out HB.out) hb)
  have BX := Aside0.mk hbx
  clear hbx
  have n1_ := Aside0.mk (blk_below (g := gb399) (o := .cells #[.int .i64 a0_0, .int .i64 a0_1, .slice A0_2 l0_2.length c0_2] 28 (0, 0)) (by (with_reducible repeat (first | refine blk_drewN ?_ _ | refine blk_drew ?_ | refine blk_alloc ?_ _)); exact BK399.out) hb)
  have n2_ := Aside0.mk (below_step (by repeat (first | (with_reducible first | exact HB.out | apply below_alloc | apply pw_below_drewN | apply below_drew1 | refine below_set ?_ GE399.out) | exact HB.out)) hb)
  clear BK399
  clear HB
  have BK399 := n1_
  have HB := n2_
  clear n1_ n2_
  (try clear hb)
  (try clear hb2)
  (try clear hk)
  (try clear hi)
  (try clear ho0)
  refine hK.out _ _ ⟨(blk_cell BK399.out 0).trans rfl, (blk_cell BK399.out 1).trans rfl, (blk_cell BK399.out 2).trans rfl⟩ (fun hHeld => ?_)
  clear hK K
  refine norm_ (a' := ?_) ?_ ?_
  rotate_left
  · show Act.put _ (some 6) _ = _
    simp only [Act.put, List.setIfInBounds_toArray, List.set_cons_zero, List.set_cons_succ, i64_w, i32_w]
    rfl
  refine one_ (i := 2) (N := some 7) #[true, true, true, true, false, false, false, false] rfl rfl (one_of HT_.out (by kernel_rfl)) (by decide) (fun K hK => ?_)
  refine goes_ Try.func85 (by kernel_rfl) rfl #[.func (.func 101) #[] #[.pointer (some ⟨gv, 0, none⟩)]] (by rfl) rfl rfl (by (try simp only [List.map_toArray, List.map_cons, List.map_nil]); first | done | rfl | (simp only [List.length_drop, List.length_take]; rfl)) ?_
  refine (sorted_values gv A1 c1 l1 _ BX.out HR1v.out hlen).mono ?_
  rintro e w11 ⟨v404, rfl, ho0, hb⟩
  refine ⟨_, rfl, ?_⟩
  rw [ht403] at ho0
  have n1_ := Aside0.mk (Kd.R_lower ho0 (below_size (by repeat (first | (with_reducible first | exact HB.out | apply below_alloc | apply pw_below_drewN | apply below_drew1 | refine below_set ?_ GE399.out) | exact HB.out))))
  have n2_ := Aside0.mk (blk_below (g := gb399) (o := .cells #[.int .i64 a0_0, .int .i64 a0_1, .slice A0_2 l0_2.length c0_2] 28 (0, 0)) (by (with_reducible repeat (first | refine blk_drewN ?_ _ | refine blk_drew ?_ | refine blk_alloc ?_ _)); exact BK399.out) hb)
  have n3_ := Aside0.mk (below_step (by repeat (first | (with_reducible first | exact HB.out | apply below_alloc | apply pw_below_drewN | apply below_drew1 | refine below_set ?_ GE399.out) | exact HB.out)) hb)
  clear BK399
  clear HB
  have HO405 := n1_
  have BK399 := n2_
  have HB := n3_
  clear n1_ n2_ n3_
  (try clear hb)
  (try clear hb2)
  (try clear hk)
  (try clear hi)
  (try clear ho0)
  refine hK.out _ _ ⟨(blk_cell BK399.out 0).trans rfl, (blk_cell BK399.out 1).trans rfl, (blk_cell BK399.out 2).trans rfl⟩ (fun hHeld => ?_)
  clear hK K
  refine norm_ (a' := ?_) ?_ ?_
  rotate_left
  · show Act.put _ (some 7) _ = _
    simp only [Act.put, List.setIfInBounds_toArray, List.set_cons_zero, List.set_cons_succ, i64_w, i32_w]
    rfl
  refine one_ (i := 4) (N := some 9) #[true, true, true, true, true, false, false, false] rfl rfl (one_of HT_.out (by kernel_rfl)) (by decide) (fun K hK => ?_)
  refine goes_ Try.func54 (by kernel_rfl) rfl #[.agg #[.int .i64 a0_0, .int .i64 a0_1, .slice A0_2 l0_2.length c0_2]] (by rfl) rfl rfl (by (try simp only [List.map_toArray, List.map_cons, List.map_nil]); first | done | rfl | (simp only [List.length_drop, List.length_take]; rfl)) ?_
  with_reducible refine (impl_Sea_cells.calls a0_0 a0_1 _ _ l0_2 t406 _ ?side1 ?side2 A5.out).mono ?_
  (case side1 => repeat (first | exact (Kd.C_below HR0_2.out HB.out) | (with_reducible refine Kd.C_alloc ?_ _) | (with_reducible refine Kd.C_drewN ?_ _) | (with_reducible refine Kd.C_drew ?_)))
  (case side2 => exact HC0_2.out)
  rintro e w12 ⟨rfl, hb⟩
  refine ⟨_, rfl, ?_⟩
  have n1_ := Aside0.mk (Kd.R_below (by (with_reducible repeat (first | apply Kd.R_alloc | apply Kd.R_drewN | apply Kd.R_drew)); exact HO405.out) hb)
  have n2_ := Aside0.mk (blk_below (g := gb399) (o := .cells #[.int .i64 a0_0, .int .i64 a0_1, .slice A0_2 l0_2.length c0_2] 28 (0, 0)) (by (with_reducible repeat (first | refine blk_drewN ?_ _ | refine blk_drew ?_ | refine blk_alloc ?_ _)); exact BK399.out) hb)
  have n3_ := Aside0.mk (below_step (by repeat (first | (with_reducible first | exact HB.out | apply below_alloc | apply pw_below_drewN | apply below_drew1 | refine below_set ?_ GE399.out) | exact HB.out)) hb)
  clear HO405
  clear BK399
  clear HB
  have HO405 := n1_
  have BK399 := n2_
  have HB := n3_
  clear n1_ n2_ n3_
  (try clear hb)
  (try clear hb2)
  (try clear hk)
  (try clear hi)
  obtain ⟨Ao13, co13, eo13⟩ := Kd.R_slice HO405.out
  (first | subst eo13 | (injection eo13 with f1_ f2_ f3_; have f4_ := f1_.symm; have f5_ := f3_.symm; clear f1_ f2_ f3_; subst f4_; subst f5_))
  refine hK.out _ _ ⟨(blk_cell BK399.out 0).trans rfl, (blk_cell BK399.out 1).trans rfl, (blk_cell BK399.out 2).trans rfl⟩ (fun hHeld => ?_)
  clear hK K
  refine norm_ (a' := ?_) ?_ ?_
  rotate_left
  · show Act.put _ (some 9) _ = _
    simp only [Act.put, List.setIfInBounds_toArray, List.set_cons_zero, List.set_cons_succ, i64_w, i32_w]
    rfl
  refine pure_ (i := 5) (N := some 10) (v := ?_) (a' := ?_) #[true, true, true, true, true, true, false, false] rfl rfl (any_of HT_.out (by kernel_rfl)) (fun _ _ _ h => h) (Or.inl ⟨by rfl, ?_⟩) ?_ ?_
  rotate_left
  · intro w'
    go_simp
    with_reducible rfl
  rotate_left
  · simp only [Act.put, List.setIfInBounds_toArray, List.set_cons_zero, List.set_cons_succ, i64_w, i32_w]
    rfl
  refine one_ (i := 6) (N := some 11) #[true, true, true, true, true, true, true, false] rfl rfl (one_of HT_.out (by kernel_rfl)) (by decide) (fun K hK => ?_)
  refine goes_ Try.func84 (by kernel_rfl) rfl #[.slice Ao13 t403.length co13, .int .i64 0, .int .i64 (wrap64 (t406 - 1))] (by rfl) rfl rfl (by (try simp only [List.map_toArray, List.map_cons, List.map_nil]); first | done | rfl | (simp only [List.length_drop, List.length_take]; rfl)) ?_
  with_reducible refine (impl_isRising.calls k _ _ t403 0 (wrap64 (t406 - 1)) t407 _ ?side1 ?side2 A6.out).mono ?_
  (case side1 => repeat (first | exact (Kd.R_reads' HO405.out).2.2 | (with_reducible refine Kd.C_alloc ?_ _) | (with_reducible refine Kd.C_drewN ?_ _) | (with_reducible refine Kd.C_drew ?_)))
  (case side2 => exact (Kd.R_reads' HO405.out).2.1)
  rintro e w' ⟨rfl, ⟨nd, rfl⟩⟩
  refine ⟨_, rfl, ?_⟩
  refine hK.out _ _ ⟨(blk_cell BK399.out 0).trans rfl, (blk_cell BK399.out 1).trans rfl, (blk_cell BK399.out 2).trans rfl⟩ (fun hHeld => ?_)
  clear hK K
  refine norm_ (a' := ?_) ?_ ?_
  rotate_left
  · show Act.put _ (some 11) _ = _
    simp only [Act.put, List.setIfInBounds_toArray, List.set_cons_zero, List.set_cons_succ, i64_w, i32_w]
    rfl
  refine pure_ (i := 7) (N := some 4) (v := ?_) (a' := ?_) #[true, true, true, true, true, true, true, true] rfl rfl (any_of HT_.out (by kernel_rfl)) (fun _ _ _ h => h) (Or.inl ⟨by rfl, ?_⟩) ?_ ?_
  rotate_left
  · intro w'
    go_simp
    with_reducible rfl
  rotate_left
  · simp only [Act.put, List.setIfInBounds_toArray, List.set_cons_zero, List.set_cons_succ, i64_w, i32_w]
    rfl
  refine done_ (done_of HT_.out (by kernel_rfl)) ?_
  try go_wp2
  go_ret
  exact ⟨by first | rfl | (simp [errW_none, errW_some] <;> rfl) | (simp [*, errW_none, errW_some] <;> rfl), by repeat (first | (with_reducible first | exact HB.out | apply below_alloc | apply pw_below_drewN | apply below_drew1 | refine below_set ?_ GE399.out) | exact HB.out)⟩
end Go.Proofs.Ytankgbfddgpfmaa.PAll
