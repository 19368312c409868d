/- Answers to shots: different cells, and what is answered. -/
import Derived.Test.YtankgbfddgpfmaaGCells
import Derived.Test.YtankgbfddgpfmaaGAre
import Derived.Test.YtankgbfddgpfmaaGAre
import Derived.Test.YtankgbfddgpfmaaPAllx1
import Derived.Test.YtankgbfddgpfmaaPAllx14
import Derived.Test.YtankgbfddgpfmaaPAllx17
import Derived.Test.YtankgbfddgpfmaaPAllx19
import Derived.Test.YtankgbfddgpfmaaPAllx21
import Derived.Test.YtankgbfddgpfmaaPAllx22
namespace Go.Proofs.Ytankgbfddgpfmaa.PAll
open Go.RowKit Go.Proofs.YtankgbfddgpfmaaW.PrintWords Go.Proofs.YtankgbfddgpfmaaW.PrintLast Go.Proofs.Ytankgbfddgpfmaa.GInts
set_option linter.unusedVariables false

theorem pow_le25 (n : Nat) (h : n ≤ 24) : (2 : Nat) ^ n < 33554432 := by
  have : (2 : Nat) ^ n ≤ 2 ^ 24 := Nat.pow_le_pow_right (by decide) h
  omega
theorem and1 (a : Nat) (ha : a < 33554432) : Go.bits .and .i64 (a : Int) 1 = ((a % 2 : Nat) : Int) := by
  have := and_nat a 1 ha (by omega)
  rw [Nat.and_one_is_mod] at this
  exact this
theorem shr_nat (a c : Nat) (hc : c ≤ 64) : shr .i64 (a : Int) (c : Int) = ((a / 2 ^ c : Nat) : Int) := by
  show (a : Int) / 2 ^ min (c : Int).toNat 64 = _
  rw [Int.toNat_natCast, Nat.min_eq_left hc, Int.natCast_ediv]
  rfl
theorem has_nat (a c : Nat) (ha : a < 33554432) (hc : c ≤ 64) : has (a : Int) (c : Int) = a.testBit c := by
  have h1 : a / 2 ^ c < 33554432 := Nat.lt_of_le_of_lt (Nat.div_le_self _ _) ha
  unfold has
  rw [shr_nat a c hc, and1 _ h1, Nat.testBit_eq_decide_div_mod_eq]
  by_cases h : a / 2 ^ c % 2 = 1
  · rw [h]; rfl
  · have h0 : a / 2 ^ c % 2 = 0 := by omega
    rw [h0]; rfl
theorem has_cases (x c : Int) (hx : Cs x) (hc0 : 0 ≤ c) (hc : c ≤ 64) : (has x c = true ∧ Go.bits .and .i64 (shr .i64 x c) 1 = 1) ∨ (has x c = false ∧ Go.bits .and .i64 (shr .i64 x c) 1 = 0) := by
  obtain ⟨a, rfl⟩ := Int.eq_ofNat_of_zero_le hx.1
  obtain ⟨n, rfl⟩ := Int.eq_ofNat_of_zero_le hc0
  have ha : a < 33554432 := by have := hx.2; omega
  have h1 : a / 2 ^ n < 33554432 := Nat.lt_of_le_of_lt (Nat.div_le_self _ _) ha
  have e : Go.bits .and .i64 (shr .i64 (a : Int) (n : Int)) 1 = ((a / 2 ^ n % 2 : Nat) : Int) := by rw [shr_nat a n (by omega), and1 _ h1]
  unfold has
  rw [e]
  by_cases h : a / 2 ^ n % 2 = 1
  · rw [h]; exact Or.inl ⟨rfl, rfl⟩
  · have h0 : a / 2 ^ n % 2 = 0 := by omega
    rw [h0]; exact Or.inr ⟨rfl, rfl⟩
theorem shl1 (c : Nat) (hc : c ≤ 24) : shl .i64 1 (c : Int) = ((2 ^ c : Nat) : Int) := by
  have : c = 0 ∨ c = 1 ∨ c = 2 ∨ c = 3 ∨ c = 4 ∨ c = 5 ∨ c = 6 ∨ c = 7 ∨ c = 8 ∨ c = 9 ∨ c = 10 ∨ c = 11 ∨ c = 12 ∨ c = 13 ∨ c = 14 ∨ c = 15 ∨ c = 16 ∨ c = 17 ∨ c = 18 ∨ c = 19 ∨ c = 20 ∨ c = 21 ∨ c = 22 ∨ c = 23 ∨ c = 24 := by omega
  rcases this with rfl | rfl | rfl | rfl | rfl | rfl | rfl | rfl | rfl | rfl | rfl | rfl | rfl | rfl | rfl | rfl | rfl | rfl | rfl | rfl | rfl | rfl | rfl | rfl | rfl <;> first | rfl | decide
/-- One cell more. -/
def plus (x c : Int) : Int := Go.bits .or .i64 x (shl .i64 1 c)
theorem plus_cs {x c : Int} (hx : Cs x) (h0 : 0 ≤ c) (h1 : c ≤ 24) : Cs (plus x c) := by
  obtain ⟨n, rfl⟩ := Int.eq_ofNat_of_zero_le h0
  have := pow_le25 n (by omega)
  unfold plus; rw [shl1 n (by omega)]
  exact or_cs hx ⟨Int.natCast_nonneg _, Int.ofNat_lt.mpr this⟩
theorem plus_has {x c d : Int} (hx : Cs x) (h0 : 0 ≤ c) (h1 : c ≤ 24) (g0 : 0 ≤ d) (g1 : d ≤ 24) : has (plus x c) d = (has x d || decide (c = d)) := by
  obtain ⟨a, rfl⟩ := Int.eq_ofNat_of_zero_le hx.1
  obtain ⟨n, rfl⟩ := Int.eq_ofNat_of_zero_le h0
  obtain ⟨m, rfl⟩ := Int.eq_ofNat_of_zero_le g0
  have ha : a < 33554432 := by have := hx.2; omega
  have hp := pow_le25 n (by omega)
  unfold plus
  rw [shl1 n (by omega), or_nat a _ ha hp, has_nat _ m (or_lt a _ ha hp) (by omega), has_nat a m ha (by omega), Nat.testBit_or, Nat.testBit_two_pow]
  by_cases e : n = m
  · subst e; simp
  · have e' : ¬ ((n : Int) = (m : Int)) := by omega
    rw [decide_eq_false e, decide_eq_false e']

/-- Are cells of a list different, and of those up to m? seen: those ahead of the list. -/
def diffB (m : Int) : List Int → List Int → Bool
  | _, [] => true
  | seen, c :: t => decide (0 ≤ c ∧ c ≤ m) && (!(decide (c ∈ seen)) && diffB m (c :: seen) t)
theorem ev_different (W H : Int) (l cells : List Int) (m : Int) (hm : wrap64 (wrap64 (W * H) - 1) = m) (hm2 : m ≤ 24) (hc : cells.length ≤ 35184372088832) : Ev (fun k => spec_l09Different.f k W H l cells) (diffB m [] cells) := by
  unfold spec_l09Different.f
  suffices h : ∀ (d i : Nat) (x : Int) (seen : List Int), i + d = cells.length → Cs x → (∀ c, 0 ≤ c → c ≤ 24 → has x c = decide (c ∈ seen)) → Ev (fun k => spec_l09Different.l0 k cells x (i : Int) W H l) (diffB m seen (cells.drop i)) from by
    have := h cells.length 0 0 [] (by omega) ⟨by omega, by omega⟩ (fun c h0 h1 => by
      obtain ⟨n, rfl⟩ := Int.eq_ofNat_of_zero_le h0
      rw [show (0 : Int) = ((0 : Nat) : Int) from rfl, has_nat 0 n (by omega) (by omega)]; simp)
    simpa using this
  intro d
  induction d with
  | zero =>
    intro i x seen hi hx hs
    have h1 : ¬ ((i : Int) < (cells.length : Int)) := by omega
    refine Ev.succ ?_
    simp only [spec_l09Different.l0, if_neg h1]
    exact Ev.cast (Ev.now _) (by rw [List.drop_of_length_le (by omega)]; rfl)
  | succ d ih =>
    intro i x seen hi hx hs
    have h1 : (i : Int) < (cells.length : Int) := by omega
    have h2 : (0 : Int) ≤ (i : Int) := by omega
    have h4 : wrap64 ((i : Int) + 1) = ((i + 1 : Nat) : Int) := by rw [w64 (by omega) (by omega)]; omega
    have hd : cells.drop i = rd cells (i : Int) :: cells.drop (i + 1) := by rw [List.drop_eq_getElem_cons (by omega), rd_nat cells i (by omega)]
    generalize rd cells (i : Int) = c at hd
    have hrd : rd cells (i : Int) = c := by
      have := congrArg (fun z => z[0]?) hd
      rw [List.drop_eq_getElem_cons (by omega)] at this
      simp only [List.getElem?_cons_zero, Option.some.injEq] at this
      rw [rd_nat cells i (by omega)]; exact this
    rw [hd]
    refine Ev.succ ?_
    simp only [spec_l09Different.l0, if_pos h1, if_pos h2, in_f, Option.bind_some, hm, hrd, h4]
    by_cases hw : 0 ≤ c ∧ c ≤ m
    · have hu : IntKind.u64.wrap c = c := u64_small _ hw.1 (by omega)
      simp only [decide_eq_true hw, if_true, hu, if_pos hw.1]
      have hsc := hs c hw.1 (by omega)
      rcases has_cases x c hx hw.1 (by omega) with ⟨e1, e2⟩ | ⟨e1, e2⟩
      · simp only [if_pos e2]
        rw [e1] at hsc
        exact Ev.cast (Ev.now _) (by simp only [diffB, ← hsc, Bool.not_true, Bool.false_and, Bool.and_false])
      · have e3 : ¬ (Go.bits .and .i64 (shr .i64 x c) 1 = 1) := by rw [e2]; decide
        simp only [if_neg e3]
        rw [e1] at hsc
        refine Ev.cast (ih (i + 1) (plus x c) (c :: seen) (by omega) (plus_cs hx hw.1 (by omega)) (fun d h0 h1 => ?_)) (by simp only [diffB, ← hsc, decide_eq_true hw, Bool.not_false, Bool.true_and])
        rw [plus_has hx hw.1 (by omega) h0 h1, hs d h0 h1]
        by_cases z : c = d
        · subst z; simp
        · have z' : ¬ d = c := fun y => z y.symm
          simp [z, z']
    · simp only [decide_eq_false hw, Bool.false_eq_true, if_false]
      exact Ev.cast (Ev.now _) (by simp only [diffB, decide_eq_false hw, Bool.false_and])

theorem diffB_iff (m : Int) : ∀ (l seen : List Int), diffB m seen l = true ↔ ((∀ c ∈ l, 0 ≤ c ∧ c ≤ m) ∧ l.Nodup ∧ ∀ c ∈ l, c ∉ seen) := by
  intro l
  induction l with
  | nil => intro seen; simp [diffB]
  | cons c t ih =>
    intro seen
    simp only [diffB, Bool.and_eq_true, decide_eq_true_eq, Bool.not_eq_true', decide_eq_false_iff_not, ih, List.mem_cons, List.nodup_cons]
    constructor
    · rintro ⟨h1, h2, h3, h4, h5⟩
      refine ⟨?_, ⟨fun hc => h5 c hc (Or.inl rfl), h4⟩, ?_⟩
      · rintro z (rfl | hz)
        · exact h1
        · exact h3 z hz
      · rintro z (rfl | hz)
        · exact h2
        · exact fun hs => h5 z hz (Or.inr hs)
    · rintro ⟨h1, ⟨h2, h3⟩, h4⟩
      refine ⟨h1 c (Or.inl rfl), h4 c (Or.inl rfl), fun z hz => h1 z (Or.inr hz), h3, fun z hz => ?_⟩
      rintro (rfl | hs)
      · exact h2 hz
      · exact h4 z (Or.inr hz) hs
theorem risingB_some (a b : Int) : ∀ (l : List Int) (p : Int), risingB a b (some p) l = true ↔ ((∀ c ∈ l, a ≤ c ∧ c ≤ b) ∧ (p :: l).Pairwise (· < ·)) := by
  intro l
  induction l with
  | nil => intro p; simp [risingB]
  | cons x t ih =>
    intro p
    simp only [risingB, Bool.and_eq_true, decide_eq_true_eq, Bool.not_eq_true', decide_eq_false_iff_not, ih, List.pairwise_cons, List.mem_cons]
    constructor
    · rintro ⟨h1, h2, h3, h4, h5⟩
      refine ⟨?_, ?_, h4, h5⟩
      · rintro z (rfl | hz)
        · exact h1
        · exact h3 z hz
      · rintro z (rfl | hz)
        · omega
        · have := h4 z hz; omega
    · rintro ⟨h1, h2, h3, h4⟩
      exact ⟨h1 x (Or.inl rfl), by have := h2 x (Or.inl rfl); omega, fun z hz => h1 z (Or.inr hz), h3, h4⟩
theorem risingB_none (a b : Int) (l : List Int) : risingB a b none l = true ↔ ((∀ c ∈ l, a ≤ c ∧ c ≤ b) ∧ l.Pairwise (· < ·)) := by
  cases l with
  | nil => simp [risingB]
  | cons x t =>
    simp only [risingB, Bool.and_eq_true, decide_eq_true_eq, risingB_some, List.mem_cons]
    constructor
    · rintro ⟨h1, h2, h3⟩
      refine ⟨?_, h3⟩
      rintro z (rfl | hz)
      · exact h1
      · exact h2 z hz
    · rintro ⟨h1, h2⟩
      exact ⟨h1 x (Or.inl rfl), fun z hz => h1 z (Or.inr hz), h2⟩
theorem pairwise_lt_of (l : List Int) (h : l.Pairwise (fun a b => decide (a ≤ b) = true)) : l.Pairwise (· < ·) ↔ l.Nodup := by
  induction l with
  | nil => simp
  | cons x t ih =>
    have h' := List.pairwise_cons.1 h
    rw [List.pairwise_cons, List.nodup_cons, ih h'.2]
    constructor
    · rintro ⟨h1, h2⟩
      exact ⟨fun hx => by have := h1 x hx; omega, h2⟩
    · rintro ⟨h1, h2⟩
      refine ⟨fun z hz => ?_, h2⟩
      have h3 := h'.1 z hz
      have h4 : z ≠ x := fun e => h1 (e ▸ hz)
      have h5 : x ≤ z := by simpa using h3
      omega
theorem diff_rising (m : Int) (l : List Int) : risingB 0 m none (isort l) = diffB m [] l := by
  have hp := List.mergeSort_perm l fun x y => decide (x ≤ y)
  have hs := List.pairwise_mergeSort (le := fun (x y : Int) => decide (x ≤ y)) (fun a b c h1 h2 => by simp at *; omega) (fun a b => by simp; omega) l
  rw [mergeSort_isort] at hp hs
  rw [Bool.eq_iff_iff, risingB_none, diffB_iff, pairwise_lt_of _ hs, hp.nodup_iff]
  constructor
  · rintro ⟨h1, h2⟩
    exact ⟨fun c hc => h1 c (hp.mem_iff.2 hc), h2, fun c _ => by simp⟩
  · rintro ⟨h1, h2, _⟩
    exact ⟨fun c hc => h1 c (hp.mem_iff.1 hc), h2⟩

/-- The answer to a shot. -/
def ansL (c s : Int) : List Int → Int
  | [] => 0
  | y :: t => if has y c = true then (if Go.bits .andNot .i64 y s = 0 then 2 else 1) else ansL c s t
theorem ev_spec_answer (f : List Int) (c s : Int) (hf : ∀ y ∈ f, Cs y) (h0 : 0 ≤ c) (h1 : c ≤ 64) (hm : f.length ≤ 35184372088832) : Ev (fun k => spec_l09Answer.f k f c s) (ansL c s f) := by
  unfold spec_l09Answer.f
  suffices h : ∀ (d i : Nat), i + d = f.length → Ev (fun k => spec_l09Answer.l0 k f c s (i : Int)) (ansL c s (f.drop i)) from by simpa using h f.length 0 (by omega)
  have hu : IntKind.u64.wrap c = c := u64_small _ h0 (by omega)
  intro d
  induction d with
  | zero =>
    intro i hi
    have h1 : ¬ ((i : Int) < (f.length : Int)) := by omega
    refine Ev.succ ?_
    simp only [spec_l09Answer.l0, if_neg h1]
    exact Ev.cast (Ev.now _) (by rw [List.drop_of_length_le (by omega)]; rfl)
  | succ d ih =>
    intro i hi
    have g1 : (i : Int) < (f.length : Int) := by omega
    have g2 : (0 : Int) ≤ (i : Int) := by omega
    have h4 : wrap64 ((i : Int) + 1) = ((i + 1 : Nat) : Int) := by rw [w64 (by omega) (by omega)]; omega
    have hd : f.drop i = f[i] :: f.drop (i + 1) := List.drop_eq_getElem_cons (by omega)
    rw [hd]
    refine Ev.succ ?_
    simp only [spec_l09Answer.l0, if_pos g1, if_pos g2, hu, if_pos h0, h4, rd_nat f i (by omega)]
    rcases has_cases f[i] c (hf _ (List.getElem_mem _)) h0 h1 with ⟨e1, e2⟩ | ⟨e1, e2⟩
    · have e3 : ¬ (Go.bits .and .i64 (shr .i64 f[i] c) 1 = 0) := by rw [e2]; decide
      simp only [if_neg e3]
      by_cases z : Go.bits .andNot .i64 f[i] s = 0
      · simp only [if_pos z]; exact Ev.cast (Ev.now _) (by simp only [ansL, e1, if_true, if_pos z])
      · simp only [if_neg z]; exact Ev.cast (Ev.now _) (by simp only [ansL, e1, if_true, if_neg z])
    · simp only [if_pos e2]
      exact Ev.cast (ih (i + 1) (by omega)) (by simp only [ansL, e1, Bool.false_eq_true, if_false])
theorem ev_impl_answer (f : List Int) (c x : Int) (hf : ∀ y ∈ f, Cs y) (h0 : 0 ≤ c) (h1 : c ≤ 64) (hm : f.length ≤ 35184372088832) : Ev (fun k => impl_answer.f k f x c) (ansL c (plus x c) f) := by
  unfold impl_answer.f
  suffices h : ∀ (d i : Nat), i + d = f.length → Ev (fun k => impl_answer.l0 k x c f (f.length : Int) (i : Int)) (ansL c (plus x c) (f.drop i)) from by simpa using h f.length 0 (by omega)
  intro d
  induction d with
  | zero =>
    intro i hi
    have h1 : ¬ ((i : Int) < (f.length : Int)) := by omega
    refine Ev.succ ?_
    simp only [impl_answer.l0, if_neg h1]
    exact Ev.cast (Ev.now _) (by rw [List.drop_of_length_le (by omega)]; rfl)
  | succ d ih =>
    intro i hi
    have g1 : (i : Int) < (f.length : Int) := by omega
    have g2 : (0 : Int) ≤ (i : Int) := by omega
    have h4 : wrap64 ((i : Int) + 1) = ((i + 1 : Nat) : Int) := by rw [w64 (by omega) (by omega)]; omega
    have hd : f.drop i = f[i] :: f.drop (i + 1) := List.drop_eq_getElem_cons (by omega)
    rw [hd]
    refine Ev.succ ?_
    simp only [impl_answer.l0, if_pos g1, if_pos g2, if_pos h0, h4, rd_nat f i (by omega)]
    rcases has_cases f[i] c (hf _ (List.getElem_mem _)) h0 h1 with ⟨e1, e2⟩ | ⟨e1, e2⟩
    · simp only [if_pos e2]
      by_cases z : Go.bits .andNot .i64 f[i] (Go.bits .or .i64 x (shl .i64 1 c)) = 0
      · have hb : (Go.bits .andNot .i64 f[i] (Go.bits .or .i64 x (shl .i64 1 c)) == 0) = true := by simpa using z
        simp only [hb, impl_bit.f, if_true, Option.bind_some]
        exact Ev.cast (Ev.now _) (by have z' : Go.bits .andNot .i64 f[i] (plus x c) = 0 := z; simp only [ansL, e1, if_true, if_pos z']; exact w64 (by omega) (by omega))
      · have hb : (Go.bits .andNot .i64 f[i] (Go.bits .or .i64 x (shl .i64 1 c)) == 0) = false := by simpa using z
        simp only [hb, impl_bit.f, Bool.false_eq_true, if_false, Option.bind_some]
        exact Ev.cast (Ev.now _) (by have z' : ¬ Go.bits .andNot .i64 f[i] (plus x c) = 0 := z; simp only [ansL, e1, if_true, if_neg z']; exact w64 (by omega) (by omega))
    · have e3 : ¬ (Go.bits .and .i64 (shr .i64 f[i] c) 1 = 1) := by rw [e2]; decide
      simp only [if_neg e3]
      exact Ev.cast (ih (i + 1) (by omega)) (by simp only [ansL, e1, Bool.false_eq_true, if_false])
/-- The answers to shots at cells, one behind the other; x: the cells shot at ahead. -/
def answers (f : List Int) : Int → List Int → List Int
  | _, [] => []
  | x, c :: t => ansL c (plus x c) f :: answers f (plus x c) t
theorem answers_length (f : List Int) : ∀ (l : List Int) (x : Int), (answers f x l).length = l.length := by
  intro l
  induction l with
  | nil => intro x; rfl
  | cons c t ih => intro x; simp [answers, ih]
theorem ev_spec_answers (f cells : List Int) (hf : ∀ y ∈ f, Cs y) (hc : ∀ c ∈ cells, 0 ≤ c ∧ c ≤ 24) (hm : f.length ≤ 35184372088832) (hcm : cells.length ≤ 1048576) : Ev (fun k => spec_AnswersOf.l0 k f cells [] 0 0) (answers f 0 cells, 0) := by
  suffices h : ∀ (d i : Nat) (x : Int) (out : List Int), i + d = cells.length → out.length = i → Ev (fun k => spec_AnswersOf.l0 k f cells out x (i : Int)) (out ++ answers f x (cells.drop i), 0) from by simpa using h cells.length 0 0 [] (by omega) rfl
  intro d
  induction d with
  | zero =>
    intro i x out hi ho
    have h1 : ¬ ((i : Int) < (cells.length : Int)) := by omega
    refine Ev.succ ?_
    simp only [spec_AnswersOf.l0, if_neg h1]
    exact Ev.cast (Ev.now _) (by rw [List.drop_of_length_le (by omega)]; simp [answers])
  | succ d ih =>
    intro i x out hi ho
    have h1 : (i : Int) < (cells.length : Int) := by omega
    have h2 : (0 : Int) ≤ (i : Int) := by omega
    have h4 : wrap64 ((i : Int) + 1) = ((i + 1 : Nat) : Int) := by rw [w64 (by omega) (by omega)]; omega
    have h5 : out.length < 17592186044416 := by omega
    have hd : cells.drop i = cells[i] :: cells.drop (i + 1) := List.drop_eq_getElem_cons (by omega)
    have hcc := hc cells[i] (List.getElem_mem _)
    have hu : IntKind.u64.wrap cells[i] = cells[i] := u64_small _ hcc.1 (by omega)
    rw [hd]
    refine Ev.succ ?_
    simp only [spec_AnswersOf.l0, if_pos h1, if_pos h2, rd_nat cells i (by omega), hu, if_pos hcc.1, if_pos h5, h4]
    refine Ev.bind (ev_spec_answer f cells[i] _ hf hcc.1 (by omega) hm) ?_
    exact Ev.cast (ih (i + 1) (plus x cells[i]) (out ++ [ansL cells[i] (plus x cells[i]) f]) (by omega) (by simp; omega)) (by simp [answers])
theorem ev_impl_answers (f cells : List Int) (hf : ∀ y ∈ f, Cs y) (hc : ∀ c ∈ cells, 0 ≤ c ∧ c ≤ 24) (hm : f.length ≤ 35184372088832) (hcm : cells.length ≤ 1048576) : Ev (fun k => impl_AnswersOf.l0 k f [] 0 cells (cells.length : Int) 0) (answers f 0 cells, 0) := by
  suffices h : ∀ (d i : Nat) (x : Int) (out : List Int), i + d = cells.length → out.length = i → Ev (fun k => impl_AnswersOf.l0 k f out x cells (cells.length : Int) (i : Int)) (out ++ answers f x (cells.drop i), 0) from by simpa using h cells.length 0 0 [] (by omega) rfl
  intro d
  induction d with
  | zero =>
    intro i x out hi ho
    have h1 : ¬ ((i : Int) < (cells.length : Int)) := by omega
    refine Ev.succ ?_
    simp only [impl_AnswersOf.l0, if_neg h1]
    exact Ev.cast (Ev.now _) (by rw [List.drop_of_length_le (by omega)]; simp [answers])
  | succ d ih =>
    intro i x out hi ho
    have h1 : (i : Int) < (cells.length : Int) := by omega
    have h2 : (0 : Int) ≤ (i : Int) := by omega
    have h4 : wrap64 ((i : Int) + 1) = ((i + 1 : Nat) : Int) := by rw [w64 (by omega) (by omega)]; omega
    have h5 : out.length < 17592186044416 := by omega
    have hd : cells.drop i = cells[i] :: cells.drop (i + 1) := List.drop_eq_getElem_cons (by omega)
    have hcc := hc cells[i] (List.getElem_mem _)
    rw [hd]
    refine Ev.succ ?_
    simp only [impl_AnswersOf.l0, if_pos h1, if_pos h2, rd_nat cells i (by omega), if_pos hcc.1, if_pos h5, h4]
    refine Ev.bind (ev_impl_answer f cells[i] x hf hcc.1 (by omega) hm) ?_
    exact Ev.cast (ih (i + 1) (plus x cells[i]) (out ++ [ansL cells[i] (plus x cells[i]) f]) (by omega) (by simp; omega)) (by simp [answers])

theorem answers_agree (W H : Int) (l f cells : List Int) (hm : l.length ≤ 35184372088832) (hcm : cells.length ≤ 1048576) :
    ∃ P c, Ev (fun k => spec_AnswersOf.f k W H l f cells) (P, c) ∧ Ev (fun k => impl_AnswersOf.f k W H l f cells) (P, c) ∧ P.length ≤ 1048576 := by
  obtain ⟨b, h1, h2, h3⟩ := sea_agree W H l hm
  unfold spec_AnswersOf.f impl_AnswersOf.f spec_l09Code.f impl_fleetCode.f
  cases b with
  | false =>
    refine ⟨[], 1, Ev.bind (Ev.bind h1 (Ev.now _)) ?_, Ev.bind (Ev.bind h2 (Ev.now _)) ?_, by simp⟩
    · exact Ev.now _
    · exact Ev.now _
  | true =>
    have hs := h3 rfl
    obtain ⟨b, g1, g2, g3⟩ := fleet_agree W H l f hs
    cases b with
    | false =>
      refine ⟨[], 2, Ev.bind (a := 2) (Ev.bind h1 (Ev.bind g1 (Ev.now _))) (by simp only [show ¬ ((2 : Int) = 0) by decide, if_false]; exact Ev.now _), Ev.bind (a := 2) (Ev.bind h2 (Ev.bind g2 ?_)) (by simp only [show ¬ ((2 : Int) = 0) by decide, if_false]; exact Ev.now _), by simp⟩
      simp only [Bool.false_eq_true, if_false]
      exact Ev.bind (Ev.cast (first1 _ _) (by rfl)) (Ev.now _)
    | true =>
      have hf := g3 rfl
      have hfl : f.length ≤ 35184372088832 := by have := hf.n; omega
      have hcs : ∀ y ∈ f, Cs y := fun y hy => ⟨by have := hf.cs hs y hy; omega, (hf.cs hs y hy).2⟩
      obtain ⟨m, hmm⟩ : ∃ m, wrap64 (wrap64 (W * H) - 1) = m := ⟨_, rfl⟩
      have hle : W * H ≤ 25 ∧ 0 ≤ W * H := by
        rcases five hs.w with h | h | h | h | h <;> rw [h] <;> have := hs.h <;> omega
      have hm24 : m ≤ 24 := by
        rw [← hmm, w64 (x := W * H) (by omega) (by omega), w64 (by omega) (by omega)]; omega
      have hdf := ev_different W H l cells m hmm hm24 (by omega)
      have har : impl_Sea_areCells.f W H l cells = some (diffB m [] cells) := by
        unfold impl_Sea_areCells.f
        rw [if_pos hcm, hmm, diff_rising]
      have code0 : Ev (fun k => (spec_l09Is.f k W H l).bind fun t475 => (if t475 = true then ((spec_l09Fleet.f k W H l f).bind fun t476 => (if t476 = true then (some (0 : Int)) else (some 2))) else (some 1))) 0 := Ev.bind h1 (Ev.bind g1 (Ev.now _))
      cases hd : diffB m [] cells with
      | false =>
        rw [hd] at hdf har
        refine ⟨[], 2, Ev.bind code0 ?_, Ev.bind (a := 2) (Ev.bind h2 (Ev.bind g2 ?_)) (by simp only [show ¬ ((2 : Int) = 0) by decide, if_false]; exact Ev.now _), by simp⟩
        · simp only [if_true]
          exact Ev.bind hdf (Ev.now _)
        · simp only [if_true, har, Option.bind_some]
          exact Ev.bind (Ev.cast (first1 _ _) (by rfl)) (Ev.now _)
      | true =>
        rw [hd] at hdf har
        have hcc : ∀ c ∈ cells, 0 ≤ c ∧ c ≤ 24 := fun c hc => by have := ((diffB_iff m cells []).1 hd).1 c hc; omega
        refine ⟨answers f 0 cells, 0, Ev.bind code0 ?_, Ev.bind (a := 0) (Ev.bind h2 (Ev.bind g2 ?_)) ?_, by rw [answers_length]; exact hcm⟩
        · simp only [if_true]
          exact Ev.bind hdf (ev_spec_answers f cells hcs hcc hfl hcm)
        · simp only [if_true, har, Option.bind_some]
          exact Ev.bind (Ev.cast (first1 _ _) (by rfl)) (Ev.now _)
        · simp only [if_true]
          exact ev_impl_answers f cells hcs hcc hfl hcm
end Go.Proofs.Ytankgbfddgpfmaa.PAll
