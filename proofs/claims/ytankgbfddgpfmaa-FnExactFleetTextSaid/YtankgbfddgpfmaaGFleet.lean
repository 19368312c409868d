/- Fleets: the program's isFleet and the reference's agree; what a fleet's ships are. -/
import Derived.Test.YtankgbfddgpfmaaGPlace
import Derived.Laws.BitsLemmas
import Derived.Test.YtankgbfddgpfmaaPAllx14
import Derived.Test.YtankgbfddgpfmaaPAllx15
import Derived.Test.YtankgbfddgpfmaaPAllx16
namespace Go.Proofs.Ytankgbfddgpfmaa.PAll
open Go.RowKit Go.Proofs.YtankgbfddgpfmaaW.PrintWords Go.Proofs.YtankgbfddgpfmaaW.PrintLast
set_option linter.unusedVariables false

theorem wraps_i62 (n : Int) (h₀ : 0 ≤ n) (h₁ : n < 2 ^ 62) : IntKind.i64.wrap n = n := by rw [IntKind.wrap_i64]; omega
theorem and_nat (a b : Nat) (ha : a < 33554432) (hb : b < 33554432) : Go.bits .and .i64 (a : Int) (b : Int) = ((a &&& b : Nat) : Int) := (bits_nat .i64 62 (by decide) wraps_i62 a b (by omega) (by omega)).1
theorem or_nat (a b : Nat) (ha : a < 33554432) (hb : b < 33554432) : Go.bits .or .i64 (a : Int) (b : Int) = ((a ||| b : Nat) : Int) := (bits_nat .i64 62 (by decide) wraps_i62 a b (by omega) (by omega)).2
theorem or_lt (a b : Nat) (ha : a < 33554432) (hb : b < 33554432) : a ||| b < 33554432 := Nat.or_lt_two_pow (n := 25) ha hb

/-- Cells that a list of ships has. -/
def orl (l : List Int) : Int := l.foldl (Go.bits .or .i64) 0
theorem orl_snoc (l : List Int) (x : Int) : orl (l ++ [x]) = Go.bits .or .i64 (orl l) x := by simp [orl]
def Cs (x : Int) : Prop := 0 ≤ x ∧ x < 33554432
theorem or_cs {x y : Int} (hx : Cs x) (hy : Cs y) : Cs (Go.bits .or .i64 x y) := by
  obtain ⟨a, rfl⟩ := Int.eq_ofNat_of_zero_le hx.1
  obtain ⟨b, rfl⟩ := Int.eq_ofNat_of_zero_le hy.1
  have ha : a < 33554432 := by have := hx.2; omega
  have hb : b < 33554432 := by have := hy.2; omega
  rw [or_nat a b ha hb]
  exact ⟨by omega, by have := or_lt a b ha hb; omega⟩
theorem and_or {x u y : Int} (hx : Cs x) (hu : Cs u) (hy : Cs y) : (Go.bits .and .i64 x (Go.bits .or .i64 u y) = 0) ↔ (Go.bits .and .i64 x u = 0 ∧ Go.bits .and .i64 y x = 0) := by
  obtain ⟨a, rfl⟩ := Int.eq_ofNat_of_zero_le hx.1
  obtain ⟨b, rfl⟩ := Int.eq_ofNat_of_zero_le hu.1
  obtain ⟨c, rfl⟩ := Int.eq_ofNat_of_zero_le hy.1
  have ha : a < 33554432 := by have := hx.2; omega
  have hb : b < 33554432 := by have := hu.2; omega
  have hc : c < 33554432 := by have := hy.2; omega
  rw [or_nat b c hb hc, and_nat a _ ha (or_lt b c hb hc), and_nat a b ha hb, and_nat c a hc ha, Nat.and_comm c a]
  have e : a &&& (b ||| c) = a &&& b ||| a &&& c := Nat.and_or_distrib_left ..
  rw [e]
  constructor
  · intro h
    have h' : (a &&& b ||| a &&& c) = 0 := by omega
    constructor
    · have : a &&& b = 0 := by
        apply Nat.eq_of_testBit_eq; intro i
        have := congrArg (fun z => Nat.testBit z i) h'
        simp only [Nat.testBit_or, Nat.zero_testBit, Bool.or_eq_false_iff] at this
        rw [this.1, Nat.zero_testBit]
      omega
    · have : a &&& c = 0 := by
        apply Nat.eq_of_testBit_eq; intro i
        have := congrArg (fun z => Nat.testBit z i) h'
        simp only [Nat.testBit_or, Nat.zero_testBit, Bool.or_eq_false_iff] at this
        rw [this.2, Nat.zero_testBit]
      omega
  · rintro ⟨h1, h2⟩
    have h1' : a &&& b = 0 := by omega
    have h2' : a &&& c = 0 := by omega
    rw [h1', h2']; rfl
theorem and_self_ne {x : Int} (h0 : 0 < x) (h1 : x < 33554432) : Go.bits .and .i64 x x ≠ 0 := by
  obtain ⟨a, rfl⟩ := Int.eq_ofNat_of_zero_le (Int.le_of_lt h0)
  rw [and_nat a a (by omega) (by omega), Nat.and_self]; omega
theorem and_zero_cs {x : Int} (hx : Cs x) : Go.bits .and .i64 x 0 = 0 := by
  obtain ⟨a, rfl⟩ := Int.eq_ofNat_of_zero_le hx.1
  have := and_nat a 0 (by have := hx.2; omega) (by omega)
  rw [show ((0 : Nat) : Int) = 0 from rfl] at this
  rw [this, Nat.and_zero]; rfl

def hits (l : List Int) (x : Int) : Bool := l.any fun y => Go.bits .and .i64 y x != 0
theorem orl_hits (l : List Int) (x : Int) (hx : Cs x) (h : ∀ y ∈ l, Cs y) : (Go.bits .and .i64 x (orl l) = 0) ↔ hits l x = false := by
  suffices g : ∀ (l : List Int) (u : Int), Cs u → (∀ y ∈ l, Cs y) → ((Go.bits .and .i64 x (l.foldl (Go.bits .or .i64) u) = 0) ↔ (Go.bits .and .i64 x u = 0 ∧ hits l x = false)) by
    have := g l 0 ⟨by omega, by omega⟩ h
    rw [orl, this]
    constructor
    · exact fun h => h.2
    · exact fun h => ⟨and_zero_cs hx, h⟩
  intro l
  induction l with
  | nil => intro u hu _; simp [hits]
  | cons y l ih =>
    intro u hu h
    have hy := h y (by simp)
    have := ih (Go.bits .or .i64 u y) (or_cs hu hy) (fun z hz => h z (by simp [hz]))
    simp only [List.foldl_cons]
    rw [this, and_or hx hu hy]
    simp only [hits, List.any_cons, Bool.or_eq_false_iff, bne_eq_false_iff_eq]
    constructor
    · rintro ⟨⟨h1, h2⟩, h3⟩; exact ⟨h1, h2, h3⟩
    · rintro ⟨h1, h2, h3⟩; exact ⟨⟨h1, h2⟩, h3⟩

theorem ev_index (l : List Int) (x : Int) (hm : l.length ≤ 35184372088832) : ∀ (d i : Nat), i + d = l.length → ∃ r : Int, Ev (fun k => slices_Index_int64_int64.l0 k l x (l.length : Int) (i : Int)) r ∧ (r ≥ 0 ↔ x ∈ l.drop i) := by
  intro d
  induction d with
  | zero =>
    intro i hi
    refine ⟨-1, Ev.succ ?_, ?_⟩
    · have h1 : ¬ ((i : Int) < (l.length : Int)) := by omega
      simp only [slices_Index_int64_int64.l0, if_neg h1]; exact Ev.now _
    · rw [List.drop_of_length_le (by omega)]; simp
  | succ d ih =>
    intro i hi
    have h1 : (i : Int) < (l.length : Int) := by omega
    have h2 : (0 : Int) ≤ (i : Int) := by omega
    have h4 : wrap64 ((i : Int) + 1) = ((i + 1 : Nat) : Int) := by rw [w64 (by omega) (by omega)]; omega
    have hd : l.drop i = l[i] :: l.drop (i + 1) := by rw [List.drop_eq_getElem_cons (by omega)]
    by_cases e : x = l[i]
    · refine ⟨i, Ev.succ ?_, ?_⟩
      · simp only [slices_Index_int64_int64.l0, if_pos h1, if_pos h2, rd_nat l i (by omega), if_pos e]; exact Ev.now _
      · rw [hd]; exact ⟨fun _ => List.mem_cons.mpr (Or.inl e), fun _ => by omega⟩
    · obtain ⟨r, hr1, hr2⟩ := ih (i + 1) (by omega)
      refine ⟨r, Ev.succ ?_, ?_⟩
      · simp only [slices_Index_int64_int64.l0, if_pos h1, if_pos h2, rd_nat l i (by omega), if_neg e, h4]; exact hr1
      · rw [hd, hr2, List.mem_cons]; exact ⟨Or.inr, fun h => h.resolve_left e⟩
theorem ev_contains (l : List Int) (x : Int) (hm : l.length ≤ 35184372088832) : Ev (fun k => slices_Contains_int64_int64.f k l x) (decide (x ∈ l)) := by
  obtain ⟨r, h1, h2⟩ := ev_index l x hm l.length 0 (by omega)
  unfold slices_Contains_int64_int64.f slices_Index_int64_int64.f
  refine Ev.bind h1 (Ev.cast (Ev.now _) ?_)
  rw [List.drop_zero] at h2
  simp only [h2]
theorem ev_indexf (l : List Int) (x : Int) (hm : l.length ≤ 35184372088832) : ∀ (d i : Nat), i + d = l.length → ∃ r : Int, Ev (fun k => slices_IndexFunc_int64_int64_impl_Sea_goesOn_1.l0 k l (l.length : Int) (i : Int) x) r ∧ (decide (r ≥ 0) = hits (l.drop i) x) := by
  intro d
  induction d with
  | zero =>
    intro i hi
    refine ⟨-1, Ev.succ ?_, ?_⟩
    · have h1 : ¬ ((i : Int) < (l.length : Int)) := by omega
      simp only [slices_IndexFunc_int64_int64_impl_Sea_goesOn_1.l0, if_neg h1]; exact Ev.now _
    · rw [List.drop_of_length_le (by omega)]; simp [hits]
  | succ d ih =>
    intro i hi
    have h1 : (i : Int) < (l.length : Int) := by omega
    have h2 : (0 : Int) ≤ (i : Int) := by omega
    have h4 : wrap64 ((i : Int) + 1) = ((i + 1 : Nat) : Int) := by rw [w64 (by omega) (by omega)]; omega
    have hd : l.drop i = l[i] :: l.drop (i + 1) := by rw [List.drop_eq_getElem_cons (by omega)]
    cases e : (Go.bits .and .i64 l[i] x != 0) with
    | true =>
      refine ⟨i, Ev.succ ?_, ?_⟩
      · simp only [slices_IndexFunc_int64_int64_impl_Sea_goesOn_1.l0, impl_Sea_goesOn_1.f, if_pos h1, if_pos h2, rd_nat l i (by omega), Option.bind_some, e, if_true]; exact Ev.now _
      · rw [hd]; simp only [hits, List.any_cons, e, Bool.true_or]; exact decide_eq_true (by omega)
    | false =>
      obtain ⟨r, hr1, hr2⟩ := ih (i + 1) (by omega)
      refine ⟨r, Ev.succ ?_, ?_⟩
      · simp only [slices_IndexFunc_int64_int64_impl_Sea_goesOn_1.l0, impl_Sea_goesOn_1.f, if_pos h1, if_pos h2, rd_nat l i (by omega), Option.bind_some, e, Bool.false_eq_true, if_false, h4]; exact hr1
      · rw [hd, hr2]; simp only [hits, List.any_cons, e, Bool.false_or]
theorem ev_containsf (l : List Int) (x : Int) (hm : l.length ≤ 35184372088832) : Ev (fun k => slices_ContainsFunc_int64_int64_impl_Sea_goesOn_1.f k l x) (hits l x) := by
  obtain ⟨r, h1, h2⟩ := ev_indexf l x hm l.length 0 (by omega)
  unfold slices_ContainsFunc_int64_int64_impl_Sea_goesOn_1.f slices_IndexFunc_int64_int64_impl_Sea_goesOn_1.f
  refine Ev.bind h1 (Ev.cast (Ev.now _) ?_)
  rw [List.drop_zero] at h2
  exact h2

/-- May a ship be next behind others? -/
def goes (l f : List Int) (x : Int) : Bool := !(decide (0 < f.length ∧ rd l (f.length : Int) = rd l ((f.length : Int) - 1) ∧ x ≤ rd f ((f.length : Int) - 1))) && !hits f x
theorem ev_goesOn (W H : Int) (l f : List Int) (x : Int) (hl : f.length < l.length) (hm : l.length ≤ 35184372088832) : Ev (fun k => impl_Sea_goesOn.f k W H l f x) (goes l f x) := by
  unfold impl_Sea_goesOn.f
  have hc := ev_containsf f x (by omega)
  have fin : ∀ b : Bool, b = false → Ev (fun k => (slices_ContainsFunc_int64_int64_impl_Sea_goesOn_1.f k f x).bind fun t => some (!t)) (!b && !hits f x) := fun b hb => by subst hb; exact Ev.bind hc (Ev.cast (Ev.now _) (by simp))
  by_cases h : (f.length : Int) > 0
  · have h1 : (0 : Int) ≤ (f.length : Int) := by omega
    have h2 : (f.length : Int) < (l.length : Int) := by omega
    have h3 : wrap64 ((f.length : Int) - 1) = (f.length : Int) - 1 := w64 (by omega) (by omega)
    have h4 : (0 : Int) ≤ (f.length : Int) - 1 := by omega
    have h5 : (f.length : Int) - 1 < (l.length : Int) := by omega
    have h6 : (f.length : Int) - 1 < (f.length : Int) := by omega
    simp only [if_pos h, if_pos h1, if_pos h2, h3, if_pos h4, if_pos h5]
    by_cases e : rd l (f.length : Int) = rd l ((f.length : Int) - 1)
    · simp only [if_pos e, if_pos h6]
      by_cases g : x ≤ rd f ((f.length : Int) - 1)
      · simp only [if_pos g]
        exact Ev.cast (Ev.now _) (by unfold goes; rw [decide_eq_true ⟨by omega, e, g⟩]; rfl)
      · simp only [if_neg g]
        exact fin _ (decide_eq_false fun z => g z.2.2)
    · simp only [if_neg e]
      exact fin _ (decide_eq_false fun z => e z.2.1)
  · simp only [if_neg h]
    exact fin _ (decide_eq_false fun z => h (by omega))

/-- The inner loop of the reference: is a ship one of the placements? -/
theorem ev_known (W H : Int) (l f : List Int) (used : Int) (i : Nat) (P : List Int) (b : Bool) (hi : i < f.length) (hm : P.length ≤ 35184372088832) (hfm : f.length ≤ 35184372088832) :
    ∀ (d j : Nat) (kn : Bool), j + d = P.length → Ev (fun k => spec_l09Fleet.l1 k f used (i : Int) (kn || decide (rd f (i : Int) ∈ P.drop j)) P (P.length : Int) W H l) b → Ev (fun k => spec_l09Fleet.l1 k f used (i : Int) kn P (j : Int) W H l) b := by
  intro d
  induction d with
  | zero =>
    intro j kn hj h
    rw [List.drop_of_length_le (by omega)] at h
    rw [show j = P.length by omega]
    simpa using h
  | succ d ih =>
    intro j kn hj h
    have h1 : (j : Int) < (P.length : Int) := by omega
    have h2 : (0 : Int) ≤ (j : Int) := by omega
    have h3 : (0 : Int) ≤ (i : Int) := by omega
    have h5 : (i : Int) < (f.length : Int) := by omega
    have h4 : wrap64 ((j : Int) + 1) = ((j + 1 : Nat) : Int) := by rw [w64 (by omega) (by omega)]; omega
    have hd : P.drop j = P[j] :: P.drop (j + 1) := by rw [List.drop_eq_getElem_cons (by omega)]
    rw [hd] at h
    refine Ev.succ ?_
    cases kn with
    | true =>
      simp only [spec_l09Fleet.l1, if_pos h1, if_true, h4]
      exact ih (j + 1) true (by omega) (by simpa using h)
    | false =>
      simp only [spec_l09Fleet.l1, if_pos h1, Bool.false_eq_true, if_false, if_pos h2, if_pos h3, if_pos h5, h4]
      refine ih (j + 1) _ (by omega) ?_
      rw [rd_nat P j (by omega)]
      have hb : (false || decide (rd f (i : Int) ∈ P[j] :: P.drop (j + 1))) = ((P[j] == rd f (i : Int)) || decide (rd f (i : Int) ∈ P.drop (j + 1))) := by
        simp only [Bool.false_or, List.mem_cons]
        by_cases e : P[j] = rd f (i : Int)
        · simp [e]
        · have e' : ¬ rd f (i : Int) = P[j] := fun z => e z.symm
          simp [e, e']
      rw [← hb]; exact h

/-- A ship of a fleet: one of the placements, and apart from those ahead of it. -/
def Ship (W H : Int) (l f : List Int) (j : Nat) : Prop := rd f (j : Int) ∈ Pl W H (rd l (j : Int)) ∧ hits (f.take j) (rd f (j : Int)) = false
theorem Ship.pos {W H : Int} {l f : List Int} (hs : IsSeaP W H l) {j : Nat} (hj : j < l.length) (h : Ship W H l f j) : 0 < rd f (j : Int) ∧ rd f (j : Int) < 33554432 :=
  have hr := hs.r j (by omega) hj
  pl_pos hs.w hs.h ⟨hr.1, hr.2.1⟩ _ h.1

/-- The two loops over a fleet's ships. -/
theorem fleet_loops (W H : Int) (l f : List Int) (hs : IsSeaP W H l) (hl : f.length = l.length) : ∀ (d i : Nat), i + d = f.length → (∀ j, j < i → Ship W H l f j) →
    ∃ b, Ev (fun k => spec_l09Fleet.l0 k f (orl (f.take i)) (i : Int) W H l) b ∧ Ev (fun k => impl_Sea_isFleet.l0 k f f (f.length : Int) (i : Int) W H l) b ∧ (b = true → ∀ j, j < f.length → Ship W H l f j) := by
  have hn := hs.n
  intro d
  induction d with
  | zero =>
    intro i hi hj
    have h1 : ¬ ((i : Int) < (f.length : Int)) := by omega
    refine ⟨true, Ev.succ ?_, Ev.succ ?_, fun _ j hjl => hj j (by omega)⟩
    · simp only [spec_l09Fleet.l0, if_neg h1]; exact Ev.now _
    · simp only [impl_Sea_isFleet.l0, if_neg h1]; exact Ev.now _
  | succ d ih =>
    intro i hi hj
    have h1 : (i : Int) < (f.length : Int) := by omega
    have h2 : (0 : Int) ≤ (i : Int) := by omega
    have h3 : (i : Int) < (l.length : Int) := by omega
    have h3' : (i : Int) ≤ (f.length : Int) := by omega
    have h4 : wrap64 ((i : Int) + 1) = ((i + 1 : Nat) : Int) := by rw [w64 (by omega) (by omega)]; omega
    have hr := hs.r i (by omega) (by omega)
    have hP := ev_spec_pl W H (rd l (i : Int)) l hs.w hs.h ⟨hr.1, hr.2.1⟩
    have hP' := ev_impl_pl W H (rd l (i : Int)) l hs.w hs.h ⟨hr.1, hr.2.1⟩
    have hPl := pl_len (n := rd l (i : Int)) hs.w hs.h ⟨hr.1, hr.2.1⟩
    have hlt : (f.take i).length = i := by rw [List.length_take]; omega
    have hgo := ev_goesOn W H l (f.take i) (rd f (i : Int)) (by omega) (by omega)
    have hcs : ∀ y ∈ f.take i, Cs y := by
      intro y hy
      obtain ⟨j, hjl, rfl⟩ := List.mem_iff_getElem.mp hy
      rw [hlt] at hjl
      rw [List.getElem_take]
      have := (hj j hjl).pos hs (by omega)
      rw [rd_nat f j (by omega)] at this
      exact ⟨by omega, by omega⟩
    have hcon := ev_contains (Pl W H (rd l (i : Int))) (rd f (i : Int)) (by omega)
    have hi0 : (i : Int).toNat = i := by omega
    -- the program's step
    have hstep : ∀ b, Ev (fun k => if decide (rd f (i : Int) ∈ Pl W H (rd l (i : Int))) = true then (if goes l (f.take i) (rd f (i : Int)) = true then impl_Sea_isFleet.l0 k f f (f.length : Int) ((i + 1 : Nat) : Int) W H l else some false) else some false) b → Ev (fun k => impl_Sea_isFleet.l0 k f f (f.length : Int) (i : Int) W H l) b := by
      intro b hb
      refine Ev.succ ?_
      simp only [impl_Sea_isFleet.l0, if_pos h1, if_pos h2, if_pos h3, hi0, if_pos h3', h4]
      refine Ev.bind hP' (Ev.bind hcon ?_)
      cases hm : decide (rd f (i : Int) ∈ Pl W H (rd l (i : Int))) with
      | false => rw [hm] at hb; simpa using hb
      | true =>
        rw [hm] at hb
        simp only [if_true] at hb ⊢
        exact Ev.bind hgo hb
    have hspec : ∀ b, Ev (fun k => spec_l09Fleet.l1 k f (orl (f.take i)) (i : Int) (decide (rd f (i : Int) ∈ Pl W H (rd l (i : Int)))) (Pl W H (rd l (i : Int))) ((Pl W H (rd l (i : Int))).length : Int) W H l) b → Ev (fun k => spec_l09Fleet.l0 k f (orl (f.take i)) (i : Int) W H l) b := by
      intro b hb
      refine Ev.succ ?_
      simp only [spec_l09Fleet.l0, if_pos h1, if_pos h2, if_pos h3]
      refine Ev.bind hP ?_
      exact ev_known W H l f _ i _ b (by omega) (by omega) (by omega) (Pl W H (rd l (i : Int))).length 0 false (by omega) (by simpa using hb)
    have hPn : ¬ (((Pl W H (rd l (i : Int))).length : Int) < ((Pl W H (rd l (i : Int))).length : Int)) := by omega
    by_cases hmem : rd f (i : Int) ∈ Pl W H (rd l (i : Int))
    case neg =>
      refine ⟨false, hspec _ (Ev.succ ?_), hstep _ ?_, fun h => by cases h⟩
      · simp only [spec_l09Fleet.l1, if_neg hPn, decide_eq_false hmem, Bool.false_eq_true, if_false]; exact Ev.now _
      · simp only [decide_eq_false hmem, Bool.false_eq_true, if_false]; exact Ev.now _
    have hpos := pl_pos hs.w hs.h ⟨hr.1, hr.2.1⟩ _ hmem
    have hx : Cs (rd f (i : Int)) := ⟨by omega, hpos.2⟩
    have hov := orl_hits (f.take i) (rd f (i : Int)) hx hcs
    simp only [decide_eq_true hmem, if_true] at hspec hstep
    cases hh : hits (f.take i) (rd f (i : Int)) with
    | true =>
      have hne : ¬ (Go.bits .and .i64 (rd f (i : Int)) (orl (f.take i)) = 0) := fun z => by rw [hov, hh] at z; cases z
      refine ⟨false, hspec _ (Ev.succ ?_), hstep _ ?_, fun h => by cases h⟩
      · simp only [spec_l09Fleet.l1, if_neg hPn, if_true, if_pos h2, if_pos h1, if_neg hne]; exact Ev.now _
      · have : goes l (f.take i) (rd f (i : Int)) = false := by unfold goes; rw [hh]; simp
        simp only [this, Bool.false_eq_true, if_false]; exact Ev.now _
    | false =>
      have heq := hov.mpr hh
      have hnext : orl (f.take (i + 1)) = Go.bits .or .i64 (orl (f.take i)) (rd f (i : Int)) := by
        rw [List.take_succ_eq_append_getElem (by omega), orl_snoc, rd_nat f i (by omega)]
      obtain ⟨b, hb1, hb2, hb3⟩ := ih (i + 1) (by omega) (fun j hji => by
        by_cases e : j = i
        · subst e; exact ⟨hmem, hh⟩
        · exact hj j (by omega))
      rw [hnext] at hb1
      by_cases hi1 : i = 0
      · subst hi1
        have h5 : ¬ (((0 : Nat) : Int) > 0) := by omega
        have hg : goes l (f.take 0) (rd f ((0 : Nat) : Int)) = true := by unfold goes; rw [hh]; simp
        refine ⟨b, hspec _ (Ev.succ ?_), hstep _ ?_, hb3⟩
        · simp only [spec_l09Fleet.l1, if_neg hPn, if_true, if_pos h2, if_pos h1, if_pos heq, if_neg h5, h4]; exact hb1
        · simp only [hg, if_true]; exact hb2
      have h5 : ((i : Nat) : Int) > 0 := by omega
      have h6 : wrap64 ((i : Int) - 1) = (i : Int) - 1 := w64 (by omega) (by omega)
      have h7 : (0 : Int) ≤ (i : Int) - 1 := by omega
      have h8 : (i : Int) - 1 < (l.length : Int) := by omega
      have h9 : (i : Int) - 1 < (f.length : Int) := by omega
      have hrt : rd (f.take i) (((f.take i).length : Int) - 1) = rd f ((i : Int) - 1) := by
        rw [hlt, show (i : Int) - 1 = ((i - 1 : Nat) : Int) by omega, rd_nat _ (i - 1) (by omega), rd_nat f (i - 1) (by omega), List.getElem_take]
      have hgdef : goes l (f.take i) (rd f (i : Int)) = !(decide (rd l (i : Int) = rd l ((i : Int) - 1) ∧ rd f (i : Int) ≤ rd f ((i : Int) - 1))) := by
        unfold goes; rw [hrt, hlt, hh]
        by_cases z : rd l (i : Int) = rd l ((i : Int) - 1) ∧ rd f (i : Int) ≤ rd f ((i : Int) - 1)
        · rw [decide_eq_true (⟨by omega, z.1, z.2⟩ : 0 < i ∧ _ ∧ _), decide_eq_true z]; rfl
        · rw [decide_eq_false (fun y => z ⟨y.2.1, y.2.2⟩), decide_eq_false z]; rfl
      by_cases e : rd l (i : Int) = rd l ((i : Int) - 1)
      · by_cases g : rd f (i : Int) < rd f ((i : Int) - 1)
        · refine ⟨false, hspec _ (Ev.succ ?_), hstep _ ?_, fun h => by cases h⟩
          · simp only [spec_l09Fleet.l1, if_neg hPn, if_true, if_pos h2, if_pos h1, if_pos heq, if_pos h5, h6, if_pos h3, if_pos h7, if_pos h8, if_pos e, if_pos h9, if_pos g]; exact Ev.now _
          · rw [hgdef, decide_eq_true ⟨e, by omega⟩]; simp only [Bool.not_true, Bool.false_eq_true, if_false]; exact Ev.now _
        · have hne : ¬ (rd f (i : Int) ≤ rd f ((i : Int) - 1)) := by
            intro z
            have he : rd f (i : Int) = rd f ((i : Int) - 1) := by omega
            have hin : rd f (i : Int) ∈ f.take i := by
              rw [he, show (i : Int) - 1 = ((i - 1 : Nat) : Int) by omega, rd_nat f (i - 1) (by omega)]
              rw [List.mem_iff_getElem]
              exact ⟨i - 1, by omega, by rw [List.getElem_take]⟩
            have : hits (f.take i) (rd f (i : Int)) = true := List.any_eq_true.mpr ⟨_, hin, by simpa using and_self_ne hpos.1 hpos.2⟩
            rw [hh] at this; cases this
          refine ⟨b, hspec _ (Ev.succ ?_), hstep _ ?_, hb3⟩
          · simp only [spec_l09Fleet.l1, if_neg hPn, if_true, if_pos h2, if_pos h1, if_pos heq, if_pos h5, h6, if_pos h3, if_pos h7, if_pos h8, if_pos e, if_pos h9, if_neg g, h4]; exact hb1
          · rw [hgdef, decide_eq_false (fun z => hne z.2)]; simp only [Bool.not_false, if_true]; exact hb2
      · refine ⟨b, hspec _ (Ev.succ ?_), hstep _ ?_, hb3⟩
        · simp only [spec_l09Fleet.l1, if_neg hPn, if_true, if_pos h2, if_pos h1, if_pos heq, if_pos h5, h6, if_pos h3, if_pos h7, if_pos h8, if_neg e, h4]; exact hb1
        · rw [hgdef, decide_eq_false (fun z => e z.1)]; simp only [Bool.not_false, if_true]; exact hb2

/-- What is known of a fleet. -/
structure IsFleetP (W H : Int) (l f : List Int) : Prop where
  n : f.length = l.length
  s : ∀ j, j < f.length → Ship W H l f j
theorem IsFleetP.cs {W H : Int} {l f : List Int} (hs : IsSeaP W H l) (h : IsFleetP W H l f) : ∀ y ∈ f, 0 < y ∧ y < 33554432 := by
  intro y hy
  obtain ⟨j, hjl, rfl⟩ := List.mem_iff_getElem.mp hy
  have := (h.s j hjl).pos hs (by have := h.n; omega)
  rwa [rd_nat f j hjl] at this

/-- The reference's and the program's answer to: is it a fleet? -/
theorem fleet_agree (W H : Int) (l f : List Int) (hs : IsSeaP W H l) :
    ∃ b, Ev (fun k => spec_l09Fleet.f k W H l f) b ∧ Ev (fun k => impl_Sea_isFleet.f k W H l f) b ∧ (b = true → IsFleetP W H l f) := by
  unfold spec_l09Fleet.f impl_Sea_isFleet.f
  by_cases h : (f.length : Int) = (l.length : Int)
  · simp only [if_pos h]
    obtain ⟨b, h1, h2, h3⟩ := fleet_loops W H l f hs (by omega) f.length 0 (by omega) (fun j hj => by omega)
    exact ⟨b, h1, h2, fun hb => ⟨by omega, h3 hb⟩⟩
  · simp only [if_neg h]; exact ⟨false, Ev.now _, Ev.now _, fun h => by cases h⟩

end Go.Proofs.Ytankgbfddgpfmaa.PAll
