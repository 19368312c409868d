/- DeadCells on both sides: one list and one code. -/
import Derived.Test.YtcfdlbjngpmcaaaGHexIs
import Derived.Test.YtcfdlbjngpmcaaaGClone
import Derived.Test.YtcfdlbjngpmcaaaPAllx10
import Derived.Test.YtcfdlbjngpmcaaaPAllx2
import Derived.Test.YtcfdlbjngpmcaaaPAllx4
import Derived.Test.YtcfdlbjngpmcaaaPAllx6
namespace Go.Proofs.Ytcfdlbjngpmcaaa.PAll
open Go.RowKit Go.Proofs.YtcfdlbjngpmcaaaW.PrintWords Go.Proofs.YtcfdlbjngpmcaaaW.PrintLast
set_option linter.unusedVariables false

def bitI (c k : Nat) : Int := if c.testBit k then 1 else 0
theorem bits_all : (List.range 512).all (fun c => (List.range 9).all fun i => (Go.bits .and .i64 (shr .i64 (c : Int) (i : Int)) 1 == bitI c i) && (Go.bits .xor .i64 (c : Int) (shl .i64 1 (i : Int)) == ((c ^^^ 2 ^ i : Nat) : Int))) = true := by decide +kernel
theorem shl_all : (List.range 10).all (fun m => (shl .i64 1 (m : Int) == ((2 ^ m : Nat) : Int)) && (IntKind.u64.wrap (m : Int) == (m : Int))) = true := by decide +kernel
theorem bit_at {c i : Nat} (hc : c < 512) (hi : i < 9) : Go.bits .and .i64 (shr .i64 (c : Int) (i : Int)) 1 = bitI c i ∧ Go.bits .xor .i64 (c : Int) (shl .i64 1 (i : Int)) = ((c ^^^ 2 ^ i : Nat) : Int) := by
  have h := List.all_eq_true.1 (List.all_eq_true.1 bits_all c (List.mem_range.2 hc)) i (List.mem_range.2 hi)
  simpa using h
theorem shl_at {m : Nat} (hm : m < 10) : shl .i64 1 (m : Int) = ((2 ^ m : Nat) : Int) ∧ IntKind.u64.wrap (m : Int) = (m : Int) := by
  have h := List.all_eq_true.1 shl_all m (List.mem_range.2 hm)
  rw [Bool.and_eq_true, beq_iff_eq, beq_iff_eq] at h
  exact h
theorem rd_set_same {xs : List Int} {c : Int} (h0 : 0 ≤ c) (h1 : c < (xs.length : Int)) (v : Int) : rd (xs.set c.toNat v) c = v := by
  unfold rd
  rw [List.getD_eq_getElem?_getD, List.getElem?_set, if_pos rfl, if_pos (by omega)]; rfl
theorem rd_set_ne {xs : List Int} {c d : Int} (hc : 0 ≤ c) (hd : 0 ≤ d) (h : c ≠ d) (v : Int) : rd (xs.set c.toNat v) d = rd xs d := by
  unfold rd
  rw [List.getD_eq_getElem?_getD, List.getElem?_set, if_neg (by omega), List.getD_eq_getElem?_getD]
theorem ext_rd {xs ys : List Int} (hl : xs.length = ys.length) (h : ∀ c : Nat, c < xs.length → rd xs (c : Int) = rd ys (c : Int)) : xs = ys := by
  refine List.ext_getElem hl fun i h1 h2 => ?_
  have := h i h1
  rw [rd_nat xs i h1, rd_nat ys i h2] at this
  exact this

/-- A board whose empty cells are told by a code, the first j of them. -/
def fillN (E : List Int) (code : Nat) : Nat → List Int → List Int
  | 0, l => l
  | j + 1, l => (fillN E code j l).set (rd E (j : Int)).toNat (1 + bitI code j)
theorem fillN_length (E : List Int) (code j : Nat) (l : List Int) : (fillN E code j l).length = l.length := by
  induction j with
  | zero => rfl
  | succ j ih => rw [fillN, List.length_set, ih]
theorem fillN_rd {E l : List Int} (hE : ∀ e ∈ E, 0 ≤ e ∧ e < (l.length : Int)) (hN : E.Nodup) (code : Nat) : ∀ j, j ≤ E.length → (∀ i : Nat, i < j → rd (fillN E code j l) (rd E (i : Int)) = 1 + bitI code i) ∧ (∀ c : Int, 0 ≤ c → (∀ i : Nat, i < j → rd E (i : Int) ≠ c) → rd (fillN E code j l) c = rd l c) := by
  intro j
  induction j with
  | zero => intro _; exact ⟨fun i h => absurd h (by omega), fun c _ _ => rfl⟩
  | succ j ih =>
    intro hj
    obtain ⟨h1, h2⟩ := ih (by omega)
    have hr : rd E (j : Int) = E[j] := rd_nat E j (by omega)
    have hin := hE E[j] (List.getElem_mem _)
    refine ⟨fun i hi => ?_, fun c hc hne => ?_⟩
    · have hri : rd E (i : Int) = E[i] := rd_nat E i (by omega)
      by_cases e : i = j
      · subst e
        rw [fillN, hri]
        exact rd_set_same hin.1 (by rw [fillN_length]; exact hin.2) _
      · rw [fillN, rd_set_ne (by rw [hr]; exact hin.1) (by rw [hri]; exact (hE _ (List.getElem_mem _)).1) ?_]
        · exact h1 i (by omega)
        · rw [hr, hri]
          intro z
          exact e ((List.getElem_inj hN).1 z).symm
    · rw [fillN, rd_set_ne (by rw [hr]; exact hin.1) hc (hne j (by omega))]
      exact h2 c hc fun i hi => hne i (by omega)

/-- What DeadCells works on: a board of a side with at most nine empty cells. -/
structure DB (s : Nat) (l : List Int) : Prop where
  side : 1 ≤ s ∧ s ≤ 8
  n : l.length = s * s
  v : ∀ c ∈ l, 0 ≤ c ∧ c ≤ 2
  few : (cellsN l 0).length ≤ 9
theorem DB.le {s : Nat} {l : List Int} (h : DB s l) : l.length ≤ 64 := by
  have h2 : s * s ≤ 8 * 8 := Nat.mul_le_mul h.side.2 h.side.2
  rw [h.n]; omega
theorem DB.E {s : Nat} {l : List Int} (h : DB s l) : ∀ e ∈ cellsN l 0, 0 ≤ e ∧ e < (l.length : Int) := fun e he => ⟨(mem_cellsN.1 he).1, (mem_cellsN.1 he).2.1⟩
theorem pow512 {m c : Nat} (hm : m ≤ 9) (h : c < 2 ^ m) : c < 512 := Nat.lt_of_lt_of_le h (Nat.le_trans (Nat.pow_le_pow_right (by omega) hm) (by decide))
def filled (l : List Int) (code : Nat) : List Int := fillN (cellsN l 0) code (cellsN l 0).length l
theorem filled_in {s : Nat} {l : List Int} (h : DB s l) (code i : Nat) (hi : i < (cellsN l 0).length) : rd (filled l code) (rd (cellsN l 0) (i : Int)) = 1 + bitI code i := (fillN_rd h.E (cellsN_nodup l 0) code _ (Nat.le_refl _)).1 i hi
theorem filled_out {s : Nat} {l : List Int} (h : DB s l) (code : Nat) {c : Int} (hc : 0 ≤ c) (hn : c ∉ cellsN l 0) : rd (filled l code) c = rd l c := (fillN_rd h.E (cellsN_nodup l 0) code _ (Nat.le_refl _)).2 c hc fun i hi e => hn (by rw [← e, rd_nat _ i hi]; exact List.getElem_mem _)
theorem bitI_cases (c k : Nat) : bitI c k = 0 ∨ bitI c k = 1 := by unfold bitI; split <;> simp
theorem filled_full {s : Nat} {l : List Int} (h : DB s l) (code : Nat) : Full s (filled l code) := by
  refine ⟨h.side, by unfold filled; rw [fillN_length]; exact h.n, fun c h0 h1 => ?_⟩
  unfold filled at h1
  rw [fillN_length] at h1
  by_cases e : c ∈ cellsN l 0
  · obtain ⟨i, hi, rfl⟩ := List.mem_iff_getElem.1 e
    have := filled_in h code i hi
    rw [rd_nat _ i hi] at this
    rw [this]
    rcases bitI_cases code i with k | k <;> rw [k] <;> simp
  · rw [filled_out h code h0 e]
    obtain ⟨n, rfl⟩ := Int.eq_ofNat_of_zero_le h0
    have hn : n < l.length := by omega
    have hv := h.v l[n] (List.getElem_mem _)
    rw [rd_nat l n hn]
    have : l[n] ≠ 0 := fun z => e (mem_cellsN.2 ⟨h0, h1, by rw [rd_nat l n hn]; exact z⟩)
    omega
theorem bitI_flip (code i j : Nat) : bitI (code ^^^ 2 ^ i) j = if i = j then 1 - bitI code j else bitI code j := by
  unfold bitI
  rw [Nat.testBit_xor, Nat.testBit_two_pow]
  by_cases e : i = j
  · subst e; cases code.testBit i <;> simp
  · simp [e]
theorem filled_flip {s : Nat} {l : List Int} (h : DB s l) (code i : Nat) (hi : i < (cellsN l 0).length) (hb : code.testBit i = false) : (filled l code).set (rd (cellsN l 0) (i : Int)).toNat 2 = filled l (code ^^^ 2 ^ i) := by
  have hri : rd (cellsN l 0) (i : Int) = (cellsN l 0)[i] := rd_nat _ i hi
  have hin := h.E _ (List.getElem_mem hi)
  refine ext_rd (by simp [filled, fillN_length]) fun c hc => ?_
  rw [List.length_set] at hc
  have hcl : c < l.length := by unfold filled at hc; rwa [fillN_length] at hc
  by_cases e : (c : Int) ∈ cellsN l 0
  · obtain ⟨j, hj, hjc⟩ := List.mem_iff_getElem.1 e
    have hrj : rd (cellsN l 0) (j : Int) = (c : Int) := by rw [rd_nat _ j hj, hjc]
    have h2 := filled_in h (code ^^^ 2 ^ i) j hj
    rw [hrj, bitI_flip] at h2
    rw [h2]
    by_cases z : i = j
    · subst z
      rw [hrj, rd_set_same (by omega) (by unfold filled; rw [fillN_length]; omega), if_pos rfl]
      unfold bitI; rw [hb]; simp
    · have h1 := filled_in h code j hj
      rw [hrj] at h1
      rw [rd_set_ne (by rw [hri]; exact hin.1) (by omega) ?_, h1, if_neg z]
      rw [hri, ← hjc]
      intro w
      exact z ((List.getElem_inj (cellsN_nodup l 0)).1 w)
  · rw [rd_set_ne (by rw [hri]; exact hin.1) (by omega) ?_, filled_out h code (by omega) e, filled_out h _ (by omega) e]
    rw [hri]
    intro w
    exact e (w ▸ List.getElem_mem hi)
noncomputable def J (s : Nat) (l : List Int) (code : Nat) : Int := joinerN s (filled l code)
/-- Is the i-th empty cell dead? -/
noncomputable def deadI (s : Nat) (l : List Int) (i : Nat) : Bool := (List.range (2 ^ (cellsN l 0).length)).all fun c => J s l c == J s l (c ^^^ 2 ^ i)
noncomputable def deadS (s : Nat) (l : List Int) (i : Nat) : Bool := (List.range (2 ^ (cellsN l 0).length)).all fun c => c.testBit i || J s l c == J s l (c ^^^ 2 ^ i)
theorem xor_back (c i : Nat) : c ^^^ 2 ^ i ^^^ 2 ^ i = c := by rw [Nat.xor_assoc, Nat.xor_self, Nat.xor_zero]
theorem xor_lt {c i m : Nat} (hc : c < 2 ^ m) (hi : i < m) : c ^^^ 2 ^ i < 2 ^ m := Nat.xor_lt_two_pow hc (Nat.pow_lt_pow_right (by omega) hi)
theorem dead_same {s : Nat} {l : List Int} {i : Nat} (hi : i < (cellsN l 0).length) : deadS s l i = deadI s l i := by
  rw [Bool.eq_iff_iff]
  unfold deadS deadI
  simp only [List.all_eq_true, List.mem_range, Bool.or_eq_true, beq_iff_eq]
  constructor
  · intro h c hc
    rcases h c hc with h1 | h1
    · have h2 := h (c ^^^ 2 ^ i) (xor_lt hc hi)
      rw [xor_back, Nat.testBit_xor, Nat.testBit_two_pow, h1] at h2
      rcases h2 with h2 | h2
      · simp at h2
      · exact h2.symm
    · exact h1
  · intro h c hc; exact Or.inr (h c hc)
/-- The dead ones of the first i empty cells. -/
noncomputable def deadTo (s : Nat) (l : List Int) : Nat → List Int
  | 0 => []
  | i + 1 => if deadI s l i = true then deadTo s l i ++ [rd (cellsN l 0) (i : Int)] else deadTo s l i
theorem deadTo_succ (s : Nat) (l : List Int) (i : Nat) : deadTo s l (i + 1) = if deadI s l i = true then deadTo s l i ++ [rd (cellsN l 0) (i : Int)] else deadTo s l i := rfl
theorem deadTo_le (s : Nat) (l : List Int) (i : Nat) : (deadTo s l i).length ≤ i := by
  induction i with
  | zero => simp [deadTo]
  | succ i ih =>
    rw [deadTo_succ]
    split
    · rw [List.length_append, List.length_singleton]; omega
    · omega

theorem range_rd {α : Type} [Inhabited α] (f : Nat → Int) (n i : Nat) (h : i < n) : rd ((List.range n).map f) (i : Int) = f i := by
  rw [rd_nat _ i (by simpa using h)]; simp
theorem implDead_l3 {s : Nat} {l : List Int} (h : DB s l) {i : Nat} (hi : i < (cellsN l 0).length) (R : List Int × Int) :
    ∀ (d c : Nat) (b : Bool), c + d = 2 ^ (cellsN l 0).length → Ev (fun k => impl_DeadCells.l2 k ((List.range (2 ^ (cellsN l 0).length)).map (J s l)) (if (b && (List.range' c d).all fun c => J s l c == J s l (c ^^^ 2 ^ i)) = true then deadTo s l i ++ [rd (cellsN l 0) (i : Int)] else deadTo s l i) (cellsN l 0) ((cellsN l 0).length : Int) ((i + 1 : Nat) : Int)) R →
      Ev (fun k => impl_DeadCells.l3 k ((List.range (2 ^ (cellsN l 0).length)).map (J s l)) (deadTo s l i) (i : Int) (rd (cellsN l 0) (i : Int)) b (cellsN l 0) ((cellsN l 0).length : Int) (i : Int) ((((List.range (2 ^ (cellsN l 0).length)).map (J s l)).length : Nat) : Int) (c : Int)) R := by
  have hf := h.few
  have hlen : (((List.range (2 ^ (cellsN l 0).length)).map (J s l)).length) = 2 ^ (cellsN l 0).length := by simp
  have hp : 2 ^ (cellsN l 0).length ≤ 512 := Nat.le_trans (Nat.pow_le_pow_right (by omega) hf) (by decide)
  rw [hlen]
  intro d
  induction d with
  | zero =>
    intro c b hc hR
    refine Ev.succ ?_
    have h1 : ¬ ((c : Int) < ((2 ^ (cellsN l 0).length : Nat) : Int)) := by
      have : ((c : Nat) : Int) = ((2 ^ (cellsN l 0).length : Nat) : Int) := congrArg _ (by omega)
      rw [this]; exact Int.lt_irrefl _
    have h4 : wrap64 ((i : Int) + 1) = ((i + 1 : Nat) : Int) := by rw [w64 (by omega) (by omega)]; omega
    have h5 : (deadTo s l i).length < 17592186044416 := by have := deadTo_le s l i; omega
    simp only [List.range'_zero, List.all_nil, Bool.and_true] at hR
    simp only [impl_DeadCells.l3, if_neg h1, if_pos h5, h4]
    cases b
    · simpa using hR
    · simpa using hR
  | succ d ih =>
    intro c b hc hR
    refine Ev.succ ?_
    have hc' : c < 2 ^ (cellsN l 0).length := by omega
    have h1 : (c : Int) < ((2 ^ (cellsN l 0).length : Nat) : Int) := Int.ofNat_lt.2 hc'
    have h2 : (0 : Int) ≤ (c : Int) := by omega
    have h3 : (0 : Int) ≤ (i : Int) := by omega
    have hc5 := pow512 hf hc'
    have h4 : wrap64 ((c : Int) + 1) = ((c + 1 : Nat) : Int) := by rw [w64 (by omega) (by omega)]; omega
    have hx := (bit_at hc5 (by omega : i < 9)).2
    have hxl := xor_lt hc' hi
    have h6 : (0 : Int) ≤ ((c ^^^ 2 ^ i : Nat) : Int) := Int.natCast_nonneg _
    have h7 : ((c ^^^ 2 ^ i : Nat) : Int) < ((2 ^ (cellsN l 0).length : Nat) : Int) := Int.ofNat_lt.2 hxl
    have hrc := range_rd (α := Nat) (J s l) _ c hc'
    have hrx := range_rd (α := Nat) (J s l) _ (c ^^^ 2 ^ i) hxl
    rw [List.range'_succ, List.all_cons] at hR
    cases b with
    | false =>
      simp only [impl_DeadCells.l3, if_pos h1, hlen, if_pos h2, Bool.false_eq_true, if_false, h4]
      exact ih (c + 1) false (by omega) (by simpa using hR)
    | true =>
      simp only [impl_DeadCells.l3, if_pos h1, hlen, if_pos h2, if_true, if_pos h3, hx, if_pos h6, if_pos h7, hrc, hrx, h4]
      rw [Bool.true_and] at hR
      exact ih (c + 1) _ (by omega) hR
theorem implDead_l2 {s : Nat} {l : List Int} (h : DB s l) : ∀ (d i : Nat), i + d = (cellsN l 0).length → Ev (fun k => impl_DeadCells.l2 k ((List.range (2 ^ (cellsN l 0).length)).map (J s l)) (deadTo s l i) (cellsN l 0) ((cellsN l 0).length : Int) (i : Int)) (deadTo s l (cellsN l 0).length, 0) := by
  intro d
  induction d with
  | zero =>
    intro i hi
    refine Ev.succ ?_
    have h1 : ¬ ((i : Int) < ((cellsN l 0).length : Int)) := by omega
    obtain rfl : i = (cellsN l 0).length := by omega
    simp only [impl_DeadCells.l2, if_neg h1]
    exact Ev.now _
  | succ d ih =>
    intro i hi
    refine Ev.succ ?_
    have h1 : (i : Int) < ((cellsN l 0).length : Int) := by omega
    have h2 : (0 : Int) ≤ (i : Int) := by omega
    simp only [impl_DeadCells.l2, if_pos h1, if_pos h2]
    refine implDead_l3 h (by omega) _ (2 ^ (cellsN l 0).length) 0 true (by omega) ?_
    have := ih (i + 1) (by omega)
    rw [deadTo_succ] at this
    unfold deadI at this
    rw [← List.range_eq_range', Bool.true_and]
    exact this
theorem implDead_l1 {s : Nat} {l : List Int} (h : DB s l) {c : Nat} (hc : c < 2 ^ (cellsN l 0).length) (x6 : List Int) (R : List Int × Int) (hx6 : x6.length < 17592186044416)
    (hR : Ev (fun k => impl_DeadCells.l0 k (x6 ++ [J s l c]) (cellsN l 0) ((2 ^ (cellsN l 0).length : Nat) : Int) ((c + 1 : Nat) : Int) (s : Int) l) R) :
    ∀ (d j : Nat), j + d = (cellsN l 0).length → Ev (fun k => impl_DeadCells.l1 k x6 (c : Int) (cellsN l 0) ((2 ^ (cellsN l 0).length : Nat) : Int) (c : Int) ((cellsN l 0).length : Int) (j : Int) (s : Int) l (s : Int) (fillN (cellsN l 0) c j l)) R := by
  have hf := h.few
  have hc5 := pow512 hf hc
  intro d
  induction d with
  | zero =>
    intro j hj
    refine Ev.succ ?_
    have h1 : ¬ ((j : Int) < ((cellsN l 0).length : Int)) := by omega
    obtain rfl : j = (cellsN l 0).length := by omega
    have h4 : wrap64 ((c : Int) + 1) = ((c + 1 : Nat) : Int) := by rw [w64 (by omega) (by omega)]; omega
    simp only [impl_DeadCells.l1, if_neg h1]
    refine Ev.bind (ev_implJoiner (filled_full h c)) ?_
    simp only [if_pos hx6, h4]
    exact hR
  | succ d ih =>
    intro j hj
    refine Ev.succ ?_
    have h1 : (j : Int) < ((cellsN l 0).length : Int) := by omega
    have h2 : (0 : Int) ≤ (j : Int) := by omega
    have h4 : wrap64 ((j : Int) + 1) = ((j + 1 : Nat) : Int) := by rw [w64 (by omega) (by omega)]; omega
    have hr : rd (cellsN l 0) (j : Int) = (cellsN l 0)[j] := rd_nat _ j (by omega)
    have hin := h.E _ (List.getElem_mem (by omega : j < (cellsN l 0).length))
    rw [← hr] at hin
    have h5 : rd (cellsN l 0) (j : Int) < ((fillN (cellsN l 0) c j l).length : Int) := by rw [fillN_length]; exact hin.2
    have hb := (bit_at hc5 (by omega : j < 9)).1
    have hw : wrap64 (1 + bitI c j) = 1 + bitI c j := by rcases bitI_cases c j with e | e <;> rw [e] <;> exact small64 (by omega) (by omega)
    simp only [impl_DeadCells.l1, if_pos h1, if_pos h2, if_pos hin.1, if_pos h5, hb, hw, h4]
    exact ih (j + 1) (by omega)
theorem implDead_l0 {s : Nat} {l : List Int} (h : DB s l) : ∀ (d c : Nat), c + d = 2 ^ (cellsN l 0).length → Ev (fun k => impl_DeadCells.l0 k ((List.range c).map (J s l)) (cellsN l 0) ((2 ^ (cellsN l 0).length : Nat) : Int) (c : Int) (s : Int) l) (deadTo s l (cellsN l 0).length, 0) := by
  have hle := h.le
  have hs := h.side
  intro d
  induction d with
  | zero =>
    intro c hc
    refine Ev.succ ?_
    have h1 : ¬ ((c : Int) < ((2 ^ (cellsN l 0).length : Nat) : Int)) := by
      have : ((c : Nat) : Int) = ((2 ^ (cellsN l 0).length : Nat) : Int) := congrArg _ (by omega)
      rw [this]; exact Int.lt_irrefl _
    obtain rfl : c = 2 ^ (cellsN l 0).length := by omega
    simp only [impl_DeadCells.l0, if_neg h1]
    exact implDead_l2 h (cellsN l 0).length 0 (by omega)
  | succ d ih =>
    intro c hc
    refine Ev.succ ?_
    have hc' : c < 2 ^ (cellsN l 0).length := by omega
    have h1 : (c : Int) < ((2 ^ (cellsN l 0).length : Nat) : Int) := Int.ofNat_lt.2 hc'
    have hne : l ≠ [] := fun e => by
      have h2 := h.n
      rw [e] at h2
      have : 1 * 1 ≤ s * s := Nat.mul_le_mul hs.1 hs.1
      simp at h2; omega
    have hcl : slices_Clone_int64_int64.f l = some l := by
      unfold slices_Clone_int64_int64.f
      rw [if_neg hne, if_pos (by omega)]
    simp only [impl_DeadCells.l0, if_pos h1, hcl, Option.bind_some]
    have h5 := pow512 h.few hc'
    refine implDead_l1 h hc' _ _ (by simp; omega) ?_ (cellsN l 0).length 0 (by omega)
    have := ih (c + 1) (by omega)
    rw [List.range_succ, List.map_append] at this
    exact this
theorem first_two (b c : Bool) : ∀ x y : Int, Ev (fun k => impl_first.f k [⟨b, x⟩, ⟨c, y⟩]) (if b = true then (if c = true then 0 else y) else x) := by
  intro x y
  unfold impl_first.f
  have w1 : wrap64 (0 + 1) = 1 := small64 (by omega) (by omega)
  have w2 : wrap64 (1 + 1) = 2 := small64 (by omega) (by omega)
  have e0 : ∀ k, impl_first.l0 (k + 1) [⟨b, x⟩, ⟨c, y⟩] (([⟨b, x⟩, ⟨c, y⟩] : List S59).length : Int) 0 = if b = true then impl_first.l0 k [⟨b, x⟩, ⟨c, y⟩] (([⟨b, x⟩, ⟨c, y⟩] : List S59).length : Int) 1 else some x := fun k => by
    simp only [impl_first.l0, w1]; rfl
  have e1 : ∀ k, impl_first.l0 (k + 1) [⟨b, x⟩, ⟨c, y⟩] (([⟨b, x⟩, ⟨c, y⟩] : List S59).length : Int) 1 = if c = true then impl_first.l0 k [⟨b, x⟩, ⟨c, y⟩] (([⟨b, x⟩, ⟨c, y⟩] : List S59).length : Int) 2 else some y := fun k => by
    simp only [impl_first.l0, w2]; rfl
  have e2 : ∀ k, impl_first.l0 (k + 1) [⟨b, x⟩, ⟨c, y⟩] (([⟨b, x⟩, ⟨c, y⟩] : List S59).length : Int) 2 = some 0 := fun k => by
    simp only [impl_first.l0]; rfl
  refine Ev.step e0 ?_
  cases b with
  | false => simp only [Bool.false_eq_true, if_false]; exact Ev.now _
  | true =>
    simp only [if_true]
    refine Ev.step e1 ?_
    cases c with
    | false => simp only [Bool.false_eq_true, if_false]; exact Ev.now _
    | true => simp only [if_true]; exact Ev.step e2 (Ev.now _)
/-- What both sides return. -/
noncomputable def deadR (a : Int) (l : List Int) : List Int × Int := if isB a l = true then (if (cellsN l 0).length ≤ 9 then (deadTo a.toNat l (cellsN l 0).length, 0) else ([], 3)) else ([], 1)
theorem isB_DB {a : Int} {l : List Int} (h : isB a l = true) (h9 : (cellsN l 0).length ≤ 9) : a = (a.toNat : Int) ∧ DB a.toNat l := by
  obtain ⟨s, rfl, h1, h2, h3⟩ := isB_iff.1 h
  exact ⟨rfl, ⟨h1, h2, h3, h9⟩⟩
theorem ev_implDead (a : Int) (l : List Int) (hm : l.length ≤ 1048576) : Ev (fun k => impl_DeadCells.f k a l) (deadR a l) := by
  unfold impl_DeadCells.f
  refine Ev.bind (ev_implIs a l (by omega)) (Ev.bind (ev_implCells a 0 l hm) (Ev.bind (first_two _ _ _ _) ?_))
  unfold deadR
  by_cases hB : isB a l = true
  · simp only [if_pos hB]
    by_cases h9 : (cellsN l 0).length ≤ 9
    · have h9' : ((cellsN l 0).length : Int) ≤ 9 := by omega
      simp only [if_pos h9, decide_eq_true h9', if_true]
      refine Ev.bind (ev_implCells a 0 l hm) ?_
      obtain ⟨ha, hD⟩ := isB_DB hB h9
      have := implDead_l0 hD (2 ^ (cellsN l 0).length) 0 (by omega)
      rw [← ha] at this
      rw [(shl_at (by omega : (cellsN l 0).length < 10)).1]
      exact this
    · have h9' : ¬ (((cellsN l 0).length : Int) ≤ 9) := by omega
      have h30 : ¬ ((3 : Int) = 0) := by omega
      simp only [if_neg h9, decide_eq_false h9', Bool.false_eq_true, if_false, if_neg h30]
      exact Ev.now _
  · have h10 : ¬ ((1 : Int) = 0) := by omega
    simp only [if_neg hB, if_neg h10]
    exact Ev.now _

theorem specDead_l2 {s : Nat} {l : List Int} (h : DB s l) {c i : Nat} (hc : c < 2 ^ (cellsN l 0).length) (hi : i < (cellsN l 0).length) (hb : c.testBit i = false) (R : List Int × Int)
    (hR : Ev (fun k => spec_DeadCells.l1 k (cellsN l 0) (deadTo s l i) (i : Int) (J s l c == J s l (c ^^^ 2 ^ i)) ((c + 1 : Nat) : Int) (s : Int) l) R) :
    ∀ (d j : Nat), j + d = (cellsN l 0).length → Ev (fun k => spec_DeadCells.l2 k (cellsN l 0) (deadTo s l i) (i : Int) (c : Int) (fillN (cellsN l 0) c j l) (j : Int) (s : Int) l) R := by
  have hf := h.few
  have hc5 := pow512 hf hc
  intro d
  induction d with
  | zero =>
    intro j hj
    refine Ev.succ ?_
    have h1 : ¬ ((j : Int) < ((cellsN l 0).length : Int)) := by omega
    obtain rfl : j = (cellsN l 0).length := by omega
    have h4 : wrap64 ((c : Int) + 1) = ((c + 1 : Nat) : Int) := by rw [w64 (by omega) (by omega)]; omega
    have h2 : (0 : Int) ≤ (i : Int) := by omega
    have h3 : (i : Int) < ((cellsN l 0).length : Int) := by omega
    have hr : rd (cellsN l 0) (i : Int) = (cellsN l 0)[i] := rd_nat _ i hi
    have hin := h.E _ (List.getElem_mem hi)
    rw [← hr] at hin
    have h5 : rd (cellsN l 0) (i : Int) < ((fillN (cellsN l 0) c (cellsN l 0).length l).length : Int) := by rw [fillN_length]; exact hin.2
    have hF := filled_full h c
    have hF2 := filled_full h (c ^^^ 2 ^ i)
    have hfl := filled_flip h c i hi hb
    unfold filled at hfl
    simp only [spec_DeadCells.l2, if_neg h1]
    refine Ev.bind (ev_specJoiner h.side hF.n) ?_
    simp only [if_pos h2, if_pos h3, if_pos hin.1, if_pos h5, h4, hfl]
    refine Ev.bind (ev_specJoiner h.side hF2.n) ?_
    exact hR
  | succ d ih =>
    intro j hj
    refine Ev.succ ?_
    have h1 : (j : Int) < ((cellsN l 0).length : Int) := by omega
    have h2 : (0 : Int) ≤ (j : Int) := by omega
    have h4 : wrap64 ((j : Int) + 1) = ((j + 1 : Nat) : Int) := by rw [w64 (by omega) (by omega)]; omega
    have hr : rd (cellsN l 0) (j : Int) = (cellsN l 0)[j] := rd_nat _ j (by omega)
    have hin := h.E _ (List.getElem_mem (by omega : j < (cellsN l 0).length))
    rw [← hr] at hin
    have h5 : rd (cellsN l 0) (j : Int) < ((fillN (cellsN l 0) c j l).length : Int) := by rw [fillN_length]; exact hin.2
    have hb' := (bit_at hc5 (by omega : j < 9)).1
    have hu := (shl_at (by omega : j < 10)).2
    have hw : wrap64 (1 + bitI c j) = 1 + bitI c j := by rcases bitI_cases c j with e | e <;> rw [e] <;> exact small64 (by omega) (by omega)
    simp only [spec_DeadCells.l2, if_pos h1, if_pos h2, hu, if_pos hin.1, if_pos h5, hb', hw, h4]
    exact ih (j + 1) (by omega)
theorem specDead_l1 {s : Nat} {l : List Int} (h : DB s l) {i : Nat} (hi : i < (cellsN l 0).length) (R : List Int × Int) :
    ∀ (d c : Nat) (b : Bool), c + d = 2 ^ (cellsN l 0).length → Ev (fun k => spec_DeadCells.l0 k (cellsN l 0) (if (b && (List.range' c d).all fun c => c.testBit i || J s l c == J s l (c ^^^ 2 ^ i)) = true then deadTo s l i ++ [rd (cellsN l 0) (i : Int)] else deadTo s l i) ((i + 1 : Nat) : Int) (s : Int) l) R →
      Ev (fun k => spec_DeadCells.l1 k (cellsN l 0) (deadTo s l i) (i : Int) b (c : Int) (s : Int) l) R := by
  have hf := h.few
  have hle := h.le
  have hsh := shl_at (by omega : (cellsN l 0).length < 10)
  have hu := (shl_at (by omega : i < 10)).2
  have h0 : (0 : Int) ≤ ((cellsN l 0).length : Int) := by omega
  have h2 : (0 : Int) ≤ (i : Int) := by omega
  have h3 : (i : Int) < ((cellsN l 0).length : Int) := by omega
  have h4' : wrap64 ((i : Int) + 1) = ((i + 1 : Nat) : Int) := by rw [w64 (by omega) (by omega)]; omega
  have h5' : (deadTo s l i).length < 17592186044416 := by have := deadTo_le s l i; omega
  intro d
  induction d with
  | zero =>
    intro c b hc hR
    refine Ev.succ ?_
    have h1 : ¬ ((c : Int) < ((2 ^ (cellsN l 0).length : Nat) : Int)) := by
      have : ((c : Nat) : Int) = ((2 ^ (cellsN l 0).length : Nat) : Int) := congrArg _ (by omega)
      rw [this]; exact Int.lt_irrefl _
    simp only [List.range'_zero, List.all_nil, Bool.and_true] at hR
    simp only [spec_DeadCells.l1, hsh.2, hsh.1, if_pos h0, if_neg h1]
    refine Ev.succ ?_
    simp only [spec_DeadCells.j2, Bool.false_eq_true, if_false]
    cases b with
    | false => simp only [Bool.false_eq_true, if_false, h4'] at hR ⊢; exact hR
    | true => simp only [if_true, if_pos h2, if_pos h3, if_pos h5', h4'] at hR ⊢; exact hR
  | succ d ih =>
    intro c b hc hR
    have hc' : c < 2 ^ (cellsN l 0).length := by omega
    have h1 : (c : Int) < ((2 ^ (cellsN l 0).length : Nat) : Int) := Int.ofNat_lt.2 hc'
    have hc5 := pow512 hf hc'
    have h4 : wrap64 ((c : Int) + 1) = ((c + 1 : Nat) : Int) := by rw [w64 (by omega) (by omega)]; omega
    have hbit := (bit_at hc5 (by omega : i < 9)).1
    refine Ev.succ ?_
    simp only [spec_DeadCells.l1, hsh.2, hsh.1, if_pos h0, if_pos h1]
    refine Ev.succ ?_
    rw [List.range'_succ, List.all_cons] at hR
    cases b with
    | false =>
      simp only [spec_DeadCells.j2, Bool.false_eq_true, if_false, h4']
      simpa using hR
    | true =>
      simp only [spec_DeadCells.j2, if_true, hu, if_pos h2, hbit]
      cases hb : c.testBit i with
      | true =>
        have e : bitI c i = 1 := by unfold bitI; rw [hb]; rfl
        simp only [e, if_true, h4]
        refine ih (c + 1) true (by omega) ?_
        rw [hb, Bool.true_or, Bool.true_and] at hR
        exact hR
      | false =>
        have e : ¬ (bitI c i = 1) := by unfold bitI; rw [hb]; simp
        have hown : ∀ k : Nat, spec_l01Own.f l = some l := fun _ => by
          unfold spec_l01Own.f
          simp only [Option.bind_some, List.length_nil, Nat.zero_add, List.nil_append]
          rw [if_pos (by omega)]
        simp only [if_neg e, hown 0, Option.bind_some]
        refine specDead_l2 h hc' hi hb R ?_ (cellsN l 0).length 0 (by omega)
        refine ih (c + 1) _ (by omega) ?_
        rw [hb, Bool.false_or, Bool.true_and] at hR
        exact hR
theorem specDead_l0 {s : Nat} {l : List Int} (h : DB s l) : ∀ (d i : Nat), i + d = (cellsN l 0).length → Ev (fun k => spec_DeadCells.l0 k (cellsN l 0) (deadTo s l i) (i : Int) (s : Int) l) (deadTo s l (cellsN l 0).length, 0) := by
  intro d
  induction d with
  | zero =>
    intro i hi
    refine Ev.succ ?_
    have h1 : ¬ ((i : Int) < ((cellsN l 0).length : Int)) := by omega
    obtain rfl : i = (cellsN l 0).length := by omega
    simp only [spec_DeadCells.l0, if_neg h1]
    exact Ev.now _
  | succ d ih =>
    intro i hi
    refine Ev.succ ?_
    have h1 : (i : Int) < ((cellsN l 0).length : Int) := by omega
    simp only [spec_DeadCells.l0, if_pos h1]
    refine specDead_l1 h (by omega) _ (2 ^ (cellsN l 0).length) 0 true (by omega) ?_
    have := ih (i + 1) (by omega)
    rw [deadTo_succ, ← dead_same (by omega)] at this
    unfold deadS at this
    rw [← List.range_eq_range', Bool.true_and]
    exact this
theorem ev_specDead (a : Int) (l : List Int) (hm : l.length ≤ 1048576) : Ev (fun k => spec_DeadCells.f k a l) (deadR a l) := by
  unfold spec_DeadCells.f
  refine Ev.bind (ev_specIs a l (by omega)) ?_
  unfold deadR
  by_cases hB : isB a l = true
  · simp only [if_pos hB]
    obtain ⟨s, rfl, h1, h2, h3⟩ := isB_iff.1 hB
    have h64 : l.length ≤ 64 := by rw [h2]; exact Nat.mul_le_mul h1.2 h1.2
    refine Ev.bind (ev_specMover _ l h64 h3) ?_
    by_cases h9 : (cellsN l 0).length ≤ 9
    · have h9' : ¬ (((cellsN l 0).length : Int) > 9) := by omega
      simp only [if_pos h9, if_neg h9']
      refine Ev.bind (ev_specEmpty _ l h64 h9) ?_
      exact specDead_l0 ⟨h1, h2, h3, h9⟩ (cellsN l 0).length 0 (by omega)
    · have h9' : ((cellsN l 0).length : Int) > 9 := by omega
      simp only [if_neg h9, if_pos h9']
      exact Ev.now _
  · simp only [if_neg hB]
    exact Ev.now _
theorem deadR_len (a : Int) (l : List Int) : (deadR a l).1.length ≤ 9 := by
  unfold deadR
  split
  · split
    · have := deadTo_le a.toNat l (cellsN l 0).length
      exact Nat.le_trans this ‹_›
    · simp
  · simp
end Go.Proofs.Ytcfdlbjngpmcaaa.PAll
