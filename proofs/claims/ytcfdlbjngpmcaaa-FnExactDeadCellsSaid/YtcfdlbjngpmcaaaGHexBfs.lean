/- The reference's search on any board: it finds whether a player joins the two lines. -/
import Derived.Test.YtcfdlbjngpmcaaaGHexJust
import Derived.Test.YtcfdlbjngpmcaaaGHexNeed
import Derived.Test.YtcfdlbjngpmcaaaGNeedX
import Derived.Test.YtcfdlbjngpmcaaaPAllx3
import Derived.Test.YtcfdlbjngpmcaaaPAllx4
import Derived.Test.YtcfdlbjngpmcaaaPAllx9
namespace Go.Proofs.Ytcfdlbjngpmcaaa.PAll
open Go.RowKit Go.Proofs.YtcfdlbjngpmcaaaW.PrintWords Go.Proofs.YtcfdlbjngpmcaaaW.PrintLast
set_option linter.unusedVariables false

/-- How many cells are not met. -/
def missB (n : Nat) (m : List Bool) : Nat := (List.range n).countP fun (c : Nat) => !(m.getD c false)
theorem missB_put {n : Nat} {m : List Bool} {c : Nat} (hc : c < n) (hl : m.length = n) (hm : m.getD c false = false) : missB n (m.set c true) + 1 = missB n m := by
  unfold missB
  rw [← countP_less (List.range n) List.nodup_range (fun (c : Nat) => !(m.getD c false)) c (List.mem_range.2 hc) (by show (!(m.getD c false)) = true; rw [hm]; rfl)]
  refine congrArg (· + 1) (List.countP_congr fun x _ => ?_)
  simp only [List.getD_eq_getElem?_getD, List.getElem?_set]
  by_cases e : c = x
  · subst e; simp [hl, hc]
  · have e2 : (x == c) = false := by rw [beq_eq_false_iff_ne]; exact fun h => e h.symm
    simp [e, e2]
/-- What is known in the search. -/
structure QInv (s : Nat) (l : List Int) (p : Int) (met : List Bool) (q : List Int) : Prop where
  len : met.length = l.length
  cnt : q.length + missB l.length met = l.length
  iff : ∀ c : Int, 0 ≤ c → c < (l.length : Int) → (rdOf false met c = true ↔ c ∈ q)
  good : ∀ c ∈ q, okc l p c ∧ Reach (s : Int) l p c
theorem QInv.put {s : Nat} {l : List Int} {p : Int} {met : List Bool} {q : List Int} (h : QInv s l p met q) {c : Int} (hc : okc l p c) (hr : Reach (s : Int) l p c) (hn : c ∉ q) : QInv s l p (met.set c.toNat true) (q ++ [c]) := by
  obtain ⟨n, rfl⟩ := Int.eq_ofNat_of_zero_le hc.1
  have hn' : n < l.length := by have := hc.2.1; omega
  have hf : met.getD n false = false := by
    have := h.iff n hc.1 hc.2.1
    unfold rdOf at this
    simp only [Int.toNat_natCast] at this
    cases hm : met.getD n false with
    | false => rfl
    | true => exact absurd (this.1 hm) hn
  have h1 := missB_put hn' h.len hf
  have h2 := h.cnt
  refine ⟨by simpa using h.len, by simp only [List.length_append, List.length_cons, List.length_nil, Int.toNat_natCast]; omega, fun x hx0 hx1 => ?_, fun x hx => ?_⟩
  · obtain ⟨m, rfl⟩ := Int.eq_ofNat_of_zero_le hx0
    have h3 := h.iff m hx0 hx1
    unfold rdOf at h3 ⊢
    simp only [Int.toNat_natCast, List.getD_eq_getElem?_getD, List.getElem?_set, List.mem_append, List.mem_singleton] at h3 ⊢
    by_cases e : n = m
    · subst e
      have : n < met.length := by rw [h.len]; exact hn'
      simp [this]
    · have : ¬ ((m : Int) = (n : Int)) := by omega
      simp only [if_neg e, this, or_false]
      exact h3
  · rcases List.mem_append.1 hx with hx | hx
    · exact h.good x hx
    · rw [List.mem_singleton] at hx; subst hx; exact ⟨hc, hr⟩
theorem bfs_l2 {s : Nat} {l : List Int} {p : Int} (h64 : l.length ≤ 64) {i : Nat} {a : Int} {nr : List Int} (hnr : ∀ b ∈ nr, 0 ≤ b ∧ b < (l.length : Int)) (hn6 : nr.length ≤ 6) (hra : Reach (s : Int) l p a) (hni : nr = nearL (s : Int) a) (hi : i < l.length) :
    ∀ (d j : Nat) (met : List Bool) (q : List Int), j + d = nr.length → QInv s l p met q → ∃ met' t, QInv s l p met' (q ++ t) ∧ (∀ b ∈ nr.drop j, okc l p b → b ∈ q ++ t) ∧
      ∀ r, Ev (fun k => spec_l06Joins.l1 k (s : Int) l p met' (q ++ t) ((i + 1 : Nat) : Int)) r → Ev (fun k => spec_l06Joins.l2 k (s : Int) l p met q (i : Int) nr (j : Int)) r := by
  intro d
  induction d with
  | zero =>
    intro j met q hj hQ
    have h1 : ¬ ((j : Int) < (nr.length : Int)) := by omega
    refine ⟨met, [], by simpa using hQ, fun b hb => (by rw [List.drop_of_length_le (by omega)] at hb; cases hb), fun r hr => Ev.succ ?_⟩
    have h4 : wrap64 ((i : Int) + 1) = ((i + 1 : Nat) : Int) := by rw [w64 (by omega) (by omega)]; omega
    simp only [spec_l06Joins.l2, if_neg h1, h4]
    rw [List.append_nil] at hr
    exact hr
  | succ d ih =>
    intro j met q hj hQ
    have h1 : (j : Int) < (nr.length : Int) := by omega
    have h2 : (0 : Int) ≤ (j : Int) := by omega
    have h4 : wrap64 ((j : Int) + 1) = ((j + 1 : Nat) : Int) := by rw [w64 (by omega) (by omega)]; omega
    have hd : nr.drop j = nr[j] :: nr.drop (j + 1) := List.drop_eq_getElem_cons (by omega)
    have hb := hnr nr[j] (List.getElem_mem _)
    have hbm : nr[j] < (met.length : Int) := by rw [hQ.len]; exact hb.2
    have hiff := hQ.iff nr[j] hb.1 hb.2
    by_cases hin : nr[j] ∈ q
    · obtain ⟨met', t, a1, a2, a3⟩ := ih (j + 1) met q (by omega) hQ
      refine ⟨met', t, a1, fun b hbm' hbo => ?_, fun r hr => Ev.succ ?_⟩
      · rw [hd] at hbm'
        rcases List.mem_cons.1 hbm' with rfl | hbm'
        · exact List.mem_append_left _ hin
        · exact a2 b hbm' hbo
      · simp only [spec_l06Joins.l2, if_pos h1, if_pos h2, rd_nat nr j (by omega), if_pos hb.1, if_pos hbm, if_pos (hiff.2 hin), h4]
        exact a3 r hr
    · have hnm : ¬ (rdOf false met nr[j] = true) := fun h => hin (hiff.1 h)
      by_cases e : rd l nr[j] = p
      · have hok : okc l p nr[j] := ⟨hb.1, hb.2, e⟩
        have hQ' := hQ.put hok (reach_step hra (hni ▸ List.getElem_mem _) hok) hin
        obtain ⟨met', t, a1, a2, a3⟩ := ih (j + 1) _ _ (by omega) hQ'
        refine ⟨met', nr[j] :: t, by simpa using a1, fun b hbm' hbo => ?_, fun r hr => Ev.succ ?_⟩
        · rw [hd] at hbm'
          rcases List.mem_cons.1 hbm' with rfl | hbm'
          · exact List.mem_append_right _ List.mem_cons_self
          · have := a2 b hbm' hbo; simpa using this
        · have hq : q.length < 17592186044416 := by have := hQ.cnt; omega
          simp only [spec_l06Joins.l2, if_pos h1, if_pos h2, rd_nat nr j (by omega), if_pos hb.1, if_pos hbm, if_neg hnm, if_pos hb.2, if_pos e, if_pos hq, h4]
          exact a3 r (by simpa using hr)
      · obtain ⟨met', t, a1, a2, a3⟩ := ih (j + 1) met q (by omega) hQ
        refine ⟨met', t, a1, fun b hbm' hbo => ?_, fun r hr => Ev.succ ?_⟩
        · rw [hd] at hbm'
          rcases List.mem_cons.1 hbm' with rfl | hbm'
          · exact absurd hbo.2.2 e
          · exact a2 b hbm' hbo
        · simp only [spec_l06Joins.l2, if_pos h1, if_pos h2, rd_nat nr j (by omega), if_pos hb.1, if_pos hbm, if_neg hnm, if_pos hb.2, if_neg e, h4]
          exact a3 r hr
theorem bfs_test {s : Nat} {p : Int} (hs : 1 ≤ s ∧ s ≤ 8) (hp : p = 1 ∨ p = 2) (l : List Int) (met : List Bool) (q : List Int) (i : Nat) (hi : i < q.length) (k : Nat) :
    spec_l06Joins.l1 (k + 1) (s : Int) l p met q (i : Int) = spec_l06Joins.j2 k (s : Int) l p met q (i : Int) (rd q (i : Int)) (decide (lineI (s : Int) p (rd q (i : Int)) = (s : Int) - 1)) := by
  have h1 : (i : Int) < (q.length : Int) := by omega
  have h2 : (0 : Int) ≤ (i : Int) := by omega
  have h0 : ¬ ((s : Int) = 0) := by omega
  have hw : wrap64 ((s : Int) - 1) = (s : Int) - 1 := w64 (by omega) (by omega)
  simp only [spec_l06Joins.l1, if_pos h1, if_pos h2, if_neg h0, hw]
  unfold lineI
  rcases hp with rfl | rfl
  · simp only [if_true]
    have h12 : ¬ ((1 : Int) = 2) := by omega
    by_cases e : wrap64 (Int.tdiv (rd q (i : Int)) (s : Int)) = (s : Int) - 1
    · simp only [if_pos e, decide_eq_true e]
    · simp only [if_neg e, if_neg h12, decide_eq_false e]
  · have h21 : ¬ ((2 : Int) = 1) := by omega
    simp only [if_neg h21, if_true]
    by_cases e : Int.tmod (rd q (i : Int)) (s : Int) = (s : Int) - 1
    · rw [decide_eq_true e, beq_iff_eq.2 e]
    · rw [decide_eq_false e, beq_eq_false_iff_ne.2 e]
theorem bfs_l1 {s : Nat} {l : List Int} {p : Int} (hs : 1 ≤ s ∧ s ≤ 8) (hl : l.length = s * s) (hp : p = 1 ∨ p = 2) :
    ∀ (d i : Nat) (met : List Bool) (q : List Int), i + d = l.length → i ≤ q.length → QInv s l p met q → (∀ c, okc l p c → lineI (s : Int) p c = 0 → c ∈ q) → (∀ j, (h : j < q.length) → j < i → lineI (s : Int) p q[j] ≠ (s : Int) - 1 ∧ ∀ b ∈ nearL (s : Int) q[j], okc l p b → b ∈ q) →
      ∃ r, Ev (fun k => spec_l06Joins.l1 k (s : Int) l p met q (i : Int)) r ∧ (r = true ↔ Joins (s : Int) l p) := by
  have h64 : l.length ≤ 64 := by rw [hl]; exact Nat.mul_le_mul hs.2 hs.2
  have stop : ∀ (met : List Bool) (q : List Int), QInv s l p met q → (∀ c, okc l p c → lineI (s : Int) p c = 0 → c ∈ q) → (∀ j, (h : j < q.length) → j < q.length → lineI (s : Int) p q[j] ≠ (s : Int) - 1 ∧ ∀ b ∈ nearL (s : Int) q[j], okc l p b → b ∈ q) → ∃ r, Ev (fun k => spec_l06Joins.l1 k (s : Int) l p met q (q.length : Int)) r ∧ (r = true ↔ Joins (s : Int) l p) := by
    intro met q hQ hst hcl
    refine ⟨false, Ev.succ ?_, ⟨fun h => (by cases h), fun ⟨c, hc, hcl'⟩ => ?_⟩⟩
    · have h1 : ¬ ((q.length : Int) < (q.length : Int)) := by omega
      simp only [spec_l06Joins.l1, if_neg h1]
      exact Ev.now _
    · have hm : c ∈ q := hc (fun c => c ∈ q) (fun c h1 h2 => hst c h1 h2) (fun a b ha hb hbo => by
        obtain ⟨j, hj, rfl⟩ := List.mem_iff_getElem.1 ha
        exact (hcl j hj hj).2 b hb hbo)
      obtain ⟨j, hj, rfl⟩ := List.mem_iff_getElem.1 hm
      exact absurd hcl' (hcl j hj hj).1
  intro d
  induction d with
  | zero =>
    intro i met q hi hiq hQ hst hcl
    have : i = q.length := by have := hQ.cnt; omega
    subst this
    exact stop met q hQ hst hcl
  | succ d ih =>
    intro i met q hi hiq hQ hst hcl
    rcases Nat.lt_or_ge i q.length with hlt | hge
    · have hg := hQ.good q[i] (List.getElem_mem _)
      have hrd : rd q (i : Int) = q[i] := rd_nat q i hlt
      by_cases e : lineI (s : Int) p q[i] = (s : Int) - 1
      · refine ⟨true, Ev.step (fun k => bfs_test hs hp l met q i hlt k) (Ev.succ ?_), ⟨fun _ => ⟨q[i], hg.2, e⟩, fun _ => rfl⟩⟩
        rw [hrd, decide_eq_true e]
        simp only [spec_l06Joins.j2, if_true]
        exact Ev.now _
      · obtain ⟨n, hn⟩ := Int.eq_ofNat_of_zero_le hg.1.1
        have hnl : n < s * s := by have := hg.1.2.1; omega
        obtain ⟨_, _, hb, hl6⟩ := near_at hs hnl
        rw [← hn] at hb hl6
        have hb' : ∀ b ∈ nearL (s : Int) q[i], 0 ≤ b ∧ b < (l.length : Int) := fun b h => by
          obtain ⟨h5, h6⟩ := hb b h
          refine ⟨h5, ?_⟩
          rw [hl]; push_cast; exact h6
        obtain ⟨met', t, a1, a2, a3⟩ := bfs_l2 (p := p) (i := i) h64 hb' hl6 hg.2 rfl (by omega) (nearL (s : Int) q[i]).length 0 met q (by omega) hQ
        obtain ⟨r, b1, b2⟩ := ih (i + 1) met' (q ++ t) (by omega) (by simp; omega) a1 (fun c h1 h2 => List.mem_append_left _ (hst c h1 h2)) (fun j h1 h2 => by
          have hjq : j < q.length := by omega
          have e1 : (q ++ t)[j] = q[j] := List.getElem_append_left hjq
          rw [e1]
          rcases Nat.lt_or_ge j i with h3 | h3
          · exact ⟨(hcl j hjq h3).1, fun b k1 k2 => List.mem_append_left _ ((hcl j hjq h3).2 b k1 k2)⟩
          · have : j = i := by omega
            subst this
            exact ⟨e, fun b k1 k2 => a2 b (by simpa using k1) k2⟩)
        refine ⟨r, Ev.step (fun k => bfs_test hs hp l met q i hlt k) (Ev.succ ?_), b2⟩
        rw [hrd, decide_eq_false e]
        simp only [spec_l06Joins.j2, Bool.false_eq_true, if_false]
        have := ev_spec_near hs hnl
        rw [← hn] at this
        exact Ev.bind this (a3 r b1)
    · have : i = q.length := by omega
      subst this
      exact stop met q hQ hst hcl
/-- The k-th cell of the first line. -/
def stI (s p k : Int) : Int := if p = 2 then s * k else k
theorem stI_cl {p : Int} (hp : p = 1 ∨ p = 2) (s k : Int) : stI s p k = cl s p 0 k := by
  unfold stI cl
  rcases hp with rfl | rfl
  · simp
  · simp [Int.mul_comm]
theorem stI_ok {s : Nat} (hs : 1 ≤ s ∧ s ≤ 8) {p : Int} (hp : p = 1 ∨ p = 2) {k : Int} (hk : 0 ≤ k ∧ k < (s : Int)) : 0 ≤ stI s p k ∧ stI s p k < (s : Int) * (s : Int) ∧ lineI s p (stI s p k) = 0 ∧ cr s p (stI s p k) = k := by
  have h2 := cl_ok hs (p := p) (i := 0) ⟨by omega, by omega⟩ hk
  rw [stI_cl hp]
  exact ⟨h2.1, h2.2.1, by rw [lineI_ln hs ⟨h2.1, h2.2.1⟩]; exact h2.2.2.1, h2.2.2.2⟩
theorem stI_all {s : Nat} (hs : 1 ≤ s ∧ s ≤ 8) {p : Int} (hp : p = 1 ∨ p = 2) {c : Int} (hc : 0 ≤ c ∧ c < (s : Int) * (s : Int)) (h0 : lineI s p c = 0) : ∃ k, 0 ≤ k ∧ k < (s : Int) ∧ stI s p k = c := by
  have h1 := ln_ok hs (p := p) hc
  rw [lineI_ln hs hc] at h0
  refine ⟨cr s p c, h1.2.2.1, h1.2.2.2.1, ?_⟩
  rw [stI_cl hp]
  have h2 := h1.2.2.2.2
  rw [h0] at h2
  exact h2
theorem small64 {x : Int} (h0 : 0 ≤ x) (h1 : x < 65) : wrap64 x = x := w64 (by omega) (by omega)
theorem bfs_start {s : Nat} {p : Int} (hs : 1 ≤ s ∧ s ≤ 8) (hp : p = 1 ∨ p = 2) (l : List Int) (hl : l.length = s * s) (met : List Bool) (hm : met.length = l.length) (q : List Int) (hq : q.length < 17592186044416) (i : Nat) (hi : i < s) (k : Nat) :
    spec_l06Joins.l0 (k + 1) (s : Int) l p met q (i : Int) = if rd l (stI s p i) = p then spec_l06Joins.l0 k (s : Int) l p (met.set (stI s p i).toNat true) (q ++ [stI s p i]) ((i + 1 : Nat) : Int) else spec_l06Joins.l0 k (s : Int) l p met q ((i + 1 : Nat) : Int) := by
  have h1 : (i : Int) < (s : Int) := by omega
  have h2 : (0 : Int) ≤ (i : Int) := by omega
  have h4 : wrap64 ((i : Int) + 1) = ((i + 1 : Nat) : Int) := by rw [w64 (by omega) (by omega)]; omega
  have hst := stI_ok hs hp (k := (i : Int)) ⟨h2, h1⟩
  have hll : (l.length : Int) = (s : Int) * (s : Int) := by rw [hl]; push_cast; rfl
  have h88 : (s : Int) * (s : Int) < 65 := by
    have : s * s < 65 := Nat.lt_of_le_of_lt (Nat.mul_le_mul hs.2 hs.2) (by decide)
    exact_mod_cast this
  rcases hp with rfl | rfl
  · have h12 : ¬ ((1 : Int) = 2) := by omega
    have e : stI (s : Int) 1 (i : Int) = (i : Int) := by unfold stI; rw [if_neg h12]
    rw [e] at hst ⊢
    have h5 : (i : Int) < (l.length : Int) := hll ▸ hst.2.1
    have h6 : (i : Int) < (met.length : Int) := by rw [hm]; exact h5
    simp only [spec_l06Joins.l0, if_pos h1, if_neg h12, if_pos h2, if_pos h5, if_pos h6, if_pos hq, h4]
  · have e : stI (s : Int) 2 (i : Int) = (s : Int) * (i : Int) := by unfold stI; rw [if_pos rfl]
    rw [e] at hst ⊢
    have hw : wrap64 ((s : Int) * (i : Int)) = (s : Int) * (i : Int) := small64 hst.1 (Int.lt_trans hst.2.1 h88)
    have h5 : (s : Int) * (i : Int) < (l.length : Int) := hll ▸ hst.2.1
    have h6 : (s : Int) * (i : Int) < (met.length : Int) := by rw [hm]; exact h5
    simp only [spec_l06Joins.l0, if_pos h1, if_true, hw, if_pos hst.1, if_pos h5, if_pos h6, if_pos hq, h4]
theorem bfs_l0 {s : Nat} {l : List Int} {p : Int} (hs : 1 ≤ s ∧ s ≤ 8) (hl : l.length = s * s) (hp : p = 1 ∨ p = 2) :
    ∀ (d i : Nat) (met : List Bool) (q : List Int), i + d = s → QInv s l p met q → (∀ c ∈ q, ∃ j, 0 ≤ j ∧ j < (i : Int) ∧ c = stI s p j) → (∀ j : Int, 0 ≤ j → j < (i : Int) → okc l p (stI s p j) → stI s p j ∈ q) →
      ∃ r, Ev (fun k => spec_l06Joins.l0 k (s : Int) l p met q (i : Int)) r ∧ (r = true ↔ Joins (s : Int) l p) := by
  have hll : (l.length : Int) = (s : Int) * (s : Int) := by rw [hl]; push_cast; rfl
  have h88 : s * s ≤ 8 * 8 := Nat.mul_le_mul hs.2 hs.2
  intro d
  induction d with
  | zero =>
    intro i met q hi hQ hq1 hq2
    obtain ⟨r, h1, h2⟩ := bfs_l1 hs hl hp l.length 0 met q (by omega) (by omega) hQ (fun c hc h0 => by
      obtain ⟨k, k1, k2, k3⟩ := stI_all hs hp ⟨hc.1, by rw [← hll]; exact hc.2.1⟩ h0
      subst k3
      exact hq2 k k1 (by omega) hc) (fun j _ h => absurd h (by omega))
    refine ⟨r, Ev.succ ?_, h2⟩
    have h3 : ¬ ((i : Int) < (s : Int)) := by omega
    simp only [spec_l06Joins.l0, if_neg h3]
    exact h1
  | succ d ih =>
    intro i met q hi hQ hq1 hq2
    have hst := stI_ok hs hp (k := (i : Int)) ⟨by omega, by omega⟩
    have hql : q.length < 17592186044416 := by have := hQ.cnt; omega
    have hstep := fun k => bfs_start hs hp l hl met hQ.len q hql i (by omega) k
    by_cases e : rd l (stI s p i) = p
    · have hok : okc l p (stI s p i) := ⟨hst.1, by rw [hll]; exact hst.2.1, e⟩
      have hfr : stI s p i ∉ q := fun h => by
        obtain ⟨j, j1, j2, j3⟩ := hq1 _ h
        have := stI_ok hs hp (k := j) ⟨j1, by omega⟩
        rw [← j3, hst.2.2.2] at this
        omega
      obtain ⟨r, h1, h2⟩ := ih (i + 1) _ _ (by omega) (hQ.put hok (reach_start hok hst.2.2.1) hfr) (fun c hc => by
        rcases List.mem_append.1 hc with hc | hc
        · obtain ⟨j, j1, j2, j3⟩ := hq1 c hc
          exact ⟨j, j1, by omega, j3⟩
        · rw [List.mem_singleton] at hc
          exact ⟨i, by omega, by omega, hc⟩) (fun j j1 j2 j3 => by
        by_cases z : j = (i : Int)
        · subst z; exact List.mem_append_right _ (List.mem_singleton.2 rfl)
        · exact List.mem_append_left _ (hq2 j j1 (by omega) j3))
      refine ⟨r, Ev.step (fun k => ?_) h1, h2⟩
      rw [hstep k, if_pos e]
    · obtain ⟨r, h1, h2⟩ := ih (i + 1) met q (by omega) hQ (fun c hc => by
          obtain ⟨j, j1, j2, j3⟩ := hq1 c hc
          exact ⟨j, j1, by omega, j3⟩) (fun j j1 j2 j3 => by
        by_cases z : j = (i : Int)
        · subst z; exact absurd j3.2.2 e
        · exact hq2 j j1 (by omega) j3)
      refine ⟨r, Ev.step (fun k => ?_) h1, h2⟩
      rw [hstep k, if_neg e]
/-- The reference's search, on any board of a side. -/
theorem ev_joins {s : Nat} {l : List Int} {p : Int} (hs : 1 ≤ s ∧ s ≤ 8) (hl : l.length = s * s) (hp : p = 1 ∨ p = 2) : ∃ r, Ev (fun k => spec_l06Joins.f k (s : Int) l p) r ∧ (r = true ↔ Joins (s : Int) l p) := by
  have hll : (l.length : Int) = (s : Int) * (s : Int) := by rw [hl]; push_cast; rfl
  have h88 : (s : Int) * (s : Int) ≤ 64 := by
    have : s * s ≤ 8 * 8 := Nat.mul_le_mul hs.2 hs.2
    exact_mod_cast this
  have h00 : 0 ≤ (s : Int) * (s : Int) := by omega
  have hw : wrap64 ((s : Int) * (s : Int)) = (s : Int) * (s : Int) := w64 (by omega) (by omega)
  have hrep : ((s : Int) * (s : Int)).toNat = l.length := by omega
  have hle : l.length ≤ 281474976710656 := by omega
  obtain ⟨r, h1, h2⟩ := bfs_l0 hs hl hp s 0 (List.replicate l.length false) [] (by omega) ⟨by simp, by
      simp only [List.length_nil, Nat.zero_add, missB]
      rw [List.countP_eq_length.2]
      · simp
      · intro x hx
        simp [List.getD_eq_getElem?_getD, List.getElem?_replicate, List.mem_range.1 hx], fun c h0 h1 => by
      constructor
      · intro h
        simp only [rdOf, List.getD_eq_getElem?_getD, List.getElem?_replicate] at h
        split at h <;> simp at h
      · intro h; exact absurd h (by simp), fun c hc => (by cases hc)⟩ (fun c hc => (by cases hc)) (fun j h0 h1 => absurd h1 (by omega))
  refine ⟨r, ?_, h2⟩
  unfold spec_l06Joins.f
  simp only [hw, if_pos h00, hrep, if_pos hle]
  exact h1
/-- Who joins on a board, by the reference. -/
noncomputable def joinerN (s : Int) (l : List Int) : Int := by
  classical
  exact if Joins s l 1 then 1 else if Joins s l 2 then 2 else 0
theorem ev_specJoiner {s : Nat} {l : List Int} (hs : 1 ≤ s ∧ s ≤ 8) (hl : l.length = s * s) : Ev (fun k => spec_l06Joiner.f k (s : Int) l) (joinerN s l) := by
  obtain ⟨r1, a1, b1⟩ := ev_joins hs hl (p := 1) (Or.inl rfl)
  obtain ⟨r2, a2, b2⟩ := ev_joins hs hl (p := 2) (Or.inr rfl)
  have w1 : wrap64 (1 + 1) = 2 := w64 (by omega) (by omega)
  have w2 : wrap64 (2 + 1) = 3 := w64 (by omega) (by omega)
  have l1 : (1 : Int) < 3 := by omega
  have l2 : (2 : Int) < 3 := by omega
  have l3 : ¬ ((3 : Int) < 3) := by omega
  unfold spec_l06Joiner.f joinerN
  refine Ev.succ ?_
  simp only [spec_l06Joiner.l0, if_pos l1, w1]
  refine Ev.bind a1 ?_
  cases r1 with
  | true => rw [if_pos (b1.1 rfl)]; exact Ev.now _
  | false =>
    have n1 : ¬ Joins (s : Int) l 1 := fun h => by cases b1.2 h
    rw [if_neg n1]
    simp only [Bool.false_eq_true, if_false]
    refine Ev.succ ?_
    simp only [spec_l06Joiner.l0, if_pos l2, w2]
    refine Ev.bind a2 ?_
    cases r2 with
    | true => rw [if_pos (b2.1 rfl)]; exact Ev.now _
    | false =>
      have n2 : ¬ Joins (s : Int) l 2 := fun h => by cases b2.2 h
      rw [if_neg n2]
      simp only [Bool.false_eq_true, if_false]
      refine Ev.succ ?_
      simp only [spec_l06Joiner.l0, if_neg l3]
      exact Ev.now _
theorem ev_implJoiner {s : Nat} {l : List Int} (hF : Full s l) : Ev (fun k => impl_Hex_joiner.f k (s : Int) l) (joinerN s l) := by
  obtain ⟨r1, a1, b1⟩ := ev_need hF (p := 1)
  obtain ⟨r2, a2, b2⟩ := ev_need hF (p := 2)
  unfold impl_Hex_joiner.f
  simp only [Option.bind_some]
  have w1 : wrap64 (0 + 1) = 1 := w64 (by omega) (by omega)
  have w2 : wrap64 (1 + 1) = 2 := w64 (by omega) (by omega)
  have e0 : ∀ k, impl_Hex_joiner.l0 (k + 1) [1, 2] (([1, 2] : List Int).length : Int) 0 (s : Int) l = (impl_Hex_need.f k (s : Int) l 1).bind fun t => (if t = 0 then some 1 else impl_Hex_joiner.l0 k [1, 2] (([1, 2] : List Int).length : Int) 1 (s : Int) l) := fun k => by
    simp only [impl_Hex_joiner.l0, w1]; rfl
  have e1 : ∀ k, impl_Hex_joiner.l0 (k + 1) [1, 2] (([1, 2] : List Int).length : Int) 1 (s : Int) l = (impl_Hex_need.f k (s : Int) l 2).bind fun t => (if t = 0 then some 2 else impl_Hex_joiner.l0 k [1, 2] (([1, 2] : List Int).length : Int) 2 (s : Int) l) := fun k => by
    simp only [impl_Hex_joiner.l0, w2]; rfl
  have e2 : ∀ k, impl_Hex_joiner.l0 (k + 1) [1, 2] (([1, 2] : List Int).length : Int) 2 (s : Int) l = some 0 := fun k => by
    simp only [impl_Hex_joiner.l0]; rfl
  refine Ev.step e0 (Ev.bind a1 ?_)
  unfold joinerN
  by_cases n1 : Joins (s : Int) l 1
  · simp only [if_pos n1, if_pos (b1.2 n1)]; exact Ev.now _
  · have m1 : ¬ (r1 = 0) := fun h => n1 (b1.1 h)
    simp only [if_neg n1, if_neg m1]
    refine Ev.step e1 (Ev.bind a2 ?_)
    by_cases n2 : Joins (s : Int) l 2
    · simp only [if_pos n2, if_pos (b2.2 n2)]; exact Ev.now _
    · have m2 : ¬ (r2 = 0) := fun h => n2 (b2.1 h)
      simp only [if_neg n2, if_neg m2]
      exact Ev.step e2 (Ev.now _)
end Go.Proofs.Ytcfdlbjngpmcaaa.PAll
