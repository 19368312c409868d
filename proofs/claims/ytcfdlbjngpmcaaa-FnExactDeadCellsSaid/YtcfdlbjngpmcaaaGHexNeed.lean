/- need on a full board: 0 if the player joins the lines, -1 if not. -/
import Derived.Test.YtcfdlbjngpmcaaaGHexReach
import Derived.Test.YtcfdlbjngpmcaaaGNeedX
import Derived.Test.YtcfdlbjngpmcaaaPAllx13
import Derived.Test.YtcfdlbjngpmcaaaPAllx14
namespace Go.Proofs.Ytcfdlbjngpmcaaa.PAll
open Go.RowKit Go.Proofs.YtcfdlbjngpmcaaaW.PrintWords Go.Proofs.YtcfdlbjngpmcaaaW.PrintLast
set_option linter.unusedVariables false

/-- A board of a side, full. -/
structure Full (s : Nat) (l : List Int) : Prop where
  side : 1 ≤ s ∧ s ≤ 8
  n : l.length = s * s
  v : ∀ c : Int, 0 ≤ c → c < (l.length : Int) → rd l c = 1 ∨ rd l c = 2
theorem Full.le {s : Nat} {l : List Int} (h : Full s l) : l.length ≤ 64 := by
  have h1 := h.side
  have h2 : s * s ≤ 8 * 8 := Nat.mul_le_mul h1.2 h1.2
  rw [h.n]; omega
theorem cost0 {s : Nat} {l : List Int} (h : Full s l) {c : Int} (h0 : 0 ≤ c) (h1 : c < (l.length : Int)) : impl_Hex_need_1.f c (s : Int) l = some 0 := by
  have hv := h.v c h0 h1
  have hb : (rd l c == 0) = false := by rw [beq_eq_false_iff_ne]; omega
  unfold impl_Hex_need_1.f impl_bit.f
  simp only [if_pos h0, if_pos h1, hb, Bool.false_eq_true, if_false, Option.bind_some]
theorem open0 {s : Nat} {l : List Int} (h : Full s l) {c p : Int} (h0 : 0 ≤ c) (h1 : c < (l.length : Int)) : impl_Hex_need_2.f c (s : Int) l p = some (rd l c == p) := by
  have hv := h.v c h0 h1
  have hb : ¬ (rd l c = 0) := by omega
  unfold impl_Hex_need_2.f
  simp only [if_pos h0, if_pos h1, if_neg hb]

/-- How many cells have no entry yet. -/
def missing (n : Nat) (m : List (Int × Int)) : Nat := (List.range n).countP fun (c : Nat) => (mget m (c : Int)).isNone
theorem countP_less (L : List Nat) (hL : L.Nodup) (P : Nat → Bool) (c : Nat) (hc : c ∈ L) (hP : P c = true) : L.countP (fun x => P x && !(x == c)) + 1 = L.countP P := by
  induction L with
  | nil => cases hc
  | cons a t ih =>
    rw [List.nodup_cons] at hL
    rw [List.countP_cons, List.countP_cons]
    rcases List.mem_cons.1 hc with rfl | hc'
    · have : t.countP (fun x => P x && !(x == c)) = t.countP P := List.countP_congr fun x hx => by
        have : (x == c) = false := by rw [beq_eq_false_iff_ne]; intro e; exact hL.1 (e ▸ hx)
        simp [this]
      rw [this]; simp [hP]
    · have hne : (a == c) = false := by rw [beq_eq_false_iff_ne]; intro e; exact hL.1 (e ▸ hc')
      have := ih hL.2 hc'
      rw [hne]
      simp only [Bool.not_false, Bool.and_true]
      omega
theorem missing_put {n : Nat} {m : List (Int × Int)} {c : Nat} (hc : c < n) (hm : mget m (c : Int) = none) (v : Int) : missing n (mput m (c : Int) v) + 1 = missing n m := by
  unfold missing
  rw [← countP_less (List.range n) List.nodup_range (fun (c : Nat) => (mget m (c : Int)).isNone) c (List.mem_range.2 hc) (by simp [hm])]
  refine congrArg (· + 1) (List.countP_congr fun x _ => ?_)
  simp only [mput, mget]
  by_cases e : x = c
  · subst e; simp
  · have e1 : ¬ ((c : Int) = (x : Int)) := by omega
    have e2 : (x == c) = false := by rw [beq_eq_false_iff_ne]; exact e
    simp [e1, e2]
/-- What is known of the map: its cells are the player's, and joined to the first line; all at no cost. -/
structure KInv (s : Nat) (l : List Int) (p : Int) (m : List (Int × Int)) : Prop where
  zero : ∀ q ∈ m, q.2 = 0
  good : ∀ c v, mget m c = some v → v = 0 ∧ okc l p c ∧ Reach (s : Int) l p c
  len : m.length + missing l.length m = l.length
def Grows (m m' : List (Int × Int)) : Prop := ∀ c v, mget m c = some v → mget m' c = some v
theorem Grows.refl (m : List (Int × Int)) : Grows m m := fun _ _ h => h
theorem Grows.trans {a b c : List (Int × Int)} (h : Grows a b) (k : Grows b c) : Grows a c := fun x v e => k x v (h x v e)
theorem grows_put {m : List (Int × Int)} {c : Int} (h : mget m c = none) (v : Int) : Grows m (mput m c v) := fun x w e => by
  simp only [mput, mget]
  by_cases z : c = x
  · subst z; rw [h] at e; cases e
  · rw [if_neg z]; exact e
theorem KInv.put {s : Nat} {l : List Int} {p : Int} {m : List (Int × Int)} (h : KInv s l p m) {c : Int} (hc : okc l p c) (hr : Reach (s : Int) l p c) (hm : mget m c = none) : KInv s l p (mput m c 0) ∧ missing l.length (mput m c 0) < missing l.length m ∧ m.length < l.length := by
  obtain ⟨n, rfl⟩ := Int.eq_ofNat_of_zero_le hc.1
  have hn : n < l.length := by have := hc.2.1; omega
  have h1 := missing_put hn hm 0
  have h2 := h.len
  refine ⟨⟨fun q hq => ?_, fun x v e => ?_, ?_⟩, by omega, by omega⟩
  · rcases List.mem_cons.1 hq with rfl | hq
    · rfl
    · exact h.zero q hq
  · simp only [mput, mget] at e
    by_cases z : (n : Int) = x
    · rw [if_pos z] at e; cases e; subst z; exact ⟨rfl, hc, hr⟩
    · rw [if_neg z] at e; exact h.good x v e
  · simp only [mput, List.length_cons] at h1 ⊢
    omega
theorem need_l3 {s : Nat} {l : List Int} {p : Int} (hF : Full s l) {i : Int} {nr : List Int} (hnr : ∀ b ∈ nr, 0 ≤ b ∧ b < (l.length : Int)) (hn6 : nr.length ≤ 6) (hri : Reach (s : Int) l p i) (hni : nr = nearL (s : Int) i) :
    ∀ (d j : Nat) (m : List (Int × Int)) (ch : Bool), j + d = nr.length → KInv s l p m → ∃ m' ch', KInv s l p m' ∧ Grows m m' ∧ (∀ b ∈ nr.drop j, okc l p b → (mget m' b).isSome = true) ∧ (ch' = true → ch = true ∨ missing l.length m' < missing l.length m) ∧ (ch' = false → m' = m ∧ ch = false) ∧ missing l.length m' ≤ missing l.length m ∧
      ∀ r, Ev (fun k => impl_Hex_need.l2 k (s : Int) l p m' ch' (wrap64 (i + 1))) r → Ev (fun k => impl_Hex_need.l3 k (s : Int) l p m ch i 0 nr (j : Int)) r := by
  have hle := hF.le
  intro d
  induction d with
  | zero =>
    intro j m ch hj hK
    have h1 : ¬ ((j : Int) < (nr.length : Int)) := by omega
    refine ⟨m, ch, hK, Grows.refl m, fun b hb => (by rw [List.drop_of_length_le (by omega)] at hb; cases hb), fun h => Or.inl h, fun h => ⟨rfl, h⟩, Nat.le_refl _, fun r hr => Ev.succ ?_⟩
    simp only [impl_Hex_need.l3, if_neg h1]
    exact hr
  | succ d ih =>
    intro j m ch hj hK
    have h1 : (j : Int) < (nr.length : Int) := by omega
    have h2 : (0 : Int) ≤ (j : Int) := by omega
    have h4 : wrap64 ((j : Int) + 1) = ((j + 1 : Nat) : Int) := by rw [w64 (by omega) (by omega)]; omega
    have hd : nr.drop j = nr[j] :: nr.drop (j + 1) := List.drop_eq_getElem_cons (by omega)
    have hb := hnr nr[j] (List.getElem_mem _)
    have ho := open0 hF (p := p) hb.1 hb.2
    have hc := cost0 hF hb.1 hb.2
    have hadd : wrap64 (0 + 0) = 0 := w64 (by omega) (by omega)
    by_cases e : rd l nr[j] = p
    · have hok : okc l p nr[j] := ⟨hb.1, hb.2, e⟩
      have e' : (rd l nr[j] == p) = true := by simpa using e
      cases hg : mget m nr[j] with
      | none =>
        obtain ⟨hK1, hlt, hml⟩ := hK.put hok (reach_step hri (hni ▸ List.getElem_mem _) hok) hg
        obtain ⟨m', ch', a1, a2, a3, a4, a5, a6, a7⟩ := ih (j + 1) (mput m nr[j] 0) true (by omega) hK1
        refine ⟨m', ch', a1, (grows_put hg 0).trans a2, ?_, fun _ => Or.inr (by omega), fun h => (by have := (a5 h).2; cases this), by omega, fun r hr => Ev.succ ?_⟩
        · intro b hbm hbo
          rw [hd] at hbm
          rcases List.mem_cons.1 hbm with rfl | hbm
          · have := a2 nr[j] 0 (by simp [mput, mget])
            rw [this]; rfl
          · exact a3 b hbm hbo
        · have hml' : m.length < 1048576 := by omega
          simp only [impl_Hex_need.l3, if_pos h1, if_pos h2, rd_nat nr j (by omega), ho, Option.bind_some, e', if_true, hg, hc, if_pos hml', hadd, h4]
          exact a7 r hr
      | some v =>
        obtain ⟨rfl, _, _⟩ := hK.good _ _ hg
        obtain ⟨m', ch', a1, a2, a3, a4, a5, a6, a7⟩ := ih (j + 1) m ch (by omega) hK
        refine ⟨m', ch', a1, a2, ?_, a4, a5, a6, fun r hr => Ev.succ ?_⟩
        · intro b hbm hbo
          rw [hd] at hbm
          rcases List.mem_cons.1 hbm with rfl | hbm
          · rw [a2 _ _ hg]; rfl
          · exact a3 b hbm hbo
        · have hn : ¬ ((0 : Int) < 0) := by omega
          simp only [impl_Hex_need.l3, if_pos h1, if_pos h2, rd_nat nr j (by omega), ho, Option.bind_some, e', if_true, hg, hc, hadd, if_neg hn, h4]
          exact a7 r hr
    · have e' : (rd l nr[j] == p) = false := by simpa using e
      obtain ⟨m', ch', a1, a2, a3, a4, a5, a6, a7⟩ := ih (j + 1) m ch (by omega) hK
      refine ⟨m', ch', a1, a2, ?_, a4, a5, a6, fun r hr => Ev.succ ?_⟩
      · intro b hbm hbo
        rw [hd] at hbm
        rcases List.mem_cons.1 hbm with rfl | hbm
        · exact absurd hbo.2.2 e
        · exact a3 b hbm hbo
      · simp only [impl_Hex_need.l3, if_pos h1, if_pos h2, rd_nat nr j (by omega), ho, Option.bind_some, e', Bool.false_eq_true, if_false, h4]
        exact a7 r hr
/-- Keys are closed from a cell on. -/
def Shut (s : Nat) (l : List Int) (p : Int) (m : List (Int × Int)) (i : Nat) : Prop := ∀ c : Nat, i ≤ c → c < l.length → (mget m (c : Int)).isSome = true → ∀ b ∈ nearL (s : Int) (c : Int), okc l p b → (mget m b).isSome = true
theorem need_l2 {s : Nat} {l : List Int} {p : Int} (hF : Full s l) :
    ∀ (d i : Nat) (m : List (Int × Int)) (ch : Bool), i + d = l.length → KInv s l p m → ∃ m' ch', KInv s l p m' ∧ Grows m m' ∧ (ch' = true → ch = true ∨ missing l.length m' < missing l.length m) ∧ (ch' = false → m' = m ∧ ch = false ∧ Shut s l p m i) ∧ missing l.length m' ≤ missing l.length m ∧
      ∀ r, Ev (fun k => impl_Hex_need.l1 k (s : Int) l p m' ch') r → Ev (fun k => impl_Hex_need.l2 k (s : Int) l p m ch (i : Int)) r := by
  have hle := hF.le
  intro d
  induction d with
  | zero =>
    intro i m ch hi hK
    have h1 : ¬ ((i : Int) < (l.length : Int)) := by omega
    refine ⟨m, ch, hK, Grows.refl m, fun h => Or.inl h, fun h => ⟨rfl, h, fun c h2 h3 => absurd h3 (by omega)⟩, Nat.le_refl _, fun r hr => Ev.succ ?_⟩
    simp only [impl_Hex_need.l2, if_neg h1]
    exact hr
  | succ d ih =>
    intro i m ch hi hK
    have h1 : (i : Int) < (l.length : Int) := by omega
    have h4 : wrap64 ((i : Int) + 1) = ((i + 1 : Nat) : Int) := by rw [w64 (by omega) (by omega)]; omega
    cases hg : mget m (i : Int) with
    | none =>
      obtain ⟨m', ch', a1, a2, a3, a4, a5, a6⟩ := ih (i + 1) m ch (by omega) hK
      refine ⟨m', ch', a1, a2, a3, fun h => ?_, a5, fun r hr => Ev.succ ?_⟩
      · obtain ⟨b1, b2, b3⟩ := a4 h
        refine ⟨b1, b2, fun c hc => ?_⟩
        rcases Nat.lt_or_ge i c with h5 | h5
        · exact b3 c h5
        · have : c = i := by omega
          subst this
          intro _ h6
          rw [hg] at h6; cases h6
      · simp only [impl_Hex_need.l2, if_pos h1, hg, h4]
        exact a6 r hr
    | some v =>
      obtain ⟨rfl, hok, hre⟩ := hK.good _ _ hg
      have hn : i < s * s := by have := hF.n; omega
      obtain ⟨_, _, hb, hl6⟩ := near_at (s := s) (a := i) hF.side hn
      have hb' : ∀ b ∈ nearL (s : Int) (i : Int), 0 ≤ b ∧ b < (l.length : Int) := fun b h => by
        obtain ⟨h5, h6⟩ := hb b h
        refine ⟨h5, ?_⟩
        rw [hF.n]; push_cast; exact h6
      obtain ⟨m1, ch1, c1, c2, c3, c4, c5, c6, c7⟩ := need_l3 (p := p) hF hb' hl6 hre rfl (nearL (s : Int) (i : Int)).length 0 m ch (by omega) hK
      obtain ⟨m', ch', a1, a2, a3, a4, a5, a6⟩ := ih (i + 1) m1 ch1 (by omega) c1
      refine ⟨m', ch', a1, c2.trans a2, fun h => ?_, fun h => ?_, by omega, fun r hr => Ev.succ ?_⟩
      · rcases a3 h with h5 | h5
        · rcases c4 h5 with h6 | h6
          · exact Or.inl h6
          · exact Or.inr (by omega)
        · exact Or.inr (by omega)
      · obtain ⟨b1, b2, b3⟩ := a4 h
        obtain ⟨d1, d2⟩ := c5 b2
        subst d1
        refine ⟨b1, d2, fun c hc => ?_⟩
        rcases Nat.lt_or_ge i c with h5 | h5
        · exact b3 c h5
        · have : c = i := by omega
          subst this
          intro _ _ b hbm hbo
          exact c3 b (by simpa using hbm) hbo
      · simp only [impl_Hex_need.l2, if_pos h1, hg]
        refine Ev.bind (ev_impl_near hF.side hn) ?_
        refine c7 r ?_
        rw [h4]
        exact a6 r hr
theorem need_l1 {s : Nat} {l : List Int} {p : Int} (hF : Full s l) :
    ∀ (d : Nat) (m : List (Int × Int)), missing l.length m < d → KInv s l p m → ∃ m', KInv s l p m' ∧ Grows m m' ∧ Shut s l p m' 0 ∧ Ev (fun k => impl_Hex_need.l1 k (s : Int) l p m true) (bestM (s : Int) p m') := by
  intro d
  induction d with
  | zero => intro m h; omega
  | succ d ih =>
    intro m hd hK
    obtain ⟨m1, ch1, a1, a2, a3, a4, a5, a6⟩ := need_l2 (p := p) hF l.length 0 m false (by omega) hK
    cases ch1 with
    | true =>
      rcases a3 rfl with h | h
      · cases h
      · obtain ⟨m', b1, b2, b3, b4⟩ := ih m1 (by omega) a1
        refine ⟨m', b1, a2.trans b2, b3, Ev.succ ?_⟩
        simp only [impl_Hex_need.l1, if_true]
        exact a6 _ b4
    | false =>
      obtain ⟨rfl, _, b3⟩ := a4 rfl
      refine ⟨m1, hK, a2, b3, Ev.succ ?_⟩
      simp only [impl_Hex_need.l1, if_true]
      refine a6 _ (Ev.succ ?_)
      have h5 : (m1.all fun q => decide (0 ≤ q.2)) = true := List.all_eq_true.2 fun q hq => by rw [hK.zero q hq]; rfl
      simp only [impl_Hex_need.l1, Bool.false_eq_true, if_false, h5, if_true]
      exact Ev.now _
theorem need_l0 {s : Nat} {l : List Int} {p : Int} (hF : Full s l) :
    ∀ (d i : Nat) (m : List (Int × Int)), i + d = l.length → KInv s l p m → (∀ c v, mget m c = some v → c < (i : Int)) → (∀ c : Int, okc l p c → lineI (s : Int) p c = 0 → c < (i : Int) → (mget m c).isSome = true) →
      ∃ m', KInv s l p m' ∧ (∀ c : Int, okc l p c → lineI (s : Int) p c = 0 → (mget m' c).isSome = true) ∧ ∀ r, Ev (fun k => impl_Hex_need.l1 k (s : Int) l p m' true) r → Ev (fun k => impl_Hex_need.l0 k (s : Int) l p m (i : Int)) r := by
  have hle := hF.le
  intro d
  induction d with
  | zero =>
    intro i m hi hK hlt hst
    have h1 : ¬ ((i : Int) < (l.length : Int)) := by omega
    refine ⟨m, hK, fun c hc h0 => hst c hc h0 (by have := hc.2.1; omega), fun r hr => Ev.succ ?_⟩
    simp only [impl_Hex_need.l0, if_neg h1]
    exact hr
  | succ d ih =>
    intro i m hi hK hlt hst
    have h1 : (i : Int) < (l.length : Int) := by omega
    have h2 : (0 : Int) ≤ (i : Int) := by omega
    have h4 : wrap64 ((i : Int) + 1) = ((i + 1 : Nat) : Int) := by rw [w64 (by omega) (by omega)]; omega
    have ho := open0 hF (p := p) h2 h1
    have hc := cost0 hF h2 h1
    have hfresh : mget m (i : Int) = none := by
      cases hg : mget m (i : Int) with
      | none => rfl
      | some v => have := hlt _ _ hg; omega
    by_cases hl0 : lineI (s : Int) p (i : Int) = 0 ∧ rd l (i : Int) = p
    · have hok : okc l p (i : Int) := ⟨h2, h1, hl0.2⟩
      have e' : (rd l (i : Int) == p) = true := by simpa using hl0.2
      obtain ⟨hK1, _, hml⟩ := hK.put hok (reach_start hok hl0.1) hfresh
      obtain ⟨m', a1, a2, a3⟩ := ih (i + 1) (mput m (i : Int) 0) (by omega) hK1 (fun c v h => by
          simp only [mput, mget] at h
          by_cases z : (i : Int) = c
          · omega
          · rw [if_neg z] at h; have := hlt _ _ h; omega) (fun c hco hc0 hci => by
          simp only [mput, mget]
          by_cases z : (i : Int) = c
          · rw [if_pos z]; rfl
          · rw [if_neg z]; exact hst c hco hc0 (by omega))
      refine ⟨m', a1, a2, fun r hr => Ev.succ ?_⟩
      have hml' : m.length < 1048576 := by omega
      simp only [impl_Hex_need.l0, if_pos h1, if_pos hl0.1, ho, Option.bind_some, e', if_true, hc, if_pos hml', h4]
      exact a3 r hr
    · obtain ⟨m', a1, a2, a3⟩ := ih (i + 1) m (by omega) hK (fun c v h => by have := hlt _ _ h; omega) (fun c hco hc0 hci => by
          by_cases z : (i : Int) = c
          · exact absurd ⟨z ▸ hc0, z ▸ hco.2.2⟩ hl0
          · exact hst c hco hc0 (by omega))
      refine ⟨m', a1, a2, fun r hr => Ev.succ ?_⟩
      by_cases h5 : lineI (s : Int) p (i : Int) = 0
      · have e' : (rd l (i : Int) == p) = false := by
          rw [beq_eq_false_iff_ne]; exact fun e => hl0 ⟨h5, e⟩
        simp only [impl_Hex_need.l0, if_pos h1, if_pos h5, ho, Option.bind_some, e', Bool.false_eq_true, if_false, h4]
        exact a3 r hr
      · simp only [impl_Hex_need.l0, if_pos h1, if_neg h5, h4]
        exact a3 r hr
theorem best_fold {M : List (Int × Int)} (s p : Int) (z : ∀ q ∈ M, q.2 = 0) : ((M.foldr (fun p' b => if lineI s p p'.1 = wrap64 (s - 1) ∧ (b < 0 ∨ p'.2 < b) then p'.2 else b) (-1)) = 0 ∧ ∃ q ∈ M, lineI s p q.1 = wrap64 (s - 1)) ∨ ((M.foldr (fun p' b => if lineI s p p'.1 = wrap64 (s - 1) ∧ (b < 0 ∨ p'.2 < b) then p'.2 else b) (-1)) = -1 ∧ ∀ q ∈ M, lineI s p q.1 ≠ wrap64 (s - 1)) := by
  induction M with
  | nil => exact Or.inr ⟨rfl, fun q hq => (by cases hq)⟩
  | cons a t ih =>
    have za := z a List.mem_cons_self
    rw [List.foldr_cons]
    rcases ih (fun q hq => z q (List.mem_cons_of_mem _ hq)) with ⟨h1, q, hq, h2⟩ | ⟨h1, h2⟩
    · refine Or.inl ⟨?_, q, List.mem_cons_of_mem _ hq, h2⟩
      rw [h1, za, if_neg (by omega)]
    · rw [h1]
      by_cases h3 : lineI s p a.1 = wrap64 (s - 1)
      · refine Or.inl ⟨?_, a, List.mem_cons_self, h3⟩
        rw [if_pos ⟨h3, Or.inl (by omega)⟩, za]
      · refine Or.inr ⟨?_, fun q hq => ?_⟩
        · rw [if_neg (fun h => h3 h.1)]
        · rcases List.mem_cons.1 hq with rfl | hq
          · exact h3
          · exact h2 q hq
theorem mget_in {m : List (Int × Int)} {c v : Int} (h : mget m c = some v) : (c, v) ∈ m := by
  induction m with
  | nil => cases h
  | cons a t ih =>
    simp only [mget] at h
    by_cases z : a.1 = c
    · rw [if_pos z] at h
      have : a = (c, v) := by cases a; simp_all
      rw [this]; exact List.mem_cons_self
    · rw [if_neg z] at h; exact List.mem_cons_of_mem _ (ih h)
/-- need on a full board. -/
theorem ev_need {s : Nat} {l : List Int} {p : Int} (hF : Full s l) : ∃ r, Ev (fun k => impl_Hex_need.f k (s : Int) l p) r ∧ (r = 0 ↔ Joins (s : Int) l p) := by
  have hle := hF.le
  have hs := hF.side
  obtain ⟨m1, a1, a2, a3⟩ := need_l0 (p := p) hF l.length 0 [] (by omega) ⟨fun q hq => (by cases hq), fun c v h => (by cases h), by simp [missing, mget]⟩ (fun c v h => (by cases h)) (fun c hc _ h => by have := hc.1; omega)
  obtain ⟨m', b1, b2, b3, b4⟩ := need_l1 (p := p) hF _ m1 (Nat.lt_succ_self _) a1
  refine ⟨bestM (s : Int) p m', ?_, ?_⟩
  · unfold impl_Hex_need.f
    have h1 : ¬ ((s : Int) = 0) := by omega
    have h2 : l.length ≤ 1048576 := by omega
    simp only [if_neg h1, if_pos h2]
    exact a3 _ b4
  · have hw : wrap64 ((s : Int) - 1) = (s : Int) - 1 := w64 (by omega) (by omega)
    have hz : ∀ q ∈ m'.filter (fun p => mget m' p.1 == some p.2), q.2 = 0 := fun q hq => b1.zero q (List.mem_filter.1 hq).1
    have hall : ∀ c, Reach (s : Int) l p c → (mget m' c).isSome = true := fun c hc => by
      refine (hc (fun c => okc l p c ∧ (mget m' c).isSome = true) (fun c h1 h2 => ⟨h1, ?_⟩) (fun a b ha hb hob => ⟨hob, ?_⟩)).2
      · obtain ⟨v, hv⟩ := Option.isSome_iff_exists.1 (a2 c h1 h2)
        rw [b2 _ _ hv]; rfl
      · obtain ⟨n, rfl⟩ := Int.eq_ofNat_of_zero_le ha.1.1
        exact b3 n (Nat.zero_le _) (by have := ha.1.2.1; omega) ha.2 b hb hob
    unfold bestM
    rcases best_fold (s : Int) p hz with ⟨h1, q, hq, h2⟩ | ⟨h1, h2⟩
    · rw [h1]
      refine ⟨fun _ => ?_, fun _ => rfl⟩
      obtain ⟨hq1, hq2⟩ := List.mem_filter.1 hq
      have hq3 : mget m' q.1 = some q.2 := by simpa using hq2
      exact ⟨q.1, (b1.good _ _ hq3).2.2, by rw [h2, hw]⟩
    · rw [h1]
      refine ⟨fun h => by omega, fun ⟨c, hc, hcl⟩ => ?_⟩
      obtain ⟨v, hv⟩ := Option.isSome_iff_exists.1 (hall c hc)
      have := h2 (c, v) (List.mem_filter.2 ⟨mget_in hv, by simpa using hv⟩)
      exact absurd (by rw [hw]; exact hcl) this
end Go.Proofs.Ytcfdlbjngpmcaaa.PAll
