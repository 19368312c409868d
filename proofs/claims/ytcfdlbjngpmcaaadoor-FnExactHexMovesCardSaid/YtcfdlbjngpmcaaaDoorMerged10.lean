/- Texts of this claim that follow each other, laid together. -/
import Derived.Test.YtcfdlbjngpmcaaaDoorPAllx11
import Derived.Test.YtcfdlbjngpmcaaaDoorPAllx4
import Derived.Test.YtcfdlbjngpmcaaaDoorMerged7
import Derived.Maps.OwnSet
import Derived.Maps.RangeWalk
import Derived.Maps.Ext

section
/- (Hex).need: what it reckons: distances in a map, made less until nothing turns. -/
namespace Go.Proofs.YtcfdlbjngpmcaaaDoor.PAll
open Go.RowKit Go.Proofs.YtcfdlbjngpmcaaaDoorW.PrintWords Go.Proofs.YtcfdlbjngpmcaaaDoorW.PrintLast
set_option linter.unusedVariables false

/-- A map as the list of what was put, the last first. -/
def mget : List (Int × Int) → Int → Option Int
  | [], _ => none
  | p :: m, c => if p.1 = c then some p.2 else mget m c
def mput (m : List (Int × Int)) (c v : Int) : List (Int × Int) := (c, v) :: m
def lineI (side player c : Int) : Int := if player = 1 then wrap64 (Int.tdiv c side) else Int.tmod c side
/-- The least value of the entries on the last line, -1 if there is none. -/
def bestM (side player : Int) (m : List (Int × Int)) : Int := (m.filter fun p => mget m p.1 == some p.2).foldr (fun p b => if lineI side player p.1 = wrap64 (side - 1) ∧ (b < 0 ∨ p.2 < b) then p.2 else b) (-1)
mutual
def impl_Hex_need.l0 : Nat → Int → List Int → Int → List (Int × Int) → Int → Option Int
  | 0, _, _, _, _, _ => none
  | k + 1, s, l, p, m, i =>
    if i < (l.length : Int) then
      (if lineI s p i = 0 then (impl_Hex_need_2.f i s l p).bind fun o =>
        (if o = true then (impl_Hex_need_1.f i s l).bind fun c => (if m.length < 1048576 then impl_Hex_need.l0 k s l p (mput m i c) (wrap64 (i + 1)) else none) else impl_Hex_need.l0 k s l p m (wrap64 (i + 1)))
      else impl_Hex_need.l0 k s l p m (wrap64 (i + 1)))
    else impl_Hex_need.l1 k s l p m true
def impl_Hex_need.l1 : Nat → Int → List Int → Int → List (Int × Int) → Bool → Option Int
  | 0, _, _, _, _, _ => none
  | k + 1, s, l, p, m, ch => if ch = true then impl_Hex_need.l2 k s l p m false 0 else (if m.all (fun q => decide (0 ≤ q.2)) = true then some (bestM s p m) else none)
def impl_Hex_need.l2 : Nat → Int → List Int → Int → List (Int × Int) → Bool → Int → Option Int
  | 0, _, _, _, _, _, _ => none
  | k + 1, s, l, p, m, ch, i =>
    if i < (l.length : Int) then
      (match mget m i with
      | none => impl_Hex_need.l2 k s l p m ch (wrap64 (i + 1))
      | some n => (impl_near.f k s i).bind fun near => impl_Hex_need.l3 k s l p m ch i n near 0)
    else impl_Hex_need.l1 k s l p m ch
def impl_Hex_need.l3 : Nat → Int → List Int → Int → List (Int × Int) → Bool → Int → Int → List Int → Int → Option Int
  | 0, _, _, _, _, _, _, _, _, _ => none
  | k + 1, s, l, p, m, ch, i, n, near, j =>
    if j < (near.length : Int) then
      (if 0 ≤ j then (impl_Hex_need_2.f (rd near j) s l p).bind fun o =>
        (if o = true then
          (match mget m (rd near j) with
          | none => (impl_Hex_need_1.f (rd near j) s l).bind fun c => (if m.length < 1048576 then impl_Hex_need.l3 k s l p (mput m (rd near j) (wrap64 (n + c))) true i n near (wrap64 (j + 1)) else none)
          | some v => (impl_Hex_need_1.f (rd near j) s l).bind fun c => (if wrap64 (n + c) < v then (if m.length < 1048576 then impl_Hex_need.l3 k s l p (mput m (rd near j) (wrap64 (n + c))) true i n near (wrap64 (j + 1)) else none) else impl_Hex_need.l3 k s l p m ch i n near (wrap64 (j + 1))))
        else impl_Hex_need.l3 k s l p m ch i n near (wrap64 (j + 1)))
      else none)
    else impl_Hex_need.l2 k s l p m ch (wrap64 (i + 1))
end
def impl_Hex_need.f (k : Nat) (a0_0 : Int) (l0_1 : List Int) (a1 : Int) : Option (Int) := if a0_0 = 0 then none else if l0_1.length ≤ 1048576 then impl_Hex_need.l0 k a0_0 l0_1 a1 [] 0 else none

end Go.Proofs.YtcfdlbjngpmcaaaDoor.PAll
end

section
/- (Hex).need: the walk: a map that the call makes, written in loops, ranged over at the end. -/
namespace Go.Proofs.YtcfdlbjngpmcaaaDoor.PAll
open Go.RowKit Go.Maps Go.Proofs.YtcfdlbjngpmcaaaDoorW.PrintWords Go.Proofs.YtcfdlbjngpmcaaaDoorW.PrintLast Go.Proofs.YtcfdlbjngpmcaaaDoorW.PrintMore
set_option linter.unusedVariables false

theorem law2 : Keyed Tryd.prog 2 := int_keyed Tryd.underlying2
theorem zero2 (w : World) : (zeroValue 2).run Tryd.prog w = .ok (.int .i64 0) w := by kernel_rfl
/-- A key of the map. -/
abbrev ky (c : Int) : Lit := .int .i64 c
/-- The map of the world holds what the list says. -/
def Holds1 (m : List (Int × Int)) (D : DataW Unit) : Prop := ∀ c : Int, Maps.has D (ky c) = (mget m c).isSome ∧ ∀ v, mget m c = some v → ∀ zd, D.atKey (ky c) zd = .lit (.int .i64 v)
theorem holds_nil : Holds1 [] (.map []) := fun c => ⟨rfl, fun v h => by cases h⟩
theorem isKey (c : Int) : WideAt.IsKeyLit (ky c) := trivial
theorem holds_put {m : List (Int × Int)} {D : DataW Unit} (h : Holds1 m D) (hD : Maps.IsMap D) (c v : Int) : Holds1 (mput m c v) (D.put (ky c) (.lit (.int .i64 v))) := by
  intro d
  by_cases e : c = d
  · subst e
    simp only [mput, mget, if_true]
    exact ⟨by rw [Maps.has_put_same hD (isKey c)]; rfl, fun v' hv zd => by cases hv; rw [Maps.atKey_put_same hD (isKey c)]⟩
  · have hne : ky d ≠ ky c := fun z => e (by injection z with _ z2; exact z2.symm)
    simp only [mput, mget, if_neg e]
    refine ⟨by rw [Maps.has_put_other hne]; exact (h d).1, fun v' hv zd => ?_⟩
    rw [Maps.atKey_put_other hne]; exact (h d).2 v' hv zd
def MapR (w : World) (b : Nat) (m : List (Int × Int)) : Prop := ∃ D : DataW Unit, w.ownsMap Tryd.prog 2 (plainElem Tryd.prog 2) b m.length D ∧ Holds1 m D
theorem MapR.drewN {w : World} {b : Nat} {m : List (Int × Int)} (h : MapR w b m) (n : Nat) : MapR (w.drewN n) b m := h
theorem MapR.below {w w' : World} {b : Nat} {m : List (Int × Int)} (h : MapR w b m) (hb : Below w.heap.size w w') : MapR w' b m := by
  obtain ⟨D, ⟨es, clock, hh, F, hs, hD⟩, hH⟩ := h
  exact ⟨D, ⟨es, clock, (hb.block b (Array.getElem?_eq_some_iff.1 hh).1).trans hh, F, hs, hD⟩, hH⟩
theorem MapR.lt {w : World} {b : Nat} {m : List (Int × Int)} (h : MapR w b m) : b < w.heap.size := by
  obtain ⟨D, hown, _⟩ := h
  exact hown.lt
/-- What stands between the operations: the map, the two variables that closures have captured, nothing turned that lay there ahead. -/
structure NS (w W : World) (gm g2 g3 : Nat) (s : Int) (A : Option Addr) (c : Nat) (l : List Int) (p : Int) (m : List (Int × Int)) : Prop where
  M : MapR W gm m
  b2 : W.heap[g2]? = some (.cells #[.int .i64 s, .slice A l.length c] 28 (0, 0))
  b3 : W.heap[g3]? = some (.cells #[.int .i64 p] 2 (0, 0))
  hb : Below w.heap.size w W
  ge : w.heap.size ≤ gm
  ne2 : some g2 ≠ some gm
  ne3 : some g3 ≠ some gm
theorem NS.drewN {w W : World} {gm g2 g3 : Nat} {s : Int} {A : Option Addr} {c : Nat} {l : List Int} {p : Int} {m : List (Int × Int)} (h : NS w W gm g2 g3 s A c l p m) (n : Nat) : NS w (W.drewN n) gm g2 g3 s A c l p m :=
  ⟨h.M.drewN n, blk_drewN h.b2 n, blk_drewN h.b3 n, pw_below_drewN h.hb n, h.ge, h.ne2, h.ne3⟩
theorem NS.below {w W W1 : World} {gm g2 g3 : Nat} {s : Int} {A : Option Addr} {c : Nat} {l : List Int} {p : Int} {m : List (Int × Int)} (h : NS w W gm g2 g3 s A c l p m) (k : Below W.heap.size W W1) : NS w W1 gm g2 g3 s A c l p m :=
  ⟨h.M.below k, blk_below h.b2 k, blk_below h.b3 k, below_step h.hb k, h.ge, h.ne2, h.ne3⟩
theorem NS.put {w W W1 : World} {gm g2 g3 : Nat} {s : Int} {A : Option Addr} {c : Nat} {l : List Int} {p : Int} {m : List (Int × Int)} (h : NS w W gm g2 g3 s A c l p m) {D : DataW Unit} (hown : W.ownsMap Tryd.prog 2 (plainElem Tryd.prog 2) gm m.length D) (hH : Holds1 m D) (x v : Int)
    (h1 : W1.ownsMap Tryd.prog 2 (plainElem Tryd.prog 2) gm (m.length + 1) (D.put (ky x) (.lit (.int .i64 v)))) (hg : W.grownBy W1 (some gm)) : NS w W1 gm g2 g3 s A c l p (mput m x v) :=
  ⟨⟨_, h1, holds_put hH hown.isMap x v⟩, blk_grown h.b2 hg h.ne2, blk_grown h.b3 hg h.ne3, h.hb.grown hg h.hb.size (fun j hj => by cases hj; exact h.ge), h.ge, h.ne2, h.ne3⟩
theorem MapR.grown {w w' : World} {b : Nat} {m : List (Int × Int)} {row : Option Nat} (h : MapR w b m) (hg : w.grownBy w' row) (hne : some b ≠ row) : MapR w' b m := by
  obtain ⟨D, hown, hH⟩ := h
  exact ⟨D, hown.kept hg hne, hH⟩
theorem NS.grown {w W W1 : World} {gm g2 g3 : Nat} {s : Int} {A : Option Addr} {c : Nat} {l : List Int} {p : Int} {m : List (Int × Int)} (h : NS w W gm g2 g3 s A c l p m) {row : Option Nat} (hg : W.grownBy W1 row) (hr : ∀ k, row = some k → W.heap.size ≤ k) : NS w W1 gm g2 g3 s A c l p m :=
  ⟨h.M.grown hg (fun e => by have := hr gm e.symm; have := h.M.lt; omega), blk_grown h.b2 hg (fun e => by have := hr g2 e.symm; have := blk_lt h.b2; omega), blk_grown h.b3 hg (fun e => by have := hr g3 e.symm; have := blk_lt h.b3; omega),
    h.hb.grown hg h.hb.size (fun k hk => Nat.le_trans h.hb.size (hr k hk)), h.ge, h.ne2, h.ne3⟩
/-- The best of what has come: the entries that are no longer to come. -/
def BestAt (s p : Int) (m : List (Int × Int)) (left : Lit → Bool) (b : Int) : Prop :=
  (b = -1 ∧ ∀ c v, mget m c = some v → left (ky c) = false → lineI s p c ≠ wrap64 (s - 1)) ∨
  ((∃ c v, mget m c = some v ∧ lineI s p c = wrap64 (s - 1) ∧ v = b) ∧ ∀ c v, mget m c = some v → left (ky c) = false → lineI s p c = wrap64 (s - 1) → b ≤ v)
theorem best_start (s p : Int) {m : List (Int × Int)} {D : DataW Unit} (h : Holds1 m D) : BestAt s p m (Maps.has D) (-1) :=
  Or.inl ⟨rfl, fun c v hc hl => by rw [(h c).1, hc] at hl; cases hl⟩
theorem NS.grown' {w W W1 : World} {gm g2 g3 : Nat} {s : Int} {A : Option Addr} {c : Nat} {l : List Int} {p : Int} {m : List (Int × Int)} (h : NS w W gm g2 g3 s A c l p m) {rb : Nat} (hg : W.grownBy W1 (some rb)) (hr : gm < rb ∧ g2 < rb ∧ g3 < rb ∧ w.heap.size ≤ rb) : NS w W1 gm g2 g3 s A c l p m :=
  ⟨h.M.grown hg (fun e => by cases e; omega), blk_grown h.b2 hg (fun e => by cases e; omega), blk_grown h.b3 hg (fun e => by cases e; omega), h.hb.grown hg h.hb.size (fun k hk => by cases hk; exact hr.2.2.2), h.ge, h.ne2, h.ne3⟩
theorem ranges_drew {w : World} {b r n cnt : Nat} {D : DataW Unit} {left : Lit → Bool} (h : w.ranges Tryd.prog 2 (plainElem Tryd.prog 2) b r n D left cnt) : (w.drewN 1).ranges Tryd.prog 2 (plainElem Tryd.prog 2) b r n D left cnt := h
theorem ranges_below {w w1 : World} {b r n cnt : Nat} {D : DataW Unit} {left : Lit → Bool} (h : w.ranges Tryd.prog 2 (plainElem Tryd.prog 2) b r n D left cnt) (hb : Below w.heap.size w w1) : w1.ranges Tryd.prog 2 (plainElem Tryd.prog 2) b r n D left cnt := by
  have h1 := h.owns.lt
  have h2 := h.lt
  obtain ⟨es, clock, since, seen, c0, hbk, F, hs, hD, hr, rest⟩ := h
  exact ⟨es, clock, since, seen, c0, (hb.block b h1).trans hbk, F, hs, hD, (hb.block r h2).trans hr, rest⟩
theorem mget_of_at {m : List (Int × Int)} {D : DataW Unit} (h : Holds1 m D) {y v : Int} (hat : ∀ zd, D.atKey (ky y) zd = .lit (.int .i64 v)) : mget m y = some v := by
  have h1 := Maps.has_true_of_atKey hat
  rw [(h y).1] at h1
  obtain ⟨v', hv⟩ := Option.isSome_iff_exists.1 h1
  have := ((h y).2 v' hv (.lit (.int .i64 0))).symm.trans (hat (.lit (.int .i64 0)))
  injection this with this
  injection this with _ this
  rw [hv, this]
theorem left_step {left : Lit → Bool} {y c : Int} (h : (left (ky c) && !(ky c).sameKey (ky y)) = false) : c = y ∨ left (ky c) = false := by
  by_cases e : c = y
  · exact Or.inl e
  · have hne : ky c ≠ ky y := fun z => e (by injection z)
    rw [Maps.sameKey_ne hne] at h
    exact Or.inr (by simpa using h)
theorem best_step {s p : Int} {m : List (Int × Int)} {left : Lit → Bool} {b y v : Int} (h : BestAt s p m left b) (hy : mget m y = some v) (hl : lineI s p y = wrap64 (s - 1)) (hc : b < 0 ∨ v < b) (hv : ∀ c v', mget m c = some v' → 0 ≤ v') : BestAt s p m (fun z => left z && !z.sameKey (ky y)) v := by
  refine Or.inr ⟨⟨y, v, hy, hl, rfl⟩, fun c v' hcv hlf hlc => ?_⟩
  rcases left_step hlf with rfl | hl'
  · rw [hy] at hcv; cases hcv; omega
  · rcases h with ⟨hb, h2⟩ | ⟨⟨c1, v1, h3, _, h4⟩, h2⟩
    · exact absurd hlc (h2 c v' hcv hl')
    · have := h2 c v' hcv hl' hlc
      have := hv c1 v1 h3
      omega
theorem best_step' {s p : Int} {m : List (Int × Int)} {left : Lit → Bool} {b y v : Int} (h : BestAt s p m left b) (hy : mget m y = some v) (hc : lineI s p y ≠ wrap64 (s - 1) ∨ (¬ b < 0 ∧ ¬ v < b)) : BestAt s p m (fun z => left z && !z.sameKey (ky y)) b := by
  rcases h with ⟨hb, h2⟩ | ⟨h1, h2⟩
  · refine Or.inl ⟨hb, fun c v' hcv hlf => ?_⟩
    rcases left_step hlf with rfl | hl'
    · rcases hc with hc | hc
      · exact hc
      · exact absurd (by omega) hc.1
    · exact h2 c v' hcv hl'
  · refine Or.inr ⟨h1, fun c v' hcv hlf hlc => ?_⟩
    rcases left_step hlf with rfl | hl'
    · rcases hc with hc | hc
      · exact absurd hlc hc
      · rw [hy] at hcv; cases hcv; omega
    · exact h2 c v' hcv hl' hlc
theorem mget_mem {m : List (Int × Int)} {c v : Int} (h : mget m c = some v) : (c, v) ∈ m := by
  induction m with
  | nil => cases h
  | cons q t ih =>
    simp only [mget] at h
    split at h
    · rename_i e
      cases h
      exact List.mem_cons.2 (Or.inl (by rw [← e]))
    · exact List.mem_cons.2 (Or.inr (ih h))
theorem mget_nonneg {m : List (Int × Int)} (hall : m.all (fun q => decide (0 ≤ q.2)) = true) : ∀ c v, mget m c = some v → 0 ≤ v := fun c v h => by
  have := List.all_eq_true.1 hall _ (mget_mem h)
  simpa using this
theorem fold_best (s p : Int) : ∀ L : List (Int × Int), (∀ q ∈ L, 0 ≤ q.2) → ∀ r, r = L.foldr (fun p1 b => if lineI s p p1.1 = wrap64 (s - 1) ∧ (b < 0 ∨ p1.2 < b) then p1.2 else b) (-1) →
    (r = -1 ∧ ∀ q ∈ L, lineI s p q.1 ≠ wrap64 (s - 1)) ∨ ((∃ q, q ∈ L ∧ lineI s p q.1 = wrap64 (s - 1) ∧ q.2 = r) ∧ ∀ q ∈ L, lineI s p q.1 = wrap64 (s - 1) → r ≤ q.2) := by
  intro L
  induction L with
  | nil => intro _ r hr; exact Or.inl ⟨hr, fun q hq => by cases hq⟩
  | cons a t ih =>
    intro hL r hr
    have h := ih (fun q hq => hL q (List.mem_cons_of_mem _ hq)) _ rfl
    simp only [List.foldr_cons] at hr
    generalize t.foldr (fun p1 b => if lineI s p p1.1 = wrap64 (s - 1) ∧ (b < 0 ∨ p1.2 < b) then p1.2 else b) (-1) = r0 at h hr
    have ha := hL a (List.mem_cons_self)
    by_cases hc : lineI s p a.1 = wrap64 (s - 1) ∧ (r0 < 0 ∨ a.2 < r0)
    · rw [if_pos hc] at hr
      refine Or.inr ⟨⟨a, List.mem_cons_self, hc.1, hr.symm⟩, fun q hq hl => ?_⟩
      rcases List.mem_cons.1 hq with rfl | hq'
      · omega
      · rcases h with ⟨_, h2⟩ | ⟨⟨q1, hq1, _, h3⟩, h2⟩
        · exact absurd hl (h2 q hq')
        · have := h2 q hq' hl
          have := hL q1 (List.mem_cons_of_mem _ hq1)
          rcases hc.2 with h5 | h5 <;> omega
    · rw [if_neg hc] at hr
      subst hr
      rcases h with ⟨h1, h2⟩ | ⟨⟨q1, hq1, h3, h4⟩, h2⟩
      · refine Or.inl ⟨h1, fun q hq hl => ?_⟩
        rcases List.mem_cons.1 hq with rfl | hq'
        · exact hc ⟨hl, Or.inl (by omega)⟩
        · exact h2 q hq' hl
      · refine Or.inr ⟨⟨q1, List.mem_cons_of_mem _ hq1, h3, h4⟩, fun q hq hl => ?_⟩
        rcases List.mem_cons.1 hq with rfl | hq'
        · have : ¬ (r < 0 ∨ q.2 < r) := fun z => hc ⟨hl, z⟩
          omega
        · exact h2 q hq' hl
theorem best_end {s p : Int} {m : List (Int × Int)} {left : Lit → Bool} {b : Int} (h : BestAt s p m left b) (hl : ∀ kl, left kl = false) (hall : m.all (fun q => decide (0 ≤ q.2)) = true) : b = bestM s p m := by
  have live : ∀ q, q ∈ (m.filter fun p => mget m p.1 == some p.2) ↔ mget m q.1 = some q.2 := fun q => by
    rw [List.mem_filter]
    exact ⟨fun z => by simpa using z.2, fun z => ⟨mget_mem z, by simpa using z⟩⟩
  have key := fold_best s p (m.filter fun p => mget m p.1 == some p.2) (fun q hq => mget_nonneg hall _ _ ((live q).1 hq)) (bestM s p m) rfl
  rcases h with ⟨h1, h2⟩ | ⟨⟨c, v, h3, h4, h5⟩, h2⟩
  · rcases key with ⟨k1, _⟩ | ⟨⟨q, hq, k2, _⟩, _⟩
    · rw [h1, k1]
    · exact absurd k2 (h2 _ _ ((live q).1 hq) (hl _))
  · rcases key with ⟨_, k2⟩ | ⟨⟨q, hq, k2, k3⟩, k4⟩
    · exact absurd h4 (k2 (c, v) ((live (c, v)).2 h3))
    · have a1 := k4 (c, v) ((live (c, v)).2 h3) h4
      have a2 := h2 _ _ ((live q).1 hq) (hl _) k2
      simp only at a1
      omega
theorem NS.z0 {w W : World} {gm g2 g3 : Nat} {s : Int} {A : Option Addr} {c : Nat} {l : List Int} {p : Int} {m : List (Int × Int)} (h : NS w W gm g2 g3 s A c l p m) : W.cell? ⟨g2, 0, none⟩ = some (.int .i64 s) := (blk_cell h.b2 0).trans rfl
theorem NS.z1 {w W : World} {gm g2 g3 : Nat} {s : Int} {A : Option Addr} {c : Nat} {l : List Int} {p : Int} {m : List (Int × Int)} (h : NS w W gm g2 g3 s A c l p m) : W.cell? ⟨g2, 1, none⟩ = some (.slice A l.length c) := (blk_cell h.b2 1).trans rfl
theorem NS.z2 {w W : World} {gm g2 g3 : Nat} {s : Int} {A : Option Addr} {c : Nat} {l : List Int} {p : Int} {m : List (Int × Int)} (h : NS w W gm g2 g3 s A c l p m) : W.cell? ⟨g3, 0, none⟩ = some (.int .i64 p) := (blk_cell h.b3 0).trans rfl
end Go.Proofs.YtcfdlbjngpmcaaaDoor.PAll
end
