/- Texts of this claim that follow each other, laid together. -/
import Derived.Test.YtankgbfddgpfmaaPAllx1
import Derived.Test.YtankgbfddgpfmaaPAllx2
import Derived.Test.YtankgbfddgpfmaaPAllx3
import Derived.Test.YtankgbfddgpfmaaPAllx11
import Derived.Test.YtankgbfddgpfmaaPAllx15
import Derived.Test.YtankgbfddgpfmaaMerged18
import Derived.Test.YtankgbfddgpfmaaPAllx0
import Derived.Test.YtankgbfddgpfmaaMerged6
import Derived.Laws.EntriesVeiled

section
/- CountFleets: what both programs reckon: how many fleets go on with a list. -/
namespace Go.Proofs.Ytankgbfddgpfmaa.PAll
open Go.RowKit Go.Proofs.YtankgbfddgpfmaaW.PrintWords Go.Proofs.YtankgbfddgpfmaaW.PrintLast
set_option linter.unusedVariables false

/-- Whether the reference passes a placement over. -/
def skips (l fl : List Int) (used x : Int) : Option Bool :=
  if Go.bits .and .i64 x used = 0 then
    (if (fl.length : Int) > 0 then (if 0 ≤ wrap64 ((fl.length : Int) - 1) ∧ wrap64 ((fl.length : Int) - 1) < (fl.length : Int) ∧ wrap64 ((fl.length : Int) - 1) < (l.length : Int) then (if rd l (fl.length : Int) = rd l (wrap64 ((fl.length : Int) - 1)) then some (decide (x < rd fl (wrap64 ((fl.length : Int) - 1)))) else some false) else none) else some false)
  else some true
mutual
def spec_l09Go.f : Nat → Int → Int → List Int → List Int → Int → Option Nat
  | 0, _, _, _, _, _ => none
  | k + 1, s0, s1, l, fl, used =>
    if (fl.length : Int) = (l.length : Int) then (spec_l09Agrees.f k fl []).bind fun b => (if b = true then some 1 else some 0)
    else if (fl.length : Int) < (l.length : Int) then (spec_l09Placements.f k s0 s1 l (rd l (fl.length : Int))).bind fun list => spec_l09Go.l0 k s0 s1 l fl used list 0 0
    else none
def spec_l09Go.l0 : Nat → Int → Int → List Int → List Int → Int → List Int → Int → Nat → Option Nat
  | 0, _, _, _, _, _, _, _, _ => none
  | k + 1, s0, s1, l, fl, used, list, i, n =>
    if i < (list.length : Int) then (if 0 ≤ i then (skips l fl used (rd list i)).bind fun b => (if b = true then spec_l09Go.l0 k s0 s1 l fl used list (wrap64 (i + 1)) n else
      (spec_l09Go.f k s0 s1 l (fl ++ [rd list i]) (Go.bits .or .i64 used (rd list i))).bind fun m => (if n + m ≤ 1000000000 then (if fl.length ≤ 1000000000 then spec_l09Go.l0 k s0 s1 l fl used list (wrap64 (i + 1)) (n + m) else none) else none)) else none)
    else some n
end
def spec_CountFleets.f (k : Nat) (s0 s1 : Int) (l : List Int) : Option (Int × Int) := (spec_l09Is.f k s0 s1 l).bind fun b => (if b = true then (spec_l09Go.f k s0 s1 l [] 0).bind fun n => some ((n : Int), 0) else some (0, 1))
/-- The placements of all ships, a row for each. -/
def impl_eachFleet.l0 : Nat → Int → Int → List Int → List (List Int) → Int → Option (List (List Int))
  | 0, _, _, _, _, _ => none
  | k + 1, s0, s1, l, all, i => if i < (l.length : Int) then (if 0 ≤ i then (impl_Sea_placements.f k s0 s1 l (rd l i)).bind fun p => (if all.length ≤ 1000000000 then impl_eachFleet.l0 k s0 s1 l (all ++ [p]) (wrap64 (i + 1)) else none) else none) else some all
mutual
def impl_find.f : Nat → Int → Int → List Int → List (List Int) → List Int → Int → Option Int
  | 0, _, _, _, _, _, _ => none
  | k + 1, s0, s1, l, all, fl, n =>
    if (fl.length : Int) = (l.length : Int) then some (wrap64 (n + 1))
    else if (fl.length : Int) < (all.length : Int) then impl_find.l0 k s0 s1 l all fl (all.getD fl.length []) 0 n
    else none
def impl_find.l0 : Nat → Int → Int → List Int → List (List Int) → List Int → List Int → Int → Int → Option Int
  | 0, _, _, _, _, _, _, _, _ => none
  | k + 1, s0, s1, l, all, fl, list, i, n =>
    if i < (list.length : Int) then (if 0 ≤ i then (impl_Sea_goesOn.f k s0 s1 l fl (rd list i)).bind fun b => (if b = true then (if fl.length ≤ 1000000000 then (impl_find.f k s0 s1 l all (fl ++ [rd list i]) n).bind fun m => impl_find.l0 k s0 s1 l all fl list (wrap64 (i + 1)) m else none) else impl_find.l0 k s0 s1 l all fl list (wrap64 (i + 1)) n) else none)
    else some n
end
def impl_CountFleets.f (k : Nat) (s0 s1 : Int) (l : List Int) : Option (Int × Int) := (impl_IsSea.f k s0 s1 l).bind fun b => (if b = true then (impl_eachFleet.l0 k s0 s1 l [] 0).bind fun all => (impl_find.f k s0 s1 l all [] 0).bind fun n => some (n, 0) else some (0, 1))
end Go.Proofs.Ytankgbfddgpfmaa.PAll
end

section
/- CountFleets: what stands between the operations of the reference's search. -/
namespace Go.Proofs.Ytankgbfddgpfmaa.PAll
open Go.RowKit Go.Proofs.YtankgbfddgpfmaaW.PrintWords Go.Proofs.YtankgbfddgpfmaaW.PrintLast Go.Proofs.YtankgbfddgpfmaaW.PrintMore
set_option linter.unusedVariables false
set_option linter.unusedSimpArgs false

/-- Slices as they stand, told by their headers. -/
def hdr : Kd (Option Addr × Nat × Nat) := Kd.scalar (fun h => .slice h.1 h.2.1 h.2.2) (fun _ => rfl)
structure GB (w W : World) (gb : Nat) (s0 s1 : Int) (A : Option Addr) (c : Nat) (l : List Int) : Prop where
  hb : Below w.heap.size w W
  bk : W.heap[gb]? = some (.cells #[.int .i64 s0, .int .i64 s1, .slice A l.length c] 28 (0, 0))
theorem GB.z0 {w W : World} {gb : Nat} {s0 s1 : Int} {A : Option Addr} {c : Nat} {l : List Int} (h : GB w W gb s0 s1 A c l) : W.cell? ⟨gb, 0, none⟩ = some (.int .i64 s0) := (blk_cell h.bk 0).trans rfl
theorem GB.z1 {w W : World} {gb : Nat} {s0 s1 : Int} {A : Option Addr} {c : Nat} {l : List Int} (h : GB w W gb s0 s1 A c l) : W.cell? ⟨gb, 1, none⟩ = some (.int .i64 s1) := (blk_cell h.bk 1).trans rfl
theorem GB.z2 {w W : World} {gb : Nat} {s0 s1 : Int} {A : Option Addr} {c : Nat} {l : List Int} (h : GB w W gb s0 s1 A c l) : W.cell? ⟨gb, 2, none⟩ = some (.slice A l.length c) := (blk_cell h.bk 2).trans rfl
theorem GB.below {w W W1 : World} {gb : Nat} {s0 s1 : Int} {A : Option Addr} {c : Nat} {l : List Int} (h : GB w W gb s0 s1 A c l) (k : Below W.heap.size W W1) : GB w W1 gb s0 s1 A c l := ⟨below_step h.hb k, blk_below h.bk k⟩
theorem GB.drew {w W : World} {gb : Nat} {s0 s1 : Int} {A : Option Addr} {c : Nat} {l : List Int} (h : GB w W gb s0 s1 A c l) : GB w W.drew gb s0 s1 A c l := ⟨below_drew1 h.hb, blk_drewN h.bk 1⟩
structure GS (w W : World) (gb : Nat) (s0 s1 : Int) (A : Option Addr) (c : Nat) (l : List Int) (v : Value) (hs : List (Option Addr × Nat × Nat)) (AL : Option Addr) (cL : Nat) (list : List Int) : Prop where
  G : GB w W gb s0 s1 A c l
  O : Kd.R hdr 22 W w.heap.size (fun _ => True) v hs
  L : Kd.R (Kd.int .i64) 2 W w.heap.size (fun _ => True) (.slice AL list.length cL) list
variable {w W W1 : World} {gb : Nat} {s0 s1 : Int} {A : Option Addr} {c : Nat} {l : List Int} {v : Value} {hs : List (Option Addr × Nat × Nat)} {AL : Option Addr} {cL : Nat} {list : List Int}
theorem GS.below (h : GS w W gb s0 s1 A c l v hs AL cL list) (k : Below W.heap.size W W1) : GS w W1 gb s0 s1 A c l v hs AL cL list := ⟨h.G.below k, Kd.R_below h.O k, Kd.R_below h.L k⟩
theorem GS.drew (h : GS w W gb s0 s1 A c l v hs AL cL list) : GS w W.drew gb s0 s1 A c l v hs AL cL list := ⟨h.G.drew, Kd.R_drewN h.O 1, Kd.R_drewN h.L 1⟩
theorem GS.grown {v1 : Value} {hs1 : List (Option Addr × Nat × Nat)} (h : GS w W gb s0 s1 A c l v hs AL cL list) (ho : Kd.R hdr 22 W1 w.heap.size (fun _ => True) v1 hs1) (hb : Below w.heap.size w W1) (hg : W.grownBy W1 v.ownBlock) : GS w W1 gb s0 s1 A c l v1 hs1 AL cL list :=
  ⟨⟨hb, blk_grown h.G.bk hg (Kd.R_ne h.O h.G.bk (by decide))⟩, ho, Kd.R_grown2 h.L rfl hg (fun k hk z => (Kd.R_apartR h.L h.O (by decide)).1 k z.symm |>.2 hk.symm)⟩
theorem GS.held {ad : Addr} (h : GS w W gb s0 s1 A c l v hs (some ad) cL list) {i : Int} (h0 : 0 ≤ i) (h1 : i < (list.length : Int)) : W.cell? (ad.add i.toNat) = some (.int .i64 (rd list i)) := by
  obtain ⟨ad', e, hx⟩ := Kd.at_int (Kd.R_reads' h.L).2.2 i h0 h1
  cases e
  exact hx
theorem GS.sea (h : GS w W gb s0 s1 A c l v hs AL cL list) : W.cell? ⟨gb, 0, none⟩ = some (.int .i64 s0) ∧ W.cell? ⟨gb, 1, none⟩ = some (.int .i64 s1) ∧ W.cell? ⟨gb, 2, none⟩ = some (.slice A l.length c) := ⟨h.G.z0, h.G.z1, h.G.z2⟩
theorem agrees_nil (k : Nat) (B : Option Addr) (d : Nat) (fl : List Int) (r : Bool) (w : World) (hr : Kd.C (Kd.int .i64) w B fl.length fl) (hc : fl.length ≤ d) (h : spec_l09Agrees.f k fl [] = some r) :
    Calls Try.prog 70 #[.slice B fl.length d, .slice none 0 0] w fun e w' => e = .returned (.bool r) ∧ Drawn0 w w' :=
  spec_l09Agrees.calls k B d fl none 0 [] r w hr hc (Kd.R_reads' (Kd.R_nil k100 100 w 0 (fun _ => True))).2.2 (Nat.le_refl _) h
end Go.Proofs.Ytankgbfddgpfmaa.PAll
end

section
/- slices.Clone at a list of whole numbers. -/
namespace Go.Proofs.Ytankgbfddgpfmaa.PAll
open Go.RowKit Go.Proofs.YtankgbfddgpfmaaW.PrintWords Go.Proofs.YtankgbfddgpfmaaW.PrintLast Go.Proofs.Ytankgbfddgpfmaa.GInts
set_option linter.unusedVariables false

theorem clone_calls (A0 : Option Addr) (c0 : Nat) (l0 : List Int) (w : World) (hr0 : Kd.C (Kd.int .i64) w A0 l0.length l0) (hc0 : l0.length ≤ c0) (hlen : l0.length ≤ 1000000000) :
    Calls Try.prog 73 #[.slice A0 l0.length c0] w fun e w' => ∃ v0_ : Value, e = .returned (v0_) ∧ Kd.R (Kd.int .i64) 2 w' w.heap.size (fun _ => True) v0_ l0 ∧ Below w.heap.size w w' := by
  cases A0 with
  | none =>
    cases l0 with
    | cons x l =>
      obtain ⟨ad, e, _⟩ := Kd.at_int hr0 0 (by omega) (by simp)
      cases e
    | nil =>
      refine (Try.slices_Clone_int_nil 0 c0 w).mono ?_
      rintro e w' ⟨rfl, rfl⟩
      exact ⟨_, rfl, Kd.R_nil _ _ _ _ _, Below.refl _ _⟩
  | some ad =>
  cases l0 with
  | nil =>
    refine (Try.slices_Clone_int_zero ad c0 w).mono ?_
    rintro e w' ⟨v, rfl, ho, hv, hb⟩
    exact ⟨v, rfl, R_nums.2 ⟨fun _ _ => trivial, ho⟩, hb⟩
  | cons x l =>
  generalize hl : x :: l = l0 at hr0 hc0 hlen ⊢
  have hpos : 0 < l0.length := by rw [← hl]; simp
  obtain ⟨ad', e, h0⟩ := Kd.at_int hr0 0 (by omega) (by omega)
  cases e
  obtain ⟨bk, o, q⟩ := ad
  have hq : q = none := by
    cases q with
    | none => rfl
    | some q =>
      exfalso
      simp only [World.cell?, Addr.add] at h0
      split at h0
      · simp at h0
      · cases h0
  subst hq
  refine (Try.slices_Clone_int bk o l0.length c0 l0 w (Nat.le_refl _) (by omega) ?_).mono ?_
  · intro j hj
    obtain ⟨ad, e, hx⟩ := Kd.at_int hr0 (j : Int) (by omega) (by omega)
    cases e
    rw [Int.toNat_natCast, add_at] at hx
    rw [hx]
    simp [rd, List.getD_eq_getElem?_getD, hj]
  · rintro e w' ⟨v, rfl, ho, hv, hb⟩
    rw [List.take_length] at ho
    exact ⟨v, rfl, R_nums.2 ⟨fun _ _ => trivial, ho⟩, hb⟩
end Go.Proofs.Ytankgbfddgpfmaa.PAll
end

section
/- CountFleets of the program: what stands between the operations of its search. -/
namespace Go.Proofs.Ytankgbfddgpfmaa.PAll
open Go.RowKit Go.Proofs.YtankgbfddgpfmaaW.PrintWords Go.Proofs.YtankgbfddgpfmaaW.PrintLast Go.Proofs.YtankgbfddgpfmaaW.PrintMore
set_option linter.unusedVariables false
set_option linter.unusedSimpArgs false

abbrev eachV (gn : Nat) : Value := .func (.func 47) #[] #[.pointer (some ⟨gn, 0, none⟩)]
abbrev findV (gs ge ga gf : Nat) : Value := .func (.func 72) #[] #[.pointer (some ⟨gs, 0, none⟩), .pointer (some ⟨ge, 0, none⟩), .pointer (some ⟨ga, 0, none⟩), .pointer (some ⟨gf, 0, none⟩)]
theorem grownBy_refl (w : World) (row : Option Nat) : w.grownBy w row := ⟨rfl, rfl, rfl, Nat.le_refl _, fun _ _ _ => rfl⟩
theorem grownBy_below {w w' : World} (h : Below w.heap.size w w') (row : Option Nat) : w.grownBy w' row := ⟨h.os, h.tape, h.output, h.size, fun i hi _ => h.block i hi⟩
theorem grownBy_drewN {w w' : World} {row : Option Nat} (h : w.grownBy w' row) (n : Nat) : w.grownBy (w'.drewN n) row := ⟨h.os, h.tape, h.output, h.size, h.block⟩
theorem grownBy_set (w : World) (g i : Nat) (u : Value) : w.grownBy (w.setCell ⟨g, i, none⟩ u) (some g) :=
  ⟨rfl, rfl, rfl, by simp, fun j _ hne => Below.heap_setCell w ⟨g, i, none⟩ u j (fun e => hne (congrArg some e))⟩
/-- The rows of a list of lists, told by their headers. -/
structure Rows (W : World) (AA : Option Addr) (hs : List (Option Addr × Nat × Nat)) (all : List (List Int)) : Prop where
  len : hs.length = all.length
  C : Kd.C hdr W AA hs.length hs
  row : ∀ (j : Nat) (h : Option Addr × Nat × Nat) (x : List Int), hs[j]? = some h → all[j]? = some x → h.2.1 = x.length ∧ x.length ≤ h.2.2 ∧ Kd.C (Kd.int .i64) W h.1 x.length x
theorem Rows.at_ {W : World} {AA : Option Addr} {hs : List (Option Addr × Nat × Nat)} {all : List (List Int)} (R : Rows W AA hs all) (i : Nat) (hi : i < all.length) :
    (∃ ad, AA = some ad ∧ W.cell? (ad.add i) = some (.slice (hs.getD i (none, 0, 0)).1 (hs.getD i (none, 0, 0)).2.1 (hs.getD i (none, 0, 0)).2.2)) ∧ (hs.getD i (none, 0, 0)).2.1 = (all.getD i []).length ∧ (all.getD i []).length ≤ (hs.getD i (none, 0, 0)).2.2 ∧ Kd.C (Kd.int .i64) W (hs.getD i (none, 0, 0)).1 (all.getD i []).length (all.getD i []) := by
  have h1 : i < hs.length := by rw [R.len]; exact hi
  have e1 : hs[i]? = some (hs.getD i (none, 0, 0)) := by simp [List.getD_eq_getElem?_getD, h1]
  have e2 : all[i]? = some (all.getD i []) := by simp [List.getD_eq_getElem?_getD, hi]
  refine ⟨?_, R.row i _ _ e1 e2⟩
  obtain ⟨ad, e, hx⟩ := ReadsOf.at_ (Kd.reads_of_C (enc := fun h : Option Addr × Nat × Nat => Value.slice h.1 h.2.1 h.2.2) (d := ((none, 0, 0) : Option Addr × Nat × Nat)) (h1 := fun _ => rfl) R.C) (i : Int) (by omega) (by omega)
  refine ⟨ad, e, ?_⟩
  rw [Int.toNat_natCast] at hx
  rw [hx]
  simp [rdOf]
structure FE (w W : World) (gs ge ga gf gn : Nat) (s0 s1 : Int) (A : Option Addr) (c : Nat) (l : List Int) (AA : Option Addr) (cA nA : Nat) (n : Int) : Prop where
  bs : W.heap[gs]? = some (.cells #[.int .i64 s0, .int .i64 s1, .slice A l.length c] 28 (0, 0))
  be : W.heap[ge]? = some (.cells #[eachV gn] 63 (0, 0))
  ba : W.heap[ga]? = some (.cells #[.slice AA nA cA] 42 (0, 0))
  bf : W.heap[gf]? = some (.cells #[findV gs ge ga gf] 63 (0, 0))
  bn : W.heap[gn]? = some (.cells #[.int .i64 n] 2 (0, 0))
  gr : w.grownBy W (some gn)
variable {w W W1 : World} {gs ge ga gf gn : Nat} {s0 s1 : Int} {A : Option Addr} {c : Nat} {l : List Int} {AA : Option Addr} {cA nA : Nat} {n m : Int}
theorem FE.below (h : FE w W gs ge ga gf gn s0 s1 A c l AA cA nA n) (k : Below W.heap.size W W1) : FE w W1 gs ge ga gf gn s0 s1 A c l AA cA nA n :=
  ⟨blk_below h.bs k, blk_below h.be k, blk_below h.ba k, blk_below h.bf k, blk_below h.bn k, h.gr.trans (grownBy_below k _)⟩
theorem FE.drew (h : FE w W gs ge ga gf gn s0 s1 A c l AA cA nA n) : FE w W.drew gs ge ga gf gn s0 s1 A c l AA cA nA n :=
  ⟨blk_drew h.bs, blk_drew h.be, blk_drew h.ba, blk_drew h.bf, blk_drew h.bn, grownBy_drewN h.gr 1⟩
theorem some_ne {a b : Nat} (h : a ≠ b) : some a ≠ some b := fun e => h (Option.some.inj e)
theorem FE.grown (h : FE w W gs ge ga gf gn s0 s1 A c l AA cA nA n) (hb : W1.heap[gn]? = some (.cells #[.int .i64 m] 2 (0, 0))) (k : W.grownBy W1 (some gn)) : FE w W1 gs ge ga gf gn s0 s1 A c l AA cA nA m :=
  ⟨blk_grown h.bs k (some_ne (blk_ne h.bs h.bn (by decide))), blk_grown h.be k (some_ne (blk_ne h.be h.bn (by decide))), blk_grown h.ba k (some_ne (blk_ne h.ba h.bn (by decide))), blk_grown h.bf k (some_ne (blk_ne h.bf h.bn (by decide))), hb, h.gr.trans k⟩
theorem FE.sea (h : FE w W gs ge ga gf gn s0 s1 A c l AA cA nA n) : W.cell? ⟨gs, 0, none⟩ = some (.int .i64 s0) ∧ W.cell? ⟨gs, 1, none⟩ = some (.int .i64 s1) ∧ W.cell? ⟨gs, 2, none⟩ = some (.slice A l.length c) := ⟨(blk_cell h.bs 0).trans rfl, (blk_cell h.bs 1).trans rfl, (blk_cell h.bs 2).trans rfl⟩
theorem FE.ze (h : FE w W gs ge ga gf gn s0 s1 A c l AA cA nA n) : W.cell? ⟨ge, 0, none⟩ = some (.func (.func 47) #[] #[.pointer (some ⟨gn, 0, none⟩)]) := (blk_cell h.be 0).trans rfl
theorem FE.za (h : FE w W gs ge ga gf gn s0 s1 A c l AA cA nA n) : W.cell? ⟨ga, 0, none⟩ = some (.slice AA nA cA) := (blk_cell h.ba 0).trans rfl
theorem FE.zf (h : FE w W gs ge ga gf gn s0 s1 A c l AA cA nA n) : W.cell? ⟨gf, 0, none⟩ = some (.func (.func 72) #[] #[.pointer (some ⟨gs, 0, none⟩), .pointer (some ⟨ge, 0, none⟩), .pointer (some ⟨ga, 0, none⟩), .pointer (some ⟨gf, 0, none⟩)]) := (blk_cell h.bf 0).trans rfl
theorem own_grown {gn : Nat} {base : Nat} {v : Value} {x : List Int} (h : Kd.R (Kd.int .i64) 2 W base (fun _ => True) v x) (hlt : gn < base) (k : W.grownBy W1 (some gn)) : Kd.R (Kd.int .i64) 2 W1 base (fun _ => True) v x :=
  Kd.R_grown2 h rfl k (fun j hj => by cases hj; intro z; have := Kd.R_base h gn z.symm; omega)
set_option maxHeartbeats 4000000 in
theorem count1.calls (gn : Nat) (n : Int) (v : Value) (w : World) (hb : w.heap[gn]? = some (.cells #[.int .i64 n] 2 (0, 0))) :
    Calls Try.prog 47 #[v, .pointer (some ⟨gn, 0, none⟩)] w fun e w' => e = .returned (.tuple #[]) ∧ w'.heap[gn]? = some (.cells #[.int .i64 (wrap64 (n + 1))] 2 (0, 0)) ∧ w.grownBy w' (some gn) := by
  have zn : w.cell? ⟨gn, 0, none⟩ = some (.int .i64 n) := (blk_cell hb 0).trans rfl
  have zf : w.frozen? ⟨gn, 0, none⟩ = false := blk_frozen hb 0
  have B := Aside0.mk hb
  clear hb
  go_enter Try.func47, Try.ntmps47
  go_wp2_with (first
    | ((with_reducible refine gate_store (t := 2) (p := 1) rfl ?_); refine store_event (t := 2) (p := 1) (v := ?vo_) (w1 := (w.setCell ⟨gn, 0, none⟩ (.int .i64 (wrap64 (n + 1))))) ?hg ?ho ?hn ?hr ?_; (case ho => rfl); (case hg => rfl); (case hn => rfl); (case hr => first | (go_simp; done) | (go_simp; rfl)); intro w3 hw; have n0_ := Aside0.mk (by rw [hw]; exact blk_put B.out 0 _ rfl : w3.heap[gn]? = some (.cells #[.int .i64 (wrap64 (n + 1))] 2 (0, 0))); have n1_ := Aside0.mk (by rw [hw]; exact grownBy_set w gn 0 _ : w.grownBy w3 (some gn)); clear zn zf B hw; have B := n0_; have GR := n1_; clear n0_ n1_))
  first | go_end0 | ((try simp only [Exit.inBlock, Exit.then]); refine bodyPost_ret (results_none rfl _ _ _) rfl ?_)
  exact ⟨rfl, B.out, GR.out⟩
end Go.Proofs.Ytankgbfddgpfmaa.PAll
end

section
/- CountFleets of the program: its search, walked. -/
namespace Go.Proofs.Ytankgbfddgpfmaa.PAll
open Go.RowKit Go.Proofs.YtankgbfddgpfmaaW.PrintWords Go.Proofs.YtankgbfddgpfmaaW.PrintLast Go.Proofs.YtankgbfddgpfmaaW.PrintMore
set_option linter.unusedVariables false
set_option linter.unusedSimpArgs false

theorem goesV_ {P : Program} {ops : Array Oper} {Q : Exit → Act → World → Prop} {oi : Oper} {N : Option Tmp} {a : Act} {w : World} {K : Act → World → Prop} {f : FuncId} {fn : Func} {xs : Array Operand} {ts : Array TypeId} {op : Operand} {caps : Array Value} (hf : P.funcs[f]? = some fn) (hname : (fn.name == "runtime.NumGoroutine") = false) (hb : fn.body.isSome = true) (args : Array Value)
    (hw : Region.wanted oi (yielded ops a.tmps) = true) (hN : oi.dst = N) (hop : oi.op = .call { callee := .value op, args := xs, argTypes := ts }) (hv : a.eval op = .func (.func f) #[] caps) (hargs : xs.map a.eval ++ caps = args)
    (h : Calls P f args w fun e w' => ∃ v, e = .returned v ∧ K (a.put N v) w') : if Region.wanted oi (yielded ops a.tmps) = true then Oper.wp P oi a w K Q else K (a.put N undef) w := by
  refine call_ f args hw hN ?_ h
  have he := enters_ hf hname hb args w
  unfold execOp
  simp [hop, hv, resolve, Deferred.ofValue, invoke, hargs, he]
def impl_eachFleet_1.T6 : Bool × List (List Nat × List Nat) := (true, [([], []), ([], []), ([1], [1]), ([], []), ([3], [3]), ([2, 4, 2], [2, 4]), ([0, 5, 5], [0, 5])])
def impl_eachFleet_1.B6 : List Nat := [0, 0, 2, 0, 8, 30, 63]
theorem impl_eachFleet_1.tab6 : rtab .any (opsOf Try.f72 6) = impl_eachFleet_1.T6 := by kernel_rfl
theorem impl_eachFleet_1.bits6 : waitsOk impl_eachFleet_1.T6.2 impl_eachFleet_1.B6 = true := by kernel_rfl
set_option maxHeartbeats 16000000 in
set_option maxRecDepth 100000 in
theorem impl_find.calls (k : Nat) : ∀ (s0 s1 : Int) (A : Option Addr) (c : Nat) (l : List Int) (B : Option Addr) (d : Nat) (fl : List Int) (AA : Option Addr) (cA : Nat) (hs : List (Option Addr × Nat × Nat)) (all : List (List Int)) (gs ge ga gf gn : Nat) (n r : Int) (w : World)
    (hl : ∀ W, w.grownBy W (some gn) → Kd.C (Kd.int .i64) W A l.length l) (hlc : l.length ≤ c) (hf : ∀ W, w.grownBy W (some gn) → Kd.C (Kd.int .i64) W B fl.length fl) (hfc : fl.length ≤ d) (hall : ∀ W, w.grownBy W (some gn) → Rows W AA hs all)
    (hF : FE w w gs ge ga gf gn s0 s1 A c l AA cA hs.length n) (h : impl_find.f k s0 s1 l all fl n = some r),
    Calls Try.prog 72 #[.slice B fl.length d, .pointer (some ⟨gs, 0, none⟩), .pointer (some ⟨ge, 0, none⟩), .pointer (some ⟨ga, 0, none⟩), .pointer (some ⟨gf, 0, none⟩)] w fun e w' => e = .returned (.tuple #[]) ∧ w'.heap[gn]? = some (.cells #[.int .i64 r] 2 (0, 0)) ∧ w.grownBy w' (some gn) := by
  induction k using Nat.strongRecOn with
  | _ k ih =>
  intro s0 s1 A c l B d fl AA cA hs all gs ge ga gf gn n r w hl hlc hf hfc hall hF h
  cases k with
  | zero => exact absurd h (by simp [impl_find.f])
  | succ k =>
  have hu28 := Try.underlying28
  rw [impl_find.f] at h
  have HL := Aside0.mk hl
  have HLC := Aside0.mk hlc
  have HF := Aside0.mk hf
  have HFC := Aside0.mk hfc
  have HA := Aside0.mk hall
  have SS := Aside0.mk hF
  clear hl hlc hf hfc hall hF
  obtain ⟨z0, z1, z2⟩ := SS.out.sea
  by_cases c0 : (fl.length : Int) = (l.length : Int)
  · rw [if_pos c0] at h
    have c0b : ((fl.length : Int) == (l.length : Int)) = true := beq_iff_eq.mpr c0
    obtain rfl := Option.some.inj h
    clear h
    have ze := SS.out.ze
    go_enter Try.func72, Try.ntmps72
    go_wp2_with (first
      | (go_at_call 47; (with_reducible refine (count1.calls gn n _ _ SS.out.bn).mono ?_); rintro e w3 ⟨rfl, hb, hg⟩; have n0_ := Aside0.mk hb; have n1_ := Aside0.mk hg; clear SS z0 z1 z2 ze hb hg; have B3 := n0_; have GR := n1_; clear n0_ n1_))
    first | go_end0 | ((try simp only [Exit.inBlock, Exit.then]); refine bodyPost_ret (results_none rfl _ _ _) rfl ?_)
    exact ⟨rfl, B3.out, GR.out⟩
  · rw [if_neg c0] at h
    have c0b : ((fl.length : Int) == (l.length : Int)) = false := beq_eq_false_iff_ne.mpr c0
    split at h <;> rename_i c1
    case isFalse => cases h
    have H' := Aside0.mk h
    clear h
    obtain ⟨⟨adA, e, hx⟩, hn1, hn2, hC0⟩ := (HA.out w (grownBy_refl w _)).at_ fl.length (by omega)
    have HROW : Aside0 (∀ W, w.grownBy W (some gn) → Kd.C (Kd.int .i64) W (hs.getD fl.length (none, 0, 0)).1 (all.getD fl.length []).length (all.getD fl.length [])) := ⟨fun W hg => ((HA.out W hg).at_ fl.length (by omega)).2.2.2⟩
    have hlenA : fl.length < hs.length := by rw [(HA.out w (grownBy_refl w _)).len]; omega
    generalize hs.getD fl.length (none, 0, 0) = hh at hx hn1 hn2 hC0 HROW
    generalize all.getD fl.length [] = list at H' hn1 hn2 hC0 HROW
    obtain ⟨AL, nL, cL⟩ := hh
    simp only at hx hn1 hn2 hC0 HROW
    subst hn1
    cases e
    have p1' : (0 ≤ (fl.length : Int)) = True := eq_true (by omega)
    have c1' : ((fl.length : Int) < (hs.length : Int)) = True := eq_true (by omega)
    have za := SS.out.za
    clear hC0
    go_enter Try.func72, Try.ntmps72
    go_wp2
    clear hx z0 z1 z2 za
    go_loopg [23] k (fun kq v23 w' => ∃ (i n1 : Int), v23 = .int .i64 i ∧ Aside0 (impl_find.l0 kq s0 s1 l all fl list i n1 = some r) ∧ Aside0 (kq ≤ k) ∧ Aside0 (FE w w' gs ge ga gf gn s0 s1 A c l (some adA) cA hs.length n1))
    case atStart => exact ⟨0, n, rfl, H', ⟨Nat.le_refl _⟩, SS⟩
    case round =>
      clear H' SS
      obtain ⟨i, n1, rfl, HH, HK, L⟩ := hrel
      cases gk with
      | zero => exact absurd HH.out (by simp [impl_find.l0])
      | succ k1 =>
        have H := HH.out
        clear HH
        rw [impl_find.l0] at H
        by_cases ci : i < (list.length : Int)
        · rw [if_pos ci] at H
          have cib : decide (i < (list.length : Int)) = true := decide_eq_true ci
          by_cases pi : 0 ≤ i
          case neg => rw [if_neg pi] at H; cases H
          rw [if_pos pi] at H
          obtain ⟨b, Hb, H⟩ := Option.bind_eq_some_iff.mp H
          obtain ⟨adL, e, hxj⟩ := Kd.at_int (HROW.out _ L.out.gr) i pi ci
          cases e
          have pi' := eq_true pi
          have ci' := eq_true ci
          obtain ⟨z0, z1, z2⟩ := L.out.sea
          cases b with
          | true =>
            rw [if_pos rfl] at H
            split at H <;> rename_i cg2
            case isFalse => cases H
            obtain ⟨m, Hm, H⟩ := Option.bind_eq_some_iff.mp H
            have H' := Aside0.mk H
            have CG2 := Aside0.mk cg2
            clear H cg2
            go_wp2_with (first
              | (go_at_call 69; (with_reducible refine (impl_Sea_goesOn.calls k1 s0 s1 _ _ l _ _ fl (rd list i) true _ ?side1 ?side2 ?side3 ?side4 Hb).mono ?_); (case side1 => exact HL.out _ L.out.gr); (case side2 => exact HLC.out); (case side3 => exact HF.out _ L.out.gr); (case side4 => exact HFC.out); rintro e w5 ⟨rfl, hb⟩; have n0_ := Aside0.mk (L.out.below hb); clear L z0 z1 z2 hb hxj; have L := n0_; clear n0_))
            have L3 := Aside0.mk L.out.drew
            clear L
            refine start_ (n := 7) (S := fun w' => w'.cell? ⟨gf, 0, none⟩ = some (.func (.func 72) #[] #[.pointer (some ⟨gs, 0, none⟩), .pointer (some ⟨ge, 0, none⟩), .pointer (some ⟨ga, 0, none⟩), .pointer (some ⟨gf, 0, none⟩)])) (ds := []) #[false, false, false, false, false, false, false] (by kernel_rfl) rfl rfl L3.out.zf (fun hHeld => ?_); refine with_tabW impl_eachFleet_1.tab6 impl_eachFleet_1.bits6 (fun HT_ HW_ => ?_)
            generalize w5.drew = w9 at L3 hHeld ⊢
            refine take_ (i := 0) (N := some 31) (v := ?_) (a' := ?_) #[true, false, false, false, false, false, false] rfl rfl (take_ofW HT_.out HW_.out (by kernel_rfl)) (fun _ _ _ h => h) (Or.inl ⟨by rfl, ?_⟩) hHeld ?_ ?_
            rotate_left
            · rintro w' s0_
              go_simp
              with_reducible rfl
            rotate_left
            · simp only [Act.put, List.setIfInBounds_toArray, List.set_cons_zero, List.set_cons_succ, i64_w, i32_w]
              rfl
            refine pure_ (i := 1) (N := some 32) (v := ?_) (a' := ?_) #[true, true, false, false, false, false, false] rfl rfl (any_of HT_.out (by kernel_rfl)) (fun _ _ _ h => h) (Or.inl ⟨by rfl, ?_⟩) ?_ ?_
            rotate_left
            · intro w'
              go_simp
              with_reducible rfl
            rotate_left
            · simp only [Act.put, List.setIfInBounds_toArray, List.set_cons_zero, List.set_cons_succ, i64_w, i32_w]
              rfl
            refine pure_ (i := 3) (N := some 34) (v := ?_) (a' := ?_) #[true, true, false, true, false, false, false] rfl rfl (any_of HT_.out (by kernel_rfl)) (fun _ _ _ h => h) (Or.inl ⟨by rfl, ?_⟩) ?_ ?_
            rotate_left
            · intro w'
              go_simp
              with_reducible rfl
            rotate_left
            · simp only [Act.put, List.setIfInBounds_toArray, List.set_cons_zero, List.set_cons_succ, i64_w, i32_w]
              rfl
            refine join_ (σ := Value × Value) 2 #[true, true, true, true, true, false, false] (fun s_ => [(33, s_.1), (35, s_.2)]) (fun s_ w' => (w'.cell? ⟨gf, 0, none⟩ = some (.func (.func 72) #[] #[.pointer (some ⟨gs, 0, none⟩), .pointer (some ⟨ge, 0, none⟩), .pointer (some ⟨ga, 0, none⟩), .pointer (some ⟨gf, 0, none⟩)])) ∧ Kd.R (Kd.int .i64) 2 w' w9.heap.size (fun _ => True) s_.1 fl ∧ Kd.R (Kd.int .i64) 2 w' w9.heap.size (fun _ => True) s_.2 [rd list i] ∧ Below w9.heap.size w9 w') ?_ ?_
            rotate_left
            · intro hCont
              refine two_ (i := 2) (j := 4) (Ni := some 33) (Nj := some 35) #[true, true, true, true, false, false, false] #[true, true, false, true, true, false, false] rfl rfl rfl rfl (two_of HT_.out (by kernel_rfl)) (by decide) (by decide) (fun K hK => ?_) (fun K hK => ?_)
              · skip
                refine goes_ Try.func73 (by kernel_rfl) rfl #[.slice B fl.length d] (by rfl) rfl rfl (by (try simp only [List.map_toArray, List.map_cons, List.map_nil]); first | done | rfl | (simp; done)) ?_
                with_reducible refine (clone_calls _ d fl _ ?side1 ?side2 CG2.out).mono ?_
                (case side1 => exact HF.out _ (L3.out.below (Below.refl _ _)).gr)
                (case side2 => exact HFC.out)
                rintro e w10 ⟨v33, rfl, ho1, hb1⟩
                refine ⟨_, rfl, ?_⟩
                refine hK.out _ _ (L3.out.below hb1).zf (fun hHeld => ?_)
                clear hK K
                refine norm_ (a' := ?_) ?_ ?_
                rotate_left
                · show Act.put _ (some 33) _ = _
                  simp only [Act.put, List.setIfInBounds_toArray, List.set_cons_zero, List.set_cons_succ, i64_w, i32_w]
                  rfl
                refine one_ (i := 4) (N := some 35) #[true, true, true, true, true, false, false] rfl rfl (one_of HT_.out (by kernel_rfl)) (by decide) (fun K hK => ?_)
                refine Kd.R_lit_step (Kd.int .i64) _ 2 (by rfl) (N := 35) rfl (xs := ([rd list i] : List Int)) (inner := [.int .i64 (rd list i)]) (ok := fun _ => True) (okp := fun _ => True) ?hr ?hp (fun _ hk => hk) trivial (Below.refl _ _) (Nat.le_refl _) (by simp) ?_
                (case hr => first | (go_simp; done) | (go_simp; rfl))
                (case hp => exact (Reps.one (show Kd.M (Kd.int .i64) _ _ _ (rd list i) [.int .i64 (rd list i)] from rfl) (Reps.none _ _)))
                intro v35 w11 ho2 hb2 hg_ hnew_
                clear hg_ hnew_
                refine hK.out _ _ (L3.out.below (below_step hb1 hb2)).zf (fun hHeld => ?_)
                clear hK K
                refine norm_ (a' := ?_) ?_ ?_
                rotate_left
                · show Act.put _ (some 35) _ = _
                  simp only [Act.put, List.setIfInBounds_toArray, List.set_cons_zero, List.set_cons_succ, i64_w, i32_w]
                  rfl
                exact norm_ (by simp only [putAll, Act.put, List.setIfInBounds_toArray, List.set_cons_zero, List.set_cons_succ]) (hCont (v33, v35) _ ⟨hHeld, Kd.R_below ho1 hb2, Kd.R_lower ho2 (below_size hb1), below_step hb1 hb2⟩)
              · skip
                refine Kd.R_lit_step (Kd.int .i64) _ 2 (by rfl) (N := 35) rfl (xs := ([rd list i] : List Int)) (inner := [.int .i64 (rd list i)]) (ok := fun _ => True) (okp := fun _ => True) ?hr ?hp (fun _ hk => hk) trivial (Below.refl _ _) (Nat.le_refl _) (by simp) ?_
                (case hr => first | (go_simp; done) | (go_simp; rfl))
                (case hp => exact (Reps.one (show Kd.M (Kd.int .i64) _ _ _ (rd list i) [.int .i64 (rd list i)] from rfl) (Reps.none _ _)))
                intro v35 w10 ho2 hb2 hg_ hnew_
                clear hg_ hnew_
                refine hK.out _ _ (L3.out.below hb2).zf (fun hHeld => ?_)
                clear hK K
                refine norm_ (a' := ?_) ?_ ?_
                rotate_left
                · show Act.put _ (some 35) _ = _
                  simp only [Act.put, List.setIfInBounds_toArray, List.set_cons_zero, List.set_cons_succ, i64_w, i32_w]
                  rfl
                refine one_ (i := 2) (N := some 33) #[true, true, true, true, true, false, false] rfl rfl (one_of HT_.out (by kernel_rfl)) (by decide) (fun K hK => ?_)
                refine goes_ Try.func73 (by kernel_rfl) rfl #[.slice B fl.length d] (by rfl) rfl rfl (by (try simp only [List.map_toArray, List.map_cons, List.map_nil]); first | done | rfl | (simp; done)) ?_
                with_reducible refine (clone_calls _ d fl _ ?side1 ?side2 CG2.out).mono ?_
                (case side1 => exact HF.out _ (L3.out.below hb2).gr)
                (case side2 => exact HFC.out)
                rintro e w11 ⟨v33, rfl, ho1, hb1⟩
                refine ⟨_, rfl, ?_⟩
                refine hK.out _ _ (L3.out.below (below_step hb2 hb1)).zf (fun hHeld => ?_)
                clear hK K
                refine norm_ (a' := ?_) ?_ ?_
                rotate_left
                · show Act.put _ (some 33) _ = _
                  simp only [Act.put, List.setIfInBounds_toArray, List.set_cons_zero, List.set_cons_succ, i64_w, i32_w]
                  rfl
                exact norm_ (by simp only [putAll, Act.put, List.setIfInBounds_toArray, List.set_cons_zero, List.set_cons_succ]) (hCont (v33, v35) _ ⟨hHeld, Kd.R_lower ho1 (below_size hb2), Kd.R_below ho2 hb1, below_step hb2 hb1⟩)
            rintro ⟨v33, v35⟩ w12 ⟨hHeld, ho1, ho2, hb3⟩
            have O1 := Aside0.mk ho1
            obtain ⟨A6, c6, e6⟩ := Kd.R_slice ho2
            dsimp only at e6
            subst e6
            have O2 := Aside0.mk ho2
            have HB3 := Aside0.mk hb3
            clear ho1 ho2 hb3
            refine norm_ (a' := ?_) ?_ ?_
            rotate_left
            · simp only [putAll, Act.put, List.setIfInBounds_toArray, List.set_cons_zero, List.set_cons_succ]
              rfl
            refine one_ (i := 5) (N := some 36) #[true, true, true, true, true, true, false] rfl rfl (one_of HT_.out (by kernel_rfl)) (by decide) (fun K hK => ?_)
            refine Kd.R_append_rows_step (Kd.int .i64) (Rr := (Kd.int .i64).K w12) (w0 := w9) w9.heap.size (by rfl) (.tmp 33) (.tmp 35) 22 2 (.int .i64 0) 8 rfl Try.underlying22 info2 rfl (by decide) (by omega) v33 fl [rd list i] A6 _ _ (fun _ => True) (fun _ => False) rfl rfl O1.out (Kd.R_reads' O2.out).2.2 (fun _ _ h => h) (fun _ hk => hk.elim) (fun _ _ => trivial) HB3.out (below_size HB3.out) (by have := CG2.out; simp only [List.length_cons, List.length_nil]; omega) ?_
            intro v36 w13 ho hb hg hat
            obtain ⟨A7, c7, e7⟩ := Kd.R_slice ho
            subst e7
            have O7 := Aside0.mk ho
            have HB4 := Aside0.mk hb
            clear ho hb hg hat O1 O2 HB3
            refine hK.out _ _ (L3.out.below HB4.out).zf (fun hHeld => ?_)
            clear hK K
            refine norm_ (a' := ?_) ?_ ?_
            rotate_left
            · show Act.put _ (some 36) _ = _
              simp only [Act.put, List.setIfInBounds_toArray, List.set_cons_zero, List.set_cons_succ, i64_w, i32_w]
              rfl
            refine one_ (i := 6) (N := some 37) #[true, true, true, true, true, true, true] rfl rfl (one_of HT_.out (by kernel_rfl)) (by decide) (fun K hK => ?_)
            have L4 := Aside0.mk (L3.out.below HB4.out)
            have GE := Aside0.mk (blk_lt L3.out.bn)
            refine goesV_ Try.func72 (by kernel_rfl) rfl #[.slice A7 (fl ++ [rd list i]).length c7, .pointer (some ⟨gs, 0, none⟩), .pointer (some ⟨ge, 0, none⟩), .pointer (some ⟨ga, 0, none⟩), .pointer (some ⟨gf, 0, none⟩)] (by rfl) rfl rfl (by rfl) (by (try simp only [List.map_toArray, List.map_cons, List.map_nil, List.append_toArray, List.cons_append, List.nil_append]); rfl) ?_
            with_reducible refine (ih k1 (by have := HK.out; omega) s0 s1 A c l A7 c7 (fl ++ [rd list i]) (some adA) cA hs all gs ge ga gf gn n1 m _ ?side1 ?side2 ?side3 ?side4 ?side5 ?side6 Hm).mono ?_
            (case side1 => exact fun W hg => HL.out W (L4.out.gr.trans hg))
            (case side2 => exact HLC.out)
            (case side3 => exact fun W hg => (Kd.R_reads' (own_grown O7.out GE.out hg)).2.2)
            (case side4 => exact (Kd.R_reads' O7.out).2.1)
            (case side5 => exact fun W hg => HA.out W (L4.out.gr.trans hg))
            (case side6 => exact ⟨L4.out.bs, L4.out.be, L4.out.ba, L4.out.bf, L4.out.bn, grownBy_refl _ _⟩)
            rintro e w14 ⟨rfl, hb, hg⟩
            refine ⟨_, rfl, ?_⟩
            have L5 := Aside0.mk (L4.out.grown hb hg)
            clear hb hg O7 HB4 L3 L4 GE
            refine hK.out _ _ L5.out.zf (fun hHeld => ?_)
            clear hK K
            refine norm_ (a' := ?_) ?_ ?_
            rotate_left
            · show Act.put _ (some 37) _ = _
              simp only [Act.put, List.setIfInBounds_toArray, List.set_cons_zero, List.set_cons_succ, i64_w, i32_w]
              rfl
            refine done_ (done_of HT_.out (by kernel_rfl)) ?_
            clear HT_ HW_ hHeld
            go_wp2
            go_roundg k1
            case measure => have := HK.out; omega
            case rel => exact ⟨wrap64 (i + 1), m, (by first | rfl | simp), H', ⟨by have := HK.out; omega⟩, L5⟩
          | false =>
            rw [if_neg (by decide)] at H
            have H' := Aside0.mk H
            clear H
            go_wp2_with (first
              | (go_at_call 69; (with_reducible refine (impl_Sea_goesOn.calls k1 s0 s1 _ _ l _ _ fl (rd list i) false _ ?side1 ?side2 ?side3 ?side4 Hb).mono ?_); (case side1 => exact HL.out _ L.out.gr); (case side2 => exact HLC.out); (case side3 => exact HF.out _ L.out.gr); (case side4 => exact HFC.out); rintro e w5 ⟨rfl, hb⟩; have n0_ := Aside0.mk (L.out.below hb); clear L z0 z1 z2 hb hxj; have L := n0_; clear n0_))
            go_roundg k1
            case measure => have := HK.out; omega
            case rel => exact ⟨wrap64 (i + 1), n1, (by first | rfl | simp), H', ⟨by have := HK.out; omega⟩, L⟩
        · rw [if_neg ci] at H
          have cib : decide (i < (list.length : Int)) = false := decide_eq_false ci
          obtain rfl := Option.some.inj H
          go_wp2
          first | go_end0 | ((try simp only [Exit.inBlock, Exit.then]); refine bodyPost_ret (results_none rfl _ _ _) rfl ?_)
          exact ⟨rfl, L.out.bn, L.out.gr⟩
end Go.Proofs.Ytankgbfddgpfmaa.PAll
end

section
/- CountFleets of the program: the placements of all ships, then the search. -/
namespace Go.Proofs.Ytankgbfddgpfmaa.PAll
open Go.RowKit Go.Proofs.YtankgbfddgpfmaaW.PrintWords Go.Proofs.YtankgbfddgpfmaaW.PrintLast Go.Proofs.YtankgbfddgpfmaaW.PrintMore
set_option linter.unusedVariables false
set_option linter.unusedSimpArgs false

def impl_eachFleet.T5 : Bool × List (List Nat × List Nat) := (true, [([], []), ([], []), ([], []), ([1, 2], [1, 2]), ([3], [3]), ([0, 4, 3], [0, 4]), ([5, 5, 0, 1, 2, 3, 4, 5], [5])])
def impl_eachFleet.B5 : List Nat := [0, 0, 0, 6, 14, 31, 63]
theorem impl_eachFleet.tab5 : rtab .any (opsOf Try.f46 5) = impl_eachFleet.T5 := by kernel_rfl
theorem impl_eachFleet.bits5 : waitsOk impl_eachFleet.T5.2 impl_eachFleet.B5 = true := by kernel_rfl
structure EA (w W : World) (gs ge ga gn : Nat) (s0 s1 : Int) (A : Option Addr) (c : Nat) (l : List Int) (u v : Value) (hs : List (Option Addr × Nat × Nat)) (all : List (List Int)) : Prop where
  hb : Below w.heap.size w W
  bs : W.heap[gs]? = some (.cells #[.int .i64 s0, .int .i64 s1, .slice A l.length c] 28 (0, 0))
  be : W.heap[ge]? = some (.cells #[eachV gn] 63 (0, 0))
  ba : W.heap[ga]? = some (.cells #[u] 42 (0, 0))
  gl : w.heap.size ≤ ga
  O : Kd.R hdr 22 W w.heap.size (fun _ => True) v hs
  len : hs.length = all.length
  rows : ∀ (j : Nat) (h : Option Addr × Nat × Nat) (x : List Int), hs[j]? = some h → all[j]? = some x → Kd.R (Kd.int .i64) 2 W w.heap.size (fun _ => True) (.slice h.1 h.2.1 h.2.2) x
variable {w W W1 : World} {gs ge ga gn : Nat} {s0 s1 : Int} {A : Option Addr} {c : Nat} {l : List Int} {u v v1 : Value} {hs : List (Option Addr × Nat × Nat)} {all : List (List Int)}
theorem EA.below (h : EA w W gs ge ga gn s0 s1 A c l u v hs all) (k : Below W.heap.size W W1) : EA w W1 gs ge ga gn s0 s1 A c l u v hs all :=
  ⟨below_step h.hb k, blk_below h.bs k, blk_below h.be k, blk_below h.ba k, h.gl, Kd.R_below h.O k, h.len, fun j y x e1 e2 => Kd.R_below (h.rows j y x e1 e2) k⟩
theorem EA.drew (h : EA w W gs ge ga gn s0 s1 A c l u v hs all) : EA w W.drew gs ge ga gn s0 s1 A c l u v hs all :=
  ⟨below_drew1 h.hb, blk_drew h.bs, blk_drew h.be, blk_drew h.ba, h.gl, Kd.R_drew h.O, h.len, fun j y x e1 e2 => Kd.R_drew (h.rows j y x e1 e2)⟩
theorem EA.sea (h : EA w W gs ge ga gn s0 s1 A c l u v hs all) : W.cell? ⟨gs, 0, none⟩ = some (.int .i64 s0) ∧ W.cell? ⟨gs, 1, none⟩ = some (.int .i64 s1) ∧ W.cell? ⟨gs, 2, none⟩ = some (.slice A l.length c) := ⟨(blk_cell h.bs 0).trans rfl, (blk_cell h.bs 1).trans rfl, (blk_cell h.bs 2).trans rfl⟩
theorem EA.za (h : EA w W gs ge ga gn s0 s1 A c l u v hs all) : W.cell? ⟨ga, 0, none⟩ = some u := (blk_cell h.ba 0).trans rfl
theorem EA.push {y : Option Addr × Nat × Nat} {x : List Int} (h : EA w W gs ge ga gn s0 s1 A c l u v hs all) (ho : Kd.R hdr 22 W1 w.heap.size (fun _ => True) v1 (hs ++ [y])) (hb : Below w.heap.size w W1) (hg : W.grownBy W1 v.ownBlock)
    (hp : Kd.R (Kd.int .i64) 2 W w.heap.size (fun _ => True) (.slice y.1 y.2.1 y.2.2) x) : EA w W1 gs ge ga gn s0 s1 A c l u v1 (hs ++ [y]) (all ++ [x]) := by
  have far : ∀ {z : Value} {q : List Int}, Kd.R (Kd.int .i64) 2 W w.heap.size (fun _ => True) z q → Kd.R (Kd.int .i64) 2 W1 w.heap.size (fun _ => True) z q :=
    fun hz => Kd.R_grown2 hz rfl hg (fun k hk e => (Kd.R_apartR hz h.O (by decide)).1 k e.symm |>.2 hk.symm)
  refine ⟨hb, blk_grown h.bs hg (Kd.R_ne h.O h.bs (by decide)), blk_grown h.be hg (Kd.R_ne h.O h.be (by decide)), blk_grown h.ba hg (Kd.R_ne h.O h.ba (by decide)), h.gl, ho, by simp [h.len], fun j t q e1 e2 => ?_⟩
  by_cases hj : j < hs.length
  · rw [List.getElem?_append_left hj] at e1
    rw [List.getElem?_append_left (by rw [← h.len]; exact hj)] at e2
    exact far (h.rows j t q e1 e2)
  · rw [List.getElem?_append_right (by omega)] at e1
    rw [List.getElem?_append_right (by rw [← h.len]; omega), ← h.len] at e2
    generalize j - hs.length = d at e1 e2
    cases d with
    | zero =>
      simp only [List.getElem?_cons_zero, Option.some.injEq] at e1 e2
      subst e1
      subst e2
      exact far hp
    | succ d => simp at e1
theorem EA.set (h : EA w W gs ge ga gn s0 s1 A c l u v hs all) : EA w (W.setCell ⟨ga, 0, none⟩ v) gs ge ga gn s0 s1 A c l v v hs all :=
  ⟨below_set h.hb h.gl, blk_far h.bs (blk_ne h.bs h.ba (by decide)) _, blk_far h.be (blk_ne h.be h.ba (by decide)) _, blk_put h.ba 0 _ rfl, h.gl,
   Kd.R_grown2 h.O rfl (grownBy_set _ ga 0 _) (fun k hk => by cases hk; exact Kd.R_ne h.O h.ba (by decide)), h.len, fun j y x e1 e2 => Kd.R_grown2 (h.rows j y x e1 e2) rfl (grownBy_set _ ga 0 _) (fun k hk => by cases hk; exact Kd.R_ne (h.rows j y x e1 e2) h.ba (by decide))⟩
theorem EA.setf {gf : Nat} {b : Value} (h : EA w W gs ge ga gn s0 s1 A c l u v hs all) (hf : W.heap[gf]? = some (.cells #[.nilFunc] 63 (0, 0))) (hle : w.heap.size ≤ gf) (hne : ge ≠ gf) : EA w (W.setCell ⟨gf, 0, none⟩ b) gs ge ga gn s0 s1 A c l u v hs all :=
  ⟨below_set h.hb hle, blk_far h.bs (blk_ne h.bs hf (by decide)) _, blk_far h.be hne _, blk_far h.ba (blk_ne h.ba hf (by decide)) _, h.gl,
   Kd.R_grown2 h.O rfl (grownBy_set _ gf 0 _) (fun k hk => by cases hk; exact Kd.R_ne h.O hf (by decide)), h.len, fun j y x e1 e2 => Kd.R_grown2 (h.rows j y x e1 e2) rfl (grownBy_set _ gf 0 _) (fun k hk => by cases hk; exact Kd.R_ne (h.rows j y x e1 e2) hf (by decide))⟩
theorem EA.told {AO : Option Addr} {cO : Nat} {n : Int} (h : EA w W gs ge ga gn s0 s1 A c l u (.slice AO hs.length cO) hs all) (hlt : gn < w.heap.size) : ∀ W', W.grownBy W' (some gn) → Rows W' AO hs all := fun W' hg =>
  ⟨h.len, (Kd.R_reads' (Kd.R_grown2 h.O rfl hg (fun j hj => by cases hj; intro z; have := Kd.R_base h.O gn z.symm; omega))).2.2, fun j y x e1 e2 => by
    have := Kd.R_reads' (own_grown (h.rows j y x e1 e2) hlt hg)
    exact ⟨this.1, by have := this.2.1; omega, this.2.2⟩⟩
theorem impl_find_nil (k : Nat) (s0 s1 : Int) (A : Option Addr) (c : Nat) (l : List Int) (AA : Option Addr) (cA : Nat) (hs : List (Option Addr × Nat × Nat)) (all : List (List Int)) (gs ge ga gf gn : Nat) (n r : Int) (w : World)
    (hl : ∀ W, w.grownBy W (some gn) → Kd.C (Kd.int .i64) W A l.length l) (hlc : l.length ≤ c) (hall : ∀ W, w.grownBy W (some gn) → Rows W AA hs all)
    (hF : FE w w gs ge ga gf gn s0 s1 A c l AA cA hs.length n) (h : impl_find.f k s0 s1 l all [] n = some r) :
    Calls Try.prog 72 #[.slice none 0 0, .pointer (some ⟨gs, 0, none⟩), .pointer (some ⟨ge, 0, none⟩), .pointer (some ⟨ga, 0, none⟩), .pointer (some ⟨gf, 0, none⟩)] w fun e w' => e = .returned (.tuple #[]) ∧ w'.heap[gn]? = some (.cells #[.int .i64 r] 2 (0, 0)) ∧ w.grownBy w' (some gn) :=
  impl_find.calls k s0 s1 A c l none 0 [] AA cA hs all gs ge ga gf gn n r w hl hlc (fun W _ => (Kd.R_reads' (Kd.R_nil (Kd.int .i64) 2 W 0 (fun _ => True))).2.2) (Nat.le_refl _) hall hF h
set_option maxHeartbeats 16000000 in
set_option maxRecDepth 100000 in
theorem impl_eachFleet.calls (k : Nat) (s0 s1 : Int) (A : Option Addr) (c : Nat) (l : List Int) (all : List (List Int)) (gn : Nat) (n r : Int) (w : World) (hr : Kd.C (Kd.int .i64) w A l.length l) (hc : l.length ≤ c) (hl : ∀ W, w.grownBy W (some gn) → Kd.C (Kd.int .i64) W A l.length l)
    (hn : w.heap[gn]? = some (.cells #[.int .i64 n] 2 (0, 0))) (ha : impl_eachFleet.l0 k s0 s1 l [] 0 = some all) (h : impl_find.f k s0 s1 l all [] n = some r) :
    Calls Try.prog 46 #[.agg #[.int .i64 s0, .int .i64 s1, .slice A l.length c], .func (.func 47) #[] #[.pointer (some ⟨gn, 0, none⟩)]] w fun e w' => e = .returned (.tuple #[]) ∧ w'.heap[gn]? = some (.cells #[.int .i64 r] 2 (0, 0)) ∧ w.grownBy w' (some gn) := by
  have hu28 := Try.underlying28
  have HRA := Aside0.mk hr
  have HCA := Aside0.mk hc
  have HL := Aside0.mk hl
  have HN := Aside0.mk hn
  have HA := Aside0.mk ha
  have HH := Aside0.mk h
  have HB := Aside0.mk (Below.refl w.heap.size w)
  clear hr hc hl hn ha h
  have hmf : ∀ (fn : Fn) (first cap : Array Value) (w : World), (Instr.makeFunc fn first cap).run Try.prog w = .ok (.func fn first cap) w := fun _ _ _ _ => rfl
  go_enter Try.func46, Try.ntmps46
  go_wp2_with (first
    | ((with_reducible refine gate_dst (N := 2) rfl ?_); refine box_event ?hg (N := 2) ?hd (cs := #[.int .i64 s0, .int .i64 s1, .slice A l.length c]) (t := 28) ?hr ?_; (case hd => rfl); (case hg => rfl); (case hr => first | (go_simp; done) | (go_simp; rfl)); intro gs hg w2 hbox hb; have n0_ := Aside0.mk (below_step HB.out hb); have BS := Aside0.mk hbox; clear HB hbox hb hg; have HB := n0_; clear n0_)
    | ((with_reducible refine gate_dst (N := 3) rfl ?_); refine box_event ?hg (N := 3) ?hd (cs := #[.func (.func 47) #[] #[.pointer (some ⟨gn, 0, none⟩)]]) (t := 63) ?hr ?_; (case hd => rfl); (case hg => rfl); (case hr => first | (go_simp; done) | (go_simp; rfl)); intro ge hg w3 hbox hb; have n0_ := Aside0.mk (below_step HB.out hb); have n1_ := Aside0.mk (blk_below BS.out hb); have BE := Aside0.mk hbox; clear HB BS hbox hb hg; have HB := n0_; have BS := n1_; clear n0_ n1_)
    | ((with_reducible refine gate_dst (N := 8) rfl ?_); refine Kd.R_lit hdr _ 22 ?hg (N := 8) ?hd (xs := ([] : List (Option Addr × Nat × Nat))) (inner := []) (ok := fun _ => True) (okp := fun _ => True) ?hr ?hp (fun _ hk => hk) trivial (Below.refl _ _) (Nat.le_refl _) (by simp) ?_; (case hd => rfl); (case hg => rfl); (case hr => first | (go_simp; done) | (go_simp; rfl)); (case hp => exact (Reps.none _ _)); intro v8 w4 ho hb hg_ hnew_; clear hg_ hnew_; obtain ⟨AE, cE, eE⟩ := Kd.R_slice ho; replace eE : v8 = .slice AE 0 cE := eE; subst eE; have HO := Aside0.mk (Kd.R_lower ho (below_size HB.out)); have n0_ := Aside0.mk (below_step HB.out hb); have n1_ := Aside0.mk (blk_below BS.out hb); have n2_ := Aside0.mk (blk_below BE.out hb); clear HB BS BE ho hb; have HB := n0_; have BS := n1_; have BE := n2_; clear n0_ n1_ n2_)
    | ((with_reducible refine gate_dst (N := 4) rfl ?_); refine box_event ?hg (N := 4) ?hd (cs := #[.slice none 0 0]) (t := 42) ?hr ?_; (case hd => rfl); (case hg => rfl); (case hr => first | (go_simp; done) | (go_simp; rfl)); intro ga hg w5 hbox hb; have n0_ := Aside0.mk (below_step HB.out hb); have n1_ := Aside0.mk (blk_below BS.out hb); have n2_ := Aside0.mk (blk_below BE.out hb); have n3_ := Aside0.mk (Kd.R_below HO.out hb); have BA := Aside0.mk hbox; have GL := Aside0.mk (by rw [hg]; exact below_size HB.out : w.heap.size ≤ ga); clear HB BS BE HO hbox hb hg; have HB := n0_; have BS := n1_; have BE := n2_; have HO := n3_; clear n0_ n1_ n2_ n3_; have zx : w5.cell? ⟨ga, 0, none⟩ = some (.slice none 0 0) := (blk_cell BA.out 0).trans rfl; have zf : w5.frozen? ⟨ga, 0, none⟩ = false := blk_frozen BA.out 0)
    | ((with_reducible refine gate_store (t := 42) (p := 4) rfl ?_); refine store_event (t := 42) (p := 4) (v := ?vo_) (w1 := (w5.setCell ⟨ga, 0, none⟩ (.slice AE 0 cE))) ?hg ?ho ?hn ?hr ?_; (case ho => rfl); (case hg => rfl); (case hn => rfl); (case hr => first | (go_simp; done) | (go_simp; rfl)); intro w6 hw; have SS := Aside0.mk (by rw [hw]; exact EA.set ⟨HB.out, BS.out, BE.out, BA.out, GL.out, HO.out, rfl, fun j y x e1 _ => by simp at e1⟩ : EA w w6 gs ge ga gn s0 s1 A c l (.slice AE 0 cE) (.slice AE 0 cE) [] []); clear HB BS BE BA GL HO zx zf hw; have z2 := SS.out.sea.2.2))
  clear z2
  go_loopg [12] k (fun kq v12 w' => ∃ (i : Int) (v : Value) (hs : List (Option Addr × Nat × Nat)) (al : List (List Int)), v12 = .int .i64 i ∧ Aside0 (impl_eachFleet.l0 kq s0 s1 l al i = some all) ∧ Aside0 (kq ≤ k) ∧ Aside0 (EA w w' gs ge ga gn s0 s1 A c l v v hs al))
  case atStart => exact ⟨0, _, [], [], rfl, HA, ⟨Nat.le_refl _⟩, SS⟩
  case round =>
    clear HA SS
    obtain ⟨i, v, hs, al, rfl, HG, HK, L⟩ := hrel
    obtain ⟨AO, cO, eO⟩ := Kd.R_slice L.out.O
    subst eO
    cases gk with
    | zero => exact absurd HG.out (by simp [impl_eachFleet.l0])
    | succ k1 =>
      have H := HG.out
      clear HG
      rw [impl_eachFleet.l0] at H
      by_cases ci : i < (l.length : Int)
      · skip
        rw [if_pos ci] at H
        have cib : decide (i < (l.length : Int)) = true := decide_eq_true ci
        by_cases pi : 0 ≤ i
        case neg => rw [if_neg pi] at H; cases H
        rw [if_pos pi] at H
        obtain ⟨p, Hp, H⟩ := Option.bind_eq_some_iff.mp H
        split at H <;> rename_i cg
        case isFalse => cases H
        have CG := Aside0.mk cg
        have H' := Aside0.mk H
        clear H cg
        obtain ⟨ad, e, hxj⟩ := Kd.at_int (Kd.C_below HRA.out L.out.hb) i pi ci
        cases e
        have pi' := eq_true pi
        have ci' := eq_true ci
        go_wp2
        have L3 := Aside0.mk L.out.drew
        clear L hxj
        refine start_ (n := 7) (S := fun w' => (w'.cell? ⟨gs, 0, none⟩ = some (.int .i64 s0) ∧ w'.cell? ⟨gs, 1, none⟩ = some (.int .i64 s1) ∧ w'.cell? ⟨gs, 2, none⟩ = some (.slice (some ad) l.length c)) ∧ w'.cell? ⟨ga, 0, none⟩ = some (.slice AO hs.length cO)) (ds := [6]) #[false, false, false, false, false, false, false] (by kernel_rfl) rfl rfl ⟨L3.out.sea, L3.out.za⟩ (fun hHeld => ?_); refine with_tabW impl_eachFleet.tab5 impl_eachFleet.bits5 (fun HT_ HW_ => ?_)
        generalize wr.drew = w9 at L3 hHeld ⊢
        refine take_ (i := 0) (N := some 16) (v := ?_) (a' := ?_) #[true, false, false, false, false, false, false] rfl rfl (take_ofW HT_.out HW_.out (by kernel_rfl)) (fun _ _ _ h => h) (Or.inl ⟨by rfl, ?_⟩) hHeld ?_ ?_
        rotate_left
        · rintro w' ⟨⟨s0_, s1_, s2_⟩, s3_⟩
          go_simp
          with_reducible rfl
        rotate_left
        · simp only [Act.put, List.setIfInBounds_toArray, List.set_cons_zero, List.set_cons_succ, i64_w, i32_w]
          rfl
        refine take_ (i := 1) (N := some 17) (v := ?_) (a' := ?_) #[true, true, false, false, false, false, false] rfl rfl (take_ofW HT_.out HW_.out (by kernel_rfl)) (fun _ _ _ h => h) (Or.inl ⟨by rfl, ?_⟩) hHeld ?_ ?_
        rotate_left
        · rintro w' ⟨⟨s0_, s1_, s2_⟩, s3_⟩
          go_simp
          with_reducible rfl
        rotate_left
        · simp only [Act.put, List.setIfInBounds_toArray, List.set_cons_zero, List.set_cons_succ, i64_w, i32_w]
          rfl
        refine pure_ (i := 2) (N := some 18) (v := ?_) (a' := ?_) #[true, true, true, false, false, false, false] rfl rfl (any_of HT_.out (by kernel_rfl)) (fun _ _ _ h => h) (Or.inl ⟨by rfl, ?_⟩) ?_ ?_
        rotate_left
        · intro w'
          go_simp
          with_reducible rfl
        rotate_left
        · simp only [Act.put, List.setIfInBounds_toArray, List.set_cons_zero, List.set_cons_succ, i64_w, i32_w]
          rfl
        refine one_ (i := 3) (N := some 19) #[true, true, true, true, false, false, false] rfl rfl (one_of HT_.out (by kernel_rfl)) (by decide) (fun K hK => ?_)
        refine goes_ Try.func42 (by kernel_rfl) rfl #[.agg #[.int .i64 s0, .int .i64 s1, .slice (some ad) l.length c], .int .i64 (rd l i)] (by rfl) rfl rfl (by (try simp only [List.map_toArray, List.map_cons, List.map_nil]); first | done | rfl | (simp; done)) ?_
        with_reducible refine (impl_Sea_placements.calls k1 s0 s1 _ _ l (rd l i) p _ ?side1 ?side2 Hp).mono ?_
        (case side1 => exact Kd.C_below HRA.out L3.out.hb)
        (case side2 => exact HCA.out)
        rintro e w10 ⟨v19, rfl, ho, hb⟩
        refine ⟨_, rfl, ?_⟩
        obtain ⟨AP, cP, eP⟩ := Kd.R_slice ho
        subst eP
        have L4 := Aside0.mk (L3.out.below hb)
        have OP := Aside0.mk (Kd.R_lower ho (below_size L3.out.hb))
        clear L3 ho hb
        refine hK.out _ _ ⟨L4.out.sea, L4.out.za⟩ (fun hHeld => ?_)
        clear hK K
        refine norm_ (a' := ?_) ?_ ?_
        rotate_left
        · show Act.put _ (some 19) _ = _
          simp only [Act.put, List.setIfInBounds_toArray, List.set_cons_zero, List.set_cons_succ, i64_w, i32_w]
          rfl
        refine one_ (i := 4) (N := some 20) #[true, true, true, true, true, false, false] rfl rfl (one_of HT_.out (by kernel_rfl)) (by decide) (fun K hK => ?_)
        refine Kd.R_lit_step hdr _ 22 (by rfl) (N := 20) rfl (xs := ([(AP, p.length, cP)] : List (Option Addr × Nat × Nat))) (inner := [.slice AP p.length cP]) (ok := fun _ => True) (okp := fun _ => True) ?hr ?hp (fun _ hk => hk) trivial (Below.refl _ _) (Nat.le_refl _) (by simp) ?_
        (case hr => first | (go_simp; done) | (go_simp; rfl))
        (case hp => exact (Reps.one (show Kd.M hdr _ _ _ (AP, p.length, cP) [.slice AP p.length cP] from rfl) (Reps.none _ _)))
        intro v20 w11 ho hb hg_ hnew_
        clear hg_ hnew_
        obtain ⟨A6, c6, e6⟩ := Kd.R_slice ho
        subst e6
        have O2 := Aside0.mk ho
        have L5 := Aside0.mk (L4.out.below hb)
        have n0_ := Aside0.mk (Kd.R_below OP.out hb)
        clear L4 OP ho hb
        have OP := n0_
        clear n0_
        refine hK.out _ _ ⟨L5.out.sea, L5.out.za⟩ (fun hHeld => ?_)
        clear hK K
        refine norm_ (a' := ?_) ?_ ?_
        rotate_left
        · show Act.put _ (some 20) _ = _
          simp only [Act.put, List.setIfInBounds_toArray, List.set_cons_zero, List.set_cons_succ, i64_w, i32_w]
          rfl
        refine one_ (i := 5) (N := some 21) #[true, true, true, true, true, true, false] rfl rfl (one_of HT_.out (by kernel_rfl)) (by decide) (fun K hK => ?_)
        refine Kd.R_append_rows_step hdr (Rr := hdr.K w11) (w0 := w) w.heap.size (by rfl) (.tmp 16) (.tmp 20) 42 22 (.slice none 0 0) 24 rfl Try.underlying42 info22 rfl (by decide) (by omega) (.slice AO hs.length cO) hs [(AP, p.length, cP)] A6 _ _ (fun _ => True) (fun _ => False) rfl rfl L5.out.O (Kd.R_reads' O2.out).2.2 (fun _ _ h => h) (fun _ hk => hk.elim) (fun _ _ => trivial) L5.out.hb (below_size L5.out.hb) (by have := CG.out; have := L5.out.len; simp only [List.length_cons, List.length_nil]; omega) ?_
        intro v21 w12 ho hb hg hat
        obtain ⟨A9, c9, e9⟩ := Kd.R_slice ho
        subst e9
        have L6 := Aside0.mk (L5.out.push ho hb hg OP.out)
        clear ho hb hg hat O2 L5 OP
        have zf : w12.frozen? ⟨ga, 0, none⟩ = false := blk_frozen L6.out.ba 0
        refine hK.out _ _ ⟨L6.out.sea, L6.out.za⟩ (fun hHeld => ?_)
        clear hK K
        refine norm_ (a' := ?_) ?_ ?_
        rotate_left
        · show Act.put _ (some 21) _ = _
          simp only [Act.put, List.setIfInBounds_toArray, List.set_cons_zero, List.set_cons_succ, i64_w, i32_w]
          rfl
        refine last_ (i := 6) (N := none) #[true, true, true, true, true, true, true] rfl rfl (one_of HT_.out (by kernel_rfl)) (by decide) (fun K hK => ?_)
        refine skip_ (w1 := ?_) (by rfl) rfl ?_ ?_
        rotate_left
        · go_simp
          rfl
        have L7 := Aside0.mk L6.out.set
        rw [show (hs ++ [(AP, p.length, cP)]).length = hs.length + 1 from by simp] at L7
        clear L6 zf
        refine hK.out _ _ ?_
        clear hK K
        refine done_ (done_of HT_.out (by kernel_rfl)) ?_
        clear HT_ HW_ hHeld
        go_wp2
        go_roundg k1
        case measure => have := HK.out; omega
        case rel => exact ⟨wrap64 (i + 1), _, _, _, (by first | rfl | simp), H', ⟨by have := HK.out; omega⟩, L7⟩
      · rw [if_neg ci] at H
        have cib : decide (i < (l.length : Int)) = false := decide_eq_false ci
        obtain rfl := Option.some.inj H
        clear H
        go_wp2_with (first
          | ((with_reducible refine gate_dst (N := 7) rfl ?_); refine box_event ?hg (N := 7) ?hd (cs := #[.nilFunc]) (t := 63) ?hr ?_; (case hd => rfl); (case hg => rfl); (case hr => first | (go_simp; done) | (go_simp; rfl)); intro gf hg w7 hbox hb; have n0_ := Aside0.mk (L.out.below hb); have BF := Aside0.mk hbox; have GF := Aside0.mk (by rw [hg]; exact ⟨below_size L.out.hb, fun e => Nat.lt_irrefl _ (e ▸ blk_lt L.out.be), fun e => Nat.lt_irrefl _ (e ▸ blk_lt L.out.bs), fun e => Nat.lt_irrefl _ (e ▸ blk_lt L.out.ba)⟩ : w.heap.size ≤ gf ∧ ge ≠ gf ∧ gs ≠ gf ∧ ga ≠ gf); clear L hbox hb hg; have L := n0_; clear n0_; have zx : w7.cell? ⟨gf, 0, none⟩ = some .nilFunc := (blk_cell BF.out 0).trans rfl; have zf : w7.frozen? ⟨gf, 0, none⟩ = false := blk_frozen BF.out 0)
          | ((with_reducible refine gate_store (t := 63) (p := 7) rfl ?_); refine store_event (t := 63) (p := 7) (v := ?vo2_) (w1 := (w7.setCell ⟨gf, 0, none⟩ (.func (.func 72) #[] #[.pointer (some ⟨gs, 0, none⟩), .pointer (some ⟨ge, 0, none⟩), .pointer (some ⟨ga, 0, none⟩), .pointer (some ⟨gf, 0, none⟩)]))) ?hg ?ho ?hn ?hr ?_; (case ho => rfl); (case hg => rfl); (case hn => rfl); (case hr => first | (go_simp; done) | (go_simp; rfl)); intro w8 hw; have n0_ := Aside0.mk (by rw [hw]; exact L.out.setf BF.out GF.out.1 GF.out.2.1 : EA w w8 gs ge ga gn s0 s1 A c l (.slice AO hs.length cO) (.slice AO hs.length cO) hs al); have n1_ := Aside0.mk (by rw [hw]; exact blk_put BF.out 0 _ rfl : w8.heap[gf]? = some (.cells #[findV gs ge ga gf] 63 (0, 0))); clear L BF GF zx zf hw; have L := n0_; have BF := n1_; clear n0_ n1_; have zc : w8.cell? ⟨gf, 0, none⟩ = some (.func (.func 72) #[] #[.pointer (some ⟨gs, 0, none⟩), .pointer (some ⟨ge, 0, none⟩), .pointer (some ⟨ga, 0, none⟩), .pointer (some ⟨gf, 0, none⟩)]) := (blk_cell BF.out 0).trans rfl)
          | (go_at_call 72; (with_reducible refine (impl_find_nil k s0 s1 A c l AO cO hs _ gs ge ga gf gn n r _ ?side1 ?side2 ?side3 ?side4 HH.out).mono ?_); (case side1 => exact fun W hg => HL.out W ((grownBy_below L.out.hb _).trans hg)); (case side2 => exact HCA.out); (case side3 => exact L.out.told (n := n) (blk_lt HN.out)); (case side4 => exact ⟨L.out.bs, L.out.be, L.out.ba, BF.out, blk_below HN.out L.out.hb, grownBy_refl _ _⟩); rintro e w9 ⟨rfl, hb, hg⟩; have n0_ := Aside0.mk hb; have n1_ := Aside0.mk ((grownBy_below L.out.hb _).trans hg); clear L BF zc hb hg; have B3 := n0_; have GR := n1_; clear n0_ n1_))
        first | go_end0 | ((try simp only [Exit.inBlock, Exit.then]); refine bodyPost_ret (results_none rfl _ _ _) rfl ?_)
        exact ⟨rfl, B3.out, GR.out⟩
end Go.Proofs.Ytankgbfddgpfmaa.PAll
end

section
/- CountFleets of the program: its walk. -/
namespace Go.Proofs.Ytankgbfddgpfmaa.PAll
open Go.RowKit Go.Proofs.YtankgbfddgpfmaaW.PrintWords Go.Proofs.YtankgbfddgpfmaaW.PrintLast Go.Proofs.YtankgbfddgpfmaaW.PrintMore
set_option linter.unusedVariables false
set_option linter.unusedSimpArgs false

theorem GB.set {w W : World} {gb gn : Nat} {s0 s1 : Int} {A : Option Addr} {c : Nat} {l : List Int} {n : Int} {b : Value} (h : GB w W gb s0 s1 A c l) (hn : W.heap[gn]? = some (.cells #[.int .i64 n] 2 (0, 0))) (hle : w.heap.size ≤ gn) : GB w (W.setCell ⟨gn, 0, none⟩ b) gb s0 s1 A c l :=
  ⟨below_set h.hb hle, blk_far h.bk (blk_ne h.bk hn (by decide)) _⟩
set_option maxHeartbeats 8000000 in
set_option maxRecDepth 100000 in
theorem impl_CountFleets.calls (k : Nat) (s0 : Int) (s1 : Int) (A : Option Addr) (c : Nat) (l : List Int) (r1 : Int) (r2 : Int) (w : World) (hr : Kd.C (Kd.int .i64) w A l.length l) (hc : l.length ≤ c) (h : impl_CountFleets.f k s0 s1 l = some (r1, r2)) :
    Calls Try.prog 23 #[.agg #[.int .i64 s0, .int .i64 s1, .slice A l.length c]] w fun e w' => e = .returned (.tuple #[.int .i64 r1, .int .i64 r2]) ∧ Below w.heap.size w w' := by
  have hu28 := Try.underlying28
  unfold impl_CountFleets.f at h
  obtain ⟨b, Hb, H⟩ := Option.bind_eq_some_iff.mp h
  clear h
  have HRA := Aside0.mk hr
  have HCA := Aside0.mk hc
  clear hr hc
  have hmf : ∀ (fn : Fn) (first cap : Array Value) (w : World), (Instr.makeFunc fn first cap).run Try.prog w = .ok (.func fn first cap) w := fun _ _ _ _ => rfl
  cases b with
  | true =>
    rw [if_pos rfl] at H
    obtain ⟨all, Hall, H⟩ := Option.bind_eq_some_iff.mp H
    obtain ⟨n, Hn, H⟩ := Option.bind_eq_some_iff.mp H
    obtain ⟨rfl, rfl⟩ : n = r1 ∧ 0 = r2 := by simpa using H
    clear H
    go_enter Try.func23, Try.ntmps23
    go_wp2_with (first
      | ((with_reducible refine gate_dst (N := 1) rfl ?_); refine box_event ?hg (N := 1) ?hd (cs := #[.int .i64 s0, .int .i64 s1, .slice A l.length c]) (t := 28) ?hr ?_; (case hd => rfl); (case hg => rfl); (case hr => first | (go_simp; done) | (go_simp; rfl)); intro gb hg w2 hbox hb; have G := Aside0.mk (GB.mk (w := w) (s0 := s0) (s1 := s1) (A := A) (c := c) (l := l) hb hbox); clear hbox hb hg; have z0 := G.out.z0; have z1 := G.out.z1; have z2 := G.out.z2)
      | (go_at_call 40; (with_reducible refine (impl_IsSea.calls k s0 s1 _ _ l true _ ?side1 ?side2 Hb).mono ?_); (case side1 => exact Kd.C_below HRA.out G.out.hb); (case side2 => exact HCA.out); rintro e w3 ⟨rfl, hb⟩; have n0_ := Aside0.mk (G.out.below hb); clear G z0 z1 z2 hb; have G := n0_; clear n0_; have z0 := G.out.z0; have z1 := G.out.z1; have z2 := G.out.z2)
      | ((with_reducible refine gate_dst (N := 4) rfl ?_); refine box_event ?hg (N := 4) ?hd (cs := #[.int .i64 0]) (t := 2) ?hr ?_; (case hd => rfl); (case hg => rfl); (case hr => first | (go_simp; done) | (go_simp; rfl)); intro gn hg w5 hbox hb; have n0_ := Aside0.mk (G.out.below hb); have BN := Aside0.mk hbox; have GL := Aside0.mk (by rw [hg]; exact below_size G.out.hb : w.heap.size ≤ gn); clear G z0 z1 z2 hbox hb hg; have G := n0_; clear n0_; have zx : w5.cell? ⟨gn, 0, none⟩ = some (.int .i64 0) := (blk_cell BN.out 0).trans rfl; have zf : w5.frozen? ⟨gn, 0, none⟩ = false := blk_frozen BN.out 0)
      | ((with_reducible refine gate_store (t := 2) (p := 4) rfl ?_); refine store_event (t := 2) (p := 4) (v := ?vo_) (w1 := (w5.setCell ⟨gn, 0, none⟩ (.int .i64 0))) ?hg ?ho ?hn ?hr ?_; (case ho => rfl); (case hg => rfl); (case hn => rfl); (case hr => first | (go_simp; done) | (go_simp; rfl)); intro w6 hw; have n0_ := Aside0.mk (by rw [hw]; exact G.out.set BN.out GL.out : GB w w6 gb s0 s1 A c l); have n1_ := Aside0.mk (by rw [hw]; exact blk_put BN.out 0 _ rfl : w6.heap[gn]? = some (.cells #[.int .i64 0] 2 (0, 0))); clear G BN zx zf hw; have G := n0_; have BN := n1_; clear n0_ n1_; have z0 := G.out.z0; have z1 := G.out.z1; have z2 := G.out.z2)
      | (go_at_call 46; (with_reducible refine (impl_eachFleet.calls k s0 s1 A c l all gn 0 n _ ?side1 ?side2 ?side3 BN.out Hall Hn).mono ?_); (case side1 => exact Kd.C_below HRA.out G.out.hb); (case side2 => exact HCA.out); (case side3 => exact fun W hg => Kd.C_below HRA.out (G.out.hb.grown hg G.out.hb.size (fun j hj => by cases hj; exact GL.out))); rintro e w7 ⟨rfl, hb, hg⟩; have n0_ := Aside0.mk (G.out.hb.grown hg G.out.hb.size (fun j hj => by cases hj; exact GL.out)); have zn : w7.cell? ⟨gn, 0, none⟩ = some (.int .i64 n) := (blk_cell hb 0).trans rfl; clear G BN z0 z1 z2 hb hg; have HB := n0_; clear n0_))
    go_ret2
    exact ⟨by first | rfl | (simp; done) | (simp [*]; done), HB.out⟩
  | false =>
    rw [if_neg (by decide)] at H
    obtain ⟨rfl, rfl⟩ : 0 = r1 ∧ 1 = r2 := by simpa using H
    clear H
    go_enter Try.func23, Try.ntmps23
    go_wp2_with (first
      | ((with_reducible refine gate_dst (N := 1) rfl ?_); refine box_event ?hg (N := 1) ?hd (cs := #[.int .i64 s0, .int .i64 s1, .slice A l.length c]) (t := 28) ?hr ?_; (case hd => rfl); (case hg => rfl); (case hr => first | (go_simp; done) | (go_simp; rfl)); intro gb hg w2 hbox hb; have G := Aside0.mk (GB.mk (w := w) (s0 := s0) (s1 := s1) (A := A) (c := c) (l := l) hb hbox); clear hbox hb hg; have z0 := G.out.z0; have z1 := G.out.z1; have z2 := G.out.z2)
      | (go_at_call 40; (with_reducible refine (impl_IsSea.calls k s0 s1 _ _ l false _ ?side1 ?side2 Hb).mono ?_); (case side1 => exact Kd.C_below HRA.out G.out.hb); (case side2 => exact HCA.out); rintro e w3 ⟨rfl, hb⟩; have n0_ := Aside0.mk (G.out.below hb); clear G z0 z1 z2 hb; have G := n0_; clear n0_; have z0 := G.out.z0; have z1 := G.out.z1; have z2 := G.out.z2))
    go_ret2
    exact ⟨by first | rfl | (simp; done) | (simp [*]; done), G.out.hb⟩
end Go.Proofs.Ytankgbfddgpfmaa.PAll
end
