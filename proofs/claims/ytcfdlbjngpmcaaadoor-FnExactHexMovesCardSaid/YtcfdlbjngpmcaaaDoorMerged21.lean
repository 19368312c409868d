/- Texts of this claim that follow each other, laid together. -/
import Derived.Test.YtcfdlbjngpmcaaaDoorMerged17
import Derived.Lib.SliceRun

section
/- HexMoves: what it reckons: the empty cells, without those by which the mover does not win. -/
namespace Go.Proofs.YtcfdlbjngpmcaaaDoor.PAll
open Go.RowKit Go.Proofs.YtcfdlbjngpmcaaaDoorW.PrintWords Go.Proofs.YtcfdlbjngpmcaaaDoorW.PrintLast
set_option linter.unusedVariables false

/-- Is a move none that wins? -/
def impl_HexMoves.pred (k : Nat) (s : Int) (l : List Int) (mv : Int) (m : SMap) (c : Int) : Option (Bool × SMap) := (impl_Hex_with.f s l c mv).bind fun b => (impl_find.f k b.1 b.2 m).bind fun q => some (q.1 != mv, q.2)
def impl_HexMoves.ix : Nat → Int → List Int → Int → List Int → Int → SMap → Option (Int × SMap)
  | 0, _, _, _, _, _, _ => none
  | k + 1, s, l, mv, x, i, m => if i < (x.length : Int) then (if 0 ≤ i then (impl_HexMoves.pred k s l mv m (rd x i)).bind fun p => (if p.1 = true then some (i, p.2) else impl_HexMoves.ix k s l mv x (wrap64 (i + 1)) p.2) else none) else some (-1, m)
def impl_HexMoves.dl : Nat → Int → List Int → Int → List Int → Int → Int → SMap → Option (List Int × SMap)
  | 0, _, _, _, _, _, _, _ => none
  | k + 1, s, l, mv, x, i, j, m => if j < (x.length : Int) then (if 0 ≤ j then (impl_HexMoves.pred k s l mv m (rd x j)).bind fun p => (if p.1 = true then impl_HexMoves.dl k s l mv x i (wrap64 (j + 1)) p.2 else (if 0 ≤ i then (if i < (x.length : Int) then impl_HexMoves.dl k s l mv (x.set i.toNat (rd x j)) (wrap64 (i + 1)) (wrap64 (j + 1)) p.2 else none) else none)) else none)
    else (if 0 ≤ i then (if i < (x.length : Int) then some (x.take i.toNat, m) else none) else none)
def impl_HexMoves.f (k : Nat) (a0_0 : Int) (l0_1 : List Int) : Option (List Int × Int) := (impl_hexCode.f k a0_0 l0_1).bind fun code => (if code = 0 then (impl_Hex_mover.f k a0_0 l0_1).bind fun mv => (impl_Hex_cells.f k a0_0 l0_1 0).bind fun x => (impl_HexMoves.ix k a0_0 l0_1 mv.1 x 0 []).bind fun p => (if p.1 = -1 then some (x, 0) else (impl_HexMoves.dl k a0_0 l0_1 mv.1 x p.1 (wrap64 (p.1 + 1)) p.2).bind fun q => some (q.1, 0)) else some ([], code))
end Go.Proofs.YtcfdlbjngpmcaaaDoor.PAll
end

section
/- HexMoves: its predicate, and the search for the first move that does not win. -/
namespace Go.Proofs.YtcfdlbjngpmcaaaDoor.PAll
open Go.RowKit Go.Maps Go.Proofs.YtcfdlbjngpmcaaaDoorW.PrintWords Go.Proofs.YtcfdlbjngpmcaaaDoorW.PrintLast Go.Proofs.YtcfdlbjngpmcaaaDoorW.PrintMore
set_option linter.unusedVariables false
set_option linter.unusedSimpArgs false

/-- What the predicate has captured: the search, the board, the mover; and what has been kept. -/
structure PS (w0 W : World) (nb gm g1 g2 g5 gx g6 : Nat) (s : Int) (A : Option Addr) (c : Nat) (l : List Int) (mv : Int) (m : SMap) : Prop where
  M : MapS W gm m
  b1 : W.heap[g1]? = some (.cells #[.map (some gm)] 51 (0, 0))
  b2 : W.heap[g2]? = some (.cells #[findV g1 g2] 41 (0, 0))
  b5 : W.heap[g5]? = some (.cells #[findV g1 g2] 41 (0, 0))
  bx : W.heap[gx]? = some (.cells #[.int .i64 s, .slice A l.length c] 28 (0, 0))
  b6 : W.heap[g6]? = some (.cells #[.int .i64 mv] 2 (0, 0))
  hb : Below w0.heap.size w0 W
  ge : w0.heap.size ≤ gm
  lt : (gm < nb ∧ g1 < nb ∧ g2 < nb) ∧ g5 < nb ∧ gx < nb ∧ g6 < nb
  rdl : Kd.C (Kd.int .i64) w0 A l.length l
theorem PS.grown {w W : World} {nb gm g1 g2 g5 gx g6 : Nat} {s : Int} {A : Option Addr} {c : Nat} {l : List Int} {mv : Int} {m : SMap} {W1 : World} {m1 : SMap} (h : PS w W nb gm g1 g2 g5 gx g6 s A c l mv m) (hM : MapS W1 gm m1) (k : W.grownBy W1 (some gm)) : PS w W1 nb gm g1 g2 g5 gx g6 s A c l mv m1 :=
  ⟨hM, blk_grown h.b1 k (h.M.ne h.b1), blk_grown h.b2 k (h.M.ne h.b2), blk_grown h.b5 k (h.M.ne h.b5), blk_grown h.bx k (h.M.ne h.bx), blk_grown h.b6 k (h.M.ne h.b6), h.hb.grown k h.hb.size (fun j hj => by cases hj; exact h.ge), h.ge, h.lt, h.rdl⟩
/-- Another row of the call's own has been written. -/
theorem PS.other {w W : World} {nb gm g1 g2 g5 gx g6 : Nat} {s : Int} {A : Option Addr} {c : Nat} {l : List Int} {mv : Int} {m : SMap} {W1 : World} {g : Nat} (h : PS w W nb gm g1 g2 g5 gx g6 s A c l mv m) (k : W.grownBy W1 (some g)) (hg : nb ≤ g) : PS w W1 nb gm g1 g2 g5 gx g6 s A c l mv m := by
  obtain ⟨⟨h1, h2, h3⟩, h4, h5, h6⟩ := h.lt
  have hne : ∀ x, x < nb → some x ≠ some g := fun x hx e => by cases e; omega
  have hM : MapS W1 gm m := by
    obtain ⟨D, hown, hH⟩ := h.M
    exact ⟨D, hown.kept k (hne _ h1), hH⟩
  exact ⟨hM, blk_grown h.b1 k (hne _ h2), blk_grown h.b2 k (hne _ h3), blk_grown h.b5 k (hne _ h4), blk_grown h.bx k (hne _ h5), blk_grown h.b6 k (hne _ h6), h.hb.grown k h.hb.size (fun j hj => by cases hj; have := h.ge; omega), h.ge, h.lt, h.rdl⟩
theorem PS.below {w W : World} {nb gm g1 g2 g5 gx g6 : Nat} {s : Int} {A : Option Addr} {c : Nat} {l : List Int} {mv : Int} {m : SMap} {W1 : World} (h : PS w W nb gm g1 g2 g5 gx g6 s A c l mv m) (k : Below W.heap.size W W1) : PS w W1 nb gm g1 g2 g5 gx g6 s A c l mv m := h.grown (h.M.below k) (grownBy_below k _)
theorem PS.drew {w W : World} {nb gm g1 g2 g5 gx g6 : Nat} {s : Int} {A : Option Addr} {c : Nat} {l : List Int} {mv : Int} {m : SMap} (h : PS w W nb gm g1 g2 g5 gx g6 s A c l mv m) : PS w W.drew nb gm g1 g2 g5 gx g6 s A c l mv m := h.grown h.M.drew (grownBy_drewN (grownBy_refl W _) 1)
theorem PS.zs {w W : World} {nb gm g1 g2 g5 gx g6 : Nat} {s : Int} {A : Option Addr} {c : Nat} {l : List Int} {mv : Int} {m : SMap} (h : PS w W nb gm g1 g2 g5 gx g6 s A c l mv m) : ((W.cell? ⟨gx, 0, none⟩ = some (.int .i64 s) ∧ W.cell? ⟨gx, 1, none⟩ = some (.slice A l.length c)) ∧ W.cell? ⟨g5, 0, none⟩ = some (findV g1 g2)) ∧ W.cell? ⟨g6, 0, none⟩ = some (.int .i64 mv) :=
  ⟨⟨⟨(blk_cell h.bx 0).trans rfl, (blk_cell h.bx 1).trans rfl⟩, (blk_cell h.b5 0).trans rfl⟩, (blk_cell h.b6 0).trans rfl⟩
theorem PS.board {w W : World} {nb gm g1 g2 g5 gx g6 : Nat} {s : Int} {A : Option Addr} {c : Nat} {l : List Int} {mv : Int} {m : SMap} (h : PS w W nb gm g1 g2 g5 gx g6 s A c l mv m) : Kd.C (Kd.int .i64) W A l.length l := Kd.C_below h.rdl h.hb
/-- A row of the call's own stays as it is where the search goes on. -/
theorem PS.row {w W : World} {nb gm g1 g2 g5 gx g6 : Nat} {s : Int} {A : Option Addr} {c : Nat} {l : List Int} {mv : Int} {m : SMap} {W1 : World} {AX : Option Addr} {cX : Nat} {x : List Int} (h : PS w W nb gm g1 g2 g5 gx g6 s A c l mv m) (hR : Kd.R (Kd.int .i64) 2 W nb (fun _ => True) (.slice AX x.length cX) x) (k : W.grownBy W1 (some gm)) : Kd.R (Kd.int .i64) 2 W1 nb (fun _ => True) (.slice AX x.length cX) x :=
  Kd.R_grown2 hR rfl k (fun j hj => by cases hj; intro z; have := Kd.R_base hR gm z.symm; have := h.lt; omega)
theorem PS.rown {w W : World} {nb gm g1 g2 g5 gx g6 : Nat} {s : Int} {A : Option Addr} {c : Nat} {l : List Int} {mv : Int} {m : SMap} {W1 : World} {AX : Option Addr} {cX n : Nat} {x : List Int} (h : PS w W nb gm g1 g2 g5 gx g6 s A c l mv m) (hR : Kd.R (Kd.int .i64) 2 W nb (fun _ => True) (.slice AX n cX) x) (k : W.grownBy W1 (some gm)) : Kd.R (Kd.int .i64) 2 W1 nb (fun _ => True) (.slice AX n cX) x :=
  Kd.R_grown2 hR rfl k (fun j hj => by cases hj; intro z; have := Kd.R_base hR gm z.symm; have := h.lt; omega)
def impl_HexMoves_1.T1 : Bool × List (List Nat × List Nat) := (true, [([], []), ([], []), ([], []), ([], []), ([1, 2, 3], [1, 2, 3]), ([0, 4, 4], [0, 4]), ([], []), ([5, 6], [5, 6]), ([7, 5, 0, 1, 2, 3, 4, 5, 6, 7], [7])])
def impl_HexMoves_1.B1 : List Nat := [0, 0, 0, 0, 14, 31, 0, 127, 255]
theorem impl_HexMoves_1.tab1 : rtab .any (opsOf Tryd.f27 1) = impl_HexMoves_1.T1 := by kernel_rfl
theorem impl_HexMoves_1.bits1 : waitsOk impl_HexMoves_1.T1.2 impl_HexMoves_1.B1 = true := by kernel_rfl
set_option maxHeartbeats 8000000 in
set_option maxRecDepth 100000 in
theorem pred.calls (k : Nat) (s : Int) (A : Option Addr) (c : Nat) (l : List Int) (mv : Int) (nb gm g1 g2 g5 gx g6 : Nat) (m m' : SMap) (x : Int) (r : Bool) (w0 w : World) (hc : l.length ≤ c) (hP : PS w0 w nb gm g1 g2 g5 gx g6 s A c l mv m) (h : impl_HexMoves.pred k s l mv m x = some (r, m')) :
    Calls Tryd.prog 27 #[.int .i64 x, .pointer (some ⟨g5, 0, none⟩), .pointer (some ⟨gx, 0, none⟩), .pointer (some ⟨g6, 0, none⟩)] w fun e w' => e = .returned (.bool r) ∧ MapS w' gm m' ∧ w.grownBy w' (some gm) := by
  have hu28 := Tryd.underlying28
  unfold impl_HexMoves.pred at h
  obtain ⟨⟨b1, b2⟩, Hw, H⟩ := Option.bind_eq_some_iff.mp h
  obtain ⟨⟨q1, q2⟩, Hq, H⟩ := Option.bind_eq_some_iff.mp H
  obtain ⟨rfl, rfl⟩ : (q1 != mv) = r ∧ q2 = m' := by simpa using H
  simp only at Hq
  clear H h
  have HC := Aside0.mk hc
  have SS := Aside0.mk hP
  clear hc hP
  go_enter Tryd.func27, Tryd.ntmps27
  go_wp2
  have L2 := Aside0.mk SS.out.drew
  have GR := Aside0.mk (grownBy_drewN (grownBy_refl w (some gm)) 1)
  clear SS
  refine start_ (n := 9) (S := fun w' => ((w'.cell? ⟨gx, 0, none⟩ = some (.int .i64 s) ∧ w'.cell? ⟨gx, 1, none⟩ = some (.slice A l.length c)) ∧ w'.cell? ⟨g5, 0, none⟩ = some (findV g1 g2)) ∧ w'.cell? ⟨g6, 0, none⟩ = some (.int .i64 mv)) (ds := []) #[false, false, false, false, false, false, false, false, false] (by kernel_rfl) rfl rfl L2.out.zs (fun hHeld => ?_); refine with_tabW impl_HexMoves_1.tab1 impl_HexMoves_1.bits1 (fun HT_ HW_ => ?_)
  rw [show w.drewN 1 = w.drew from rfl] at GR
  generalize w.drew = w8 at L2 GR hHeld ⊢
  refine pure_ (i := 2) (N := some 8) (v := ?_) (a' := ?_) #[false, false, true, false, false, false, false, false, false] rfl rfl (any_of HT_.out (by kernel_rfl)) (fun _ _ _ h => h) (Or.inl ⟨by rfl, ?_⟩) ?_ ?_
  rotate_left
  · intro w'
    go_simp
    with_reducible rfl
  rotate_left
  · simp only [Act.put, List.setIfInBounds_toArray, List.set_cons_zero, List.set_cons_succ, i64_w, i32_w]
    rfl
  refine take_ (i := 0) (N := some 6) (v := ?_) (a' := ?_) #[true, false, true, false, false, false, false, false, false] rfl rfl (take_ofW HT_.out HW_.out (by kernel_rfl)) (fun _ _ _ h => h) (Or.inl ⟨by rfl, ?_⟩) hHeld ?_ ?_
  rotate_left
  · rintro w' ⟨⟨⟨s0, s1⟩, s2⟩, s3⟩
    go_simp
    with_reducible rfl
  rotate_left
  · simp only [Act.put, List.setIfInBounds_toArray, List.set_cons_zero, List.set_cons_succ, i64_w, i32_w]
    rfl
  refine take_ (i := 1) (N := some 7) (v := ?_) (a' := ?_) #[true, true, true, false, false, false, false, false, false] rfl rfl (take_ofW HT_.out HW_.out (by kernel_rfl)) (fun _ _ _ h => h) (Or.inl ⟨by rfl, ?_⟩) hHeld ?_ ?_
  rotate_left
  · rintro w' ⟨⟨⟨s0, s1⟩, s2⟩, s3⟩
    go_simp
    with_reducible rfl
  rotate_left
  · simp only [Act.put, List.setIfInBounds_toArray, List.set_cons_zero, List.set_cons_succ, i64_w, i32_w]
    rfl
  refine take_ (i := 3) (N := some 9) (v := ?_) (a' := ?_) #[true, true, true, true, false, false, false, false, false] rfl rfl (take_ofW HT_.out HW_.out (by kernel_rfl)) (fun _ _ _ h => h) (Or.inl ⟨by rfl, ?_⟩) hHeld ?_ ?_
  rotate_left
  · rintro w' ⟨⟨⟨s0, s1⟩, s2⟩, s3⟩
    go_simp
    with_reducible rfl
  rotate_left
  · simp only [Act.put, List.setIfInBounds_toArray, List.set_cons_zero, List.set_cons_succ, i64_w, i32_w]
    rfl
  refine take_ (i := 6) (N := some 12) (v := ?_) (a' := ?_) #[true, true, true, true, false, false, true, false, false] rfl rfl (take_ofW HT_.out HW_.out (by kernel_rfl)) (fun _ _ _ h => h) (Or.inl ⟨by rfl, ?_⟩) hHeld ?_ ?_
  rotate_left
  · rintro w' ⟨⟨⟨s0, s1⟩, s2⟩, s3⟩
    go_simp
    with_reducible rfl
  rotate_left
  · simp only [Act.put, List.setIfInBounds_toArray, List.set_cons_zero, List.set_cons_succ, i64_w, i32_w]
    rfl
  refine one_ (i := 4) (N := some 10) #[true, true, true, true, true, false, true, false, false] rfl rfl (one_of HT_.out (by kernel_rfl)) (by decide) (fun K hK => ?_)
  refine goes_ Tryd.func28 (by kernel_rfl) rfl #[.agg #[.int .i64 s, .slice A l.length c], .int .i64 x, .int .i64 mv] (by rfl) rfl rfl (by (try simp only [List.map_toArray, List.map_cons, List.map_nil]); first | done | rfl | (simp; done)) ?_
  with_reducible refine (impl_Hex_with.calls s _ _ l x mv b1 b2 _ ?side1 ?side2 Hw).mono ?_
  (case side1 => exact L2.out.board)
  (case side2 => exact HC.out)
  rintro e w9 ⟨vB, rfl, ho, hb⟩
  obtain ⟨AB, cB, eB⟩ := Kd.R_slice ho
  subst eB
  refine ⟨_, rfl, ?_⟩
  have L3 := Aside0.mk (L2.out.below hb)
  have OB := Aside0.mk (Kd.R_lower ho (L2.out.M.lt : gm + 1 ≤ w8.heap.size))
  have n0_ := Aside0.mk (GR.out.trans (grownBy_below hb _))
  clear GR
  have GR := n0_
  clear n0_
  clear L2 ho hb
  refine hK.out _ _ L3.out.zs (fun hHeld => ?_)
  clear hK K
  refine norm_ (a' := ?_) ?_ ?_
  rotate_left
  · show Act.put _ (some 10) _ = _
    simp only [Act.put, List.setIfInBounds_toArray, List.set_cons_zero, List.set_cons_succ, i64_w, i32_w]
    rfl
  refine one_ (i := 5) (N := some 11) #[true, true, true, true, true, true, true, false, false] rfl rfl (one_of HT_.out (by kernel_rfl)) (by decide) (fun K hK => ?_)
  refine goesV_ Tryd.func33 (by kernel_rfl) rfl #[.agg #[.int .i64 b1, .slice AB b2.length cB], .pointer (some ⟨g1, 0, none⟩), .pointer (some ⟨g2, 0, none⟩)] (by rfl) rfl rfl (by rfl) (by (try simp only [List.map_toArray, List.map_cons, List.map_nil, List.append_toArray, List.cons_append, List.nil_append]); rfl) ?_
  with_reducible refine (impl_find.calls k b1 AB cB b2 gm g1 g2 m q2 q1 _ ?side1 ?side2 ?side3 Hq).mono ?_
  (case side1 => exact fun W hg => (Kd.R_reads' (Kd.R_grown2 OB.out rfl hg (fun j hj => by cases hj; intro z; have := Kd.R_base OB.out gm z.symm; omega))).2.2)
  (case side2 => exact (Kd.R_reads' OB.out).2.1)
  (case side3 => exact ⟨L3.out.M, L3.out.b1, L3.out.b2, grownBy_refl _ _⟩)
  rintro e w10 ⟨rfl, hM, hg⟩
  refine ⟨_, rfl, ?_⟩
  have L4 := Aside0.mk (L3.out.grown hM hg)
  have n0_ := Aside0.mk (GR.out.trans hg)
  clear GR
  have GR := n0_
  clear n0_
  clear L3 OB hM hg
  refine hK.out _ _ L4.out.zs (fun hHeld => ?_)
  clear hK K
  refine norm_ (a' := ?_) ?_ ?_
  rotate_left
  · show Act.put _ (some 11) _ = _
    simp only [Act.put, List.setIfInBounds_toArray, List.set_cons_zero, List.set_cons_succ, i64_w, i32_w]
    rfl
  refine pure_ (i := 7) (N := some 13) (v := ?_) (a' := ?_) #[true, true, true, true, true, true, true, true, false] rfl rfl (any_of HT_.out (by kernel_rfl)) (fun _ _ _ h => h) (Or.inl ⟨by rfl, ?_⟩) ?_ ?_
  rotate_left
  · intro w'
    go_simp
    with_reducible rfl
  rotate_left
  · simp only [Act.put, List.setIfInBounds_toArray, List.set_cons_zero, List.set_cons_succ, i64_w, i32_w]
    rfl
  refine pure_ (i := 8) (N := some 5) (v := ?_) (a' := ?_) #[true, true, true, true, true, true, true, true, true] rfl rfl (any_of HT_.out (by kernel_rfl)) (fun _ _ _ h => h) (Or.inl ⟨by rfl, ?_⟩) ?_ ?_
  rotate_left
  · intro w'
    go_simp
    with_reducible rfl
  rotate_left
  · simp only [Act.put, List.setIfInBounds_toArray, List.set_cons_zero, List.set_cons_succ, i64_w, i32_w]
    rfl
  refine done_ (done_of HT_.out (by kernel_rfl)) ?_
  try go_wp2
  go_ret
  exact ⟨by first | rfl | (simp; done), L4.out.M, GR.out⟩
set_option maxHeartbeats 8000000 in
set_option maxRecDepth 100000 in
theorem ix.calls (k : Nat) (s : Int) (A : Option Addr) (c : Nat) (l : List Int) (mv : Int) (nb gm g1 g2 g5 gx g6 : Nat) (m m' : SMap) (x : List Int) (AX : Option Addr) (cX : Nat) (r : Int) (w0 w : World) (hc : l.length ≤ c) (hx : Kd.R (Kd.int .i64) 2 w nb (fun _ => True) (.slice AX x.length cX) x) (hP : PS w0 w nb gm g1 g2 g5 gx g6 s A c l mv m) (h : impl_HexMoves.ix k s l mv x 0 m = some (r, m')) :
    Calls Tryd.prog 36 #[.slice AX x.length cX, .func (.func 27) #[] #[.pointer (some ⟨g5, 0, none⟩), .pointer (some ⟨gx, 0, none⟩), .pointer (some ⟨g6, 0, none⟩)]] w fun e w' => e = .returned (.int .i64 r) ∧ MapS w' gm m' ∧ w.grownBy w' (some gm) := by
  have HC := Aside0.mk hc
  have HX := Aside0.mk hx
  have hP0 := Aside0.mk hP
  have SS := Aside0.mk hP
  have GR := Aside0.mk (grownBy_refl w (some gm))
  have H' := Aside0.mk h
  clear hc hP hx h
  go_enter Tryd.func36, Tryd.ntmps36
  go_wp2
  go_loopg [8] k (fun kq v8 w' => ∃ (i : Int) (m1 : SMap), v8 = .int .i64 i ∧ Aside0 (impl_HexMoves.ix kq s l mv x i m1 = some (r, m')) ∧ Aside0 (kq ≤ k) ∧ Aside0 (w.grownBy w' (some gm)) ∧ Aside0 (PS w0 w' nb gm g1 g2 g5 gx g6 s A c l mv m1))
  case atStart => exact ⟨0, m, rfl, H', ⟨Nat.le_refl _⟩, GR, SS⟩
  case round =>
    clear H' SS GR
    obtain ⟨i, m1, rfl, HA, HK, GR, SS⟩ := hrel
    cases gk with
    | zero => exact absurd HA.out (by simp [impl_HexMoves.ix])
    | succ k1 =>
      have H := HA.out
      clear HA
      rw [impl_HexMoves.ix] at H
      by_cases ci : i < (x.length : Int)
      · rw [if_pos ci] at H
        have cib : decide (i < (x.length : Int)) = true := decide_eq_true ci
        by_cases pi : 0 ≤ i
        case neg => rw [if_neg pi] at H; cases H
        rw [if_pos pi] at H
        obtain ⟨⟨p1, p2⟩, Hp, H⟩ := Option.bind_eq_some_iff.mp H
        simp only at H
        obtain ⟨ad, e, hxj⟩ := Kd.at_int (Kd.R_reads' (hP0.out.row HX.out GR.out)).2.2 i pi ci
        cases e
        have pi' := eq_true pi
        have ci' := eq_true ci
        have e1 : wrap64 (i + 1) = wrap64 (i + 1) := rfl
        cases p1 with
        | true =>
          rw [if_pos rfl] at H
          obtain ⟨rfl, rfl⟩ : i = r ∧ p2 = m' := by simpa using H
          clear H
          go_wp2_with (first
            | (go_at_call 27; (with_reducible refine (pred.calls k1 s A c l mv nb gm g1 g2 g5 gx g6 m1 p2 (rd x i) true w0 _ HC.out SS.out Hp).mono ?_); rintro e w9 ⟨rfl, hM, hg⟩; have n0_ := Aside0.mk (SS.out.grown hM hg); have n1_ := Aside0.mk (GR.out.trans hg); clear SS GR hM hg; have SS := n0_; have GR := n1_; clear n0_ n1_))
          go_ret
          exact ⟨by first | rfl | (simp; done), SS.out.M, GR.out⟩
        | false =>
          rw [if_neg (by decide)] at H
          have H' := Aside0.mk H
          clear H
          go_wp2_with (first
            | (go_at_call 27; (with_reducible refine (pred.calls k1 s A c l mv nb gm g1 g2 g5 gx g6 m1 p2 (rd x i) false w0 _ HC.out SS.out Hp).mono ?_); rintro e w9 ⟨rfl, hM, hg⟩; have n0_ := Aside0.mk (SS.out.grown hM hg); have n1_ := Aside0.mk (GR.out.trans hg); clear SS GR hM hg; have SS := n0_; have GR := n1_; clear n0_ n1_))
          go_roundg k1
          case measure => have := HK.out; omega
          case rel => exact ⟨wrap64 (i + 1), p2, (by first | rfl | simp), H', ⟨by have := HK.out; omega⟩, GR, SS⟩
      · rw [if_neg ci] at H
        have cib : decide (i < (x.length : Int)) = false := decide_eq_false ci
        obtain ⟨rfl, rfl⟩ : -1 = r ∧ m1 = m' := by simpa using H
        clear H
        go_wp2
        go_ret
        exact ⟨by first | rfl | (simp; done), SS.out.M, GR.out⟩
end Go.Proofs.YtcfdlbjngpmcaaaDoor.PAll
end

section
/- slices.DeleteFunc at HexMoves's predicate: the row is written in place, its rest made zero. -/
namespace Go.Proofs.YtcfdlbjngpmcaaaDoor.PAll
open Go.RowKit Go.Maps Go.Proofs.YtcfdlbjngpmcaaaDoorW.PrintWords Go.Proofs.YtcfdlbjngpmcaaaDoorW.PrintLast Go.Proofs.YtcfdlbjngpmcaaaDoorW.PrintMore
set_option linter.unusedVariables false
set_option linter.unusedSimpArgs false

/-- Cells behind a place written: what stands ahead of it stays. -/
theorem zeros_row {nb go co n : Nat} : ∀ (k o i : Nat) (W : World) (y : List Int), Kd.R (Kd.int .i64) 2 W nb (fun _ => True) (.slice (some ⟨go, 0, none⟩) n co) y → i ≤ o →
    ∃ y', Kd.R (Kd.int .i64) 2 (W.setCells go o (List.replicate k (.int .i64 0))) nb (fun _ => True) (.slice (some ⟨go, 0, none⟩) n co) y' ∧ y'.take i = y.take i ∧ y'.length = y.length ∧ W.grownBy (W.setCells go o (List.replicate k (.int .i64 0))) (some go)
  | 0, o, i, W, y, h, _ => ⟨y, h, rfl, rfl, grownBy_refl _ _⟩
  | k + 1, o, i, W, y, h, ho => by
    obtain ⟨h1, h2⟩ := Kd.R_putg h (o : Int) 0
    rw [Int.toNat_natCast] at h1 h2
    obtain ⟨y', h3, h4, h5, h6⟩ := zeros_row k (o + 1) i _ _ h1 (by omega)
    rw [List.replicate_succ, World.setCells]
    refine ⟨y', h3, ?_, by rw [h5, List.length_set], h2.trans h6⟩
    rw [h4, List.take_set_of_le (by omega)]
set_option maxHeartbeats 8000000 in
set_option maxRecDepth 100000 in
theorem del.calls (k : Nat) (s : Int) (A : Option Addr) (c : Nat) (l : List Int) (mv : Int) (nb gm g1 g2 g5 gx g6 : Nat) (m m1 : SMap) (x : List Int) (AX : Option Addr) (cX : Nat) (p : Int) (r : List Int) (w0 w : World) (hc : l.length ≤ c) (hx : Kd.R (Kd.int .i64) 2 w nb (fun _ => True) (.slice AX x.length cX) x) (hP : PS w0 w nb gm g1 g2 g5 gx g6 s A c l mv m)
    (h : impl_HexMoves.ix k s l mv x 0 m = some (p, m1)) (h2 : (if p = -1 then some x else (impl_HexMoves.dl k s l mv x p (wrap64 (p + 1)) m1).bind fun q => some q.1) = some r) :
    Calls Tryd.prog 25 #[.slice AX x.length cX, .func (.func 27) #[] #[.pointer (some ⟨g5, 0, none⟩), .pointer (some ⟨gx, 0, none⟩), .pointer (some ⟨g6, 0, none⟩)]] w fun e w' => ∃ v, e = .returned v ∧ Kd.R (Kd.int .i64) 2 w' nb (fun _ => True) v r ∧ Below w0.heap.size w0 w' := by
  have HC := Aside0.mk hc
  by_cases hp : p = -1
  · rw [if_pos hp] at h2
    cases h2
    have hpb : (p == -1) = true := beq_iff_eq.mpr hp
    have SS := Aside0.mk hP
    have HO := Aside0.mk hx
    have HI := Aside0.mk h
    clear hx hP h
    subst hp
    go_enter Tryd.func25, Tryd.ntmps25
    go_wp2_with (first
      | (go_at_call 36; (with_reducible refine (ix.calls k s A c l mv nb gm g1 g2 g5 gx g6 m m1 x AX cX (-1) w0 _ HC.out HO.out SS.out HI.out).mono ?_); rintro e w9 ⟨rfl, hM, hg⟩; have n0_ := Aside0.mk (SS.out.row HO.out hg); have n1_ := Aside0.mk (SS.out.grown hM hg); clear SS HO hM hg; have HO := n0_; have SS := n1_; clear n0_ n1_))
    go_ret
    exact ⟨_, rfl, HO.out, SS.out.hb⟩
  · rw [if_neg hp] at h2
    obtain ⟨⟨q1, q2⟩, H, h2⟩ := Option.bind_eq_some_iff.mp h2
    obtain rfl : q1 = r := by simpa using h2
    clear h2
    have hlen : 0 < x.length := by
      rcases Nat.eq_zero_or_pos x.length with e | e
      · exfalso
        cases k with
        | zero => simp [impl_HexMoves.ix] at h
        | succ k =>
          rw [impl_HexMoves.ix, if_neg (by omega)] at h
          have : -1 = p ∧ m = m1 := by simpa using h
          exact hp this.1.symm
      · exact e
    have hpb : (p == -1) = false := beq_eq_false_iff_ne.mpr hp
    obtain ⟨go, co, eo, gb, gl, cl, HG⟩ := Kd.R_form hx hlen
    injection eo with ea en ec
    subst ea
    subst ec
    clear en HG gl
    have GO := Aside0.mk gb
    have SS := Aside0.mk hP
    have HO := Aside0.mk hx
    have HI := Aside0.mk h
    have H' := Aside0.mk H
    clear hx hP h H gb
    go_enter Tryd.func25, Tryd.ntmps25
    go_wp2_with (first
      | (go_at_call 36; (with_reducible refine (ix.calls k s A c l mv nb gm g1 g2 g5 gx g6 m m1 x _ _ p w0 _ HC.out HO.out SS.out HI.out).mono ?_); rintro e w9 ⟨rfl, hM, hg⟩; have n0_ := Aside0.mk (SS.out.row HO.out hg); have n1_ := Aside0.mk (SS.out.grown hM hg); clear SS HO hM hg; have HO := n0_; have SS := n1_; clear n0_ n1_))
    go_loopg [5, 6] k (fun kq v5 v6 w' => ∃ (i j : Int) (y : List Int) (m3 : SMap), v5 = .int .i64 i ∧ v6 = .int .i64 j ∧ Aside0 (impl_HexMoves.dl kq s l mv y i j m3 = some (q1, q2)) ∧ Aside0 (kq ≤ k) ∧ Aside0 (y.length = x.length) ∧ Aside0 (Kd.R (Kd.int .i64) 2 w' nb (fun _ => True) (.slice (some ⟨go, 0, none⟩) x.length cX) y) ∧ Aside0 (PS w0 w' nb gm g1 g2 g5 gx g6 s A c l mv m3))
    case atStart => exact ⟨p, wrap64 (p + 1), x, m1, rfl, (by first | rfl | simp), H', ⟨Nat.le_refl _⟩, ⟨rfl⟩, HO, SS⟩
    case round =>
      clear H' SS HO HI
      obtain ⟨i, j, y, m3, rfl, rfl, HA, HK, HL, HO, SS⟩ := hrel
      cases gk with
      | zero => exact absurd HA.out (by simp [impl_HexMoves.dl])
      | succ k1 =>
        have H := HA.out
        clear HA
        rw [impl_HexMoves.dl, HL.out] at H
        by_cases cj : j < (x.length : Int)
        · rw [if_pos cj] at H
          have cjb : decide (j < (x.length : Int)) = true := decide_eq_true cj
          by_cases pj : 0 ≤ j
          case neg => rw [if_neg pj] at H; cases H
          rw [if_pos pj] at H
          obtain ⟨⟨p1, p2⟩, Hp, H⟩ := Option.bind_eq_some_iff.mp H
          simp only at H
          have hxj : wr.cell? ⟨go, j.toNat, none⟩ = some (.int .i64 (rd y j)) := (Kd.R_celln 0 HO.out j pj cj).1
          have pj' := eq_true pj
          have cj' := eq_true cj
          cases p1 with
          | true =>
            rw [if_pos rfl] at H
            have H' := Aside0.mk H
            clear H
            go_wp2_with (first
              | (go_at_call 27; (with_reducible refine (pred.calls k1 s A c l mv nb gm g1 g2 g5 gx g6 m3 p2 (rd y j) true w0 _ HC.out SS.out Hp).mono ?_); rintro e w9 ⟨rfl, hM, hg⟩; have n0_ := Aside0.mk (SS.out.rown HO.out hg); have n1_ := Aside0.mk (SS.out.grown hM hg); clear SS HO hM hg hxj; have HO := n0_; have SS := n1_; clear n0_ n1_))
            go_roundg k1
            case measure => have := HK.out; omega
            case rel => exact ⟨i, wrap64 (j + 1), y, p2, rfl, (by first | rfl | simp), H', ⟨by have := HK.out; omega⟩, HL, HO, SS⟩
          | false =>
            rw [if_neg (by decide)] at H
            by_cases pi : 0 ≤ i
            case neg => rw [if_neg pi] at H; cases H
            rw [if_pos pi] at H
            by_cases ci : i < (x.length : Int)
            case neg => rw [if_neg ci] at H; cases H
            rw [if_pos ci] at H
            have pi' := eq_true pi
            have ci' := eq_true ci
            have H' := Aside0.mk H
            clear H
            go_wp2_with (first
              | (go_at_call 27; (with_reducible refine (pred.calls k1 s A c l mv nb gm g1 g2 g5 gx g6 m3 p2 (rd y j) false w0 _ HC.out SS.out Hp).mono ?_); rintro e w9 ⟨rfl, hM, hg⟩; have n0_ := Aside0.mk (SS.out.rown HO.out hg); have n1_ := Aside0.mk (SS.out.grown hM hg); clear SS HO hM hg hxj; have HO := n0_; have SS := n1_; clear n0_ n1_; obtain ⟨hxi, hfi⟩ := Kd.R_celln 0 HO.out i (of_eq_true pi') (of_eq_true ci'); have HP := Kd.R_putg HO.out i (rd y j))
              | ((with_reducible refine gate_store (t := 2) (p := 33) rfl ?_); refine store_event (t := 2) (p := 33) (v := ?vo_) (w1 := (w9.setCell ⟨go, i.toNat, none⟩ (.int .i64 (rd y j)))) ?hg ?ho ?hn ?hr ?_; (case ho => rfl); (case hg => rfl); (case hn => rfl); (case hr => first | (go_simp; done) | (go_simp; rfl)); intro w11 hw; have n0_ : Aside0 (Kd.R (Kd.int .i64) 2 w11 nb (fun _ => True) (.slice (some ⟨go, 0, none⟩) x.length cX) (y.set i.toNat (rd y j))) := ⟨by rw [hw]; exact HP.1⟩; have n1_ := Aside0.mk (SS.out.other (by rw [hw]; exact HP.2 : w9.grownBy w11 (some go)) GO.out); clear HO SS HP hw hxi hfi; have HO := n0_; have SS := n1_; clear n0_ n1_))
            go_roundg k1
            case measure => have := HK.out; omega
            case rel => exact ⟨wrap64 (i + 1), wrap64 (j + 1), y.set i.toNat (rd y j), p2, (by first | rfl | simp), (by first | rfl | simp), H', ⟨by have := HK.out; omega⟩, ⟨by rw [List.length_set]; exact HL.out⟩, HO, SS⟩
        · rw [if_neg cj] at H
          have cjb : decide (j < (x.length : Int)) = false := decide_eq_false cj
          by_cases pi : 0 ≤ i
          case neg => rw [if_neg pi] at H; cases H
          rw [if_pos pi] at H
          by_cases ci : i < (x.length : Int)
          case neg => rw [if_neg ci] at H; cases H
          rw [if_pos ci] at H
          obtain ⟨rfl, rfl⟩ : y.take i.toNat = q1 ∧ m3 = q2 := by simpa using H
          clear H
          have pi' := eq_true pi
          have ci' := eq_true ci
          have pie : i ≤ (x.length : Int) := by omega
          have hcl : ∀ ty, (Builtin.clear_ #[22] ty #[.slice (some ⟨go, i.toNat, none⟩) (x.length - i.toNat) (cX - i.toNat)]).run Tryd.prog wr = .ok (.tuple #[]) (wr.setCells go i.toNat (List.replicate (x.length - i.toNat) (.int .i64 0))) := fun ty => Lib.run_clear_slice wr _ _ ty _ Tryd.underlying22 zero2 rfl rfl go i.toNat _ _ (by omega)
            (fun t ht => by
              have := (Kd.R_celln 0 HO.out ((i.toNat + t : Nat) : Int) (by omega) (by omega)).1
              rw [Int.toNat_natCast] at this
              rw [this]; rfl)
            (fun t ht => by
              have := (Kd.R_celln 0 HO.out ((i.toNat + t : Nat) : Int) (by omega) (by omega)).2
              rw [Int.toNat_natCast] at this
              exact this)
          obtain ⟨y', hz1, hz2, hz3, hz4⟩ := zeros_row (x.length - i.toNat) i.toNat i.toNat wr y HO.out (Nat.le_refl _)
          have hcc : x.length ≤ cX := (Kd.R_reads' HO.out).2.1
          have hicc : i ≤ (cX : Int) := by omega
          go_wp2
          go_ret
          have hfin := Kd.R_take hz1 (m := i.toNat) (by rw [hz3, HL.out]; omega)
          rw [hz2] at hfin
          exact ⟨_, rfl, hfin, (SS.out.other hz4 GO.out).hb⟩
end Go.Proofs.YtcfdlbjngpmcaaaDoor.PAll
end

section
/- HexMoves: its walk. -/
namespace Go.Proofs.YtcfdlbjngpmcaaaDoor.PAll
open Go.RowKit Go.Maps Go.Proofs.YtcfdlbjngpmcaaaDoorW.PrintWords Go.Proofs.YtcfdlbjngpmcaaaDoorW.PrintLast Go.Proofs.YtcfdlbjngpmcaaaDoorW.PrintMore
set_option linter.unusedVariables false
set_option linter.unusedSimpArgs false

set_option maxHeartbeats 8000000 in
set_option maxRecDepth 100000 in
theorem impl_HexMoves.calls (k : Nat) (a0_0 : Int) (A0_1 : Option Addr) (c0_1 : Nat) (l0_1 : List Int) (r1 : List Int) (r2 : Int) (w : World) (hr0_1 : Kd.C (Kd.int .i64) w A0_1 l0_1.length l0_1) (hc0_1 : l0_1.length ≤ c0_1) (h : impl_HexMoves.f k a0_0 l0_1 = some (r1, r2)) :
    Calls Tryd.prog 11 #[.agg #[.int .i64 a0_0, .slice A0_1 l0_1.length c0_1]] w fun e w' => ∃ v0_ : Value, e = .returned (.tuple #[v0_, .int .i64 r2]) ∧ Kd.R (Kd.int .i64) 2 w' w.heap.size (fun _ => True) v0_ r1 ∧ Below w.heap.size w w' := by
  have hu28 := Tryd.underlying28
  have hmf : ∀ (fn : Fn) (first cap : Array Value) (w : World), (Instr.makeFunc fn first cap).run Tryd.prog w = .ok (.func fn first cap) w := fun _ _ _ _ => rfl
  unfold impl_HexMoves.f at h
  obtain ⟨code, Hcode, H⟩ := Option.bind_eq_some_iff.mp h
  clear h
  have HR := Aside0.mk hr0_1
  have HC := Aside0.mk hc0_1
  have HB := Aside0.mk (Below.refl w.heap.size w)
  clear hr0_1 hc0_1
  by_cases c0 : code = 0
  · rw [if_pos c0] at H
    have c0b : (code == 0) = true := beq_iff_eq.mpr c0
    have c0n : (code != 0) = false := by rw [c0]; rfl
    obtain ⟨⟨mv, ok⟩, Hmv, H⟩ := Option.bind_eq_some_iff.mp H
    obtain ⟨x, Hx, H⟩ := Option.bind_eq_some_iff.mp H
    obtain ⟨⟨p, m1⟩, Hix, H⟩ := Option.bind_eq_some_iff.mp H
    simp only at Hix H
    obtain ⟨hd, rfl⟩ : (if p = -1 then some x else (impl_HexMoves.dl k a0_0 l0_1 mv x p (wrap64 (p + 1)) m1).bind fun q => some q.1) = some r1 ∧ 0 = r2 := by
      by_cases e : p = -1
      · rw [if_pos e] at H ⊢
        cases H
        exact ⟨rfl, rfl⟩
      · rw [if_neg e] at H ⊢
        obtain ⟨q, Hq, H⟩ := Option.bind_eq_some_iff.mp H
        cases H
        rw [Hq]
        exact ⟨rfl, rfl⟩
    clear H
    go_enter Tryd.func11, Tryd.ntmps11
    go_wp2_with (first
      | ((with_reducible refine gate_dst (N := 1) rfl ?_); refine box_event ?hg (N := 1) ?hd (cs := #[.int .i64 a0_0, .slice A0_1 l0_1.length c0_1]) (t := 28) ?hr ?_; (case hd => rfl); (case hg => rfl); (case hr => first | (go_simp; done) | (go_simp; rfl)); intro gx hg w2 hbox hb; have n0_ := Aside0.mk (below_step HB.out hb); have BX := Aside0.mk hbox; clear HB; have HB := n0_; clear n0_ hb hbox hg; have z0 : w2.cell? ⟨gx, 0, none⟩ = some (.int .i64 a0_0) := (blk_cell BX.out 0).trans rfl; have z3 : w2.cell? ⟨gx, 1, none⟩ = some (.slice A0_1 l0_1.length c0_1) := (blk_cell BX.out 1).trans rfl)
      | (go_at_call 21; (with_reducible refine (impl_hexCode.calls k a0_0 _ _ l0_1 code _ ?side1 ?side2 Hcode).mono ?_); (case side1 => exact Kd.C_below HR.out HB.out); (case side2 => exact HC.out); rintro e w3 ⟨rfl, hb⟩; clear z0 z3; have n0_ := Aside0.mk (below_step HB.out hb); have n1_ := Aside0.mk (blk_below (g := gx) (o := .cells #[.int .i64 a0_0, .slice A0_1 l0_1.length c0_1] 28 (0, 0)) BX.out hb); clear HB BX hb; have HB := n0_; have BX := n1_; clear n0_ n1_; have z0 : w3.cell? ⟨gx, 0, none⟩ = some (.int .i64 a0_0) := (blk_cell BX.out 0).trans rfl; have z3 : w3.cell? ⟨gx, 1, none⟩ = some (.slice A0_1 l0_1.length c0_1) := (blk_cell BX.out 1).trans rfl)
      | (go_at_call 22; refine (hexWins.calls _).mono ?_; rintro e w4 ⟨gm, g1, g2, rfl, hM, hb1, hb2, hb, hge⟩; unfold findV; clear z0 z3; have GE := Aside0.mk (Nat.le_trans HB.out.size hge : w.heap.size ≤ gm); have n0_ := Aside0.mk (below_step HB.out hb); have n1_ := Aside0.mk (blk_below (g := gx) (o := .cells #[.int .i64 a0_0, .slice A0_1 l0_1.length c0_1] 28 (0, 0)) BX.out hb); have SS := Aside0.mk (FS.mk hM hb1 hb2 (grownBy_refl w4 _)); clear HB BX hb hM hb1 hb2 hge; have HB := n0_; have BX := n1_; clear n0_ n1_)
      | ((with_reducible refine gate_dst (N := 5) rfl ?_); refine box_event ?hg (N := 5) ?hd (cs := #[.nilFunc]) (t := 41) ?hr ?_; (case hd => rfl); (case hg => rfl); (case hr => first | (go_simp; done) | (go_simp; rfl)); intro g5 hg w5 hbox hb; have n0_ := Aside0.mk (below_step HB.out hb); have n1_ := Aside0.mk (blk_below (g := gx) (o := .cells #[.int .i64 a0_0, .slice A0_1 l0_1.length c0_1] 28 (0, 0)) BX.out hb); have n2_ := Aside0.mk (FS.below SS.out hb); have B5 := Aside0.mk hbox; have G5 := Aside0.mk (by rw [hg]; exact ⟨SS.out.M.lt, blk_lt SS.out.b1, blk_lt SS.out.b2, blk_lt BX.out, HB.out.size⟩ : gm < g5 ∧ g1 < g5 ∧ g2 < g5 ∧ gx < g5 ∧ w.heap.size ≤ g5); clear HB BX SS hb hbox hg; have HB := n0_; have BX := n1_; have SS := n2_; clear n0_ n1_ n2_; have zx : w5.cell? ⟨g5, 0, none⟩ = some .nilFunc := (blk_cell B5.out 0).trans rfl; have zf : w5.frozen? ⟨g5, 0, none⟩ = false := blk_frozen B5.out 0)
      | ((with_reducible refine gate_store (t := 41) (p := 5) rfl ?_); refine store_event (t := 41) (p := 5) (v := ?vo5_) (w1 := (w5.setCell ⟨g5, 0, none⟩ (.func (.func 33) #[] #[.pointer (some ⟨g1, 0, none⟩), .pointer (some ⟨g2, 0, none⟩)]))) ?hg ?ho ?hn ?hr ?_; (case ho => rfl); (case hg => rfl); (case hn => rfl); (case hr => first | (go_simp; done) | (go_simp; rfl)); intro w6 hw; have hg : w5.grownBy w6 (some g5) := (by rw [hw]; exact grownBy_set _ _ _ _); have n0_ := Aside0.mk (HB.out.grown hg HB.out.size (fun j hj => by cases hj; exact G5.out.2.2.2.2)); have n1_ := Aside0.mk (blk_grown BX.out hg (fun e => by cases e; have := G5.out; omega)); have n2_ := Aside0.mk (by rw [hw]; exact SS.out.M.set (fun e => by cases e; have := G5.out; omega) : MapS w6 gm []); have n3_ := Aside0.mk (blk_grown SS.out.b1 hg (fun e => by cases e; have := G5.out; omega)); have n4_ := Aside0.mk (blk_grown SS.out.b2 hg (fun e => by cases e; have := G5.out; omega)); have n5_ := Aside0.mk (by rw [hw]; exact blk_put B5.out 0 _ rfl : w6.heap[g5]? = some (.cells #[findV g1 g2] 41 (0, 0))); clear HB BX SS B5 hw hg zx zf; have HB := n0_; have BX := n1_; have SS := Aside0.mk (FS.mk n2_.out n3_.out n4_.out (grownBy_refl w6 _)); have B5 := n5_; clear n0_ n1_ n2_ n3_ n4_ n5_; have z0 : w6.cell? ⟨gx, 0, none⟩ = some (.int .i64 a0_0) := (blk_cell BX.out 0).trans rfl; have z3 : w6.cell? ⟨gx, 1, none⟩ = some (.slice A0_1 l0_1.length c0_1) := (blk_cell BX.out 1).trans rfl)
      | (go_at_call 24; (with_reducible refine (impl_Hex_mover.calls k a0_0 _ _ l0_1 mv ok _ ?side1 ?side2 Hmv).mono ?_); (case side1 => exact Kd.C_below HR.out HB.out); (case side2 => exact HC.out); rintro e w7 ⟨rfl, hb⟩; clear z0 z3; have n0_ := Aside0.mk (below_step HB.out hb); have n1_ := Aside0.mk (blk_below (g := gx) (o := .cells #[.int .i64 a0_0, .slice A0_1 l0_1.length c0_1] 28 (0, 0)) BX.out hb); have n2_ := Aside0.mk (FS.below SS.out hb); have n3_ := Aside0.mk (blk_below (g := g5) (o := .cells #[findV g1 g2] 41 (0, 0)) B5.out hb); clear HB BX SS B5 hb; have HB := n0_; have BX := n1_; have SS := n2_; have B5 := n3_; clear n0_ n1_ n2_ n3_)
      | ((with_reducible refine gate_dst (N := 6) rfl ?_); refine box_event ?hg (N := 6) ?hd (cs := #[.int .i64 0]) (t := 2) ?hr ?_; (case hd => rfl); (case hg => rfl); (case hr => first | (go_simp; done) | (go_simp; rfl)); intro g6 hg w8 hbox hb; have n0_ := Aside0.mk (below_step HB.out hb); have n1_ := Aside0.mk (blk_below (g := gx) (o := .cells #[.int .i64 a0_0, .slice A0_1 l0_1.length c0_1] 28 (0, 0)) BX.out hb); have n2_ := Aside0.mk (FS.below SS.out hb); have n3_ := Aside0.mk (blk_below (g := g5) (o := .cells #[findV g1 g2] 41 (0, 0)) B5.out hb); have B6 := Aside0.mk hbox; have G6 := Aside0.mk (by rw [hg]; exact ⟨SS.out.M.lt, blk_lt SS.out.b1, blk_lt SS.out.b2, blk_lt BX.out, HB.out.size, blk_lt B5.out⟩ : gm < g6 ∧ g1 < g6 ∧ g2 < g6 ∧ gx < g6 ∧ w.heap.size ≤ g6 ∧ g5 < g6); clear HB BX SS B5 hb hbox hg; have HB := n0_; have BX := n1_; have SS := n2_; have B5 := n3_; clear n0_ n1_ n2_ n3_; have zx : w8.cell? ⟨g6, 0, none⟩ = some (.int .i64 0) := (blk_cell B6.out 0).trans rfl; have zf : w8.frozen? ⟨g6, 0, none⟩ = false := blk_frozen B6.out 0)
      | ((with_reducible refine gate_store (t := 2) (p := 6) rfl ?_); refine store_event (t := 2) (p := 6) (v := ?vo6_) (w1 := (w8.setCell ⟨g6, 0, none⟩ (.int .i64 mv))) ?hg ?ho ?hn ?hr ?_; (case ho => rfl); (case hg => rfl); (case hn => rfl); (case hr => first | (go_simp; done) | (go_simp; rfl)); intro w9 hw; have hg : w8.grownBy w9 (some g6) := (by rw [hw]; exact grownBy_set _ _ _ _); have n0_ := Aside0.mk (HB.out.grown hg HB.out.size (fun j hj => by cases hj; exact G6.out.2.2.2.2.1)); have n1_ := Aside0.mk (blk_grown BX.out hg (fun e => by cases e; have := G6.out; omega)); have n2_ := Aside0.mk (by rw [hw]; exact SS.out.M.set (fun e => by cases e; have := G6.out; omega) : MapS w9 gm []); have n3_ := Aside0.mk (blk_grown SS.out.b1 hg (fun e => by cases e; have := G6.out; omega)); have n4_ := Aside0.mk (blk_grown SS.out.b2 hg (fun e => by cases e; have := G6.out; omega)); have n5_ := Aside0.mk (blk_grown B5.out hg (fun e => by cases e; have := G6.out; omega)); have n6_ := Aside0.mk (by rw [hw]; exact blk_put B6.out 0 _ rfl : w9.heap[g6]? = some (.cells #[.int .i64 mv] 2 (0, 0))); clear HB BX SS B5 B6 hw hg zx zf; have HB := n0_; have BX := n1_; have SS := Aside0.mk (FS.mk n2_.out n3_.out n4_.out (grownBy_refl w9 _)); have B5 := n5_; have B6 := n6_; clear n0_ n1_ n2_ n3_ n4_ n5_ n6_; have z0 : w9.cell? ⟨gx, 0, none⟩ = some (.int .i64 a0_0) := (blk_cell BX.out 0).trans rfl; have z3 : w9.cell? ⟨gx, 1, none⟩ = some (.slice A0_1 l0_1.length c0_1) := (blk_cell BX.out 1).trans rfl)
      | (go_at_call 26; (with_reducible refine (impl_Hex_cells.calls k a0_0 _ _ l0_1 0 x _ ?side1 ?side2 Hx).mono ?_); (case side1 => exact Kd.C_below HR.out HB.out); (case side2 => exact HC.out); rintro e w10 ⟨vX, rfl, ho, hb⟩; obtain ⟨AX, cX, eX⟩ := Kd.R_slice ho; subst eX; clear z0 z3; have HO := Aside0.mk ho; have PP := Aside0.mk (PS.mk (nb := w9.heap.size) (SS.out.M.below hb) (blk_below SS.out.b1 hb) (blk_below SS.out.b2 hb) (blk_below B5.out hb) (blk_below BX.out hb) (blk_below B6.out hb) (below_step HB.out hb) GE.out ⟨⟨SS.out.M.lt, blk_lt SS.out.b1, blk_lt SS.out.b2⟩, blk_lt B5.out, blk_lt BX.out, blk_lt B6.out⟩ HR.out); have GN := Aside0.mk (HB.out.size : w.heap.size ≤ w9.heap.size); clear HB BX SS B5 B6 ho hb)
      | (go_at_call 25; (with_reducible refine (del.calls k a0_0 A0_1 c0_1 l0_1 mv w9.heap.size gm g1 g2 g5 gx g6 [] m1 x AX cX p r1 w _ HC.out HO.out PP.out Hix hd).mono ?_); rintro e w11 ⟨v, rfl, hR, hb⟩; have HD := Aside0.mk (Kd.R_lower hR GN.out); have HB := Aside0.mk hb; clear hR hb PP HO))
    go_ret2
    exact ⟨_, by first | rfl | (simp; done) | (simp [*]; done), HD.out, HB.out⟩
  · rw [if_neg c0] at H
    have c0b : (code == 0) = false := beq_eq_false_iff_ne.mpr c0
    have c0n : (code != 0) = true := bne_iff_ne.mpr c0
    obtain ⟨rfl, rfl⟩ : [] = r1 ∧ code = r2 := by simpa using H
    clear H
    go_enter Tryd.func11, Tryd.ntmps11
    go_wp2_with (first
      | ((with_reducible refine gate_dst (N := 1) rfl ?_); refine box_event ?hg (N := 1) ?hd (cs := #[.int .i64 a0_0, .slice A0_1 l0_1.length c0_1]) (t := 28) ?hr ?_; (case hd => rfl); (case hg => rfl); (case hr => first | (go_simp; done) | (go_simp; rfl)); intro gx hg w2 hbox hb; have n0_ := Aside0.mk (below_step HB.out hb); have BX := Aside0.mk hbox; clear HB; have HB := n0_; clear n0_ hb hbox hg; have z0 : w2.cell? ⟨gx, 0, none⟩ = some (.int .i64 a0_0) := (blk_cell BX.out 0).trans rfl; have z3 : w2.cell? ⟨gx, 1, none⟩ = some (.slice A0_1 l0_1.length c0_1) := (blk_cell BX.out 1).trans rfl)
      | (go_at_call 21; (with_reducible refine (impl_hexCode.calls k a0_0 _ _ l0_1 code _ ?side1 ?side2 Hcode).mono ?_); (case side1 => exact Kd.C_below HR.out HB.out); (case side2 => exact HC.out); rintro e w3 ⟨rfl, hb⟩; clear z0 z3; have n0_ := Aside0.mk (below_step HB.out hb); have n1_ := Aside0.mk (blk_below (g := gx) (o := .cells #[.int .i64 a0_0, .slice A0_1 l0_1.length c0_1] 28 (0, 0)) BX.out hb); clear HB BX hb; have HB := n0_; have BX := n1_; clear n0_ n1_; have z0 : w3.cell? ⟨gx, 0, none⟩ = some (.int .i64 a0_0) := (blk_cell BX.out 0).trans rfl; have z3 : w3.cell? ⟨gx, 1, none⟩ = some (.slice A0_1 l0_1.length c0_1) := (blk_cell BX.out 1).trans rfl))
    go_ret2
    exact ⟨_, by first | rfl | (simp; done) | (simp [*]; done), Kd.R_nil _ _ _ _ _, HB.out⟩
end Go.Proofs.YtcfdlbjngpmcaaaDoor.PAll
end
