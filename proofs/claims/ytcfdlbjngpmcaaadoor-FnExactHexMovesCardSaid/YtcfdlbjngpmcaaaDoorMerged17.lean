/- Texts of this claim that follow each other, laid together. -/
import Derived.Test.YtcfdlbjngpmcaaaDoorPAllx12
import Derived.Test.YtcfdlbjngpmcaaaDoorPAllx13
import Derived.Test.YtcfdlbjngpmcaaaDoorPAllx5
import Derived.Test.YtcfdlbjngpmcaaaDoorPAllx6
import Derived.Test.YtcfdlbjngpmcaaaDoorMerged7
import Derived.Test.YtcfdlbjngpmcaaaDoorGNeedX
import Derived.Laws.EntriesVeiled

section
/- The search behind HexWinner and HexMoves: what it reckons: winners of positions, kept in a map by their texts. -/
namespace Go.Proofs.YtcfdlbjngpmcaaaDoor.PAll
open Go.RowKit Go.Proofs.YtcfdlbjngpmcaaaDoorW.PrintWords Go.Proofs.YtcfdlbjngpmcaaaDoorW.PrintLast
set_option linter.unusedVariables false

/-- A map as the list of what was put, the last first. -/
abbrev SMap := List (List UInt8 × Int)
def sget : SMap → List UInt8 → Option Int
  | [], _ => none
  | p :: m, c => if p.1 = c then some p.2 else sget m c
def impl_find.fin (key : ByteArray) (out : Int) (m : SMap) : Option (Int × SMap) := if m.length < 1048576 ∧ (Lit.int .i64 out).wf = true then some (out, (key.data.toList, out) :: m) else none
mutual
def impl_find.f : Nat → Int → List Int → SMap → Option (Int × SMap)
  | 0, _, _, _ => none
  | k + 1, s, l, m => (impl_joined.f k l ⟨#[]⟩).bind fun key => (if key.size ≤ 1048576 then
      (match sget m key.data.toList with
      | some v => some (v, m)
      | none => (impl_Hex_mover.f k s l).bind fun mv => (impl_Hex_cells.f k s l 0).bind fun list => (if (list.length : Int) = 0 then (impl_Hex_joiner.f k s l).bind fun j => impl_find.l0 k s l mv.1 key list m j 0 else impl_find.l0 k s l mv.1 key list m (wrap64 (3 - mv.1)) 0))
      else none)
def impl_find.l0 : Nat → Int → List Int → Int → ByteArray → List Int → SMap → Int → Int → Option (Int × SMap)
  | 0, _, _, _, _, _, _, _, _ => none
  | k + 1, s, l, mv, key, list, m, out, i => if i < (list.length : Int) then (if 0 ≤ i then (impl_Hex_with.f s l (rd list i) mv).bind fun b => (impl_find.f k b.1 b.2 m).bind fun q => (if q.1 = mv then impl_find.fin key mv q.2 else impl_find.l0 k s l mv key list q.2 out (wrap64 (i + 1))) else none) else impl_find.fin key out m
end
end Go.Proofs.YtcfdlbjngpmcaaaDoor.PAll
end

section
/- The search behind HexWinner and HexMoves: what stands between its operations: the map, the variables that the closure has captured. -/
namespace Go.Proofs.YtcfdlbjngpmcaaaDoor.PAll
open Go.RowKit Go.Maps Go.Proofs.YtcfdlbjngpmcaaaDoorW.PrintWords Go.Proofs.YtcfdlbjngpmcaaaDoorW.PrintLast Go.Proofs.YtcfdlbjngpmcaaaDoorW.PrintMore
set_option linter.unusedVariables false

theorem law9 : Keyed Tryd.prog 9 := string_keyed Tryd.underlying9
abbrev sk (c : List UInt8) : Lit := .string c
theorem keyOf_str {s : ByteArray} (h : s.size ≤ 1048576) : keyOf Tryd.prog 9 (.string s) = some (sk s.data.toList) := by
  have h1 : s.size ≤ maxLen := by simp only [maxLen]; omega
  simp [keyOf, Tryd.underlying9, mapKey, h1]
/-- The map of the world holds what the list says. -/
def HoldsS (m : SMap) (D : DataW Unit) : Prop := ∀ c : List UInt8, Maps.has D (sk c) = (sget m c).isSome ∧ ∀ v, sget m c = some v → ∀ zd, D.atKey (sk c) zd = .lit (.int .i64 v)
theorem holdsS_nil : HoldsS [] (.map []) := fun c => ⟨rfl, fun v h => by cases h⟩
theorem isKeyS (c : List UInt8) : WideAt.IsKeyLit (sk c) := trivial
theorem holdsS_put {m : SMap} {D : DataW Unit} (h : HoldsS m D) (hD : Maps.IsMap D) (c : List UInt8) (v : Int) : HoldsS ((c, v) :: m) (D.put (sk c) (.lit (.int .i64 v))) := by
  intro d
  by_cases e : c = d
  · subst e
    simp only [sget, if_true]
    exact ⟨by rw [Maps.has_put_same hD (isKeyS c)]; rfl, fun v' hv zd => by cases hv; rw [Maps.atKey_put_same hD (isKeyS c)]⟩
  · have hne : sk d ≠ sk c := fun z => e (by injection z with z2; exact z2.symm)
    simp only [sget, if_neg e]
    refine ⟨by rw [Maps.has_put_other hne]; exact (h d).1, fun v' hv zd => ?_⟩
    rw [Maps.atKey_put_other hne]; exact (h d).2 v' hv zd
def MapS (w : World) (b : Nat) (m : SMap) : Prop := ∃ D : DataW Unit, w.ownsMap Tryd.prog 9 (plainElem Tryd.prog 2) b m.length D ∧ HoldsS m D
theorem MapS.made (w : World) : MapS (w.alloc (.map #[] 0)) w.heap.size [] := ⟨.map [], World.ownsMap_made _ _ _ _, holdsS_nil⟩
theorem MapS.drewN {w : World} {b : Nat} {m : SMap} (h : MapS w b m) (n : Nat) : MapS (w.drewN n) b m := h
theorem MapS.drew {w : World} {b : Nat} {m : SMap} (h : MapS w b m) : MapS w.drew b m := h
theorem MapS.lt {w : World} {b : Nat} {m : SMap} (h : MapS w b m) : b < w.heap.size := by
  obtain ⟨D, hown, _⟩ := h
  exact hown.lt
theorem MapS.below {w w' : World} {b : Nat} {m : SMap} (h : MapS w b m) (hb : Below w.heap.size w w') : MapS w' b m := by
  obtain ⟨D, ⟨es, clock, hh, F, hs, hD⟩, hH⟩ := h
  exact ⟨D, ⟨es, clock, (hb.block b (Array.getElem?_eq_some_iff.1 hh).1).trans hh, F, hs, hD⟩, hH⟩
theorem MapS.ne {w : World} {b g : Nat} {m : SMap} {cs : Array Value} {t : TypeId} {fr : Nat × Nat} (h : MapS w b m) (hg : w.heap[g]? = some (.cells cs t fr)) : some g ≠ some b := by
  obtain ⟨D, ⟨es, clock, hh, _⟩, _⟩ := h
  intro e
  cases e
  rw [hg] at hh
  cases hh
theorem grownBy_refl (w : World) (row : Option Nat) : w.grownBy w row := ⟨rfl, rfl, rfl, Nat.le_refl _, fun _ _ _ => rfl⟩
theorem grownBy_below {w w' : World} (h : Below w.heap.size w w') (row : Option Nat) : w.grownBy w' row := ⟨h.os, h.tape, h.output, h.size, fun i hi _ => h.block i hi⟩
theorem grownBy_drewN {w w' : World} {row : Option Nat} (h : w.grownBy w' row) (n : Nat) : w.grownBy (w'.drewN n) row := ⟨h.os, h.tape, h.output, h.size, h.block⟩
/-- The closure and the variable that holds the map. -/
def findV (g1 g2 : Nat) : Value := .func (.func 33) #[] #[.pointer (some ⟨g1, 0, none⟩), .pointer (some ⟨g2, 0, none⟩)]
structure FS (w W : World) (gm g1 g2 : Nat) (m : SMap) : Prop where
  M : MapS W gm m
  b1 : W.heap[g1]? = some (.cells #[.map (some gm)] 51 (0, 0))
  b2 : W.heap[g2]? = some (.cells #[findV g1 g2] 41 (0, 0))
  gr : w.grownBy W (some gm)
theorem FS.drewN {w W : World} {gm g1 g2 : Nat} {m : SMap} (h : FS w W gm g1 g2 m) (n : Nat) : FS w (W.drewN n) gm g1 g2 m := ⟨h.M.drewN n, blk_drewN h.b1 n, blk_drewN h.b2 n, grownBy_drewN h.gr n⟩
theorem FS.drew {w W : World} {gm g1 g2 : Nat} {m : SMap} (h : FS w W gm g1 g2 m) : FS w W.drew gm g1 g2 m := h.drewN 1
theorem FS.below {w W W1 : World} {gm g1 g2 : Nat} {m : SMap} (h : FS w W gm g1 g2 m) (k : Below W.heap.size W W1) : FS w W1 gm g1 g2 m := ⟨h.M.below k, blk_below h.b1 k, blk_below h.b2 k, h.gr.trans (grownBy_below k _)⟩
theorem FS.grown {w W W1 : World} {gm g1 g2 : Nat} {m m1 : SMap} (h : FS w W gm g1 g2 m) (hM : MapS W1 gm m1) (k : W.grownBy W1 (some gm)) : FS w W1 gm g1 g2 m1 := ⟨hM, blk_grown h.b1 k (h.M.ne h.b1), blk_grown h.b2 k (h.M.ne h.b2), h.gr.trans k⟩
theorem FS.z1 {w W : World} {gm g1 g2 : Nat} {m : SMap} (h : FS w W gm g1 g2 m) : W.cell? ⟨g1, 0, none⟩ = some (.map (some gm)) := (blk_cell h.b1 0).trans rfl
theorem FS.z2 {w W : World} {gm g1 g2 : Nat} {m : SMap} (h : FS w W gm g1 g2 m) : W.cell? ⟨g2, 0, none⟩ = some (findV g1 g2) := (blk_cell h.b2 0).trans rfl
end Go.Proofs.YtcfdlbjngpmcaaaDoor.PAll
end

section
/- The search behind HexWinner and HexMoves: its walk. -/
namespace Go.Proofs.YtcfdlbjngpmcaaaDoor.PAll
open Go.RowKit Go.Maps Go.Proofs.YtcfdlbjngpmcaaaDoorW.PrintWords Go.Proofs.YtcfdlbjngpmcaaaDoorW.PrintLast Go.Proofs.YtcfdlbjngpmcaaaDoorW.PrintMore
set_option linter.unusedVariables false
set_option linter.unusedSimpArgs false

def impl_find.T12 : Bool × List (List Nat × List Nat) := (true, [([], []), ([], []), ([], []), ([], []), ([1, 2, 3], [1, 2, 3]), ([0, 4, 4], [0, 4]), ([], []), ([5, 6], [5, 6])])
def impl_find.B12 : List Nat := [0, 0, 0, 0, 14, 31, 0, 127]
theorem impl_find.tab12 : rtab .any (opsOf Tryd.f33 12) = impl_find.T12 := by kernel_rfl
theorem impl_find.bits12 : waitsOk impl_find.T12.2 impl_find.B12 = true := by kernel_rfl
theorem fin_some {key : ByteArray} {out : Int} {m m' : SMap} {r : Int} (h : impl_find.fin key out m = some (r, m')) : m.length < 1048576 ∧ (Lit.int .i64 out).wf = true ∧ r = out ∧ m' = (key.data.toList, out) :: m := by
  unfold impl_find.fin at h
  split at h
  · rename_i hh
    cases h
    exact ⟨hh.1, hh.2, rfl, rfl⟩
  · cases h
/-- What stands between the operations of the search's loop. -/
structure FL (w W : World) (gm g1 g2 g3 : Nat) (s : Int) (A : Option Addr) (c : Nat) (l : List Int) (m : SMap) (AL : Option Addr) (cL : Nat) (list : List Int) : Prop where
  F : FS w W gm g1 g2 m
  b3 : W.heap[g3]? = some (.cells #[.int .i64 s, .slice A l.length c] 28 (0, 0))
  R : Kd.R (Kd.int .i64) 2 W (gm + 1) (fun _ => True) (.slice AL list.length cL) list
theorem FL.drewN {w W : World} {gm g1 g2 g3 : Nat} {s : Int} {A : Option Addr} {c : Nat} {l : List Int} {m : SMap} {AL : Option Addr} {cL : Nat} {list : List Int} (h : FL w W gm g1 g2 g3 s A c l m AL cL list) (n : Nat) : FL w (W.drewN n) gm g1 g2 g3 s A c l m AL cL list := ⟨h.F.drewN n, blk_drewN h.b3 n, Kd.R_drewN h.R n⟩
theorem FL.drew {w W : World} {gm g1 g2 g3 : Nat} {s : Int} {A : Option Addr} {c : Nat} {l : List Int} {m : SMap} {AL : Option Addr} {cL : Nat} {list : List Int} (h : FL w W gm g1 g2 g3 s A c l m AL cL list) : FL w W.drew gm g1 g2 g3 s A c l m AL cL list := h.drewN 1
theorem FL.grown {w W W1 : World} {gm g1 g2 g3 : Nat} {s : Int} {A : Option Addr} {c : Nat} {l : List Int} {m m1 : SMap} {AL : Option Addr} {cL : Nat} {list : List Int} (h : FL w W gm g1 g2 g3 s A c l m AL cL list) (hM : MapS W1 gm m1) (k : W.grownBy W1 (some gm)) : FL w W1 gm g1 g2 g3 s A c l m1 AL cL list :=
  ⟨h.F.grown hM k, blk_grown h.b3 k (h.F.M.ne h.b3), Kd.R_grown2 h.R rfl k (fun j hj => by cases hj; intro z; have := Kd.R_base h.R gm z.symm; omega)⟩
theorem FL.below {w W W1 : World} {gm g1 g2 g3 : Nat} {s : Int} {A : Option Addr} {c : Nat} {l : List Int} {m : SMap} {AL : Option Addr} {cL : Nat} {list : List Int} (h : FL w W gm g1 g2 g3 s A c l m AL cL list) (k : Below W.heap.size W W1) : FL w W1 gm g1 g2 g3 s A c l m AL cL list := h.grown (h.F.M.below k) (grownBy_below k _)
theorem FL.zx {w W : World} {gm g1 g2 g3 : Nat} {s : Int} {A : Option Addr} {c : Nat} {l : List Int} {m : SMap} {AL : Option Addr} {cL : Nat} {list : List Int} (h : FL w W gm g1 g2 g3 s A c l m AL cL list) : W.cell? ⟨g3, 0, none⟩ = some (.int .i64 s) ∧ W.cell? ⟨g3, 1, none⟩ = some (.slice A l.length c) := ⟨(blk_cell h.b3 0).trans rfl, (blk_cell h.b3 1).trans rfl⟩

theorem goesV_ {P : Program} {ops : Array Oper} {Q : Exit → Act → World → Prop} {oi : Oper} {N : Option Tmp} {a : Act} {w : World} {K : Act → World → Prop} {f : FuncId} {fn : Func} {xs : Array Operand} {ts : Array TypeId} {op : Operand} {caps : Array Value} (hf : P.funcs[f]? = some fn) (hname : (fn.name == "runtime.NumGoroutine") = false) (hb : fn.body.isSome = true) (args : Array Value)
    (hw : Region.wanted oi (yielded ops a.tmps) = true) (hN : oi.dst = N) (hop : oi.op = .call { callee := .value op, args := xs, argTypes := ts }) (hv : a.eval op = .func (.func f) #[] caps) (hargs : xs.map a.eval ++ caps = args)
    (h : Calls P f args w fun e w' => ∃ v, e = .returned v ∧ K (a.put N v) w') : if Region.wanted oi (yielded ops a.tmps) = true then Oper.wp P oi a w K Q else K (a.put N undef) w := by
  refine call_ f args hw hN ?_ h
  have he := enters_ hf hname hb args w
  unfold execOp
  simp [hop, hv, resolve, Deferred.ofValue, invoke, hargs, he]

set_option maxHeartbeats 8000000 in
set_option maxRecDepth 100000 in
theorem impl_find.calls (k : Nat) : ∀ (s : Int) (A : Option Addr) (c : Nat) (l : List Int) (gm g1 g2 : Nat) (m m' : SMap) (r : Int) (w : World) (hr : ∀ W, w.grownBy W (some gm) → Kd.C (Kd.int .i64) W A l.length l) (hc : l.length ≤ c) (hF : FS w w gm g1 g2 m) (h : impl_find.f k s l m = some (r, m')),
    Calls Tryd.prog 33 #[.agg #[.int .i64 s, .slice A l.length c], .pointer (some ⟨g1, 0, none⟩), .pointer (some ⟨g2, 0, none⟩)] w fun e w' => e = .returned (.int .i64 r) ∧ MapS w' gm m' ∧ w.grownBy w' (some gm) := by
  induction k using Nat.strongRecOn with
  | _ k ih =>
  intro s A c l gm g1 g2 m m' r w hr hc hF h
  cases k with
  | zero => exact absurd h (by simp [impl_find.f])
  | succ k =>
  have hu28 := Tryd.underlying28
  rw [impl_find.f] at h
  obtain ⟨key, Hkey, H⟩ := Option.bind_eq_some_iff.mp h
  clear h
  split at H <;> rename_i hks
  case isFalse => cases H
  have HRW := Aside0.mk hr
  have HC := Aside0.mk hc
  have SS := Aside0.mk hF
  clear hr hc hF
  go_enter Tryd.func33, Tryd.ntmps33
  cases hgt : sget m key.data.toList with
  | some v =>
    rw [hgt] at H
    obtain ⟨rfl, rfl⟩ : v = r ∧ m = m' := by simpa using H
    clear H
    go_wp2_with (first
      | ((with_reducible refine gate_dst (N := 3) rfl ?_); refine box_event ?hg (N := 3) ?hd (cs := #[.int .i64 s, .slice A l.length c]) (t := 28) ?hr ?_; (case hd => rfl); (case hg => rfl); (case hr => first | (go_simp; done) | (go_simp; rfl)); intro g3 hg w2 hbox hb; have n0_ := Aside0.mk (SS.out.below hb); have B3 := Aside0.mk hbox; have G3 := Aside0.mk (by rw [hg]; exact SS.out.M.lt : gm < g3); clear SS; have SS := n0_; clear n0_ hb hbox hg; have z3 : w2.cell? ⟨g3, 1, none⟩ = some (.slice A l.length c) := (blk_cell B3.out 1).trans rfl)
      | (go_at_call 34; (with_reducible refine (impl_joined.calls k _ _ l ⟨#[]⟩ key _ ?side1 ?side2 Hkey).mono ?_); (case side1 => exact HRW.out _ SS.out.gr); (case side2 => exact HC.out); rintro e w4 ⟨rfl, hb⟩; have n0_ := Aside0.mk (SS.out.below hb); have n1_ := Aside0.mk (blk_below (g := g3) (o := .cells #[.int .i64 s, .slice A l.length c] 28 (0, 0)) B3.out hb); clear SS B3 z3; have SS := n0_; have B3 := n1_; clear n0_ n1_ hb; have z1 := SS.out.z1; obtain ⟨D, hown, hH⟩ := SS.out.M; have hhas := (hH key.data.toList).1; have hat1 := (hH key.data.toList).2; rw [hgt] at hhas; simp only [Option.isSome_some] at hhas)
      | (at_lookup; refine wpList_lookup_own_ok_int _ rfl _ _ 51 rfl 9 2 .i64 law9 Tryd.underlying51 Tryd.underlying2 (zero2 _) gm m.length D rfl hown _ _ rfl (keyOf_str hks) ?_; intro c1 hat hwc; rw [hhas]; obtain rfl : v = c1 := (by have := (hat1 v hgt (.lit (.int .i64 0))).symm.trans hat; injection this with this; injection this with _ this)))
    go_ret
    exact ⟨rfl, SS.out.M, SS.out.gr⟩
  | none =>
    rw [hgt] at H
    simp only at H
    obtain ⟨⟨mv, ok⟩, Hmv, H⟩ := Option.bind_eq_some_iff.mp H
    obtain ⟨list, Hlist, H⟩ := Option.bind_eq_some_iff.mp H
    simp only at H
    by_cases c0 : (list.length : Int) = 0
    · rw [if_pos c0] at H
      have c0b : ((list.length : Int) == 0) = true := beq_iff_eq.mpr c0
      obtain ⟨j, Hj, H⟩ := Option.bind_eq_some_iff.mp H
      have H' := Aside0.mk H
      clear H
      go_wp2_with (first
        | ((with_reducible refine gate_dst (N := 3) rfl ?_); refine box_event ?hg (N := 3) ?hd (cs := #[.int .i64 s, .slice A l.length c]) (t := 28) ?hr ?_; (case hd => rfl); (case hg => rfl); (case hr => first | (go_simp; done) | (go_simp; rfl)); intro g3 hg w2 hbox hb; have n0_ := Aside0.mk (SS.out.below hb); have B3 := Aside0.mk hbox; have G3 := Aside0.mk (by rw [hg]; exact SS.out.M.lt : gm < g3); clear SS; have SS := n0_; clear n0_ hb hbox hg; have z3 : w2.cell? ⟨g3, 1, none⟩ = some (.slice A l.length c) := (blk_cell B3.out 1).trans rfl)
        | (go_at_call 34; (with_reducible refine (impl_joined.calls k _ _ l ⟨#[]⟩ key _ ?side1 ?side2 Hkey).mono ?_); (case side1 => exact HRW.out _ SS.out.gr); (case side2 => exact HC.out); rintro e w4 ⟨rfl, hb⟩; have n0_ := Aside0.mk (SS.out.below hb); have n1_ := Aside0.mk (blk_below (g := g3) (o := .cells #[.int .i64 s, .slice A l.length c] 28 (0, 0)) B3.out hb); clear SS B3 z3; have SS := n0_; have B3 := n1_; clear n0_ n1_ hb; have z1 := SS.out.z1; obtain ⟨D, hown, hH⟩ := SS.out.M; have hhas := (hH key.data.toList).1; have hat1 := (hH key.data.toList).2; rw [hgt] at hhas; simp only [Option.isSome_none] at hhas; have z0 : w4.cell? ⟨g3, 0, none⟩ = some (.int .i64 s) := (blk_cell B3.out 0).trans rfl; have z3 : w4.cell? ⟨g3, 1, none⟩ = some (.slice A l.length c) := (blk_cell B3.out 1).trans rfl)
        | (at_lookup; refine wpList_lookup_own_ok_int _ rfl _ _ 51 rfl 9 2 .i64 law9 Tryd.underlying51 Tryd.underlying2 (zero2 _) gm m.length D rfl hown _ _ rfl (keyOf_str hks) ?_; intro c1 hat hwc; rw [hhas])
        | (go_at_call 24; (with_reducible refine (impl_Hex_mover.calls k s _ _ l mv ok _ ?side1 ?side2 Hmv).mono ?_); (case side1 => exact HRW.out _ SS.out.gr); (case side2 => exact HC.out); rintro e w5 ⟨rfl, hb⟩; clear hown hH hat1 z0 z1 z3; have n0_ := Aside0.mk (SS.out.below hb); have n1_ := Aside0.mk (blk_below (g := g3) (o := .cells #[.int .i64 s, .slice A l.length c] 28 (0, 0)) B3.out hb); clear SS B3; have SS := n0_; have B3 := n1_; clear n0_ n1_ hb; have z0 : w5.cell? ⟨g3, 0, none⟩ = some (.int .i64 s) := (blk_cell B3.out 0).trans rfl; have z3 : w5.cell? ⟨g3, 1, none⟩ = some (.slice A l.length c) := (blk_cell B3.out 1).trans rfl)
        | (go_at_call 26; (with_reducible refine (impl_Hex_cells.calls k s _ _ l 0 list _ ?side1 ?side2 Hlist).mono ?_); (case side1 => exact HRW.out _ SS.out.gr); (case side2 => exact HC.out); rintro e w6 ⟨vL, rfl, ho, hb⟩; obtain ⟨AL, cL, eL⟩ := Kd.R_slice ho; subst eL; have HO := Aside0.mk (Kd.R_lower ho (SS.out.M.lt : gm + 1 ≤ _)); clear z0 z3 ho; have n0_ := Aside0.mk (SS.out.below hb); have n1_ := Aside0.mk (blk_below (g := g3) (o := .cells #[.int .i64 s, .slice A l.length c] 28 (0, 0)) B3.out hb); clear SS B3; have SS := n0_; have B3 := n1_; clear n0_ n1_ hb; have z0 : w6.cell? ⟨g3, 0, none⟩ = some (.int .i64 s) := (blk_cell B3.out 0).trans rfl; have z3 : w6.cell? ⟨g3, 1, none⟩ = some (.slice A l.length c) := (blk_cell B3.out 1).trans rfl)
        | (go_at_call 35; (with_reducible refine (impl_Hex_joiner.calls k s _ _ l j _ ?side1 ?side2 Hj).mono ?_); (case side1 => exact HRW.out _ SS.out.gr); (case side2 => exact HC.out); rintro e w7 ⟨rfl, hb⟩; clear z0 z3; have n2_ := Aside0.mk (Kd.R_below HO.out hb); clear HO; have HO := n2_; clear n2_; have n0_ := Aside0.mk (SS.out.below hb); have n1_ := Aside0.mk (blk_below (g := g3) (o := .cells #[.int .i64 s, .slice A l.length c] 28 (0, 0)) B3.out hb); clear SS B3; have SS := n0_; have B3 := n1_; clear n0_ n1_ hb))
      have L := Aside0.mk (FL.mk SS.out B3.out HO.out)
      clear SS B3 HO
      go_loopg [10, 41] k (fun kq v10 v41 w' => ∃ (out i : Int) (m1 : SMap), v10 = .int .i64 out ∧ v41 = .int .i64 i ∧ Aside0 (impl_find.l0 kq s l mv key list m1 out i = some (r, m')) ∧ Aside0 (kq ≤ k) ∧ Aside0 (FL w w' gm g1 g2 g3 s A c l m1 AL cL list))
      case atStart => exact ⟨j, 0, m, rfl, rfl, H', ⟨Nat.le_refl _⟩, L⟩
      case round =>
        clear H' L
        obtain ⟨out, i, m1, rfl, rfl, HA, HK, L⟩ := hrel
        cases gk with
        | zero => exact absurd HA.out (by simp [impl_find.l0])
        | succ k1 =>
          have H := HA.out
          clear HA
          rw [impl_find.l0] at H
          by_cases ci : i < (list.length : Int)
          · rw [if_pos ci] at H
            have cib : decide (i < (list.length : Int)) = true := decide_eq_true ci
            by_cases pi : 0 ≤ i
            case neg => rw [if_neg pi] at H; cases H
            rw [if_pos pi] at H
            exact absurd c0 (by omega)
          · rw [if_neg ci] at H
            have cib : decide (i < (list.length : Int)) = false := decide_eq_false ci
            obtain ⟨hlen, hwf, rfl, rfl⟩ := fin_some H
            clear H
            have z1 := L.out.F.z1
            obtain ⟨D, hown, hH⟩ := L.out.F.M
            go_wp2_with (first
              | (at_mapUpdate; refine wpList_mapUpdate_own _ rfl _ _ _ 51 rfl 9 2 law9 Tryd.underlying51 _ gm m1.length D rfl hown (by simp only [maxLen]; omega) _ _ _ rfl rfl (keyOf_str hks) _ [] (plainElem_int Tryd.underlying2 hwf) ?_; intro w11 hown1 hg1))
            go_ret
            exact ⟨rfl, ⟨_, hown1, holdsS_put hH hown.isMap _ _⟩, L.out.F.gr.trans hg1⟩
    · rw [if_neg c0] at H
      have c0b : ((list.length : Int) == 0) = false := beq_eq_false_iff_ne.mpr c0
      have H' := Aside0.mk H
      clear H
      go_wp2_with (first
        | ((with_reducible refine gate_dst (N := 3) rfl ?_); refine box_event ?hg (N := 3) ?hd (cs := #[.int .i64 s, .slice A l.length c]) (t := 28) ?hr ?_; (case hd => rfl); (case hg => rfl); (case hr => first | (go_simp; done) | (go_simp; rfl)); intro g3 hg w2 hbox hb; have n0_ := Aside0.mk (SS.out.below hb); have B3 := Aside0.mk hbox; have G3 := Aside0.mk (by rw [hg]; exact SS.out.M.lt : gm < g3); clear SS; have SS := n0_; clear n0_ hb hbox hg; have z3 : w2.cell? ⟨g3, 1, none⟩ = some (.slice A l.length c) := (blk_cell B3.out 1).trans rfl)
        | (go_at_call 34; (with_reducible refine (impl_joined.calls k _ _ l ⟨#[]⟩ key _ ?side1 ?side2 Hkey).mono ?_); (case side1 => exact HRW.out _ SS.out.gr); (case side2 => exact HC.out); rintro e w4 ⟨rfl, hb⟩; have n0_ := Aside0.mk (SS.out.below hb); have n1_ := Aside0.mk (blk_below (g := g3) (o := .cells #[.int .i64 s, .slice A l.length c] 28 (0, 0)) B3.out hb); clear SS B3 z3; have SS := n0_; have B3 := n1_; clear n0_ n1_ hb; have z1 := SS.out.z1; obtain ⟨D, hown, hH⟩ := SS.out.M; have hhas := (hH key.data.toList).1; have hat1 := (hH key.data.toList).2; rw [hgt] at hhas; simp only [Option.isSome_none] at hhas; have z0 : w4.cell? ⟨g3, 0, none⟩ = some (.int .i64 s) := (blk_cell B3.out 0).trans rfl; have z3 : w4.cell? ⟨g3, 1, none⟩ = some (.slice A l.length c) := (blk_cell B3.out 1).trans rfl)
        | (at_lookup; refine wpList_lookup_own_ok_int _ rfl _ _ 51 rfl 9 2 .i64 law9 Tryd.underlying51 Tryd.underlying2 (zero2 _) gm m.length D rfl hown _ _ rfl (keyOf_str hks) ?_; intro c1 hat hwc; rw [hhas])
        | (go_at_call 24; (with_reducible refine (impl_Hex_mover.calls k s _ _ l mv ok _ ?side1 ?side2 Hmv).mono ?_); (case side1 => exact HRW.out _ SS.out.gr); (case side2 => exact HC.out); rintro e w5 ⟨rfl, hb⟩; clear hown hH hat1 z0 z1 z3; have n0_ := Aside0.mk (SS.out.below hb); have n1_ := Aside0.mk (blk_below (g := g3) (o := .cells #[.int .i64 s, .slice A l.length c] 28 (0, 0)) B3.out hb); clear SS B3; have SS := n0_; have B3 := n1_; clear n0_ n1_ hb; have z0 : w5.cell? ⟨g3, 0, none⟩ = some (.int .i64 s) := (blk_cell B3.out 0).trans rfl; have z3 : w5.cell? ⟨g3, 1, none⟩ = some (.slice A l.length c) := (blk_cell B3.out 1).trans rfl)
        | (go_at_call 26; (with_reducible refine (impl_Hex_cells.calls k s _ _ l 0 list _ ?side1 ?side2 Hlist).mono ?_); (case side1 => exact HRW.out _ SS.out.gr); (case side2 => exact HC.out); rintro e w6 ⟨vL, rfl, ho, hb⟩; obtain ⟨AL, cL, eL⟩ := Kd.R_slice ho; subst eL; have HO := Aside0.mk (Kd.R_lower ho (SS.out.M.lt : gm + 1 ≤ _)); clear z0 z3 ho; have n0_ := Aside0.mk (SS.out.below hb); have n1_ := Aside0.mk (blk_below (g := g3) (o := .cells #[.int .i64 s, .slice A l.length c] 28 (0, 0)) B3.out hb); clear SS B3; have SS := n0_; have B3 := n1_; clear n0_ n1_ hb; have z0 : w6.cell? ⟨g3, 0, none⟩ = some (.int .i64 s) := (blk_cell B3.out 0).trans rfl; have z3 : w6.cell? ⟨g3, 1, none⟩ = some (.slice A l.length c) := (blk_cell B3.out 1).trans rfl))
      clear z0 z3
      have L := Aside0.mk (FL.mk SS.out B3.out HO.out)
      clear SS B3 HO
      go_loopg [10, 41] k (fun kq v10 v41 w' => ∃ (out i : Int) (m1 : SMap), v10 = .int .i64 out ∧ v41 = .int .i64 i ∧ Aside0 (impl_find.l0 kq s l mv key list m1 out i = some (r, m')) ∧ Aside0 (kq ≤ k) ∧ Aside0 (FL w w' gm g1 g2 g3 s A c l m1 AL cL list))
      case atStart => exact ⟨wrap64 (3 - mv), 0, m, rfl, rfl, H', ⟨Nat.le_refl _⟩, L⟩
      case round =>
        clear H' L
        obtain ⟨out, i, m1, rfl, rfl, HA, HK, L⟩ := hrel
        cases gk with
        | zero => exact absurd HA.out (by simp [impl_find.l0])
        | succ k1 =>
          have H := HA.out
          clear HA
          rw [impl_find.l0] at H
          by_cases ci : i < (list.length : Int)
          · rw [if_pos ci] at H
            have cib : decide (i < (list.length : Int)) = true := decide_eq_true ci
            by_cases pi : 0 ≤ i
            case neg => rw [if_neg pi] at H; cases H
            rw [if_pos pi] at H
            obtain ⟨⟨b1, b2⟩, Hw, H⟩ := Option.bind_eq_some_iff.mp H
            obtain ⟨⟨q1, q2⟩, Hq, H⟩ := Option.bind_eq_some_iff.mp H
            simp only at Hq H
            obtain ⟨ad, e, hxj⟩ := Kd.at_int (Kd.R_reads' L.out.R).2.2 i pi ci
            cases e
            have pi' := eq_true pi
            have ci' := eq_true ci
            go_wp2
            have L2 := Aside0.mk L.out.drew
            clear L hxj
            refine start_ (n := 8) (S := fun w' => (w'.cell? ⟨g3, 0, none⟩ = some (.int .i64 s) ∧ w'.cell? ⟨g3, 1, none⟩ = some (.slice A l.length c)) ∧ w'.cell? ⟨g2, 0, none⟩ = some (findV g1 g2)) (ds := []) #[false, false, false, false, false, false, false, false] (by kernel_rfl) rfl rfl ⟨L2.out.zx, L2.out.F.z2⟩ (fun hHeld => ?_); refine with_tabW impl_find.tab12 impl_find.bits12 (fun HT_ HW_ => ?_)
            generalize wr.drew = w8 at L2 hHeld ⊢
            refine pure_ (i := 2) (N := some 47) (v := ?_) (a' := ?_) #[false, false, true, false, false, false, false, false] rfl rfl (any_of HT_.out (by kernel_rfl)) (fun _ _ _ h => h) (Or.inl ⟨by rfl, ?_⟩) ?_ ?_
            rotate_left
            · intro w'
              go_simp
              with_reducible rfl
            rotate_left
            · simp only [Act.put, List.setIfInBounds_toArray, List.set_cons_zero, List.set_cons_succ, i64_w, i32_w]
              rfl
            refine pure_ (i := 3) (N := some 48) (v := ?_) (a' := ?_) #[false, false, true, true, false, false, false, false] rfl rfl (any_of HT_.out (by kernel_rfl)) (fun _ _ _ h => h) (Or.inl ⟨by rfl, ?_⟩) ?_ ?_
            rotate_left
            · intro w'
              go_simp
              with_reducible rfl
            rotate_left
            · simp only [Act.put, List.setIfInBounds_toArray, List.set_cons_zero, List.set_cons_succ, i64_w, i32_w]
              rfl
            refine pure_ (i := 6) (N := some 51) (v := ?_) (a' := ?_) #[false, false, true, true, false, false, true, false] rfl rfl (any_of HT_.out (by kernel_rfl)) (fun _ _ _ h => h) (Or.inl ⟨by rfl, ?_⟩) ?_ ?_
            rotate_left
            · intro w'
              go_simp
              with_reducible rfl
            rotate_left
            · simp only [Act.put, List.setIfInBounds_toArray, List.set_cons_zero, List.set_cons_succ, i64_w, i32_w]
              rfl
            refine take_ (i := 0) (N := some 45) (v := ?_) (a' := ?_) #[true, false, true, true, false, false, true, false] rfl rfl (take_ofW HT_.out HW_.out (by kernel_rfl)) (fun _ _ _ h => h) (Or.inl ⟨by rfl, ?_⟩) hHeld ?_ ?_
            rotate_left
            · rintro w' ⟨⟨s0, s1⟩, s2⟩
              go_simp
              with_reducible rfl
            rotate_left
            · simp only [Act.put, List.setIfInBounds_toArray, List.set_cons_zero, List.set_cons_succ, i64_w, i32_w]
              rfl
            refine take_ (i := 1) (N := some 46) (v := ?_) (a' := ?_) #[true, true, true, true, false, false, true, false] rfl rfl (take_ofW HT_.out HW_.out (by kernel_rfl)) (fun _ _ _ h => h) (Or.inl ⟨by rfl, ?_⟩) hHeld ?_ ?_
            rotate_left
            · rintro w' ⟨⟨s0, s1⟩, s2⟩
              go_simp
              with_reducible rfl
            rotate_left
            · simp only [Act.put, List.setIfInBounds_toArray, List.set_cons_zero, List.set_cons_succ, i64_w, i32_w]
              rfl
            refine one_ (i := 4) (N := some 49) #[true, true, true, true, true, false, true, false] rfl rfl (one_of HT_.out (by kernel_rfl)) (by decide) (fun K hK => ?_)
            refine goes_ Tryd.func28 (by kernel_rfl) rfl #[.agg #[.int .i64 s, .slice A l.length c], .int .i64 (rd list i), .int .i64 mv] (by rfl) rfl rfl (by (try simp only [List.map_toArray, List.map_cons, List.map_nil]); first | done | rfl | (simp; done)) ?_
            with_reducible refine (impl_Hex_with.calls s _ _ l (rd list i) mv b1 b2 _ ?side1 ?side2 Hw).mono ?_
            (case side1 => exact HRW.out _ L2.out.F.gr)
            (case side2 => exact HC.out)
            rintro e w9 ⟨vB, rfl, ho, hb⟩
            obtain ⟨AB, cB, eB⟩ := Kd.R_slice ho
            subst eB
            refine ⟨_, rfl, ?_⟩
            have L3 := Aside0.mk (L2.out.below hb)
            have OB := Aside0.mk (Kd.R_lower ho (L2.out.F.M.lt : gm + 1 ≤ w8.heap.size))
            clear L2 ho hb
            refine hK.out _ _ ⟨L3.out.zx, L3.out.F.z2⟩ (fun hHeld => ?_)
            clear hK K
            refine norm_ (a' := ?_) ?_ ?_
            rotate_left
            · show Act.put _ (some 49) _ = _
              simp only [Act.put, List.setIfInBounds_toArray, List.set_cons_zero, List.set_cons_succ, i64_w, i32_w]
              rfl
            refine one_ (i := 5) (N := some 50) #[true, true, true, true, true, true, true, false] rfl rfl (one_of HT_.out (by kernel_rfl)) (by decide) (fun K hK => ?_)
            refine goesV_ Tryd.func33 (by kernel_rfl) rfl #[.agg #[.int .i64 b1, .slice AB b2.length cB], .pointer (some ⟨g1, 0, none⟩), .pointer (some ⟨g2, 0, none⟩)] (by rfl) rfl rfl (by rfl) (by (try simp only [List.map_toArray, List.map_cons, List.map_nil, List.append_toArray, List.cons_append, List.nil_append]); rfl) ?_
            with_reducible refine (ih k1 (by have := HK.out; omega) b1 AB cB b2 gm g1 g2 m1 q2 q1 _ ?side1 ?side2 ?side3 Hq).mono ?_
            (case side1 => exact fun W hg => (Kd.R_reads' (Kd.R_grown2 OB.out rfl hg (fun j hj => by cases hj; intro z; have := Kd.R_base OB.out gm z.symm; omega))).2.2)
            (case side2 => exact (Kd.R_reads' OB.out).2.1)
            (case side3 => exact ⟨L3.out.F.M, L3.out.F.b1, L3.out.F.b2, grownBy_refl _ _⟩)
            rintro e w10 ⟨rfl, hM, hg⟩
            refine ⟨_, rfl, ?_⟩
            have L4 := Aside0.mk (L3.out.grown hM hg)
            clear L3 OB hM hg
            refine hK.out _ _ ⟨L4.out.zx, L4.out.F.z2⟩ (fun hHeld => ?_)
            clear hK K
            refine norm_ (a' := ?_) ?_ ?_
            rotate_left
            · show Act.put _ (some 50) _ = _
              simp only [Act.put, List.setIfInBounds_toArray, List.set_cons_zero, List.set_cons_succ, i64_w, i32_w]
              rfl
            refine pure_ (i := 7) (N := some 52) (v := ?_) (a' := ?_) #[true, true, true, true, true, true, true, true] rfl rfl (any_of HT_.out (by kernel_rfl)) (fun _ _ _ h => h) (Or.inl ⟨by rfl, ?_⟩) ?_ ?_
            rotate_left
            · intro w'
              go_simp
              with_reducible rfl
            rotate_left
            · simp only [Act.put, List.setIfInBounds_toArray, List.set_cons_zero, List.set_cons_succ, i64_w, i32_w]
              rfl
            refine done_ (done_of HT_.out (by kernel_rfl)) ?_
            clear HT_ HW_ hHeld
            by_cases cm : q1 = mv
            · rw [if_pos cm] at H
              have cmb : (q1 == mv) = true := beq_iff_eq.mpr cm
              obtain ⟨hlen, hwf, rfl, rfl⟩ := fin_some H
              clear H
              have z1 := L4.out.F.z1
              obtain ⟨D, hown, hH⟩ := L4.out.F.M
              go_wp2_with (first
                | (at_mapUpdate; refine wpList_mapUpdate_own _ rfl _ _ _ 51 rfl 9 2 law9 Tryd.underlying51 _ gm q2.length D rfl hown (by simp only [maxLen]; omega) _ _ _ rfl rfl (keyOf_str hks) _ [] (plainElem_int Tryd.underlying2 hwf) ?_; intro w11 hown1 hg1))
              go_ret
              exact ⟨rfl, ⟨_, hown1, holdsS_put hH hown.isMap _ _⟩, L4.out.F.gr.trans hg1⟩
            · rw [if_neg cm] at H
              have cmb : (q1 == mv) = false := beq_eq_false_iff_ne.mpr cm
              have H' := Aside0.mk H
              clear H
              go_wp2
              go_roundg k1
              case measure => have := HK.out; omega
              case rel => exact ⟨out, wrap64 (i + 1), q2, rfl, (by first | rfl | simp), H', ⟨by have := HK.out; omega⟩, L4⟩
          · rw [if_neg ci] at H
            have cib : decide (i < (list.length : Int)) = false := decide_eq_false ci
            obtain ⟨hlen, hwf, rfl, rfl⟩ := fin_some H
            clear H
            have z1 := L.out.F.z1
            obtain ⟨D, hown, hH⟩ := L.out.F.M
            go_wp2_with (first
              | (at_mapUpdate; refine wpList_mapUpdate_own _ rfl _ _ _ 51 rfl 9 2 law9 Tryd.underlying51 _ gm m1.length D rfl hown (by simp only [maxLen]; omega) _ _ _ rfl rfl (keyOf_str hks) _ [] (plainElem_int Tryd.underlying2 hwf) ?_; intro w11 hown1 hg1))
            go_ret
            exact ⟨rfl, ⟨_, hown1, holdsS_put hH hown.isMap _ _⟩, L.out.F.gr.trans hg1⟩
end Go.Proofs.YtcfdlbjngpmcaaaDoor.PAll
end

section
/- hexWins: the closure that tells the winner of positions, with its map and its variables. -/
namespace Go.Proofs.YtcfdlbjngpmcaaaDoor.PAll
open Go.RowKit Go.Maps Go.Proofs.YtcfdlbjngpmcaaaDoorW.PrintWords Go.Proofs.YtcfdlbjngpmcaaaDoorW.PrintLast Go.Proofs.YtcfdlbjngpmcaaaDoorW.PrintMore
set_option linter.unusedVariables false
set_option linter.unusedSimpArgs false

theorem grownBy_set (w : World) (g i : Nat) (u : Value) : w.grownBy (w.setCell ⟨g, i, none⟩ u) (some g) :=
  ⟨rfl, rfl, rfl, by simp, fun j _ hne => Below.heap_setCell w ⟨g, i, none⟩ u j (fun e => hne (congrArg some e))⟩
theorem MapS.set {w : World} {b g i : Nat} {m : SMap} {u : Value} (h : MapS w b m) (hne : some b ≠ some g) : MapS (w.setCell ⟨g, i, none⟩ u) b m := by
  obtain ⟨D, hown, hH⟩ := h
  exact ⟨D, hown.kept (grownBy_set w g i u) hne, hH⟩
set_option maxHeartbeats 8000000 in
set_option maxRecDepth 100000 in
theorem hexWins.calls (w : World) : Calls Tryd.prog 22 #[] w fun e w' => ∃ gm g1 g2 : Nat, e = .returned (findV g1 g2) ∧ MapS w' gm [] ∧ w'.heap[g1]? = some (.cells #[.map (some gm)] 51 (0, 0)) ∧ w'.heap[g2]? = some (.cells #[findV g1 g2] 41 (0, 0)) ∧ Below w.heap.size w w' ∧ w.heap.size ≤ gm := by
  have hmm := @run_makeMap Tryd.prog
  have hmf : ∀ (fn : Fn) (first cap : Array Value) (w : World), (Instr.makeFunc fn first cap).run Tryd.prog w = .ok (.func fn first cap) w := fun _ _ _ _ => rfl
  go_enter Tryd.func22, Tryd.ntmps22
  go_wp2_with (first
    | ((with_reducible refine gate_dst (N := 1) rfl ?_); refine box_event ?hg (N := 1) ?hd (cs := #[.map none]) (t := 51) ?hr ?_; (case hd => rfl); (case hg => rfl); (case hr => first | (go_simp; done) | (go_simp; rfl)); intro g1 hg w2 hbox hb; have M := Aside0.mk ((MapS.made w).below hb); have HB := Aside0.mk (below_step (below_alloc (Below.refl _ w) _) hb); have B1 := Aside0.mk hbox; have G1 := Aside0.mk (by rw [hg]; exact Nat.lt_of_lt_of_le (MapS.made w).lt (Nat.le_refl _) : w.heap.size < g1); clear hg hbox hb; have zx : w2.cell? ⟨g1, 0, none⟩ = some (.map none) := (blk_cell B1.out 0).trans rfl; have zf : w2.frozen? ⟨g1, 0, none⟩ = false := blk_frozen B1.out 0)
    | ((with_reducible refine gate_store (t := 51) (p := 1) rfl ?_); refine store_event (t := 51) (p := 1) (v := ?vo_) (w1 := (w2.setCell ⟨g1, 0, none⟩ (.map (some w.heap.size)))) ?hg ?ho ?hn ?hr ?_; (case ho => rfl); (case hg => rfl); (case hn => rfl); (case hr => first | (go_simp; done) | (go_simp; rfl)); intro w3 hw; have n0_ := Aside0.mk (by rw [hw]; exact M.out.set (fun e => by cases e; exact Nat.lt_irrefl _ G1.out) : MapS w3 w.heap.size []); have n1_ := Aside0.mk (by rw [hw]; exact blk_put B1.out 0 _ rfl : w3.heap[g1]? = some (.cells #[.map (some w.heap.size)] 51 (0, 0))); have n2_ := Aside0.mk (by rw [hw]; exact below_set HB.out (Nat.le_of_lt G1.out) : Below w.heap.size w w3); clear M B1 HB hw zx zf; have M := n0_; have B1 := n1_; have HB := n2_; clear n0_ n1_ n2_)
    | ((with_reducible refine gate_dst (N := 2) rfl ?_); refine box_event ?hg (N := 2) ?hd (cs := #[.nilFunc]) (t := 41) ?hr ?_; (case hd => rfl); (case hg => rfl); (case hr => first | (go_simp; done) | (go_simp; rfl)); intro g2 hg w4 hbox hb; have n0_ := Aside0.mk (M.out.below hb); have n1_ := Aside0.mk (blk_below B1.out hb); have n2_ := Aside0.mk (below_step HB.out hb); have B2 := Aside0.mk hbox; have G2 := Aside0.mk (by rw [hg]; exact blk_lt B1.out : g1 < g2); clear M B1 HB hg hbox hb; have M := n0_; have B1 := n1_; have HB := n2_; clear n0_ n1_ n2_; have zx : w4.cell? ⟨g2, 0, none⟩ = some .nilFunc := (blk_cell B2.out 0).trans rfl; have zf : w4.frozen? ⟨g2, 0, none⟩ = false := blk_frozen B2.out 0)
    | ((with_reducible refine gate_store (t := 41) (p := 2) rfl ?_); refine store_event (t := 41) (p := 2) (v := ?vo2_) (w1 := (w4.setCell ⟨g2, 0, none⟩ (.func (.func 33) #[] #[.pointer (some ⟨g1, 0, none⟩), .pointer (some ⟨g2, 0, none⟩)]))) ?hg ?ho ?hn ?hr ?_; (case ho => rfl); (case hg => rfl); (case hn => rfl); (case hr => first | (go_simp; done) | (go_simp; rfl)); intro w5 hw; have n0_ := Aside0.mk (by rw [hw]; exact M.out.set (fun e => by cases e; have := G1.out; have := G2.out; omega) : MapS w5 w.heap.size []); have n1_ := Aside0.mk (by rw [hw]; exact blk_far B1.out (by have := G2.out; show g1 ≠ g2; omega) _ : w5.heap[g1]? = some (.cells #[.map (some w.heap.size)] 51 (0, 0))); have n2_ := Aside0.mk (by rw [hw]; exact below_set HB.out (by have := G1.out; have := G2.out; omega) : Below w.heap.size w w5); have n3_ := Aside0.mk (by rw [hw]; exact blk_put B2.out 0 _ rfl : w5.heap[g2]? = some (.cells #[findV g1 g2] 41 (0, 0))); clear M B1 HB B2 hw zx zf; have M := n0_; have B1 := n1_; have HB := n2_; have B2 := n3_; clear n0_ n1_ n2_ n3_; have z2 : w5.cell? ⟨g2, 0, none⟩ = some (findV g1 g2) := (blk_cell B2.out 0).trans rfl))
  go_ret
  exact ⟨w.heap.size, g1, g2, rfl, M.out, B1.out, B2.out, HB.out, Nat.le_refl _⟩
end Go.Proofs.YtcfdlbjngpmcaaaDoor.PAll
end

section
/- HexWinner: its walk. -/
namespace Go.Proofs.YtcfdlbjngpmcaaaDoor.PAll
open Go.RowKit Go.Maps Go.Proofs.YtcfdlbjngpmcaaaDoorW.PrintWords Go.Proofs.YtcfdlbjngpmcaaaDoorW.PrintLast Go.Proofs.YtcfdlbjngpmcaaaDoorW.PrintMore
set_option linter.unusedVariables false
set_option linter.unusedSimpArgs false

end Go.Proofs.YtcfdlbjngpmcaaaDoor.PAll
end
