-- Written by wip/pp.py of this work (a driver around the kit's print), out of the translation; Lean checks it.
import Derived.Test.YtankgbfddgpfmaaPAllx0
import Derived.Test.YtankgbfddgpfmaaPAllx2
import Derived.Test.YtankgbfddgpfmaaPAllx3
import Derived.Test.YtankgbfddgpfmaaMerged6
namespace Go.Proofs.Ytankgbfddgpfmaa.PAll
open Go.RowKit Go.Proofs.YtankgbfddgpfmaaW.PrintWords Go.Proofs.YtankgbfddgpfmaaW.PrintLast Go.Proofs.YtankgbfddgpfmaaW.PrintMore
attribute [local go_sem] max2_int min2_int max_two min_two max_three min_three max_four min_four   -- for this text's walks alone
set_option linter.unusedVariables false
set_option linter.unusedSimpArgs false

/-! ### impl_Sea_placements: function 42 -/
mutual
def impl_Sea_placements.l0 : Nat → Int → List Int → Int → Int → Int → Int → List Int → Option (List Int)
 | 0, _, _, _, _, _, _, _ => none
 | k + 1, x1, x5, x15, x16, x317000, x317001, x317002 => if x16 < x15 then (if x317000 = 0 then (none) else ((some (([(⟨1, 0⟩ : S79), (⟨0, 1⟩ : S79)] : List (S79)) : List (S79))).bind fun y325 => (impl_Sea_placements.l1 k x1 x5 x16 (Int.tmod x16 x317000) (wrap64 (Int.tdiv x16 x317000)) x15 x16 y325 (y325.length : Int) 0 x317000 x317001 x317002))) else ((slices_Sort_int64_int64.f x5).bind fun t321 => ((slices_Compact_int64_int64.f t321).bind fun t322 => (some t322)))
def impl_Sea_placements.l1 : Nat → Int → List Int → Int → Int → Int → Int → Int → List (S79) → Int → Int → Int → Int → List Int → Option (List Int)
 | 0, _, _, _, _, _, _, _, _, _, _, _, _, _ => none
 | k + 1, x1, x5, x6, x7, x8, x15, x16, x29, x30, x31, x317000, x317001, x317002 => if x31 < x30 then (if 0 ≤ x31 then (if x31 < (x29.length : Int) then (if (wrap64 (x7 + (wrap64 ((wrap64 (x1 - 1)) * ((rd_T79 x29 x31).f0))))) ≥ x317000 then (impl_Sea_placements.j2 k x1 x5 x6 x7 x8 x15 x16 x29 x30 x31 true x317000 x317001 x317002 ((rd_T79 x29 x31).f0) ((rd_T79 x29 x31).f1)) else (impl_Sea_placements.j2 k x1 x5 x6 x7 x8 x15 x16 x29 x30 x31 (decide ((wrap64 (x8 + (wrap64 ((wrap64 (x1 - 1)) * ((rd_T79 x29 x31).f1))))) ≥ x317001)) x317000 x317001 x317002 ((rd_T79 x29 x31).f0) ((rd_T79 x29 x31).f1))) else (none)) else (none)) else (impl_Sea_placements.l0 k x1 x5 x15 (wrap64 (x16 + 1)) x317000 x317001 x317002)
def impl_Sea_placements.j2 : Nat → Int → List Int → Int → Int → Int → Int → Int → List (S79) → Int → Int → Bool → Int → Int → List Int → Int → Int → Option (List Int)
 | 0, _, _, _, _, _, _, _, _, _, _, _, _, _, _, _, _ => none
 | k + 1, x1, x5, x6, x7, x8, x15, x16, x29, x30, x31, x56, x317000, x317001, x317002, x330000, x330001 => if x56 = true then (impl_Sea_placements.l1 k x1 x5 x6 x7 x8 x15 x16 x29 x30 (wrap64 (x31 + 1)) x317000 x317001 x317002) else (impl_Sea_placements.l2 k x1 x5 x6 x7 x8 0 x15 x16 x29 x30 x31 x1 0 x317000 x317001 x317002 x330000 x330001)
def impl_Sea_placements.l2 : Nat → Int → List Int → Int → Int → Int → Int → Int → Int → List (S79) → Int → Int → Int → Int → Int → Int → List Int → Int → Int → Option (List Int)
 | 0, _, _, _, _, _, _, _, _, _, _, _, _, _, _, _, _, _, _ => none
 | k + 1, x1, x5, x6, x7, x8, x11, x15, x16, x29, x30, x31, x57, x58, x317000, x317001, x317002, x330000, x330001 => if x58 < x57 then (if 0 ≤ (wrap64 (x6 + (wrap64 (x58 * (wrap64 (x330000 + (wrap64 (x330001 * x317000)))))))) then (impl_Sea_placements.l2 k x1 x5 x6 x7 x8 (Go.bits .or .i64 x11 (shl .i64 1 (wrap64 (x6 + (wrap64 (x58 * (wrap64 (x330000 + (wrap64 (x330001 * x317000)))))))))) x15 x16 x29 x30 x31 x57 (wrap64 (x58 + 1)) x317000 x317001 x317002 x330000 x330001) else (none)) else (if x5.length < 17592186044416 then (impl_Sea_placements.l1 k x1 (x5 ++ [x11]) x6 x7 x8 x15 x16 x29 x30 (wrap64 (x31 + 1)) x317000 x317001 x317002) else (none))
end
def impl_Sea_placements.f (k : Nat) (a0_0 : Int) (a0_1 : Int) (l0_2 : List Int) (a1 : Int) : Option (List Int) := (impl_Sea_cells.f a0_0 a0_1 l0_2).bind fun t320 => (impl_Sea_placements.l0 k a1 (([] : List Int)) t320 0 a0_0 a0_1 l0_2)
theorem impl_Sea_placements.mono_l : ∀ k, (∀ y0 y1 y2 y3 y4 y5 y6, LeO (impl_Sea_placements.l0 k y0 y1 y2 y3 y4 y5 y6) (impl_Sea_placements.l0 (k + 1) y0 y1 y2 y3 y4 y5 y6)) ∧ (∀ y0 y1 y2 y3 y4 y5 y6 y7 y8 y9 y10 y11 y12, LeO (impl_Sea_placements.l1 k y0 y1 y2 y3 y4 y5 y6 y7 y8 y9 y10 y11 y12) (impl_Sea_placements.l1 (k + 1) y0 y1 y2 y3 y4 y5 y6 y7 y8 y9 y10 y11 y12)) ∧ (∀ y0 y1 y2 y3 y4 y5 y6 y7 y8 y9 y10 y11 y12 y13 y14 y15, LeO (impl_Sea_placements.j2 k y0 y1 y2 y3 y4 y5 y6 y7 y8 y9 y10 y11 y12 y13 y14 y15) (impl_Sea_placements.j2 (k + 1) y0 y1 y2 y3 y4 y5 y6 y7 y8 y9 y10 y11 y12 y13 y14 y15)) ∧ (∀ y0 y1 y2 y3 y4 y5 y6 y7 y8 y9 y10 y11 y12 y13 y14 y15 y16 y17, LeO (impl_Sea_placements.l2 k y0 y1 y2 y3 y4 y5 y6 y7 y8 y9 y10 y11 y12 y13 y14 y15 y16 y17) (impl_Sea_placements.l2 (k + 1) y0 y1 y2 y3 y4 y5 y6 y7 y8 y9 y10 y11 y12 y13 y14 y15 y16 y17))
 | 0 => ⟨fun _ _ _ _ _ _ _ r h => by simp [impl_Sea_placements.l0] at h, fun _ _ _ _ _ _ _ _ _ _ _ _ _ r h => by simp [impl_Sea_placements.l1] at h, fun _ _ _ _ _ _ _ _ _ _ _ _ _ _ _ _ r h => by simp [impl_Sea_placements.j2] at h, fun _ _ _ _ _ _ _ _ _ _ _ _ _ _ _ _ _ _ r h => by simp [impl_Sea_placements.l2] at h⟩
 | k + 1 => by
  obtain ⟨ih0,ih1,ih2,ih3⟩:=impl_Sea_placements.mono_l k
  refine ⟨?_,?_,?_,?_⟩
  ·intro y0 y1 y2 y3 y4 y5 y6
   unfold impl_Sea_placements.l0
   repeat' first
   | (with_reducible exact ih0 _ _ _ _ _ _ _)
   | (with_reducible exact ih1 _ _ _ _ _ _ _ _ _ _ _ _ _)
   | (with_reducible exact ih2 _ _ _ _ _ _ _ _ _ _ _ _ _ _ _ _)
   | (with_reducible exact ih3 _ _ _ _ _ _ _ _ _ _ _ _ _ _ _ _ _ _)
   | (with_reducible exact LeO.refl _)
   | (with_reducible exact LeO.none _)
   | (with_reducible refine LeO.ite ?_ ?_)
   | (with_reducible refine LeO.bind ?_ (fun _ => ?_))
   | exact ih0 _ _ _ _ _ _ _
   | exact ih1 _ _ _ _ _ _ _ _ _ _ _ _ _
   | exact ih2 _ _ _ _ _ _ _ _ _ _ _ _ _ _ _ _
   | exact ih3 _ _ _ _ _ _ _ _ _ _ _ _ _ _ _ _ _ _
   | exact LeO.none _
   | refine LeO.ite ?_ ?_
   | refine LeO.bind ?_ (fun _ => ?_)
  ·intro y0 y1 y2 y3 y4 y5 y6 y7 y8 y9 y10 y11 y12
   unfold impl_Sea_placements.l1
   repeat' first
   | (with_reducible exact ih0 _ _ _ _ _ _ _)
   | (with_reducible exact ih1 _ _ _ _ _ _ _ _ _ _ _ _ _)
   | (with_reducible exact ih2 _ _ _ _ _ _ _ _ _ _ _ _ _ _ _ _)
   | (with_reducible exact ih3 _ _ _ _ _ _ _ _ _ _ _ _ _ _ _ _ _ _)
   | (with_reducible exact LeO.refl _)
   | (with_reducible exact LeO.none _)
   | (with_reducible refine LeO.ite ?_ ?_)
   | (with_reducible refine LeO.bind ?_ (fun _ => ?_))
   | exact ih0 _ _ _ _ _ _ _
   | exact ih1 _ _ _ _ _ _ _ _ _ _ _ _ _
   | exact ih2 _ _ _ _ _ _ _ _ _ _ _ _ _ _ _ _
   | exact ih3 _ _ _ _ _ _ _ _ _ _ _ _ _ _ _ _ _ _
   | exact LeO.none _
   | refine LeO.ite ?_ ?_
   | refine LeO.bind ?_ (fun _ => ?_)
  ·intro y0 y1 y2 y3 y4 y5 y6 y7 y8 y9 y10 y11 y12 y13 y14 y15
   unfold impl_Sea_placements.j2
   repeat' first
   | (with_reducible exact ih0 _ _ _ _ _ _ _)
   | (with_reducible exact ih1 _ _ _ _ _ _ _ _ _ _ _ _ _)
   | (with_reducible exact ih2 _ _ _ _ _ _ _ _ _ _ _ _ _ _ _ _)
   | (with_reducible exact ih3 _ _ _ _ _ _ _ _ _ _ _ _ _ _ _ _ _ _)
   | (with_reducible exact LeO.refl _)
   | (with_reducible exact LeO.none _)
   | (with_reducible refine LeO.ite ?_ ?_)
   | (with_reducible refine LeO.bind ?_ (fun _ => ?_))
   | exact ih0 _ _ _ _ _ _ _
   | exact ih1 _ _ _ _ _ _ _ _ _ _ _ _ _
   | exact ih2 _ _ _ _ _ _ _ _ _ _ _ _ _ _ _ _
   | exact ih3 _ _ _ _ _ _ _ _ _ _ _ _ _ _ _ _ _ _
   | exact LeO.none _
   | refine LeO.ite ?_ ?_
   | refine LeO.bind ?_ (fun _ => ?_)
  ·intro y0 y1 y2 y3 y4 y5 y6 y7 y8 y9 y10 y11 y12 y13 y14 y15 y16 y17
   unfold impl_Sea_placements.l2
   repeat' first
   | (with_reducible exact ih0 _ _ _ _ _ _ _)
   | (with_reducible exact ih1 _ _ _ _ _ _ _ _ _ _ _ _ _)
   | (with_reducible exact ih2 _ _ _ _ _ _ _ _ _ _ _ _ _ _ _ _)
   | (with_reducible exact ih3 _ _ _ _ _ _ _ _ _ _ _ _ _ _ _ _ _ _)
   | (with_reducible exact LeO.refl _)
   | (with_reducible exact LeO.none _)
   | (with_reducible refine LeO.ite ?_ ?_)
   | (with_reducible refine LeO.bind ?_ (fun _ => ?_))
   | exact ih0 _ _ _ _ _ _ _
   | exact ih1 _ _ _ _ _ _ _ _ _ _ _ _ _
   | exact ih2 _ _ _ _ _ _ _ _ _ _ _ _ _ _ _ _
   | exact ih3 _ _ _ _ _ _ _ _ _ _ _ _ _ _ _ _ _ _
   | exact LeO.none _
   | refine LeO.ite ?_ ?_
   | refine LeO.bind ?_ (fun _ => ?_)
theorem impl_Sea_placements.mono : ∀ a0 a1 a2 a3 k, LeO (impl_Sea_placements.f k a0 a1 a2 a3) (impl_Sea_placements.f (k + 1) a0 a1 a2 a3) := by
 intro a0 a1 a2 a3 k
 obtain ⟨ih0,ih1,ih2,ih3⟩:=impl_Sea_placements.mono_l k
 unfold impl_Sea_placements.f
 repeat' first
   | (with_reducible exact ih0 _ _ _ _ _ _ _)
   | (with_reducible exact ih1 _ _ _ _ _ _ _ _ _ _ _ _ _)
   | (with_reducible exact ih2 _ _ _ _ _ _ _ _ _ _ _ _ _ _ _ _)
   | (with_reducible exact ih3 _ _ _ _ _ _ _ _ _ _ _ _ _ _ _ _ _ _)
   | (with_reducible exact LeO.refl _)
   | (with_reducible exact LeO.none _)
   | (with_reducible refine LeO.ite ?_ ?_)
   | (with_reducible refine LeO.bind ?_ (fun _ => ?_))
   | exact ih0 _ _ _ _ _ _ _
   | exact ih1 _ _ _ _ _ _ _ _ _ _ _ _ _
   | exact ih2 _ _ _ _ _ _ _ _ _ _ _ _ _ _ _ _
   | exact ih3 _ _ _ _ _ _ _ _ _ _ _ _ _ _ _ _ _ _
   | exact LeO.none _
   | refine LeO.ite ?_ ?_
   | refine LeO.bind ?_ (fun _ => ?_)
set_option maxHeartbeats 8000000 in
set_option maxRecDepth 100000 in
theorem impl_Sea_placements.calls (k : Nat) (a0_0 : Int) (a0_1 : Int) (A0_2 : Option Addr) (c0_2 : Nat) (l0_2 : List Int) (a1 : Int) (r : List Int) (w : World) (hr0_2 : Kd.C (Kd.int .i64) w A0_2 l0_2.length l0_2) (hc0_2 : l0_2.length ≤ c0_2) (h : impl_Sea_placements.f k a0_0 a0_1 l0_2 a1 = some r) :
  Calls Try.prog 42 #[.agg #[.int .i64 a0_0,.int .i64 a0_1,.slice A0_2 l0_2.length c0_2],.int .i64 a1] w fun e w'=>∃ v0_ : Value,e = .returned (v0_) ∧ Kd.R (Kd.int .i64) 2 w' w.heap.size (fun _=>True) v0_ r ∧ Below w.heap.size w w':=by
 have hu28:=Try.underlying28
 have hu79:=Try.underlying79
 have HR0_2:=Aside0.mk hr0_2
 have HC0_2:=Aside0.mk hc0_2
 clear hr0_2 hc0_2
 have HB:=Aside0.mk (Below.refl w.heap.size w)
 have H : ((impl_Sea_cells.f a0_0 a0_1 l0_2).bind fun t320=>(impl_Sea_placements.l0 k a1 (([] : List Int)) t320 0 a0_0 a0_1 l0_2)) = some r:=h
 clear h
 obtain ⟨y317,hy317⟩ : ∃ y_ : List Int,y_ = (([] : List Int)):=⟨_,rfl⟩
 replace H : ((impl_Sea_cells.f a0_0 a0_1 l0_2).bind fun t320=>(impl_Sea_placements.l0 k a1 y317 t320 0 a0_0 a0_1 l0_2)) = some r:=by first|(rw [hy317];with_reducible exact H)|(have H2_:=(Option.bind_some _ _).symm.trans H;rw [hy317];with_reducible exact H2_)|(have H2_:=(Option.bind_some _ _).symm.trans H;with_reducible exact H2_)|with_reducible exact H|(rw [hy317];exact H)|exact H
 have Ny317:=Aside0.mk hy317
 clear hy317
 replace H:=Option.bind_eq_some_iff.mp H
 obtain ⟨t320,A30,H⟩:=H
 replace H : (impl_Sea_placements.l0 k a1 y317 t320 0 a0_0 a0_1 l0_2) = some r:=H
 have A3:=Aside0.mk A30
 clear A30
 have H':=Aside0.mk H
 clear H
 go_enter Try.func42,Try.ntmps42
 go_wp2_with (first|((with_reducible refine gate_dst (N:=2) rfl ?_);refine box_event ?hg (N:=2) ?hd (cs:=#[.int .i64 a0_0,.int .i64 a0_1,.slice A0_2 l0_2.length c0_2]) (t:=28) ?hr ?_;(case hd=>rfl);(case hg=>rfl);(case hr=>first|(go_simp;done)|(go_simp;rfl));intro gb316 hg w4 hbox hb;have n0_:=Aside0.mk (below_step (by repeat (first|(with_reducible first|exact HB.out|apply below_alloc|apply pw_below_drewN|apply below_drew1)|exact HB.out)) hb);have n1_:=Aside0.mk (hbox);have n2_:=Aside0.mk ((by rw [hg];exact (below_size (by repeat (first|(with_reducible first|exact HB.out|apply below_alloc|apply pw_below_drewN|apply below_drew1)|exact HB.out))) : w.heap.size ≤ gb316));have n3_:=Aside0.mk ((by rw [hg];exact (below_size (by repeat (first|(with_reducible first|exact HB.out|apply below_alloc|apply pw_below_drewN|apply below_drew1)|exact HB.out))) : w.heap.size ≤ gb316));clear HB;have HB:=n0_;have BK316:=n1_;have GW316:=n2_;have GE316:=n3_;clear n0_ n1_ n2_ n3_;clear hb hbox hg)|((with_reducible refine gate_dst (N:=13) rfl ?_);refine Kd.R_lit (Kd.int .i64) _ 2 ?hg (N:=13) ?hd (xs:=([] : List Int)) (inner:=[]) (ok:=fun _=>True) (okp:=fun _=>True) ?hr ?hp (fun _ hk=>hk) trivial (Below.refl _ _) (Nat.le_refl _) (by simp) ?_;(case hd=>rfl);(case hg=>rfl);(case hr=>first|(go_simp;done)|(go_simp;rfl));(case hp=>exact (Reps.none _ _));intro v318 w5 ho6 hb hg_ hnew_;clear hg_ hnew_;(first|rw [← Ny317.out] at ho6|(simp only [Int.reduceToNat] at ho6;rw [← Ny317.out] at ho6));have n0_:=Aside0.mk (Kd.R_lower ho6 (below_size (by repeat (first|(with_reducible first|exact HB.out|apply below_alloc|apply pw_below_drewN|apply below_drew1|refine below_set ?_ GE316.out)|exact HB.out))));have n1_:=Aside0.mk (blk_below (g:=gb316) (o:=.cells #[.int .i64 a0_0,.int .i64 a0_1,.slice A0_2 l0_2.length c0_2] 28 (0,0)) (by (with_reducible repeat (first|refine blk_drewN ?_ _|refine blk_drew ?_|refine blk_alloc ?_ _));exact BK316.out) hb);have n2_:=Aside0.mk (below_step (by repeat (first|(with_reducible first|exact HB.out|apply below_alloc|apply pw_below_drewN|apply below_drew1|refine below_set ?_ GE316.out)|exact HB.out)) hb);clear BK316;clear HB;have HO319:=n0_;have BK316:=n1_;have HB:=n2_;clear n0_ n1_ n2_;clear hb ho6;have hcz7_0 : w5.cell? ⟨gb316,0,none⟩ = some (.int .i64 a0_0):=(blk_cell BK316.out 0).trans rfl;have hcz7_1 : w5.cell? ⟨gb316,1,none⟩ = some (.int .i64 a0_1):=(blk_cell BK316.out 1).trans rfl;have hcz7_2 : w5.cell? ⟨gb316,2,none⟩ = some (.slice A0_2 l0_2.length c0_2):=(blk_cell BK316.out 2).trans rfl;have hfz7_0:=blk_frozen BK316.out 0;have hfz7_1:=blk_frozen BK316.out 1;have hfz7_2:=blk_frozen BK316.out 2)|(go_at_call 54;(with_reducible refine (impl_Sea_cells.calls a0_0 a0_1 _ _ l0_2 t320 _ ?side1 ?side2 A3.out).mono ?_);(case side1=>repeat (first|exact (Kd.C_below HR0_2.out HB.out)|(with_reducible refine Kd.C_alloc ?_ _)|(with_reducible refine Kd.C_drewN ?_ _)|(with_reducible refine Kd.C_drew ?_)));(case side2=>exact HC0_2.out);rintro e w8 ⟨rfl,hb⟩;have n0_:=Aside0.mk (Kd.R_below (by (with_reducible repeat (first|apply Kd.R_alloc|apply Kd.R_drewN|apply Kd.R_drew));exact HO319.out) hb);have n1_:=Aside0.mk (blk_below (g:=gb316) (o:=.cells #[.int .i64 a0_0,.int .i64 a0_1,.slice A0_2 l0_2.length c0_2] 28 (0,0)) (by (with_reducible repeat (first|refine blk_drewN ?_ _|refine blk_drew ?_|refine blk_alloc ?_ _));exact BK316.out) hb);have n2_:=Aside0.mk (below_step (by repeat (first|(with_reducible first|exact HB.out|apply below_alloc|apply pw_below_drewN|apply below_drew1|refine below_set ?_ GE316.out)|exact HB.out)) hb);clear HO319;clear BK316;clear HB;have HO319:=n0_;have BK316:=n1_;have HB:=n2_;clear n0_ n1_ n2_;(try clear hb);(try clear hb2);(try clear hk);(try clear hi)))
 repeat (go_quiet (first|((with_reducible refine gate_dst (N:=2) rfl ?_);refine box_event ?hg (N:=2) ?hd (cs:=#[.int .i64 a0_0,.int .i64 a0_1,.slice A0_2 l0_2.length c0_2]) (t:=28) ?hr ?_;(case hd=>rfl);(case hg=>rfl);(case hr=>first|(go_simp;done)|(go_simp;rfl));intro gb316 hg w4 hbox hb;have n0_:=Aside0.mk (below_step (by repeat (first|(with_reducible first|exact HB.out|apply below_alloc|apply pw_below_drewN|apply below_drew1)|exact HB.out)) hb);have n1_:=Aside0.mk (hbox);have n2_:=Aside0.mk ((by rw [hg];exact (below_size (by repeat (first|(with_reducible first|exact HB.out|apply below_alloc|apply pw_below_drewN|apply below_drew1)|exact HB.out))) : w.heap.size ≤ gb316));have n3_:=Aside0.mk ((by rw [hg];exact (below_size (by repeat (first|(with_reducible first|exact HB.out|apply below_alloc|apply pw_below_drewN|apply below_drew1)|exact HB.out))) : w.heap.size ≤ gb316));clear HB;have HB:=n0_;have BK316:=n1_;have GW316:=n2_;have GE316:=n3_;clear n0_ n1_ n2_ n3_;clear hb hbox hg)|((with_reducible refine gate_dst (N:=13) rfl ?_);refine Kd.R_lit (Kd.int .i64) _ 2 ?hg (N:=13) ?hd (xs:=([] : List Int)) (inner:=[]) (ok:=fun _=>True) (okp:=fun _=>True) ?hr ?hp (fun _ hk=>hk) trivial (Below.refl _ _) (Nat.le_refl _) (by simp) ?_;(case hd=>rfl);(case hg=>rfl);(case hr=>first|(go_simp;done)|(go_simp;rfl));(case hp=>exact (Reps.none _ _));intro v318 w5 ho6 hb hg_ hnew_;clear hg_ hnew_;(first|rw [← Ny317.out] at ho6|(simp only [Int.reduceToNat] at ho6;rw [← Ny317.out] at ho6));have n0_:=Aside0.mk (Kd.R_lower ho6 (below_size (by repeat (first|(with_reducible first|exact HB.out|apply below_alloc|apply pw_below_drewN|apply below_drew1|refine below_set ?_ GE316.out)|exact HB.out))));have n1_:=Aside0.mk (blk_below (g:=gb316) (o:=.cells #[.int .i64 a0_0,.int .i64 a0_1,.slice A0_2 l0_2.length c0_2] 28 (0,0)) (by (with_reducible repeat (first|refine blk_drewN ?_ _|refine blk_drew ?_|refine blk_alloc ?_ _));exact BK316.out) hb);have n2_:=Aside0.mk (below_step (by repeat (first|(with_reducible first|exact HB.out|apply below_alloc|apply pw_below_drewN|apply below_drew1|refine below_set ?_ GE316.out)|exact HB.out)) hb);clear BK316;clear HB;have HO319:=n0_;have BK316:=n1_;have HB:=n2_;clear n0_ n1_ n2_;clear hb ho6;have hcz7_0 : w5.cell? ⟨gb316,0,none⟩ = some (.int .i64 a0_0):=(blk_cell BK316.out 0).trans rfl;have hcz7_1 : w5.cell? ⟨gb316,1,none⟩ = some (.int .i64 a0_1):=(blk_cell BK316.out 1).trans rfl;have hcz7_2 : w5.cell? ⟨gb316,2,none⟩ = some (.slice A0_2 l0_2.length c0_2):=(blk_cell BK316.out 2).trans rfl;have hfz7_0:=blk_frozen BK316.out 0;have hfz7_1:=blk_frozen BK316.out 1;have hfz7_2:=blk_frozen BK316.out 2)|(go_at_call 54;(with_reducible refine (impl_Sea_cells.calls a0_0 a0_1 _ _ l0_2 t320 _ ?side1 ?side2 A3.out).mono ?_);(case side1=>repeat (first|exact (Kd.C_below HR0_2.out HB.out)|(with_reducible refine Kd.C_alloc ?_ _)|(with_reducible refine Kd.C_drewN ?_ _)|(with_reducible refine Kd.C_drew ?_)));(case side2=>exact HC0_2.out);rintro e w8 ⟨rfl,hb⟩;have n0_:=Aside0.mk (Kd.R_below (by (with_reducible repeat (first|apply Kd.R_alloc|apply Kd.R_drewN|apply Kd.R_drew));exact HO319.out) hb);have n1_:=Aside0.mk (blk_below (g:=gb316) (o:=.cells #[.int .i64 a0_0,.int .i64 a0_1,.slice A0_2 l0_2.length c0_2] 28 (0,0)) (by (with_reducible repeat (first|refine blk_drewN ?_ _|refine blk_drew ?_|refine blk_alloc ?_ _));exact BK316.out) hb);have n2_:=Aside0.mk (below_step (by repeat (first|(with_reducible first|exact HB.out|apply below_alloc|apply pw_below_drewN|apply below_drew1|refine below_set ?_ GE316.out)|exact HB.out)) hb);clear HO319;clear BK316;clear HB;have HO319:=n0_;have BK316:=n1_;have HB:=n2_;clear n0_ n1_ n2_;(try clear hb);(try clear hb2);(try clear hk);(try clear hi)));try go_wp2_with (first|((with_reducible refine gate_dst (N:=2) rfl ?_);refine box_event ?hg (N:=2) ?hd (cs:=#[.int .i64 a0_0,.int .i64 a0_1,.slice A0_2 l0_2.length c0_2]) (t:=28) ?hr ?_;(case hd=>rfl);(case hg=>rfl);(case hr=>first|(go_simp;done)|(go_simp;rfl));intro gb316 hg w4 hbox hb;have n0_:=Aside0.mk (below_step (by repeat (first|(with_reducible first|exact HB.out|apply below_alloc|apply pw_below_drewN|apply below_drew1)|exact HB.out)) hb);have n1_:=Aside0.mk (hbox);have n2_:=Aside0.mk ((by rw [hg];exact (below_size (by repeat (first|(with_reducible first|exact HB.out|apply below_alloc|apply pw_below_drewN|apply below_drew1)|exact HB.out))) : w.heap.size ≤ gb316));have n3_:=Aside0.mk ((by rw [hg];exact (below_size (by repeat (first|(with_reducible first|exact HB.out|apply below_alloc|apply pw_below_drewN|apply below_drew1)|exact HB.out))) : w.heap.size ≤ gb316));clear HB;have HB:=n0_;have BK316:=n1_;have GW316:=n2_;have GE316:=n3_;clear n0_ n1_ n2_ n3_;clear hb hbox hg)|((with_reducible refine gate_dst (N:=13) rfl ?_);refine Kd.R_lit (Kd.int .i64) _ 2 ?hg (N:=13) ?hd (xs:=([] : List Int)) (inner:=[]) (ok:=fun _=>True) (okp:=fun _=>True) ?hr ?hp (fun _ hk=>hk) trivial (Below.refl _ _) (Nat.le_refl _) (by simp) ?_;(case hd=>rfl);(case hg=>rfl);(case hr=>first|(go_simp;done)|(go_simp;rfl));(case hp=>exact (Reps.none _ _));intro v318 w5 ho6 hb hg_ hnew_;clear hg_ hnew_;(first|rw [← Ny317.out] at ho6|(simp only [Int.reduceToNat] at ho6;rw [← Ny317.out] at ho6));have n0_:=Aside0.mk (Kd.R_lower ho6 (below_size (by repeat (first|(with_reducible first|exact HB.out|apply below_alloc|apply pw_below_drewN|apply below_drew1|refine below_set ?_ GE316.out)|exact HB.out))));have n1_:=Aside0.mk (blk_below (g:=gb316) (o:=.cells #[.int .i64 a0_0,.int .i64 a0_1,.slice A0_2 l0_2.length c0_2] 28 (0,0)) (by (with_reducible repeat (first|refine blk_drewN ?_ _|refine blk_drew ?_|refine blk_alloc ?_ _));exact BK316.out) hb);have n2_:=Aside0.mk (below_step (by repeat (first|(with_reducible first|exact HB.out|apply below_alloc|apply pw_below_drewN|apply below_drew1|refine below_set ?_ GE316.out)|exact HB.out)) hb);clear BK316;clear HB;have HO319:=n0_;have BK316:=n1_;have HB:=n2_;clear n0_ n1_ n2_;clear hb ho6;have hcz7_0 : w5.cell? ⟨gb316,0,none⟩ = some (.int .i64 a0_0):=(blk_cell BK316.out 0).trans rfl;have hcz7_1 : w5.cell? ⟨gb316,1,none⟩ = some (.int .i64 a0_1):=(blk_cell BK316.out 1).trans rfl;have hcz7_2 : w5.cell? ⟨gb316,2,none⟩ = some (.slice A0_2 l0_2.length c0_2):=(blk_cell BK316.out 2).trans rfl;have hfz7_0:=blk_frozen BK316.out 0;have hfz7_1:=blk_frozen BK316.out 1;have hfz7_2:=blk_frozen BK316.out 2)|(go_at_call 54;(with_reducible refine (impl_Sea_cells.calls a0_0 a0_1 _ _ l0_2 t320 _ ?side1 ?side2 A3.out).mono ?_);(case side1=>repeat (first|exact (Kd.C_below HR0_2.out HB.out)|(with_reducible refine Kd.C_alloc ?_ _)|(with_reducible refine Kd.C_drewN ?_ _)|(with_reducible refine Kd.C_drew ?_)));(case side2=>exact HC0_2.out);rintro e w8 ⟨rfl,hb⟩;have n0_:=Aside0.mk (Kd.R_below (by (with_reducible repeat (first|apply Kd.R_alloc|apply Kd.R_drewN|apply Kd.R_drew));exact HO319.out) hb);have n1_:=Aside0.mk (blk_below (g:=gb316) (o:=.cells #[.int .i64 a0_0,.int .i64 a0_1,.slice A0_2 l0_2.length c0_2] 28 (0,0)) (by (with_reducible repeat (first|refine blk_drewN ?_ _|refine blk_drew ?_|refine blk_alloc ?_ _));exact BK316.out) hb);have n2_:=Aside0.mk (below_step (by repeat (first|(with_reducible first|exact HB.out|apply below_alloc|apply pw_below_drewN|apply below_drew1|refine below_set ?_ GE316.out)|exact HB.out)) hb);clear HO319;clear BK316;clear HB;have HO319:=n0_;have BK316:=n1_;have HB:=n2_;clear n0_ n1_ n2_;(try clear hb);(try clear hb2);(try clear hk);(try clear hi))))
 go_loopg [5,16] k (fun kq v5 v16 w'=>∃ (x5_1 : List Int) (x16_1 : Int),v16 = .int .i64 x16_1 ∧ Aside0 (impl_Sea_placements.l0 kq a1 x5_1 t320 x16_1 a0_0 a0_1 l0_2 = some r) ∧ Aside0 (kq ≤ k) ∧ Aside0 (Kd.R (Kd.int .i64) 2 w' w.heap.size (fun _=>True) v5 x5_1) ∧ Aside0 (w'.heap[gb316]? = some (.cells #[.int .i64 a0_0,.int .i64 a0_1,(.slice A0_2 l0_2.length c0_2)] 28 (0,0))) ∧ Aside0 (Below w.heap.size w w'))
 case atStart=>exact ⟨(y317),(0),(by first|rfl|(simp;done)|(simp [*];done)),H',⟨Nat.le_refl _⟩,⟨by (with_reducible repeat (first|apply Kd.R_alloc|apply Kd.R_drewN|apply Kd.R_drew));exact HO319.out⟩,⟨by (with_reducible repeat (first|refine blk_drewN ?_ _|refine blk_drew ?_|refine blk_alloc ?_ _));exact BK316.out⟩,⟨by repeat (first|(with_reducible first|exact HB.out|apply below_alloc|apply pw_below_drewN|apply below_drew1|refine below_set ?_ GE316.out)|exact HB.out)⟩⟩
 case round =>
  clear H'
  try clear p2
  try clear c4
  try clear hcz7_0
  try clear hcz7_1
  try clear hcz7_2
  try clear hfz7_0
  try clear hfz7_1
  try clear hfz7_2
  obtain ⟨x5_1,x16_1,rfl,HA,HK1,HO_5,BK316,HB⟩:=hrel
  cases gk with
  | zero => exact absurd HA.out (by simp [impl_Sea_placements.l0])
  | succ k1 =>
   have H:=HA.out
   clear HA
   simp only [impl_Sea_placements.l0] at H
   by_cases c9 : x16_1 < t320
   ·rw [if_pos c9] at H
    have c9b0 : decide (x16_1 < t320) = true:=decide_eq_true c9
    clear c9
    by_cases c10 : a0_0 = 0
    ·rw [if_pos c10] at H
     exact absurd H (by simp)
    ·rw [if_neg c10] at H
     have c10b0 : (a0_0 == 0) = false:=beq_eq_false_iff_ne.mpr c10
     have c10b1 : (a0_0 != 0) = true:=bne_iff_ne.mpr c10
     obtain ⟨y325,hy325⟩ : ∃ y_ : List (S79),y_ = (([(⟨1,0⟩ : S79),(⟨0,1⟩ : S79)] : List (S79))):=⟨_,rfl⟩
     replace H : (impl_Sea_placements.l1 k1 a1 x5_1 x16_1 (Int.tmod x16_1 a0_0) (wrap64 (Int.tdiv x16_1 a0_0)) t320 x16_1 y325 (y325.length : Int) 0 a0_0 a0_1 l0_2) = some r:=by first|(rw [hy325];with_reducible exact H)|(have H2_:=(Option.bind_some _ _).symm.trans H;rw [hy325];with_reducible exact H2_)|(have H2_:=(Option.bind_some _ _).symm.trans H;with_reducible exact H2_)|with_reducible exact H|(rw [hy325];exact H)|exact H
     have Ny325:=Aside0.mk hy325
     clear hy325
     have H':=Aside0.mk H
     clear H
     have hcz11_0 : wr.cell? ⟨gb316,0,none⟩ = some (.int .i64 a0_0):=(blk_cell BK316.out 0).trans rfl
     have hcz11_1 : wr.cell? ⟨gb316,1,none⟩ = some (.int .i64 a0_1):=(blk_cell BK316.out 1).trans rfl
     have hcz11_2 : wr.cell? ⟨gb316,2,none⟩ = some (.slice A0_2 l0_2.length c0_2):=(blk_cell BK316.out 2).trans rfl
     have hfz11_0:=blk_frozen BK316.out 0
     have hfz11_1:=blk_frozen BK316.out 1
     have hfz11_2:=blk_frozen BK316.out 2
     go_wp2_with (first|((with_reducible refine gate_dst (N:=29) rfl ?_);refine Kd.R_lit k79 _ 79 ?hg (N:=29) ?hd (xs:=([(⟨1,0⟩ : S79),(⟨0,1⟩ : S79)] : List (S79))) (inner:=[.int .i64 1,.int .i64 0,.int .i64 0,.int .i64 1]) (ok:=fun _=>True) (okp:=fun _=>True) ?hr ?hp (fun _ hk=>hk) trivial (Below.refl _ _) (Nat.le_refl _) (by simp) ?_;(case hd=>rfl);(case hg=>rfl);(case hr=>first|(go_simp;done)|(go_simp;rfl));(case hp=>exact (Reps.c2 (show Kd.M k79 _ _ _ (⟨1,0⟩ : S79) [.int .i64 1,.int .i64 0] from (k79_mkM _ _ _ (⟨1,0⟩ : S79) )) (Reps.c2 (show Kd.M k79 _ _ _ (⟨0,1⟩ : S79) [.int .i64 0,.int .i64 1] from (k79_mkM _ _ _ (⟨0,1⟩ : S79) )) (Reps.none _ _))));intro v326 w12 ho13 hb hg_ hnew_;clear hg_ hnew_;(first|rw [← Ny325.out] at ho13|(simp only [Int.reduceToNat] at ho13;rw [← Ny325.out] at ho13));have n0_:=Aside0.mk (Kd.R_below (by (with_reducible repeat (first|apply Kd.R_alloc|apply Kd.R_drewN|apply Kd.R_drew));exact HO_5.out) hb);have n1_:=Aside0.mk (Kd.R_lower ho13 (below_size (by repeat (first|(with_reducible first|exact HB.out|apply below_alloc|apply pw_below_drewN|apply below_drew1|refine below_set ?_ GE316.out)|exact HB.out))));have n2_:=Aside0.mk (blk_below (g:=gb316) (o:=.cells #[.int .i64 a0_0,.int .i64 a0_1,.slice A0_2 l0_2.length c0_2] 28 (0,0)) (by (with_reducible repeat (first|refine blk_drewN ?_ _|refine blk_drew ?_|refine blk_alloc ?_ _));exact BK316.out) hb);have n3_:=Aside0.mk (below_step (by repeat (first|(with_reducible first|exact HB.out|apply below_alloc|apply pw_below_drewN|apply below_drew1|refine below_set ?_ GE316.out)|exact HB.out)) hb);clear HO_5;clear BK316;clear HB;have HO_5:=n0_;have HO327:=n1_;have BK316:=n2_;have HB:=n3_;clear n0_ n1_ n2_ n3_;clear hb ho13;obtain ⟨Ao14,co14,eo14⟩:=Kd.R_slice HO327.out;subst eo14))
     repeat (go_quiet (first|((with_reducible refine gate_dst (N:=29) rfl ?_);refine Kd.R_lit k79 _ 79 ?hg (N:=29) ?hd (xs:=([(⟨1,0⟩ : S79),(⟨0,1⟩ : S79)] : List (S79))) (inner:=[.int .i64 1,.int .i64 0,.int .i64 0,.int .i64 1]) (ok:=fun _=>True) (okp:=fun _=>True) ?hr ?hp (fun _ hk=>hk) trivial (Below.refl _ _) (Nat.le_refl _) (by simp) ?_;(case hd=>rfl);(case hg=>rfl);(case hr=>first|(go_simp;done)|(go_simp;rfl));(case hp=>exact (Reps.c2 (show Kd.M k79 _ _ _ (⟨1,0⟩ : S79) [.int .i64 1,.int .i64 0] from (k79_mkM _ _ _ (⟨1,0⟩ : S79) )) (Reps.c2 (show Kd.M k79 _ _ _ (⟨0,1⟩ : S79) [.int .i64 0,.int .i64 1] from (k79_mkM _ _ _ (⟨0,1⟩ : S79) )) (Reps.none _ _))));intro v326 w12 ho13 hb hg_ hnew_;clear hg_ hnew_;(first|rw [← Ny325.out] at ho13|(simp only [Int.reduceToNat] at ho13;rw [← Ny325.out] at ho13));have n0_:=Aside0.mk (Kd.R_below (by (with_reducible repeat (first|apply Kd.R_alloc|apply Kd.R_drewN|apply Kd.R_drew));exact HO_5.out) hb);have n1_:=Aside0.mk (Kd.R_lower ho13 (below_size (by repeat (first|(with_reducible first|exact HB.out|apply below_alloc|apply pw_below_drewN|apply below_drew1|refine below_set ?_ GE316.out)|exact HB.out))));have n2_:=Aside0.mk (blk_below (g:=gb316) (o:=.cells #[.int .i64 a0_0,.int .i64 a0_1,.slice A0_2 l0_2.length c0_2] 28 (0,0)) (by (with_reducible repeat (first|refine blk_drewN ?_ _|refine blk_drew ?_|refine blk_alloc ?_ _));exact BK316.out) hb);have n3_:=Aside0.mk (below_step (by repeat (first|(with_reducible first|exact HB.out|apply below_alloc|apply pw_below_drewN|apply below_drew1|refine below_set ?_ GE316.out)|exact HB.out)) hb);clear HO_5;clear BK316;clear HB;have HO_5:=n0_;have HO327:=n1_;have BK316:=n2_;have HB:=n3_;clear n0_ n1_ n2_ n3_;clear hb ho13;obtain ⟨Ao14,co14,eo14⟩:=Kd.R_slice HO327.out;subst eo14));try go_wp2_with (first|((with_reducible refine gate_dst (N:=29) rfl ?_);refine Kd.R_lit k79 _ 79 ?hg (N:=29) ?hd (xs:=([(⟨1,0⟩ : S79),(⟨0,1⟩ : S79)] : List (S79))) (inner:=[.int .i64 1,.int .i64 0,.int .i64 0,.int .i64 1]) (ok:=fun _=>True) (okp:=fun _=>True) ?hr ?hp (fun _ hk=>hk) trivial (Below.refl _ _) (Nat.le_refl _) (by simp) ?_;(case hd=>rfl);(case hg=>rfl);(case hr=>first|(go_simp;done)|(go_simp;rfl));(case hp=>exact (Reps.c2 (show Kd.M k79 _ _ _ (⟨1,0⟩ : S79) [.int .i64 1,.int .i64 0] from (k79_mkM _ _ _ (⟨1,0⟩ : S79) )) (Reps.c2 (show Kd.M k79 _ _ _ (⟨0,1⟩ : S79) [.int .i64 0,.int .i64 1] from (k79_mkM _ _ _ (⟨0,1⟩ : S79) )) (Reps.none _ _))));intro v326 w12 ho13 hb hg_ hnew_;clear hg_ hnew_;(first|rw [← Ny325.out] at ho13|(simp only [Int.reduceToNat] at ho13;rw [← Ny325.out] at ho13));have n0_:=Aside0.mk (Kd.R_below (by (with_reducible repeat (first|apply Kd.R_alloc|apply Kd.R_drewN|apply Kd.R_drew));exact HO_5.out) hb);have n1_:=Aside0.mk (Kd.R_lower ho13 (below_size (by repeat (first|(with_reducible first|exact HB.out|apply below_alloc|apply pw_below_drewN|apply below_drew1|refine below_set ?_ GE316.out)|exact HB.out))));have n2_:=Aside0.mk (blk_below (g:=gb316) (o:=.cells #[.int .i64 a0_0,.int .i64 a0_1,.slice A0_2 l0_2.length c0_2] 28 (0,0)) (by (with_reducible repeat (first|refine blk_drewN ?_ _|refine blk_drew ?_|refine blk_alloc ?_ _));exact BK316.out) hb);have n3_:=Aside0.mk (below_step (by repeat (first|(with_reducible first|exact HB.out|apply below_alloc|apply pw_below_drewN|apply below_drew1|refine below_set ?_ GE316.out)|exact HB.out)) hb);clear HO_5;clear BK316;clear HB;have HO_5:=n0_;have HO327:=n1_;have BK316:=n2_;have HB:=n3_;clear n0_ n1_ n2_ n3_;clear hb ho13;obtain ⟨Ao14,co14,eo14⟩:=Kd.R_slice HO327.out;subst eo14)))
     go_loopg [5,31] k1 (fun kq v5 v31 w'=>∃ (x5_2 : List Int) (x31_2 : Int),v31 = .int .i64 x31_2 ∧ Aside0 (impl_Sea_placements.l1 kq a1 x5_2 x16_1 (Int.tmod x16_1 a0_0) (wrap64 (Int.tdiv x16_1 a0_0)) t320 x16_1 y325 (y325.length : Int) x31_2 a0_0 a0_1 l0_2 = some r) ∧ Aside0 (kq ≤ k1) ∧ Aside0 (Kd.R (Kd.int .i64) 2 w' w.heap.size (fun _=>True) v5 x5_2) ∧ Aside0 (Kd.R k79 79 w' w.heap.size (fun _=>True) (.slice Ao14 y325.length co14) y325) ∧ Aside0 (w'.heap[gb316]? = some (.cells #[.int .i64 a0_0,.int .i64 a0_1,(.slice A0_2 l0_2.length c0_2)] 28 (0,0))) ∧ Aside0 (Below w.heap.size w w'))
     case atStart=>exact ⟨(x5_1),(0),(by first|rfl|(simp;done)|(simp [*];done)),H',⟨Nat.le_refl _⟩,⟨by (with_reducible repeat (first|apply Kd.R_alloc|apply Kd.R_drewN|apply Kd.R_drew));exact HO_5.out⟩,⟨by (with_reducible repeat (first|apply Kd.R_alloc|apply Kd.R_drewN|apply Kd.R_drew));exact HO327.out⟩,⟨by (with_reducible repeat (first|refine blk_drewN ?_ _|refine blk_drew ?_|refine blk_alloc ?_ _));exact BK316.out⟩,⟨by repeat (first|(with_reducible first|exact HB.out|apply below_alloc|apply pw_below_drewN|apply below_drew1|refine below_set ?_ GE316.out)|exact HB.out)⟩⟩
     case round =>
      clear H'
      try clear c1
      try clear c2
      try clear p2
      try clear c4
      try clear p6
      try clear c9
      try clear c9b0
      try clear c10
      try clear c10b0
      try clear c10b1
      try clear hcz11_0
      try clear hcz11_1
      try clear hcz11_2
      try clear hcz7_0
      try clear hcz7_1
      try clear hcz7_2
      try clear hfz11_0
      try clear hfz11_1
      try clear hfz11_2
      try clear hfz7_0
      try clear hfz7_1
      try clear hfz7_2
      try clear p2
      obtain ⟨x5_2,x31_2,rfl,HA,HK2,HO_5,HO_29,BK316,HB⟩:=hrel
      cases gk with
      | zero => exact absurd HA.out (by simp [impl_Sea_placements.l1])
      | succ k2 =>
       have H:=HA.out
       clear HA
       simp only [impl_Sea_placements.l1] at H
       by_cases c15 : x31_2 < (y325.length : Int)
       ·rw [if_pos c15] at H
        have c15b0 : decide (x31_2 < (y325.length : Int)) = true:=decide_eq_true c15
        clear c15
        by_cases c16 : 0 ≤ x31_2
        ·rw [if_pos c16] at H
         have c16b0 : decide (0 ≤ x31_2) = true:=decide_eq_true c16
         clear c16
         by_cases c17 : x31_2 < (y325.length : Int)
         ·rw [if_pos c17] at H
          have c17b0 : decide (x31_2 < (y325.length : Int)) = true:=decide_eq_true c17
          clear c17
          have HC18:=Aside0.mk H
          clear H
          have p328 : 0 ≤ (x31_2 : Int):=of_decide_eq_true (by first|(with_reducible assumption)|assumption)
          have q328 : x31_2 < (y325.length : Int):=of_decide_eq_true (by first|(with_reducible assumption)|assumption)
          obtain ⟨ad328,e328,hx328_0,hx328_1⟩:=at_T79 (Kd.R_reads' HO_29.out).2.2 x31_2 p328 q328
          cases e328
          replace p328:=eq_true p328
          replace q328:=eq_true q328
          go_upto_region 9 with (first|((with_reducible refine gate_dst (N:=10) rfl ?_);refine box_event ?hg (N:=10) ?hd (cs:=#[.int .i64 0,.int .i64 0]) (t:=79) ?hr ?_;(case hd=>rfl);(case hg=>rfl);(case hr=>first|(go_simp;done)|(go_simp;rfl));intro gb329 hg w19 hbox hb;have n0_:=Aside0.mk (Kd.R_below (by (with_reducible repeat (first|apply Kd.R_alloc|apply Kd.R_drewN|apply Kd.R_drew));exact HO_5.out) hb);have n1_:=Aside0.mk (Kd.R_below (Kd.R_elderB (by (with_reducible repeat (first|apply Kd.R_alloc|apply Kd.R_drewN|apply Kd.R_drew));exact HO_29.out) gb329 (Nat.le_of_eq hg.symm)) hb);have n2_:=Aside0.mk (blk_below (g:=gb316) (o:=.cells #[.int .i64 a0_0,.int .i64 a0_1,.slice A0_2 l0_2.length c0_2] 28 (0,0)) (by (with_reducible repeat (first|refine blk_drewN ?_ _|refine blk_drew ?_|refine blk_alloc ?_ _));exact BK316.out) hb);have n3_:=Aside0.mk (below_step (by repeat (first|(with_reducible first|exact HB.out|apply below_alloc|apply pw_below_drewN|apply below_drew1|refine below_set ?_ GE316.out)|exact HB.out)) hb);have n4_:=Aside0.mk (hbox);have n5_:=Aside0.mk ((by rw [hg];exact (below_size (by repeat (first|(with_reducible first|exact HB.out|apply below_alloc|apply pw_below_drewN|apply below_drew1|refine below_set ?_ GE316.out)|exact HB.out))) : w.heap.size ≤ gb329));have n6_:=Aside0.mk ((by rw [hg];exact (below_size (by repeat (first|(with_reducible first|exact HB.out|apply below_alloc|apply pw_below_drewN|apply below_drew1|refine below_set ?_ GE316.out)|exact HB.out))) : w.heap.size ≤ gb329));have n7_:=Aside0.mk ((by rw [hg];exact Nat.ne_of_lt (blk_lt (g:=gb316) (o:=.cells #[.int .i64 a0_0,.int .i64 a0_1,.slice A0_2 l0_2.length c0_2] 28 (0,0)) (by (with_reducible repeat (first|refine blk_drewN ?_ _|refine blk_drew ?_|refine blk_alloc ?_ _));exact BK316.out)) : gb316 ≠ gb329));have n8_:=Aside0.mk ((by rw [hg];exact Nat.ne_of_gt (blk_lt (g:=gb316) (o:=.cells #[.int .i64 a0_0,.int .i64 a0_1,.slice A0_2 l0_2.length c0_2] 28 (0,0)) (by (with_reducible repeat (first|refine blk_drewN ?_ _|refine blk_drew ?_|refine blk_alloc ?_ _));exact BK316.out)) : gb329 ≠ gb316));clear HO_5;clear HO_29;clear BK316;clear HB;have HO_5:=n0_;have HO_29:=n1_;have BK316:=n2_;have HB:=n3_;have BK329:=n4_;have GW329:=n5_;have GE329:=n6_;have NB316_329:=n7_;have NB329_316:=n8_;clear n0_ n1_ n2_ n3_ n4_ n5_ n6_ n7_ n8_;clear hb hbox hg;have hnb20:=NB329_316.out;have hnc20:=NB316_329.out;have hcz21_0 : w19.cell? ⟨gb329,0,none⟩ = some (.int .i64 0):=(blk_cell BK329.out 0).trans rfl;have hcz21_1 : w19.cell? ⟨gb329,1,none⟩ = some (.int .i64 0):=(blk_cell BK329.out 1).trans rfl;have hfz21_0:=blk_frozen BK329.out 0;have hfz21_1:=blk_frozen BK329.out 1))
          repeat (go_quiet (first|((with_reducible refine gate_dst (N:=10) rfl ?_);refine box_event ?hg (N:=10) ?hd (cs:=#[.int .i64 0,.int .i64 0]) (t:=79) ?hr ?_;(case hd=>rfl);(case hg=>rfl);(case hr=>first|(go_simp;done)|(go_simp;rfl));intro gb329 hg w19 hbox hb;have n0_:=Aside0.mk (Kd.R_below (by (with_reducible repeat (first|apply Kd.R_alloc|apply Kd.R_drewN|apply Kd.R_drew));exact HO_5.out) hb);have n1_:=Aside0.mk (Kd.R_below (Kd.R_elderB (by (with_reducible repeat (first|apply Kd.R_alloc|apply Kd.R_drewN|apply Kd.R_drew));exact HO_29.out) gb329 (Nat.le_of_eq hg.symm)) hb);have n2_:=Aside0.mk (blk_below (g:=gb316) (o:=.cells #[.int .i64 a0_0,.int .i64 a0_1,.slice A0_2 l0_2.length c0_2] 28 (0,0)) (by (with_reducible repeat (first|refine blk_drewN ?_ _|refine blk_drew ?_|refine blk_alloc ?_ _));exact BK316.out) hb);have n3_:=Aside0.mk (below_step (by repeat (first|(with_reducible first|exact HB.out|apply below_alloc|apply pw_below_drewN|apply below_drew1|refine below_set ?_ GE316.out)|exact HB.out)) hb);have n4_:=Aside0.mk (hbox);have n5_:=Aside0.mk ((by rw [hg];exact (below_size (by repeat (first|(with_reducible first|exact HB.out|apply below_alloc|apply pw_below_drewN|apply below_drew1|refine below_set ?_ GE316.out)|exact HB.out))) : w.heap.size ≤ gb329));have n6_:=Aside0.mk ((by rw [hg];exact (below_size (by repeat (first|(with_reducible first|exact HB.out|apply below_alloc|apply pw_below_drewN|apply below_drew1|refine below_set ?_ GE316.out)|exact HB.out))) : w.heap.size ≤ gb329));have n7_:=Aside0.mk ((by rw [hg];exact Nat.ne_of_lt (blk_lt (g:=gb316) (o:=.cells #[.int .i64 a0_0,.int .i64 a0_1,.slice A0_2 l0_2.length c0_2] 28 (0,0)) (by (with_reducible repeat (first|refine blk_drewN ?_ _|refine blk_drew ?_|refine blk_alloc ?_ _));exact BK316.out)) : gb316 ≠ gb329));have n8_:=Aside0.mk ((by rw [hg];exact Nat.ne_of_gt (blk_lt (g:=gb316) (o:=.cells #[.int .i64 a0_0,.int .i64 a0_1,.slice A0_2 l0_2.length c0_2] 28 (0,0)) (by (with_reducible repeat (first|refine blk_drewN ?_ _|refine blk_drew ?_|refine blk_alloc ?_ _));exact BK316.out)) : gb329 ≠ gb316));clear HO_5;clear HO_29;clear BK316;clear HB;have HO_5:=n0_;have HO_29:=n1_;have BK316:=n2_;have HB:=n3_;have BK329:=n4_;have GW329:=n5_;have GE329:=n6_;have NB316_329:=n7_;have NB329_316:=n8_;clear n0_ n1_ n2_ n3_ n4_ n5_ n6_ n7_ n8_;clear hb hbox hg;have hnb20:=NB329_316.out;have hnc20:=NB316_329.out;have hcz21_0 : w19.cell? ⟨gb329,0,none⟩ = some (.int .i64 0):=(blk_cell BK329.out 0).trans rfl;have hcz21_1 : w19.cell? ⟨gb329,1,none⟩ = some (.int .i64 0):=(blk_cell BK329.out 1).trans rfl;have hfz21_0:=blk_frozen BK329.out 0;have hfz21_1:=blk_frozen BK329.out 1));go_upto_region 9 with (first|((with_reducible refine gate_dst (N:=10) rfl ?_);refine box_event ?hg (N:=10) ?hd (cs:=#[.int .i64 0,.int .i64 0]) (t:=79) ?hr ?_;(case hd=>rfl);(case hg=>rfl);(case hr=>first|(go_simp;done)|(go_simp;rfl));intro gb329 hg w19 hbox hb;have n0_:=Aside0.mk (Kd.R_below (by (with_reducible repeat (first|apply Kd.R_alloc|apply Kd.R_drewN|apply Kd.R_drew));exact HO_5.out) hb);have n1_:=Aside0.mk (Kd.R_below (Kd.R_elderB (by (with_reducible repeat (first|apply Kd.R_alloc|apply Kd.R_drewN|apply Kd.R_drew));exact HO_29.out) gb329 (Nat.le_of_eq hg.symm)) hb);have n2_:=Aside0.mk (blk_below (g:=gb316) (o:=.cells #[.int .i64 a0_0,.int .i64 a0_1,.slice A0_2 l0_2.length c0_2] 28 (0,0)) (by (with_reducible repeat (first|refine blk_drewN ?_ _|refine blk_drew ?_|refine blk_alloc ?_ _));exact BK316.out) hb);have n3_:=Aside0.mk (below_step (by repeat (first|(with_reducible first|exact HB.out|apply below_alloc|apply pw_below_drewN|apply below_drew1|refine below_set ?_ GE316.out)|exact HB.out)) hb);have n4_:=Aside0.mk (hbox);have n5_:=Aside0.mk ((by rw [hg];exact (below_size (by repeat (first|(with_reducible first|exact HB.out|apply below_alloc|apply pw_below_drewN|apply below_drew1|refine below_set ?_ GE316.out)|exact HB.out))) : w.heap.size ≤ gb329));have n6_:=Aside0.mk ((by rw [hg];exact (below_size (by repeat (first|(with_reducible first|exact HB.out|apply below_alloc|apply pw_below_drewN|apply below_drew1|refine below_set ?_ GE316.out)|exact HB.out))) : w.heap.size ≤ gb329));have n7_:=Aside0.mk ((by rw [hg];exact Nat.ne_of_lt (blk_lt (g:=gb316) (o:=.cells #[.int .i64 a0_0,.int .i64 a0_1,.slice A0_2 l0_2.length c0_2] 28 (0,0)) (by (with_reducible repeat (first|refine blk_drewN ?_ _|refine blk_drew ?_|refine blk_alloc ?_ _));exact BK316.out)) : gb316 ≠ gb329));have n8_:=Aside0.mk ((by rw [hg];exact Nat.ne_of_gt (blk_lt (g:=gb316) (o:=.cells #[.int .i64 a0_0,.int .i64 a0_1,.slice A0_2 l0_2.length c0_2] 28 (0,0)) (by (with_reducible repeat (first|refine blk_drewN ?_ _|refine blk_drew ?_|refine blk_alloc ?_ _));exact BK316.out)) : gb329 ≠ gb316));clear HO_5;clear HO_29;clear BK316;clear HB;have HO_5:=n0_;have HO_29:=n1_;have BK316:=n2_;have HB:=n3_;have BK329:=n4_;have GW329:=n5_;have GE329:=n6_;have NB316_329:=n7_;have NB329_316:=n8_;clear n0_ n1_ n2_ n3_ n4_ n5_ n6_ n7_ n8_;clear hb hbox hg;have hnb20:=NB329_316.out;have hnc20:=NB316_329.out;have hcz21_0 : w19.cell? ⟨gb329,0,none⟩ = some (.int .i64 0):=(blk_cell BK329.out 0).trans rfl;have hcz21_1 : w19.cell? ⟨gb329,1,none⟩ = some (.int .i64 0):=(blk_cell BK329.out 1).trans rfl;have hfz21_0:=blk_frozen BK329.out 0;have hfz21_1:=blk_frozen BK329.out 1)))
          (try simp only [Act.put,List.setIfInBounds_toArray,List.set_cons_zero,List.set_cons_succ])
          go_cut [56] (fun v56 wc=>∃ (kq : Nat) (x56_17 : Bool),v56 = .bool x56_17 ∧ Aside0 (impl_Sea_placements.j2 kq a1 x5_2 x16_1 (Int.tmod x16_1 a0_0) (wrap64 (Int.tdiv x16_1 a0_0)) t320 x16_1 y325 (y325.length : Int) x31_2 x56_17 a0_0 a0_1 l0_2 ((rd_T79 y325 x31_2).f0) ((rd_T79 y325 x31_2).f1) = some r) ∧ Aside0 (kq ≤ k2) ∧ Aside0 (Kd.R (Kd.int .i64) 2 wc w.heap.size (fun _=>True) u5 x5_2) ∧ Aside0 (Kd.R k79 79 wc w.heap.size (fun k_=>k_ ≠ gb329) (.slice (some ad328) y325.length co14) y325) ∧ Aside0 (wc.heap[gb316]? = some (.cells #[.int .i64 a0_0,.int .i64 a0_1,(.slice A0_2 l0_2.length c0_2)] 28 (0,0))) ∧ Aside0 (wc.heap[gb329]? = some (.cells #[.int .i64 ((rd_T79 y325 x31_2).f0),.int .i64 ((rd_T79 y325 x31_2).f1)] 79 (0,0))) ∧ Aside0 (Below w.heap.size w wc))
          case first =>
           have H:=HC18.out
           clear HC18
           by_cases c22 : (wrap64 ((Int.tmod x16_1 a0_0) + (wrap64 ((wrap64 (a1 - 1)) * ((rd_T79 y325 x31_2).f0))))) ≥ a0_0
           ·rw [if_pos c22] at H
            have c22b0 : decide (a0_0 ≤ (wrap64 ((Int.tmod x16_1 a0_0) + (wrap64 ((wrap64 (a1 - 1)) * ((rd_T79 y325 x31_2).f0)))))) = true:=decide_eq_true c22
            clear c22
            (first|rw [c22b0]|(simp only [i64_w,i32_w];rw [c22b0])|skip)
            have H':=Aside0.mk H
            clear H
            have hnb23:=NB329_316.out
            have hnc23:=NB316_329.out
            have hcz24_0 : w19.cell? ⟨gb329,0,none⟩ = some (.int .i64 0):=(blk_cell BK329.out 0).trans rfl
            have hcz24_1 : w19.cell? ⟨gb329,1,none⟩ = some (.int .i64 0):=(blk_cell BK329.out 1).trans rfl
            have hfz24_0:=blk_frozen BK329.out 0
            have hfz24_1:=blk_frozen BK329.out 1
            have hcz25_0 : w19.cell? ⟨gb316,0,none⟩ = some (.int .i64 a0_0):=(blk_cell BK316.out 0).trans rfl
            have hcz25_1 : w19.cell? ⟨gb316,1,none⟩ = some (.int .i64 a0_1):=(blk_cell BK316.out 1).trans rfl
            have hcz25_2 : w19.cell? ⟨gb316,2,none⟩ = some (.slice A0_2 l0_2.length c0_2):=(blk_cell BK316.out 2).trans rfl
            have hfz25_0:=blk_frozen BK316.out 0
            have hfz25_1:=blk_frozen BK316.out 1
            have hfz25_2:=blk_frozen BK316.out 2
            go_wp2
            repeat (go_quiet (fail);try go_wp2)
            go_meet
            case rel=>exact ⟨_,(true),(by first|rfl|(simp;done)|(simp [*];done)),H',⟨by have:=HK1.out;have:=HK2.out;first|omega|exact Nat.le_refl _⟩,⟨by (with_reducible repeat (first|apply Kd.R_alloc|apply Kd.R_drewN|apply Kd.R_drew));exact Kd.R_mono (Kd.R_far (p:=⟨gb329,1,none⟩) (Kd.R_far (p:=⟨gb329,0,none⟩) (Kd.R_types HO_5.out BK329.out (by decide)) (fun _ hk=>hk.2) (.int .i64 ((rd_T79 y325 x31_2).f0))) (fun _ hk=>hk.2) (.int .i64 ((rd_T79 y325 x31_2).f1))) (fun _ hk=>trivial)⟩,⟨by (with_reducible repeat (first|apply Kd.R_alloc|apply Kd.R_drewN|apply Kd.R_drew));exact Kd.R_mono (Kd.R_far (p:=⟨gb329,1,none⟩) (Kd.R_far (p:=⟨gb329,0,none⟩) (Kd.R_mono HO_29.out (fun k_ hk=>(⟨hk,hk.2⟩ : _ ∧ k_ ≠ gb329))) (fun _ hk=>hk.2) (.int .i64 ((rd_T79 y325 x31_2).f0))) (fun _ hk=>hk.2) (.int .i64 ((rd_T79 y325 x31_2).f1))) (fun _ hk=>hk.1.2)⟩,⟨by (with_reducible repeat (first|refine blk_drewN ?_ _|refine blk_drew ?_|refine blk_alloc ?_ _));refine blk_far ?_ NB316_329.out _;(with_reducible repeat (first|refine blk_drewN ?_ _|refine blk_drew ?_|refine blk_alloc ?_ _));refine blk_far ?_ NB316_329.out _;(with_reducible repeat (first|refine blk_drewN ?_ _|refine blk_drew ?_|refine blk_alloc ?_ _));exact BK316.out⟩,⟨by (with_reducible repeat (first|refine blk_drewN ?_ _|refine blk_drew ?_|refine blk_alloc ?_ _));refine blk_put (cs:=#[.int .i64 ((rd_T79 y325 x31_2).f0),.int .i64 0]) ?_ 1 _ rfl;(with_reducible repeat (first|refine blk_drewN ?_ _|refine blk_drew ?_|refine blk_alloc ?_ _));refine blk_put (cs:=#[.int .i64 0,.int .i64 0]) ?_ 0 _ rfl;(with_reducible repeat (first|refine blk_drewN ?_ _|refine blk_drew ?_|refine blk_alloc ?_ _));exact BK329.out⟩,⟨by repeat (first|(with_reducible first|exact HB.out|apply below_alloc|apply pw_below_drewN|apply below_drew1|refine below_set ?_ GE316.out|refine below_set ?_ GE329.out)|exact HB.out)⟩⟩
           ·rw [if_neg c22] at H
            have c22b0 : decide (a0_0 ≤ (wrap64 ((Int.tmod x16_1 a0_0) + (wrap64 ((wrap64 (a1 - 1)) * ((rd_T79 y325 x31_2).f0)))))) = false:=decide_eq_false c22
            clear c22
            (first|rw [c22b0]|(simp only [i64_w,i32_w];rw [c22b0])|skip)
            have H':=Aside0.mk H
            clear H
            have hnb26:=NB329_316.out
            have hnc26:=NB316_329.out
            have hcz27_0 : w19.cell? ⟨gb329,0,none⟩ = some (.int .i64 0):=(blk_cell BK329.out 0).trans rfl
            have hcz27_1 : w19.cell? ⟨gb329,1,none⟩ = some (.int .i64 0):=(blk_cell BK329.out 1).trans rfl
            have hfz27_0:=blk_frozen BK329.out 0
            have hfz27_1:=blk_frozen BK329.out 1
            have hcz28_0 : w19.cell? ⟨gb316,0,none⟩ = some (.int .i64 a0_0):=(blk_cell BK316.out 0).trans rfl
            have hcz28_1 : w19.cell? ⟨gb316,1,none⟩ = some (.int .i64 a0_1):=(blk_cell BK316.out 1).trans rfl
            have hcz28_2 : w19.cell? ⟨gb316,2,none⟩ = some (.slice A0_2 l0_2.length c0_2):=(blk_cell BK316.out 2).trans rfl
            have hfz28_0:=blk_frozen BK316.out 0
            have hfz28_1:=blk_frozen BK316.out 1
            have hfz28_2:=blk_frozen BK316.out 2
            go_wp2
            repeat (go_quiet (fail);try go_wp2)
            go_meet
            case rel=>exact ⟨_,(decide ((wrap64 ((wrap64 (Int.tdiv x16_1 a0_0)) + (wrap64 ((wrap64 (a1 - 1)) * ((rd_T79 y325 x31_2).f1))))) ≥ a0_1)),(by first|rfl|(simp;done)|(simp [*];done)),H',⟨by have:=HK1.out;have:=HK2.out;first|omega|exact Nat.le_refl _⟩,⟨by (with_reducible repeat (first|apply Kd.R_alloc|apply Kd.R_drewN|apply Kd.R_drew));exact Kd.R_mono (Kd.R_far (p:=⟨gb329,1,none⟩) (Kd.R_far (p:=⟨gb329,0,none⟩) (Kd.R_types HO_5.out BK329.out (by decide)) (fun _ hk=>hk.2) (.int .i64 ((rd_T79 y325 x31_2).f0))) (fun _ hk=>hk.2) (.int .i64 ((rd_T79 y325 x31_2).f1))) (fun _ hk=>trivial)⟩,⟨by (with_reducible repeat (first|apply Kd.R_alloc|apply Kd.R_drewN|apply Kd.R_drew));exact Kd.R_mono (Kd.R_far (p:=⟨gb329,1,none⟩) (Kd.R_far (p:=⟨gb329,0,none⟩) (Kd.R_mono HO_29.out (fun k_ hk=>(⟨hk,hk.2⟩ : _ ∧ k_ ≠ gb329))) (fun _ hk=>hk.2) (.int .i64 ((rd_T79 y325 x31_2).f0))) (fun _ hk=>hk.2) (.int .i64 ((rd_T79 y325 x31_2).f1))) (fun _ hk=>hk.1.2)⟩,⟨by (with_reducible repeat (first|refine blk_drewN ?_ _|refine blk_drew ?_|refine blk_alloc ?_ _));refine blk_far ?_ NB316_329.out _;(with_reducible repeat (first|refine blk_drewN ?_ _|refine blk_drew ?_|refine blk_alloc ?_ _));refine blk_far ?_ NB316_329.out _;(with_reducible repeat (first|refine blk_drewN ?_ _|refine blk_drew ?_|refine blk_alloc ?_ _));exact BK316.out⟩,⟨by (with_reducible repeat (first|refine blk_drewN ?_ _|refine blk_drew ?_|refine blk_alloc ?_ _));refine blk_put (cs:=#[.int .i64 ((rd_T79 y325 x31_2).f0),.int .i64 0]) ?_ 1 _ rfl;(with_reducible repeat (first|refine blk_drewN ?_ _|refine blk_drew ?_|refine blk_alloc ?_ _));refine blk_put (cs:=#[.int .i64 0,.int .i64 0]) ?_ 0 _ rfl;(with_reducible repeat (first|refine blk_drewN ?_ _|refine blk_drew ?_|refine blk_alloc ?_ _));exact BK329.out⟩,⟨by repeat (first|(with_reducible first|exact HB.out|apply below_alloc|apply pw_below_drewN|apply below_drew1|refine below_set ?_ GE316.out|refine below_set ?_ GE329.out)|exact HB.out)⟩⟩
          case rest =>
           clear HC18
           try clear c1
           try clear c2
           try clear p2
           try clear p3
           try clear q3
           try clear hx3
           try clear c4
           try clear p6
           try clear c9
           try clear c9b0
           try clear c10
           try clear c10b0
           try clear c10b1
           try clear c15
           try clear c15b0
           try clear c16
           try clear c16b0
           try clear c17
           try clear c17b0
           try clear c20
           try clear c22
           try clear c22b0
           try clear c23
           try clear c26
           try clear hcz11_0
           try clear hcz11_1
           try clear hcz11_2
           try clear hcz21_0
           try clear hcz21_1
           try clear hcz24_0
           try clear hcz24_1
           try clear hcz25_0
           try clear hcz25_1
           try clear hcz25_2
           try clear hcz27_0
           try clear hcz27_1
           try clear hcz28_0
           try clear hcz28_1
           try clear hcz28_2
           try clear hcz7_0
           try clear hcz7_1
           try clear hcz7_2
           try clear hfz11_0
           try clear hfz11_1
           try clear hfz11_2
           try clear hfz21_0
           try clear hfz21_1
           try clear hfz24_0
           try clear hfz24_1
           try clear hfz25_0
           try clear hfz25_1
           try clear hfz25_2
           try clear hfz27_0
           try clear hfz27_1
           try clear hfz28_0
           try clear hfz28_1
           try clear hfz28_2
           try clear hfz7_0
           try clear hfz7_1
           try clear hfz7_2
           try clear hx328_0
           try clear hx328_1
           try clear p2
           try clear p328
           try clear p6
           try clear q328
           obtain ⟨kq,x56_17,rfl,HA,HJ17,HO_5,HO_29,BK316,BK329,HB⟩:=hcut
           cases kq with
           | zero => exact absurd HA.out (by simp [impl_Sea_placements.j2])
           | succ kj17 =>
            have H:=HA.out
            clear HA
            simp only [impl_Sea_placements.j2] at H
            by_cases c29 : x56_17 = true
            ·subst c29
             have H1 : (impl_Sea_placements.l1 kj17 a1 x5_2 x16_1 (Int.tmod x16_1 a0_0) (wrap64 (Int.tdiv x16_1 a0_0)) t320 x16_1 y325 (y325.length : Int) (wrap64 (x31_2 + 1)) a0_0 a0_1 l0_2) = some r:=by rw [if_pos rfl] at H;exact H
             clear H
             have H:=H1
             clear H1
             have H':=Aside0.mk H
             clear H
             go_wp2
             repeat (go_quiet (fail);try go_wp2)
             go_roundg kj17
             case measure=>have:=HK1.out;have:=HK2.out;have:=HJ17.out;omega
             case rel=>exact ⟨(x5_2),(wrap64 (x31_2 + 1)),(by first|rfl|(simp;done)|(simp [*];done)),H',⟨by have:=HK1.out;have:=HK2.out;have:=HJ17.out;omega⟩,⟨by (with_reducible repeat (first|apply Kd.R_alloc|apply Kd.R_drewN|apply Kd.R_drew));exact HO_5.out⟩,⟨by (with_reducible repeat (first|apply Kd.R_alloc|apply Kd.R_drewN|apply Kd.R_drew));exact Kd.R_mono HO_29.out (fun _ hk=>trivial)⟩,⟨by (with_reducible repeat (first|refine blk_drewN ?_ _|refine blk_drew ?_|refine blk_alloc ?_ _));exact BK316.out⟩,⟨by repeat (first|(with_reducible first|exact HB.out|apply below_alloc|apply pw_below_drewN|apply below_drew1|refine below_set ?_ GE316.out|refine below_set ?_ GE329.out)|exact HB.out)⟩⟩
            ·replace c29:=Bool.eq_false_iff.mpr c29
             subst c29
             have H1 : (impl_Sea_placements.l2 kj17 a1 x5_2 x16_1 (Int.tmod x16_1 a0_0) (wrap64 (Int.tdiv x16_1 a0_0)) 0 t320 x16_1 y325 (y325.length : Int) x31_2 a1 0 a0_0 a0_1 l0_2 ((rd_T79 y325 x31_2).f0) ((rd_T79 y325 x31_2).f1)) = some r:=by rw [if_neg (show ¬ (false = true) by decide)] at H;exact H
             clear H
             have H:=H1
             clear H1
             have H':=Aside0.mk H
             clear H
             go_wp2
             repeat (go_quiet (fail);try go_wp2)
             go_loopg [11,58] kj17 (fun kq v11 v58 w'=>∃ (x11_4 : Int) (x58_4 : Int),v11 = .int .i64 x11_4 ∧ v58 = .int .i64 x58_4 ∧ Aside0 (impl_Sea_placements.l2 kq a1 x5_2 x16_1 (Int.tmod x16_1 a0_0) (wrap64 (Int.tdiv x16_1 a0_0)) x11_4 t320 x16_1 y325 (y325.length : Int) x31_2 a1 x58_4 a0_0 a0_1 l0_2 ((rd_T79 y325 x31_2).f0) ((rd_T79 y325 x31_2).f1) = some r) ∧ Aside0 (kq ≤ kj17) ∧ Aside0 (Kd.R (Kd.int .i64) 2 w' w.heap.size (fun _=>True) u5 x5_2) ∧ Aside0 (Kd.R k79 79 w' w.heap.size (fun k_=>k_ ≠ gb329) (.slice (some ad328) y325.length co14) y325) ∧ Aside0 (w'.heap[gb316]? = some (.cells #[.int .i64 a0_0,.int .i64 a0_1,(.slice A0_2 l0_2.length c0_2)] 28 (0,0))) ∧ Aside0 (w'.heap[gb329]? = some (.cells #[.int .i64 ((rd_T79 y325 x31_2).f0),.int .i64 ((rd_T79 y325 x31_2).f1)] 79 (0,0))) ∧ Aside0 (Below w.heap.size w w'))
             case atStart=>exact ⟨(0),(0),(by first|rfl|(simp;done)|(simp [*];done)),(by first|rfl|(simp;done)|(simp [*];done)),H',⟨Nat.le_refl _⟩,⟨by (with_reducible repeat (first|apply Kd.R_alloc|apply Kd.R_drewN|apply Kd.R_drew));exact HO_5.out⟩,⟨by (with_reducible repeat (first|apply Kd.R_alloc|apply Kd.R_drewN|apply Kd.R_drew));exact HO_29.out⟩,⟨by (with_reducible repeat (first|refine blk_drewN ?_ _|refine blk_drew ?_|refine blk_alloc ?_ _));exact BK316.out⟩,⟨by (with_reducible repeat (first|refine blk_drewN ?_ _|refine blk_drew ?_|refine blk_alloc ?_ _));exact BK329.out⟩,⟨by repeat (first|(with_reducible first|exact HB.out|apply below_alloc|apply pw_below_drewN|apply below_drew1|refine below_set ?_ GE316.out|refine below_set ?_ GE329.out)|exact HB.out)⟩⟩
             case round =>
              clear H'
              try clear c1
              try clear c2
              try clear p2
              try clear p3
              try clear q3
              try clear hx3
              try clear c4
              try clear p6
              try clear c9
              try clear c9b0
              try clear c10
              try clear c10b0
              try clear c10b1
              try clear c15
              try clear c15b0
              try clear c16
              try clear c16b0
              try clear c17
              try clear c17b0
              try clear c20
              try clear c22
              try clear c22b0
              try clear c23
              try clear c26
              try clear c29
              try clear hcz11_0
              try clear hcz11_1
              try clear hcz11_2
              try clear hcz21_0
              try clear hcz21_1
              try clear hcz24_0
              try clear hcz24_1
              try clear hcz25_0
              try clear hcz25_1
              try clear hcz25_2
              try clear hcz27_0
              try clear hcz27_1
              try clear hcz28_0
              try clear hcz28_1
              try clear hcz28_2
              try clear hcz7_0
              try clear hcz7_1
              try clear hcz7_2
              try clear hfz11_0
              try clear hfz11_1
              try clear hfz11_2
              try clear hfz21_0
              try clear hfz21_1
              try clear hfz24_0
              try clear hfz24_1
              try clear hfz25_0
              try clear hfz25_1
              try clear hfz25_2
              try clear hfz27_0
              try clear hfz27_1
              try clear hfz28_0
              try clear hfz28_1
              try clear hfz28_2
              try clear hfz7_0
              try clear hfz7_1
              try clear hfz7_2
              try clear hx328_0
              try clear hx328_1
              try clear p2
              try clear p3
              try clear p328
              try clear p6
              try clear q3
              try clear q328
              obtain ⟨x11_4,x58_4,rfl,rfl,HA,HK4,HO_5,HO_29,BK316,BK329,HB⟩:=hrel
              cases gk with
              | zero => exact absurd HA.out (by simp [impl_Sea_placements.l2])
              | succ k4 =>
               have H:=HA.out
               clear HA
               simp only [impl_Sea_placements.l2] at H
               by_cases c30 : x58_4 < a1
               ·rw [if_pos c30] at H
                have c30b0 : decide (x58_4 < a1) = true:=decide_eq_true c30
                clear c30
                obtain ⟨ji31,hji31⟩ : ∃ j_ : Int,(wrap64 (x16_1 + (wrap64 (x58_4 * (wrap64 (((rd_T79 y325 x31_2).f0) + (wrap64 (((rd_T79 y325 x31_2).f1) * a0_0)))))))) = j_:=⟨_,rfl⟩
                replace H : (if 0 ≤ (ji31) then (impl_Sea_placements.l2 k4 a1 x5_2 x16_1 (Int.tmod x16_1 a0_0) (wrap64 (Int.tdiv x16_1 a0_0)) (Go.bits .or .i64 x11_4 (shl .i64 1 (ji31))) t320 x16_1 y325 (y325.length : Int) x31_2 a1 (wrap64 (x58_4 + 1)) a0_0 a0_1 l0_2 ((rd_T79 y325 x31_2).f0) ((rd_T79 y325 x31_2).f1)) else (none)) = some r:=by first|(rw [hji31] at H;exact H)|(simp only [hji31] at H ⊢;exact H)
                have hji31w : (IntKind.i64.wrap (x16_1 + (wrap64 (x58_4 * (wrap64 (((rd_T79 y325 x31_2).f0) + (wrap64 (((rd_T79 y325 x31_2).f1) * a0_0)))))))) = ji31:=(i64_w _).trans hji31
                by_cases c32 : 0 ≤ (ji31)
                ·rw [if_pos c32] at H
                 have c32b0:=eq_true c32
                 have c32b1 : decide (0 ≤ (ji31)) = true:=decide_eq_true c32
                 clear c32
                 obtain ⟨ji33,hji33⟩ : ∃ j_ : Int,(shl .i64 1 (ji31)) = j_:=⟨_,rfl⟩
                 replace H : (impl_Sea_placements.l2 k4 a1 x5_2 x16_1 (Int.tmod x16_1 a0_0) (wrap64 (Int.tdiv x16_1 a0_0)) (Go.bits .or .i64 x11_4 (ji33)) t320 x16_1 y325 (y325.length : Int) x31_2 a1 (wrap64 (x58_4 + 1)) a0_0 a0_1 l0_2 ((rd_T79 y325 x31_2).f0) ((rd_T79 y325 x31_2).f1)) = some r:=by first|(rw [hji33] at H;exact H)|(simp only [hji33] at H ⊢;exact H)
                 have hji33_ : (IntKind.i64.wrap (1 * 2 ^ min (ji31).toNat 64)) = ji33:=hji33
                 have hji33z : (ji31) ≤ 64 → (IntKind.i64.wrap (1 * 2 ^ (ji31).toNat)) = ji33:=shl_small hji33
                 have hji33u : (IntKind.i64.wrap (2 ^ min (ji31).toNat 64)) = ji33:=by have h_:=hji33_;rw [Int.one_mul] at h_;exact h_
                 have hji33v : (ji31) ≤ 64 → (IntKind.i64.wrap (2 ^ (ji31).toNat)) = ji33:=fun hle_=>by have h_:=hji33z hle_;rw [Int.one_mul] at h_;exact h_
                 have hji33y : (wrap64 (1 * 2 ^ min (ji31).toNat 64)) = ji33:=(i64_w _).symm.trans hji33_
                 have hji33x : (ji31) ≤ 64 → (wrap64 (1 * 2 ^ (ji31).toNat)) = ji33:=fun h_=>(i64_w _).symm.trans (hji33z h_)
                 have H':=Aside0.mk H
                 clear H
                 have hnb34:=NB329_316.out
                 have hnc34:=NB316_329.out
                 have hcz35_0 : wr.cell? ⟨gb329,0,none⟩ = some (.int .i64 ((rd_T79 y325 x31_2).f0)):=(blk_cell BK329.out 0).trans rfl
                 have hcz35_1 : wr.cell? ⟨gb329,1,none⟩ = some (.int .i64 ((rd_T79 y325 x31_2).f1)):=(blk_cell BK329.out 1).trans rfl
                 have hfz35_0:=blk_frozen BK329.out 0
                 have hfz35_1:=blk_frozen BK329.out 1
                 have hcz36_0 : wr.cell? ⟨gb316,0,none⟩ = some (.int .i64 a0_0):=(blk_cell BK316.out 0).trans rfl
                 have hcz36_1 : wr.cell? ⟨gb316,1,none⟩ = some (.int .i64 a0_1):=(blk_cell BK316.out 1).trans rfl
                 have hcz36_2 : wr.cell? ⟨gb316,2,none⟩ = some (.slice A0_2 l0_2.length c0_2):=(blk_cell BK316.out 2).trans rfl
                 have hfz36_0:=blk_frozen BK316.out 0
                 have hfz36_1:=blk_frozen BK316.out 1
                 have hfz36_2:=blk_frozen BK316.out 2
                 go_wp2
                 repeat (go_quiet (fail);try go_wp2)
                 go_roundg k4
                 case measure=>have:=HK1.out;have:=HK2.out;have:=HJ17.out;have:=HK4.out;omega
                 case rel=>exact ⟨(Go.bits .or .i64 x11_4 (ji33)),(wrap64 (x58_4 + 1)),(by first|rfl|(simp;done)|(simp only [← hji33] <;> (first|rfl|simp))|(simp [*];done)),(by first|rfl|(simp;done)|(simp [*];done)),H',⟨by have:=HK1.out;have:=HK2.out;have:=HJ17.out;have:=HK4.out;omega⟩,⟨by (with_reducible repeat (first|apply Kd.R_alloc|apply Kd.R_drewN|apply Kd.R_drew));exact HO_5.out⟩,⟨by (with_reducible repeat (first|apply Kd.R_alloc|apply Kd.R_drewN|apply Kd.R_drew));exact HO_29.out⟩,⟨by (with_reducible repeat (first|refine blk_drewN ?_ _|refine blk_drew ?_|refine blk_alloc ?_ _));exact BK316.out⟩,⟨by (with_reducible repeat (first|refine blk_drewN ?_ _|refine blk_drew ?_|refine blk_alloc ?_ _));exact BK329.out⟩,⟨by repeat (first|(with_reducible first|exact HB.out|apply below_alloc|apply pw_below_drewN|apply below_drew1|refine below_set ?_ GE316.out|refine below_set ?_ GE329.out)|exact HB.out)⟩⟩
                ·rw [if_neg c32] at H
                 exact absurd H (by simp)
               ·rw [if_neg c30] at H
                have c30b0 : decide (x58_4 < a1) = false:=decide_eq_false c30
                clear c30
                by_cases c37 : x5_2.length < 17592186044416
                ·rw [if_pos c37] at H
                 have LMc37:=Aside0.mk c37
                 clear c37
                 obtain ⟨y330,hy330⟩ : ∃ y_ : List Int,y_ = (x5_2 ++ [x11_4]):=⟨_,rfl⟩
                 replace H : (impl_Sea_placements.l1 k4 a1 y330 x16_1 (Int.tmod x16_1 a0_0) (wrap64 (Int.tdiv x16_1 a0_0)) t320 x16_1 y325 (y325.length : Int) (wrap64 (x31_2 + 1)) a0_0 a0_1 l0_2) = some r:=by first|(rw [hy330];with_reducible exact H)|(have H2_:=(Option.bind_some _ _).symm.trans H;rw [hy330];with_reducible exact H2_)|(have H2_:=(Option.bind_some _ _).symm.trans H;with_reducible exact H2_)|with_reducible exact H|(rw [hy330];exact H)|exact H
                 have Ny330:=Aside0.mk hy330
                 clear hy330
                 have H':=Aside0.mk H
                 clear H
                 go_wp2_with (first|((with_reducible refine gate_builtin (b:=.append) (xs:=#[.tmp 77,.tmp 79]) rfl ?_);at_builtin;refine Kd.R_append (Kd.int .i64) (w0:=w) w.heap.size rfl (.tmp 77) (.tmp 79) 22 2 (.int .i64 0) 8 rfl Try.underlying22 info2 rfl (by decide) (by omega) u5 x5_2 x11_4 [.int .i64 x11_4] (fun _=>True) (fun _=>False) rfl rfl ?aP (fun _ hk=>hk.elim) ?aF ?aO ?aB ?aS ?aL ?_;(case aP=>exact rfl);(case aB=>exact (by repeat (first|(with_reducible first|exact HB.out|apply below_alloc|apply pw_below_drewN|apply below_drew1|refine below_set ?_ GE316.out|refine below_set ?_ GE329.out)|exact HB.out)));(case aF=>exact (fun _ _=>trivial));(case aO=>exact (by (with_reducible repeat (first|apply Kd.R_alloc|apply Kd.R_drewN|apply Kd.R_drew));exact HO_5.out));(case aS=>exact (below_size (by repeat (first|(with_reducible first|exact HB.out|apply below_alloc|apply pw_below_drewN|apply below_drew1|refine below_set ?_ GE316.out|refine below_set ?_ GE329.out)|exact HB.out))));(case aL=>have:=LMc37.out;omega);intro v331 w38 ho hb hg hat;rw [← Ny330.out] at ho;have n0_:=Aside0.mk (Kd.R_over' (by (with_reducible repeat (first|apply Kd.R_alloc|apply Kd.R_drewN|apply Kd.R_drew));exact HO_29.out) (Kd.R_typed (by (with_reducible repeat (first|apply Kd.R_alloc|apply Kd.R_drewN|apply Kd.R_drew));exact HO_5.out)) (by decide) hg);have n1_:=Aside0.mk (blk_grown (g:=gb316) (o:=.cells #[.int .i64 a0_0,.int .i64 a0_1,.slice A0_2 l0_2.length c0_2] 28 (0,0)) (by (with_reducible repeat (first|refine blk_drewN ?_ _|refine blk_drew ?_|refine blk_alloc ?_ _));exact BK316.out) hg (Kd.R_ne HO_5.out BK316.out (by decide)));have n2_:=Aside0.mk (blk_grown (g:=gb329) (o:=.cells #[.int .i64 ((rd_T79 y325 x31_2).f0),.int .i64 ((rd_T79 y325 x31_2).f1)] 79 (0,0)) (by (with_reducible repeat (first|refine blk_drewN ?_ _|refine blk_drew ?_|refine blk_alloc ?_ _));exact BK329.out) hg (Kd.R_ne HO_5.out BK329.out (by decide)));have n3_:=Aside0.mk (hb);have n4_:=Aside0.mk (ho);clear HO_29;clear BK316;clear BK329;clear HB;clear HO_5;have HO_29:=n0_;have BK316:=n1_;have BK329:=n2_;have HB:=n3_;have HO332:=n4_;clear n0_ n1_ n2_ n3_ n4_;clear ho hb hg hat))
                 repeat (go_quiet (first|((with_reducible refine gate_builtin (b:=.append) (xs:=#[.tmp 77,.tmp 79]) rfl ?_);at_builtin;refine Kd.R_append (Kd.int .i64) (w0:=w) w.heap.size rfl (.tmp 77) (.tmp 79) 22 2 (.int .i64 0) 8 rfl Try.underlying22 info2 rfl (by decide) (by omega) u5 x5_2 x11_4 [.int .i64 x11_4] (fun _=>True) (fun _=>False) rfl rfl ?aP (fun _ hk=>hk.elim) ?aF ?aO ?aB ?aS ?aL ?_;(case aP=>exact rfl);(case aB=>exact (by repeat (first|(with_reducible first|exact HB.out|apply below_alloc|apply pw_below_drewN|apply below_drew1|refine below_set ?_ GE316.out|refine below_set ?_ GE329.out)|exact HB.out)));(case aF=>exact (fun _ _=>trivial));(case aO=>exact (by (with_reducible repeat (first|apply Kd.R_alloc|apply Kd.R_drewN|apply Kd.R_drew));exact HO_5.out));(case aS=>exact (below_size (by repeat (first|(with_reducible first|exact HB.out|apply below_alloc|apply pw_below_drewN|apply below_drew1|refine below_set ?_ GE316.out|refine below_set ?_ GE329.out)|exact HB.out))));(case aL=>have:=LMc37.out;omega);intro v331 w38 ho hb hg hat;rw [← Ny330.out] at ho;have n0_:=Aside0.mk (Kd.R_over' (by (with_reducible repeat (first|apply Kd.R_alloc|apply Kd.R_drewN|apply Kd.R_drew));exact HO_29.out) (Kd.R_typed (by (with_reducible repeat (first|apply Kd.R_alloc|apply Kd.R_drewN|apply Kd.R_drew));exact HO_5.out)) (by decide) hg);have n1_:=Aside0.mk (blk_grown (g:=gb316) (o:=.cells #[.int .i64 a0_0,.int .i64 a0_1,.slice A0_2 l0_2.length c0_2] 28 (0,0)) (by (with_reducible repeat (first|refine blk_drewN ?_ _|refine blk_drew ?_|refine blk_alloc ?_ _));exact BK316.out) hg (Kd.R_ne HO_5.out BK316.out (by decide)));have n2_:=Aside0.mk (blk_grown (g:=gb329) (o:=.cells #[.int .i64 ((rd_T79 y325 x31_2).f0),.int .i64 ((rd_T79 y325 x31_2).f1)] 79 (0,0)) (by (with_reducible repeat (first|refine blk_drewN ?_ _|refine blk_drew ?_|refine blk_alloc ?_ _));exact BK329.out) hg (Kd.R_ne HO_5.out BK329.out (by decide)));have n3_:=Aside0.mk (hb);have n4_:=Aside0.mk (ho);clear HO_29;clear BK316;clear BK329;clear HB;clear HO_5;have HO_29:=n0_;have BK316:=n1_;have BK329:=n2_;have HB:=n3_;have HO332:=n4_;clear n0_ n1_ n2_ n3_ n4_;clear ho hb hg hat));try go_wp2_with (first|((with_reducible refine gate_builtin (b:=.append) (xs:=#[.tmp 77,.tmp 79]) rfl ?_);at_builtin;refine Kd.R_append (Kd.int .i64) (w0:=w) w.heap.size rfl (.tmp 77) (.tmp 79) 22 2 (.int .i64 0) 8 rfl Try.underlying22 info2 rfl (by decide) (by omega) u5 x5_2 x11_4 [.int .i64 x11_4] (fun _=>True) (fun _=>False) rfl rfl ?aP (fun _ hk=>hk.elim) ?aF ?aO ?aB ?aS ?aL ?_;(case aP=>exact rfl);(case aB=>exact (by repeat (first|(with_reducible first|exact HB.out|apply below_alloc|apply pw_below_drewN|apply below_drew1|refine below_set ?_ GE316.out|refine below_set ?_ GE329.out)|exact HB.out)));(case aF=>exact (fun _ _=>trivial));(case aO=>exact (by (with_reducible repeat (first|apply Kd.R_alloc|apply Kd.R_drewN|apply Kd.R_drew));exact HO_5.out));(case aS=>exact (below_size (by repeat (first|(with_reducible first|exact HB.out|apply below_alloc|apply pw_below_drewN|apply below_drew1|refine below_set ?_ GE316.out|refine below_set ?_ GE329.out)|exact HB.out))));(case aL=>have:=LMc37.out;omega);intro v331 w38 ho hb hg hat;rw [← Ny330.out] at ho;have n0_:=Aside0.mk (Kd.R_over' (by (with_reducible repeat (first|apply Kd.R_alloc|apply Kd.R_drewN|apply Kd.R_drew));exact HO_29.out) (Kd.R_typed (by (with_reducible repeat (first|apply Kd.R_alloc|apply Kd.R_drewN|apply Kd.R_drew));exact HO_5.out)) (by decide) hg);have n1_:=Aside0.mk (blk_grown (g:=gb316) (o:=.cells #[.int .i64 a0_0,.int .i64 a0_1,.slice A0_2 l0_2.length c0_2] 28 (0,0)) (by (with_reducible repeat (first|refine blk_drewN ?_ _|refine blk_drew ?_|refine blk_alloc ?_ _));exact BK316.out) hg (Kd.R_ne HO_5.out BK316.out (by decide)));have n2_:=Aside0.mk (blk_grown (g:=gb329) (o:=.cells #[.int .i64 ((rd_T79 y325 x31_2).f0),.int .i64 ((rd_T79 y325 x31_2).f1)] 79 (0,0)) (by (with_reducible repeat (first|refine blk_drewN ?_ _|refine blk_drew ?_|refine blk_alloc ?_ _));exact BK329.out) hg (Kd.R_ne HO_5.out BK329.out (by decide)));have n3_:=Aside0.mk (hb);have n4_:=Aside0.mk (ho);clear HO_29;clear BK316;clear BK329;clear HB;clear HO_5;have HO_29:=n0_;have BK316:=n1_;have BK329:=n2_;have HB:=n3_;have HO332:=n4_;clear n0_ n1_ n2_ n3_ n4_;clear ho hb hg hat)))
                 go_roundg k4
                 case measure=>have:=HK1.out;have:=HK2.out;have:=HJ17.out;have:=HK4.out;omega
                 case rel=>exact ⟨(y330),(wrap64 (x31_2 + 1)),(by first|rfl|(simp;done)|(simp [*];done)),H',⟨by have:=HK1.out;have:=HK2.out;have:=HJ17.out;have:=HK4.out;omega⟩,⟨by (with_reducible repeat (first|apply Kd.R_alloc|apply Kd.R_drewN|apply Kd.R_drew));exact HO332.out⟩,⟨by (with_reducible repeat (first|apply Kd.R_alloc|apply Kd.R_drewN|apply Kd.R_drew));exact Kd.R_mono HO_29.out (fun _ hk=>trivial)⟩,⟨by (with_reducible repeat (first|refine blk_drewN ?_ _|refine blk_drew ?_|refine blk_alloc ?_ _));exact BK316.out⟩,⟨by repeat (first|(with_reducible first|exact HB.out|apply below_alloc|apply pw_below_drewN|apply below_drew1|refine below_set ?_ GE316.out|refine below_set ?_ GE329.out)|exact HB.out)⟩⟩
                ·rw [if_neg c37] at H
                 exact absurd H (by simp)
         ·rw [if_neg c17] at H
          exact absurd H (by simp)
        ·rw [if_neg c16] at H
         exact absurd H (by simp)
       ·rw [if_neg c15] at H
        have c15b0 : decide (x31_2 < (y325.length : Int)) = false:=decide_eq_false c15
        clear c15
        have H':=Aside0.mk H
        clear H
        go_wp2
        repeat (go_quiet (fail);try go_wp2)
        go_roundg k2
        case measure=>have:=HK1.out;have:=HK2.out;omega
        case rel=>exact ⟨(x5_2),(wrap64 (x16_1 + 1)),(by first|rfl|(simp;done)|(simp [*];done)),H',⟨by have:=HK1.out;have:=HK2.out;omega⟩,⟨by (with_reducible repeat (first|apply Kd.R_alloc|apply Kd.R_drewN|apply Kd.R_drew));exact HO_5.out⟩,⟨by (with_reducible repeat (first|refine blk_drewN ?_ _|refine blk_drew ?_|refine blk_alloc ?_ _));exact BK316.out⟩,⟨by repeat (first|(with_reducible first|exact HB.out|apply below_alloc|apply pw_below_drewN|apply below_drew1|refine below_set ?_ GE316.out)|exact HB.out)⟩⟩
   ·rw [if_neg c9] at H
    have c9b0 : decide (x16_1 < t320) = false:=decide_eq_false c9
    clear c9
    replace H:=Option.bind_eq_some_iff.mp H
    obtain ⟨t321,A390,H⟩:=H
    replace H : ((slices_Compact_int64_int64.f t321).bind fun t322=>(some t322)) = some r:=H
    have A39:=Aside0.mk A390
    clear A390
    replace H:=Option.bind_eq_some_iff.mp H
    obtain ⟨t322,A400,H⟩:=H
    replace H : (some t322) = some r:=H
    have A40:=Aside0.mk A400
    clear A400
    obtain rfl:=Option.some.inj H
    obtain ⟨Ao41,co41,eo41⟩:=Kd.R_slice HO_5.out
    subst eo41
    go_wp2_with (first|(go_at_call 66;(with_reducible refine (slices_Sort_int64_int64.calls (fun k_=>some k_ = (.slice Ao41 x5_1.length co41 : Value).ownBlock) (.slice Ao41 x5_1.length co41) x5_1 t321 w _ ?side1 ?side2 A39.out).mono ?_);(case side1=>repeat (first|(with_reducible first|exact HB.out|apply below_alloc|apply pw_below_drewN|apply below_drew1|refine below_set ?_ GE316.out)|exact HB.out));(case side2=>exact Kd.R_tight rfl HO_5.out);rintro e w42 ⟨rfl,hy0,hb,hkp⟩;have n0_:=Aside0.mk (Kd.R_reok rfl hy0 (fun k_ e_=>HO_5.out.1 k_ e_));have n1_:=Aside0.mk (blk_kept (by (with_reducible repeat (first|refine blk_drewN ?_ _|refine blk_drew ?_|refine blk_alloc ?_ _));exact BK316.out) hkp (fun hs_=>(fun e_=>(Kd.R_ne HO_5.out BK316.out (by decide)) e_) hs_));have n2_:=Aside0.mk (hb);clear HO_5;clear BK316;clear HB;have HO_5:=n0_;have BK316:=n1_;have HB:=n2_;clear n0_ n1_ n2_;(try clear hb);(try clear hkp);(try clear hy0))|(go_at_call 67;(with_reducible refine (slices_Compact_int64_int64.calls (fun k_=>some k_ = (.slice Ao41 x5_1.length co41 : Value).ownBlock) (.slice Ao41 x5_1.length co41) t321 t322 w _ ?side1 ?side2 A40.out).mono ?_);(case side1=>repeat (first|(with_reducible first|exact HB.out|apply below_alloc|apply pw_below_drewN|apply below_drew1|refine below_set ?_ GE316.out)|exact HB.out));(case side2=>exact Kd.R_tight rfl HO_5.out);rintro e w43 ⟨v323,rfl,ho0,hb,hkp⟩;have n0_:=Aside0.mk (blk_kept (by (with_reducible repeat (first|refine blk_drewN ?_ _|refine blk_drew ?_|refine blk_alloc ?_ _));exact BK316.out) hkp (fun hs_=>(fun e_=>(Kd.R_ne HO_5.out BK316.out (by decide)) e_) hs_));have n1_:=Aside0.mk (Kd.R_mono (ok':=fun k_=>True) ho0 (fun k_ hk_=>trivial));have n2_:=Aside0.mk (hb);clear BK316;clear HB;clear HO_5;have BK316:=n0_;have HO324:=n1_;have HB:=n2_;clear n0_ n1_ n2_;(try clear hb);(try clear hkp);(try clear ho0)))
    repeat (go_quiet (first|(go_at_call 66;(with_reducible refine (slices_Sort_int64_int64.calls (fun k_=>some k_ = (.slice Ao41 x5_1.length co41 : Value).ownBlock) (.slice Ao41 x5_1.length co41) x5_1 t321 w _ ?side1 ?side2 A39.out).mono ?_);(case side1=>repeat (first|(with_reducible first|exact HB.out|apply below_alloc|apply pw_below_drewN|apply below_drew1|refine below_set ?_ GE316.out)|exact HB.out));(case side2=>exact Kd.R_tight rfl HO_5.out);rintro e w42 ⟨rfl,hy0,hb,hkp⟩;have n0_:=Aside0.mk (Kd.R_reok rfl hy0 (fun k_ e_=>HO_5.out.1 k_ e_));have n1_:=Aside0.mk (blk_kept (by (with_reducible repeat (first|refine blk_drewN ?_ _|refine blk_drew ?_|refine blk_alloc ?_ _));exact BK316.out) hkp (fun hs_=>(fun e_=>(Kd.R_ne HO_5.out BK316.out (by decide)) e_) hs_));have n2_:=Aside0.mk (hb);clear HO_5;clear BK316;clear HB;have HO_5:=n0_;have BK316:=n1_;have HB:=n2_;clear n0_ n1_ n2_;(try clear hb);(try clear hkp);(try clear hy0))|(go_at_call 67;(with_reducible refine (slices_Compact_int64_int64.calls (fun k_=>some k_ = (.slice Ao41 x5_1.length co41 : Value).ownBlock) (.slice Ao41 x5_1.length co41) t321 t322 w _ ?side1 ?side2 A40.out).mono ?_);(case side1=>repeat (first|(with_reducible first|exact HB.out|apply below_alloc|apply pw_below_drewN|apply below_drew1|refine below_set ?_ GE316.out)|exact HB.out));(case side2=>exact Kd.R_tight rfl HO_5.out);rintro e w43 ⟨v323,rfl,ho0,hb,hkp⟩;have n0_:=Aside0.mk (blk_kept (by (with_reducible repeat (first|refine blk_drewN ?_ _|refine blk_drew ?_|refine blk_alloc ?_ _));exact BK316.out) hkp (fun hs_=>(fun e_=>(Kd.R_ne HO_5.out BK316.out (by decide)) e_) hs_));have n1_:=Aside0.mk (Kd.R_mono (ok':=fun k_=>True) ho0 (fun k_ hk_=>trivial));have n2_:=Aside0.mk (hb);clear BK316;clear HB;clear HO_5;have BK316:=n0_;have HO324:=n1_;have HB:=n2_;clear n0_ n1_ n2_;(try clear hb);(try clear hkp);(try clear ho0)));try go_wp2_with (first|(go_at_call 66;(with_reducible refine (slices_Sort_int64_int64.calls (fun k_=>some k_ = (.slice Ao41 x5_1.length co41 : Value).ownBlock) (.slice Ao41 x5_1.length co41) x5_1 t321 w _ ?side1 ?side2 A39.out).mono ?_);(case side1=>repeat (first|(with_reducible first|exact HB.out|apply below_alloc|apply pw_below_drewN|apply below_drew1|refine below_set ?_ GE316.out)|exact HB.out));(case side2=>exact Kd.R_tight rfl HO_5.out);rintro e w42 ⟨rfl,hy0,hb,hkp⟩;have n0_:=Aside0.mk (Kd.R_reok rfl hy0 (fun k_ e_=>HO_5.out.1 k_ e_));have n1_:=Aside0.mk (blk_kept (by (with_reducible repeat (first|refine blk_drewN ?_ _|refine blk_drew ?_|refine blk_alloc ?_ _));exact BK316.out) hkp (fun hs_=>(fun e_=>(Kd.R_ne HO_5.out BK316.out (by decide)) e_) hs_));have n2_:=Aside0.mk (hb);clear HO_5;clear BK316;clear HB;have HO_5:=n0_;have BK316:=n1_;have HB:=n2_;clear n0_ n1_ n2_;(try clear hb);(try clear hkp);(try clear hy0))|(go_at_call 67;(with_reducible refine (slices_Compact_int64_int64.calls (fun k_=>some k_ = (.slice Ao41 x5_1.length co41 : Value).ownBlock) (.slice Ao41 x5_1.length co41) t321 t322 w _ ?side1 ?side2 A40.out).mono ?_);(case side1=>repeat (first|(with_reducible first|exact HB.out|apply below_alloc|apply pw_below_drewN|apply below_drew1|refine below_set ?_ GE316.out)|exact HB.out));(case side2=>exact Kd.R_tight rfl HO_5.out);rintro e w43 ⟨v323,rfl,ho0,hb,hkp⟩;have n0_:=Aside0.mk (blk_kept (by (with_reducible repeat (first|refine blk_drewN ?_ _|refine blk_drew ?_|refine blk_alloc ?_ _));exact BK316.out) hkp (fun hs_=>(fun e_=>(Kd.R_ne HO_5.out BK316.out (by decide)) e_) hs_));have n1_:=Aside0.mk (Kd.R_mono (ok':=fun k_=>True) ho0 (fun k_ hk_=>trivial));have n2_:=Aside0.mk (hb);clear BK316;clear HB;clear HO_5;have BK316:=n0_;have HO324:=n1_;have HB:=n2_;clear n0_ n1_ n2_;(try clear hb);(try clear hkp);(try clear ho0))))
    go_ret
    exact ⟨_,by first|rfl|(simp [errW_none,errW_some] <;> rfl)|(simp [*,errW_none,errW_some] <;> rfl),by (with_reducible repeat (first|apply Kd.R_alloc|apply Kd.R_drewN|apply Kd.R_drew));exact HO324.out,by repeat (first|(with_reducible first|exact HB.out|apply below_alloc|apply pw_below_drewN|apply below_drew1|refine below_set ?_ GE316.out)|exact HB.out)⟩

/-! ### laws_eqInt64S: function 14 -/
def laws_eqInt64S.l0 : Nat → List Int → List Int → Int → Option (Bool)
 | 0, _, _, _ => none
 | k + 1, x0, x1, x5 => if x5 < (x0.length : Int) then (if 0 ≤ x5 then (if x5 < (x1.length : Int) then (if (rd x0 x5) = (rd x1 x5) then (laws_eqInt64S.l0 k x0 x1 (wrap64 (x5 + 1))) else (some false)) else (none)) else (none)) else (some true)
def laws_eqInt64S.f (k : Nat) (l0 : List Int) (l1 : List Int) : Option (Bool) := if (l0.length : Int) = (l1.length : Int) then (laws_eqInt64S.l0 k l0 l1 0) else (some false)
set_option maxHeartbeats 8000000 in
set_option maxRecDepth 100000 in
theorem laws_eqInt64S.calls (k : Nat) (A0 : Option Addr) (c0 : Nat) (l0 : List Int) (A1 : Option Addr) (c1 : Nat) (l1 : List Int) (r : Bool) (w : World) (hr0 : Kd.C (Kd.int .i64) w A0 l0.length l0) (hc0 : l0.length ≤ c0) (hr1 : Kd.C (Kd.int .i64) w A1 l1.length l1) (hc1 : l1.length ≤ c1) (h : laws_eqInt64S.f k l0 l1 = some r) :
  Calls Try.prog 14 #[.slice A0 l0.length c0,.slice A1 l1.length c1] w fun e w'=>e = .returned (.bool r) ∧ Drawn0 w w':=by
 have HR0:=Aside0.mk hr0
 have HC0:=Aside0.mk hc0
 clear hr0 hc0
 have HR1:=Aside0.mk hr1
 have HC1:=Aside0.mk hc1
 clear hr1 hc1
 have H : (if (l0.length : Int) = (l1.length : Int) then (laws_eqInt64S.l0 k l0 l1 0) else (some false)) = some r:=h
 clear h
 by_cases c3 : (l0.length : Int) = (l1.length : Int)
 ·rw [if_pos c3] at H
  have c3b0 : ((l0.length : Int) == (l1.length : Int)) = true:=beq_iff_eq.mpr c3
  have c3b1 : ((l0.length : Int) != (l1.length : Int)) = false:=bne_eq_false_iff_eq.mpr c3
  have c3b2 : (l0.length == l1.length) = true:=by first|simpa using c3|(simp at c3 ⊢;omega)
  clear c3
  have H':=Aside0.mk H
  clear H
  go_enter Try.func14,Try.ntmps14
  go_wp2
  repeat (go_quiet (fail);try go_wp2)
  go_loopg [5] k (fun kq v5 w'=>∃ (x5_1 : Int),v5 = .int .i64 x5_1 ∧ Aside0 (laws_eqInt64S.l0 kq l0 l1 x5_1 = some r) ∧ Aside0 (kq ≤ k) ∧ Drawn0 w w')
  case atStart=>exact ⟨(0),(by first|rfl|(simp;done)|(simp [*];done)),H',⟨Nat.le_refl _⟩,by repeat (first|exact Drawn0.refl _|apply Drawn0.step)⟩
  case round =>
   clear H'
   try clear c1
   try clear p2
   try clear c3
   try clear c3b0
   try clear c3b1
   try clear c3b2
   obtain ⟨x5_1,rfl,HA,HK1,⟨m1,rfl⟩⟩:=hrel
   cases gk with
   | zero => exact absurd HA.out (by simp [laws_eqInt64S.l0])
   | succ k1 =>
    have H:=HA.out
    clear HA
    simp only [laws_eqInt64S.l0] at H
    by_cases c4 : x5_1 < (l0.length : Int)
    ·rw [if_pos c4] at H
     have c4b0 : decide (x5_1 < (l0.length : Int)) = true:=decide_eq_true c4
     clear c4
     by_cases c5 : 0 ≤ x5_1
     ·rw [if_pos c5] at H
      have c5b0 : decide (0 ≤ x5_1) = true:=decide_eq_true c5
      clear c5
      by_cases c6 : x5_1 < (l1.length : Int)
      ·rw [if_pos c6] at H
       have c6b0 : decide (x5_1 < (l1.length : Int)) = true:=decide_eq_true c6
       clear c6
       by_cases c7 : (rd l0 x5_1) = (rd l1 x5_1)
       ·rw [if_pos c7] at H
        have c7b0 : ((rd l0 x5_1) == (rd l1 x5_1)) = true:=beq_iff_eq.mpr c7
        have c7b1 : ((rd l0 x5_1) != (rd l1 x5_1)) = false:=bne_eq_false_iff_eq.mpr c7
        clear c7
        have H':=Aside0.mk H
        clear H
        have p343 : 0 ≤ (x5_1 : Int):=of_decide_eq_true (by first|(with_reducible assumption)|assumption)
        have q343 : x5_1 < (l0.length : Int):=of_decide_eq_true (by first|(with_reducible assumption)|assumption)
        obtain ⟨ad343,e343,hx343_0⟩:=Kd.at_int HR0.out x5_1 p343 q343
        cases e343
        replace p343:=eq_true p343
        replace q343:=eq_true q343
        have p344 : 0 ≤ (x5_1 : Int):=of_decide_eq_true (by first|(with_reducible assumption)|assumption)
        have q344 : x5_1 < (l1.length : Int):=of_decide_eq_true (by first|(with_reducible assumption)|assumption)
        obtain ⟨ad344,e344,hx344_0⟩:=Kd.at_int HR1.out x5_1 p344 q344
        cases e344
        replace p344:=eq_true p344
        replace q344:=eq_true q344
        go_wp2
        repeat (go_quiet (fail);try go_wp2)
        go_roundg k1
        case measure=>have:=HK1.out;omega
        case rel=>exact ⟨(wrap64 (x5_1 + 1)),(by first|rfl|(simp;done)|(simp [*];done)),H',⟨by have:=HK1.out;omega⟩,by repeat (first|exact Drawn0.refl _|apply Drawn0.step)⟩
       ·rw [if_neg c7] at H
        have c7b0 : ((rd l0 x5_1) == (rd l1 x5_1)) = false:=beq_eq_false_iff_ne.mpr c7
        have c7b1 : ((rd l0 x5_1) != (rd l1 x5_1)) = true:=bne_iff_ne.mpr c7
        obtain rfl:=Option.some.inj H
        have p343 : 0 ≤ (x5_1 : Int):=of_decide_eq_true (by first|(with_reducible assumption)|assumption)
        have q343 : x5_1 < (l0.length : Int):=of_decide_eq_true (by first|(with_reducible assumption)|assumption)
        obtain ⟨ad343,e343,hx343_0⟩:=Kd.at_int HR0.out x5_1 p343 q343
        cases e343
        replace p343:=eq_true p343
        replace q343:=eq_true q343
        have p344 : 0 ≤ (x5_1 : Int):=of_decide_eq_true (by first|(with_reducible assumption)|assumption)
        have q344 : x5_1 < (l1.length : Int):=of_decide_eq_true (by first|(with_reducible assumption)|assumption)
        obtain ⟨ad344,e344,hx344_0⟩:=Kd.at_int HR1.out x5_1 p344 q344
        cases e344
        replace p344:=eq_true p344
        replace q344:=eq_true q344
        go_wp2
        repeat (go_quiet (fail);try go_wp2)
        go_ret
        exact ⟨by first|rfl|(simp;done)|(simp [*];done),by repeat (first|exact Drawn0.refl _|apply Drawn0.step)⟩
      ·rw [if_neg c6] at H
       exact absurd H (by simp)
     ·rw [if_neg c5] at H
      exact absurd H (by simp)
    ·rw [if_neg c4] at H
     have c4b0 : decide (x5_1 < (l0.length : Int)) = false:=decide_eq_false c4
     clear c4
     obtain rfl:=Option.some.inj H
     go_wp2
     repeat (go_quiet (fail);try go_wp2)
     go_ret
     exact ⟨by first|rfl|(simp;done)|(simp [*];done),by repeat (first|exact Drawn0.refl _|apply Drawn0.step)⟩
 ·rw [if_neg c3] at H
  have c3b0 : ((l0.length : Int) == (l1.length : Int)) = false:=beq_eq_false_iff_ne.mpr c3
  have c3b1 : ((l0.length : Int) != (l1.length : Int)) = true:=bne_iff_ne.mpr c3
  have c3b2 : (l0.length == l1.length) = false:=by first|simpa using c3|(simp at c3 ⊢;omega)
  obtain rfl:=Option.some.inj H
  go_enter Try.func14,Try.ntmps14
  go_wp2
  repeat (go_quiet (fail);try go_wp2)
  go_ret
  exact ⟨by first|rfl|(simp;done)|(simp [*];done),by repeat (first|exact Drawn0.refl _|apply Drawn0.step)⟩

/-! ### laws_eqSea: function 15 -/
def laws_eqSea.f (k : Nat) (a0_0 : Int) (a0_1 : Int) (l0_2 : List Int) (a1_0 : Int) (a1_1 : Int) (l1_2 : List Int) : Option (Bool) := if a0_0 = a1_0 then (if a0_1 = a1_1 then ((laws_eqInt64S.f k l0_2 l1_2).bind fun t347 => (if t347 = true then (some true) else (some false))) else (some false)) else (some false)
set_option maxHeartbeats 8000000 in
set_option maxRecDepth 100000 in
theorem laws_eqSea.calls (k : Nat) (a0_0 : Int) (a0_1 : Int) (A0_2 : Option Addr) (c0_2 : Nat) (l0_2 : List Int) (a1_0 : Int) (a1_1 : Int) (A1_2 : Option Addr) (c1_2 : Nat) (l1_2 : List Int) (r : Bool) (w : World) (hr0_2 : Kd.C (Kd.int .i64) w A0_2 l0_2.length l0_2) (hc0_2 : l0_2.length ≤ c0_2) (hr1_2 : Kd.C (Kd.int .i64) w A1_2 l1_2.length l1_2) (hc1_2 : l1_2.length ≤ c1_2) (h : laws_eqSea.f k a0_0 a0_1 l0_2 a1_0 a1_1 l1_2 = some r) :
  Calls Try.prog 15 #[.agg #[.int .i64 a0_0,.int .i64 a0_1,.slice A0_2 l0_2.length c0_2],.agg #[.int .i64 a1_0,.int .i64 a1_1,.slice A1_2 l1_2.length c1_2]] w fun e w'=>e = .returned (.bool r) ∧ Below w.heap.size w w':=by
 have hu28:=Try.underlying28
 have HR0_2:=Aside0.mk hr0_2
 have HC0_2:=Aside0.mk hc0_2
 clear hr0_2 hc0_2
 have HR1_2:=Aside0.mk hr1_2
 have HC1_2:=Aside0.mk hc1_2
 clear hr1_2 hc1_2
 have HB:=Aside0.mk (Below.refl w.heap.size w)
 have H : (if a0_0 = a1_0 then (if a0_1 = a1_1 then ((laws_eqInt64S.f k l0_2 l1_2).bind fun t347=>(if t347 = true then (some true) else (some false))) else (some false)) else (some false)) = some r:=h
 clear h
 by_cases c3 : a0_0 = a1_0
 ·rw [if_pos c3] at H
  have c3b0 : (a0_0 == a1_0) = true:=beq_iff_eq.mpr c3
  have c3b1 : (a0_0 != a1_0) = false:=bne_eq_false_iff_eq.mpr c3
  clear c3
  by_cases c4 : a0_1 = a1_1
  ·rw [if_pos c4] at H
   have c4b0 : (a0_1 == a1_1) = true:=beq_iff_eq.mpr c4
   have c4b1 : (a0_1 != a1_1) = false:=bne_eq_false_iff_eq.mpr c4
   clear c4
   replace H:=Option.bind_eq_some_iff.mp H
   obtain ⟨t347,A50,H⟩:=H
   replace H : (if t347 = true then (some true) else (some false)) = some r:=H
   have A5:=Aside0.mk A50
   clear A50
   by_cases c6 : t347 = true
   ·subst c6
    have H1 : (some true) = some r:=by rw [if_pos rfl] at H;exact H
    clear H
    have H:=H1
    clear H1
    obtain rfl:=Option.some.inj H
    go_enter Try.func15,Try.ntmps15
    go_wp2_with (first|((with_reducible refine gate_dst (N:=2) rfl ?_);refine box_event ?hg (N:=2) ?hd (cs:=#[.int .i64 a0_0,.int .i64 a0_1,.slice A0_2 l0_2.length c0_2]) (t:=28) ?hr ?_;(case hd=>rfl);(case hg=>rfl);(case hr=>first|(go_simp;done)|(go_simp;rfl));intro gb345 hg w7 hbox hb;have n0_:=Aside0.mk (below_step (by repeat (first|(with_reducible first|exact HB.out|apply below_alloc|apply pw_below_drewN|apply below_drew1)|exact HB.out)) hb);have n1_:=Aside0.mk (hbox);have n2_:=Aside0.mk ((by rw [hg];exact (below_size (by repeat (first|(with_reducible first|exact HB.out|apply below_alloc|apply pw_below_drewN|apply below_drew1)|exact HB.out))) : w.heap.size ≤ gb345));have n3_:=Aside0.mk ((by rw [hg];exact (below_size (by repeat (first|(with_reducible first|exact HB.out|apply below_alloc|apply pw_below_drewN|apply below_drew1)|exact HB.out))) : w.heap.size ≤ gb345));clear HB;have HB:=n0_;have BK345:=n1_;have GW345:=n2_;have GE345:=n3_;clear n0_ n1_ n2_ n3_;clear hb hbox hg)|((with_reducible refine gate_dst (N:=3) rfl ?_);refine box_event ?hg (N:=3) ?hd (cs:=#[.int .i64 a1_0,.int .i64 a1_1,.slice A1_2 l1_2.length c1_2]) (t:=28) ?hr ?_;(case hd=>rfl);(case hg=>rfl);(case hr=>first|(go_simp;done)|(go_simp;rfl));intro gb346 hg w8 hbox hb;have n0_:=Aside0.mk (blk_below (g:=gb345) (o:=.cells #[.int .i64 a0_0,.int .i64 a0_1,.slice A0_2 l0_2.length c0_2] 28 (0,0)) (by (with_reducible repeat (first|refine blk_drewN ?_ _|refine blk_drew ?_|refine blk_alloc ?_ _));exact BK345.out) hb);have n1_:=Aside0.mk (below_step (by repeat (first|(with_reducible first|exact HB.out|apply below_alloc|apply pw_below_drewN|apply below_drew1|refine below_set ?_ GE345.out)|exact HB.out)) hb);have n2_:=Aside0.mk (hbox);have n3_:=Aside0.mk ((by rw [hg];exact (below_size (by repeat (first|(with_reducible first|exact HB.out|apply below_alloc|apply pw_below_drewN|apply below_drew1|refine below_set ?_ GE345.out)|exact HB.out))) : w.heap.size ≤ gb346));have n4_:=Aside0.mk ((by rw [hg];exact (below_size (by repeat (first|(with_reducible first|exact HB.out|apply below_alloc|apply pw_below_drewN|apply below_drew1|refine below_set ?_ GE345.out)|exact HB.out))) : w.heap.size ≤ gb346));have n5_:=Aside0.mk ((by rw [hg];exact Nat.ne_of_lt (blk_lt (g:=gb345) (o:=.cells #[.int .i64 a0_0,.int .i64 a0_1,.slice A0_2 l0_2.length c0_2] 28 (0,0)) (by (with_reducible repeat (first|refine blk_drewN ?_ _|refine blk_drew ?_|refine blk_alloc ?_ _));exact BK345.out)) : gb345 ≠ gb346));have n6_:=Aside0.mk ((by rw [hg];exact Nat.ne_of_gt (blk_lt (g:=gb345) (o:=.cells #[.int .i64 a0_0,.int .i64 a0_1,.slice A0_2 l0_2.length c0_2] 28 (0,0)) (by (with_reducible repeat (first|refine blk_drewN ?_ _|refine blk_drew ?_|refine blk_alloc ?_ _));exact BK345.out)) : gb346 ≠ gb345));clear BK345;clear HB;have BK345:=n0_;have HB:=n1_;have BK346:=n2_;have GW346:=n3_;have GE346:=n4_;have NB345_346:=n5_;have NB346_345:=n6_;clear n0_ n1_ n2_ n3_ n4_ n5_ n6_;clear hb hbox hg;have hnb9:=NB345_346.out;have hnc9:=NB346_345.out;have hcz10_0 : w8.cell? ⟨gb345,0,none⟩ = some (.int .i64 a0_0):=(blk_cell BK345.out 0).trans rfl;have hcz10_1 : w8.cell? ⟨gb345,1,none⟩ = some (.int .i64 a0_1):=(blk_cell BK345.out 1).trans rfl;have hcz10_2 : w8.cell? ⟨gb345,2,none⟩ = some (.slice A0_2 l0_2.length c0_2):=(blk_cell BK345.out 2).trans rfl;have hfz10_0:=blk_frozen BK345.out 0;have hfz10_1:=blk_frozen BK345.out 1;have hfz10_2:=blk_frozen BK345.out 2;have hcz11_0 : w8.cell? ⟨gb346,0,none⟩ = some (.int .i64 a1_0):=(blk_cell BK346.out 0).trans rfl;have hcz11_1 : w8.cell? ⟨gb346,1,none⟩ = some (.int .i64 a1_1):=(blk_cell BK346.out 1).trans rfl;have hcz11_2 : w8.cell? ⟨gb346,2,none⟩ = some (.slice A1_2 l1_2.length c1_2):=(blk_cell BK346.out 2).trans rfl;have hfz11_0:=blk_frozen BK346.out 0;have hfz11_1:=blk_frozen BK346.out 1;have hfz11_2:=blk_frozen BK346.out 2)|((with_reducible refine gate_callee (f:=14) rfl ?_);refine goesL_ (some 19) rfl rfl Try.func14 (by kernel_rfl) rfl #[.slice A0_2 l0_2.length c0_2,.slice A1_2 l1_2.length c1_2] rfl (by (try simp only [List.map_toArray,List.map_cons,List.map_nil]);first|done|rfl|(simp only [List.length_drop,List.length_take];rfl)) ?_;(with_reducible refine (laws_eqInt64S.calls k _ _ l0_2 _ _ l1_2 true _ ?side1 ?side2 ?side3 ?side4 A5.out).mono ?_);(case side1=>repeat (first|exact (Kd.C_below HR0_2.out HB.out)|(with_reducible refine Kd.C_alloc ?_ _)|(with_reducible refine Kd.C_drewN ?_ _)|(with_reducible refine Kd.C_drew ?_)));(case side2=>exact HC0_2.out);(case side3=>repeat (first|exact (Kd.C_below HR1_2.out HB.out)|(with_reducible refine Kd.C_alloc ?_ _)|(with_reducible refine Kd.C_drewN ?_ _)|(with_reducible refine Kd.C_drew ?_)));(case side4=>exact HC1_2.out);rintro e w' ⟨rfl,⟨nd,rfl⟩⟩;refine ⟨_,rfl,?_⟩))
    go_ret
    exact ⟨by first|rfl|(simp [errW_none,errW_some] <;> rfl)|(simp [*,errW_none,errW_some] <;> rfl),by repeat (first|(with_reducible first|exact HB.out|apply below_alloc|apply pw_below_drewN|apply below_drew1|refine below_set ?_ GE345.out|refine below_set ?_ GE346.out)|exact HB.out)⟩
   ·replace c6:=Bool.eq_false_iff.mpr c6
    subst c6
    have H1 : (some false) = some r:=by rw [if_neg (show ¬ (false = true) by decide)] at H;exact H
    clear H
    have H:=H1
    clear H1
    obtain rfl:=Option.some.inj H
    go_enter Try.func15,Try.ntmps15
    go_wp2_with (first|((with_reducible refine gate_dst (N:=2) rfl ?_);refine box_event ?hg (N:=2) ?hd (cs:=#[.int .i64 a0_0,.int .i64 a0_1,.slice A0_2 l0_2.length c0_2]) (t:=28) ?hr ?_;(case hd=>rfl);(case hg=>rfl);(case hr=>first|(go_simp;done)|(go_simp;rfl));intro gb345 hg w12 hbox hb;have n0_:=Aside0.mk (below_step (by repeat (first|(with_reducible first|exact HB.out|apply below_alloc|apply pw_below_drewN|apply below_drew1)|exact HB.out)) hb);have n1_:=Aside0.mk (hbox);have n2_:=Aside0.mk ((by rw [hg];exact (below_size (by repeat (first|(with_reducible first|exact HB.out|apply below_alloc|apply pw_below_drewN|apply below_drew1)|exact HB.out))) : w.heap.size ≤ gb345));have n3_:=Aside0.mk ((by rw [hg];exact (below_size (by repeat (first|(with_reducible first|exact HB.out|apply below_alloc|apply pw_below_drewN|apply below_drew1)|exact HB.out))) : w.heap.size ≤ gb345));clear HB;have HB:=n0_;have BK345:=n1_;have GW345:=n2_;have GE345:=n3_;clear n0_ n1_ n2_ n3_;clear hb hbox hg)|((with_reducible refine gate_dst (N:=3) rfl ?_);refine box_event ?hg (N:=3) ?hd (cs:=#[.int .i64 a1_0,.int .i64 a1_1,.slice A1_2 l1_2.length c1_2]) (t:=28) ?hr ?_;(case hd=>rfl);(case hg=>rfl);(case hr=>first|(go_simp;done)|(go_simp;rfl));intro gb346 hg w13 hbox hb;have n0_:=Aside0.mk (blk_below (g:=gb345) (o:=.cells #[.int .i64 a0_0,.int .i64 a0_1,.slice A0_2 l0_2.length c0_2] 28 (0,0)) (by (with_reducible repeat (first|refine blk_drewN ?_ _|refine blk_drew ?_|refine blk_alloc ?_ _));exact BK345.out) hb);have n1_:=Aside0.mk (below_step (by repeat (first|(with_reducible first|exact HB.out|apply below_alloc|apply pw_below_drewN|apply below_drew1|refine below_set ?_ GE345.out)|exact HB.out)) hb);have n2_:=Aside0.mk (hbox);have n3_:=Aside0.mk ((by rw [hg];exact (below_size (by repeat (first|(with_reducible first|exact HB.out|apply below_alloc|apply pw_below_drewN|apply below_drew1|refine below_set ?_ GE345.out)|exact HB.out))) : w.heap.size ≤ gb346));have n4_:=Aside0.mk ((by rw [hg];exact (below_size (by repeat (first|(with_reducible first|exact HB.out|apply below_alloc|apply pw_below_drewN|apply below_drew1|refine below_set ?_ GE345.out)|exact HB.out))) : w.heap.size ≤ gb346));have n5_:=Aside0.mk ((by rw [hg];exact Nat.ne_of_lt (blk_lt (g:=gb345) (o:=.cells #[.int .i64 a0_0,.int .i64 a0_1,.slice A0_2 l0_2.length c0_2] 28 (0,0)) (by (with_reducible repeat (first|refine blk_drewN ?_ _|refine blk_drew ?_|refine blk_alloc ?_ _));exact BK345.out)) : gb345 ≠ gb346));have n6_:=Aside0.mk ((by rw [hg];exact Nat.ne_of_gt (blk_lt (g:=gb345) (o:=.cells #[.int .i64 a0_0,.int .i64 a0_1,.slice A0_2 l0_2.length c0_2] 28 (0,0)) (by (with_reducible repeat (first|refine blk_drewN ?_ _|refine blk_drew ?_|refine blk_alloc ?_ _));exact BK345.out)) : gb346 ≠ gb345));clear BK345;clear HB;have BK345:=n0_;have HB:=n1_;have BK346:=n2_;have GW346:=n3_;have GE346:=n4_;have NB345_346:=n5_;have NB346_345:=n6_;clear n0_ n1_ n2_ n3_ n4_ n5_ n6_;clear hb hbox hg;have hnb14:=NB345_346.out;have hnc14:=NB346_345.out;have hcz15_0 : w13.cell? ⟨gb345,0,none⟩ = some (.int .i64 a0_0):=(blk_cell BK345.out 0).trans rfl;have hcz15_1 : w13.cell? ⟨gb345,1,none⟩ = some (.int .i64 a0_1):=(blk_cell BK345.out 1).trans rfl;have hcz15_2 : w13.cell? ⟨gb345,2,none⟩ = some (.slice A0_2 l0_2.length c0_2):=(blk_cell BK345.out 2).trans rfl;have hfz15_0:=blk_frozen BK345.out 0;have hfz15_1:=blk_frozen BK345.out 1;have hfz15_2:=blk_frozen BK345.out 2;have hcz16_0 : w13.cell? ⟨gb346,0,none⟩ = some (.int .i64 a1_0):=(blk_cell BK346.out 0).trans rfl;have hcz16_1 : w13.cell? ⟨gb346,1,none⟩ = some (.int .i64 a1_1):=(blk_cell BK346.out 1).trans rfl;have hcz16_2 : w13.cell? ⟨gb346,2,none⟩ = some (.slice A1_2 l1_2.length c1_2):=(blk_cell BK346.out 2).trans rfl;have hfz16_0:=blk_frozen BK346.out 0;have hfz16_1:=blk_frozen BK346.out 1;have hfz16_2:=blk_frozen BK346.out 2)|((with_reducible refine gate_callee (f:=14) rfl ?_);refine goesL_ (some 19) rfl rfl Try.func14 (by kernel_rfl) rfl #[.slice A0_2 l0_2.length c0_2,.slice A1_2 l1_2.length c1_2] rfl (by (try simp only [List.map_toArray,List.map_cons,List.map_nil]);first|done|rfl|(simp only [List.length_drop,List.length_take];rfl)) ?_;(with_reducible refine (laws_eqInt64S.calls k _ _ l0_2 _ _ l1_2 false _ ?side1 ?side2 ?side3 ?side4 A5.out).mono ?_);(case side1=>repeat (first|exact (Kd.C_below HR0_2.out HB.out)|(with_reducible refine Kd.C_alloc ?_ _)|(with_reducible refine Kd.C_drewN ?_ _)|(with_reducible refine Kd.C_drew ?_)));(case side2=>exact HC0_2.out);(case side3=>repeat (first|exact (Kd.C_below HR1_2.out HB.out)|(with_reducible refine Kd.C_alloc ?_ _)|(with_reducible refine Kd.C_drewN ?_ _)|(with_reducible refine Kd.C_drew ?_)));(case side4=>exact HC1_2.out);rintro e w' ⟨rfl,⟨nd,rfl⟩⟩;refine ⟨_,rfl,?_⟩))
    go_ret
    exact ⟨by first|rfl|(simp [errW_none,errW_some] <;> rfl)|(simp [*,errW_none,errW_some] <;> rfl),by repeat (first|(with_reducible first|exact HB.out|apply below_alloc|apply pw_below_drewN|apply below_drew1|refine below_set ?_ GE345.out|refine below_set ?_ GE346.out)|exact HB.out)⟩
  ·rw [if_neg c4] at H
   have c4b0 : (a0_1 == a1_1) = false:=beq_eq_false_iff_ne.mpr c4
   have c4b1 : (a0_1 != a1_1) = true:=bne_iff_ne.mpr c4
   obtain rfl:=Option.some.inj H
   go_enter Try.func15,Try.ntmps15
   go_wp2_with (first|((with_reducible refine gate_dst (N:=2) rfl ?_);refine box_event ?hg (N:=2) ?hd (cs:=#[.int .i64 a0_0,.int .i64 a0_1,.slice A0_2 l0_2.length c0_2]) (t:=28) ?hr ?_;(case hd=>rfl);(case hg=>rfl);(case hr=>first|(go_simp;done)|(go_simp;rfl));intro gb345 hg w17 hbox hb;have n0_:=Aside0.mk (below_step (by repeat (first|(with_reducible first|exact HB.out|apply below_alloc|apply pw_below_drewN|apply below_drew1)|exact HB.out)) hb);have n1_:=Aside0.mk (hbox);have n2_:=Aside0.mk ((by rw [hg];exact (below_size (by repeat (first|(with_reducible first|exact HB.out|apply below_alloc|apply pw_below_drewN|apply below_drew1)|exact HB.out))) : w.heap.size ≤ gb345));have n3_:=Aside0.mk ((by rw [hg];exact (below_size (by repeat (first|(with_reducible first|exact HB.out|apply below_alloc|apply pw_below_drewN|apply below_drew1)|exact HB.out))) : w.heap.size ≤ gb345));clear HB;have HB:=n0_;have BK345:=n1_;have GW345:=n2_;have GE345:=n3_;clear n0_ n1_ n2_ n3_;clear hb hbox hg)|((with_reducible refine gate_dst (N:=3) rfl ?_);refine box_event ?hg (N:=3) ?hd (cs:=#[.int .i64 a1_0,.int .i64 a1_1,.slice A1_2 l1_2.length c1_2]) (t:=28) ?hr ?_;(case hd=>rfl);(case hg=>rfl);(case hr=>first|(go_simp;done)|(go_simp;rfl));intro gb346 hg w18 hbox hb;have n0_:=Aside0.mk (blk_below (g:=gb345) (o:=.cells #[.int .i64 a0_0,.int .i64 a0_1,.slice A0_2 l0_2.length c0_2] 28 (0,0)) (by (with_reducible repeat (first|refine blk_drewN ?_ _|refine blk_drew ?_|refine blk_alloc ?_ _));exact BK345.out) hb);have n1_:=Aside0.mk (below_step (by repeat (first|(with_reducible first|exact HB.out|apply below_alloc|apply pw_below_drewN|apply below_drew1|refine below_set ?_ GE345.out)|exact HB.out)) hb);have n2_:=Aside0.mk (hbox);have n3_:=Aside0.mk ((by rw [hg];exact (below_size (by repeat (first|(with_reducible first|exact HB.out|apply below_alloc|apply pw_below_drewN|apply below_drew1|refine below_set ?_ GE345.out)|exact HB.out))) : w.heap.size ≤ gb346));have n4_:=Aside0.mk ((by rw [hg];exact (below_size (by repeat (first|(with_reducible first|exact HB.out|apply below_alloc|apply pw_below_drewN|apply below_drew1|refine below_set ?_ GE345.out)|exact HB.out))) : w.heap.size ≤ gb346));have n5_:=Aside0.mk ((by rw [hg];exact Nat.ne_of_lt (blk_lt (g:=gb345) (o:=.cells #[.int .i64 a0_0,.int .i64 a0_1,.slice A0_2 l0_2.length c0_2] 28 (0,0)) (by (with_reducible repeat (first|refine blk_drewN ?_ _|refine blk_drew ?_|refine blk_alloc ?_ _));exact BK345.out)) : gb345 ≠ gb346));have n6_:=Aside0.mk ((by rw [hg];exact Nat.ne_of_gt (blk_lt (g:=gb345) (o:=.cells #[.int .i64 a0_0,.int .i64 a0_1,.slice A0_2 l0_2.length c0_2] 28 (0,0)) (by (with_reducible repeat (first|refine blk_drewN ?_ _|refine blk_drew ?_|refine blk_alloc ?_ _));exact BK345.out)) : gb346 ≠ gb345));clear BK345;clear HB;have BK345:=n0_;have HB:=n1_;have BK346:=n2_;have GW346:=n3_;have GE346:=n4_;have NB345_346:=n5_;have NB346_345:=n6_;clear n0_ n1_ n2_ n3_ n4_ n5_ n6_;clear hb hbox hg;have hnb19:=NB345_346.out;have hnc19:=NB346_345.out;have hcz20_0 : w18.cell? ⟨gb345,0,none⟩ = some (.int .i64 a0_0):=(blk_cell BK345.out 0).trans rfl;have hcz20_1 : w18.cell? ⟨gb345,1,none⟩ = some (.int .i64 a0_1):=(blk_cell BK345.out 1).trans rfl;have hcz20_2 : w18.cell? ⟨gb345,2,none⟩ = some (.slice A0_2 l0_2.length c0_2):=(blk_cell BK345.out 2).trans rfl;have hfz20_0:=blk_frozen BK345.out 0;have hfz20_1:=blk_frozen BK345.out 1;have hfz20_2:=blk_frozen BK345.out 2;have hcz21_0 : w18.cell? ⟨gb346,0,none⟩ = some (.int .i64 a1_0):=(blk_cell BK346.out 0).trans rfl;have hcz21_1 : w18.cell? ⟨gb346,1,none⟩ = some (.int .i64 a1_1):=(blk_cell BK346.out 1).trans rfl;have hcz21_2 : w18.cell? ⟨gb346,2,none⟩ = some (.slice A1_2 l1_2.length c1_2):=(blk_cell BK346.out 2).trans rfl;have hfz21_0:=blk_frozen BK346.out 0;have hfz21_1:=blk_frozen BK346.out 1;have hfz21_2:=blk_frozen BK346.out 2))
   go_ret
   exact ⟨by first|rfl|(simp [errW_none,errW_some] <;> rfl)|(simp [*,errW_none,errW_some] <;> rfl),by repeat (first|(with_reducible first|exact HB.out|apply below_alloc|apply pw_below_drewN|apply below_drew1|refine below_set ?_ GE345.out|refine below_set ?_ GE346.out)|exact HB.out)⟩
 ·rw [if_neg c3] at H
  have c3b0 : (a0_0 == a1_0) = false:=beq_eq_false_iff_ne.mpr c3
  have c3b1 : (a0_0 != a1_0) = true:=bne_iff_ne.mpr c3
  obtain rfl:=Option.some.inj H
  go_enter Try.func15,Try.ntmps15
  go_wp2_with (first|((with_reducible refine gate_dst (N:=2) rfl ?_);refine box_event ?hg (N:=2) ?hd (cs:=#[.int .i64 a0_0,.int .i64 a0_1,.slice A0_2 l0_2.length c0_2]) (t:=28) ?hr ?_;(case hd=>rfl);(case hg=>rfl);(case hr=>first|(go_simp;done)|(go_simp;rfl));intro gb345 hg w22 hbox hb;have n0_:=Aside0.mk (below_step (by repeat (first|(with_reducible first|exact HB.out|apply below_alloc|apply pw_below_drewN|apply below_drew1)|exact HB.out)) hb);have n1_:=Aside0.mk (hbox);have n2_:=Aside0.mk ((by rw [hg];exact (below_size (by repeat (first|(with_reducible first|exact HB.out|apply below_alloc|apply pw_below_drewN|apply below_drew1)|exact HB.out))) : w.heap.size ≤ gb345));have n3_:=Aside0.mk ((by rw [hg];exact (below_size (by repeat (first|(with_reducible first|exact HB.out|apply below_alloc|apply pw_below_drewN|apply below_drew1)|exact HB.out))) : w.heap.size ≤ gb345));clear HB;have HB:=n0_;have BK345:=n1_;have GW345:=n2_;have GE345:=n3_;clear n0_ n1_ n2_ n3_;clear hb hbox hg)|((with_reducible refine gate_dst (N:=3) rfl ?_);refine box_event ?hg (N:=3) ?hd (cs:=#[.int .i64 a1_0,.int .i64 a1_1,.slice A1_2 l1_2.length c1_2]) (t:=28) ?hr ?_;(case hd=>rfl);(case hg=>rfl);(case hr=>first|(go_simp;done)|(go_simp;rfl));intro gb346 hg w23 hbox hb;have n0_:=Aside0.mk (blk_below (g:=gb345) (o:=.cells #[.int .i64 a0_0,.int .i64 a0_1,.slice A0_2 l0_2.length c0_2] 28 (0,0)) (by (with_reducible repeat (first|refine blk_drewN ?_ _|refine blk_drew ?_|refine blk_alloc ?_ _));exact BK345.out) hb);have n1_:=Aside0.mk (below_step (by repeat (first|(with_reducible first|exact HB.out|apply below_alloc|apply pw_below_drewN|apply below_drew1|refine below_set ?_ GE345.out)|exact HB.out)) hb);have n2_:=Aside0.mk (hbox);have n3_:=Aside0.mk ((by rw [hg];exact (below_size (by repeat (first|(with_reducible first|exact HB.out|apply below_alloc|apply pw_below_drewN|apply below_drew1|refine below_set ?_ GE345.out)|exact HB.out))) : w.heap.size ≤ gb346));have n4_:=Aside0.mk ((by rw [hg];exact (below_size (by repeat (first|(with_reducible first|exact HB.out|apply below_alloc|apply pw_below_drewN|apply below_drew1|refine below_set ?_ GE345.out)|exact HB.out))) : w.heap.size ≤ gb346));have n5_:=Aside0.mk ((by rw [hg];exact Nat.ne_of_lt (blk_lt (g:=gb345) (o:=.cells #[.int .i64 a0_0,.int .i64 a0_1,.slice A0_2 l0_2.length c0_2] 28 (0,0)) (by (with_reducible repeat (first|refine blk_drewN ?_ _|refine blk_drew ?_|refine blk_alloc ?_ _));exact BK345.out)) : gb345 ≠ gb346));have n6_:=Aside0.mk ((by rw [hg];exact Nat.ne_of_gt (blk_lt (g:=gb345) (o:=.cells #[.int .i64 a0_0,.int .i64 a0_1,.slice A0_2 l0_2.length c0_2] 28 (0,0)) (by (with_reducible repeat (first|refine blk_drewN ?_ _|refine blk_drew ?_|refine blk_alloc ?_ _));exact BK345.out)) : gb346 ≠ gb345));clear BK345;clear HB;have BK345:=n0_;have HB:=n1_;have BK346:=n2_;have GW346:=n3_;have GE346:=n4_;have NB345_346:=n5_;have NB346_345:=n6_;clear n0_ n1_ n2_ n3_ n4_ n5_ n6_;clear hb hbox hg;have hnb24:=NB345_346.out;have hnc24:=NB346_345.out;have hcz25_0 : w23.cell? ⟨gb345,0,none⟩ = some (.int .i64 a0_0):=(blk_cell BK345.out 0).trans rfl;have hcz25_1 : w23.cell? ⟨gb345,1,none⟩ = some (.int .i64 a0_1):=(blk_cell BK345.out 1).trans rfl;have hcz25_2 : w23.cell? ⟨gb345,2,none⟩ = some (.slice A0_2 l0_2.length c0_2):=(blk_cell BK345.out 2).trans rfl;have hfz25_0:=blk_frozen BK345.out 0;have hfz25_1:=blk_frozen BK345.out 1;have hfz25_2:=blk_frozen BK345.out 2;have hcz26_0 : w23.cell? ⟨gb346,0,none⟩ = some (.int .i64 a1_0):=(blk_cell BK346.out 0).trans rfl;have hcz26_1 : w23.cell? ⟨gb346,1,none⟩ = some (.int .i64 a1_1):=(blk_cell BK346.out 1).trans rfl;have hcz26_2 : w23.cell? ⟨gb346,2,none⟩ = some (.slice A1_2 l1_2.length c1_2):=(blk_cell BK346.out 2).trans rfl;have hfz26_0:=blk_frozen BK346.out 0;have hfz26_1:=blk_frozen BK346.out 1;have hfz26_2:=blk_frozen BK346.out 2))
  go_ret
  exact ⟨by first|rfl|(simp [errW_none,errW_some] <;> rfl)|(simp [*,errW_none,errW_some] <;> rfl),by repeat (first|(with_reducible first|exact HB.out|apply below_alloc|apply pw_below_drewN|apply below_drew1|refine below_set ?_ GE345.out|refine below_set ?_ GE346.out)|exact HB.out)⟩

end Go.Proofs.Ytankgbfddgpfmaa.PAll
