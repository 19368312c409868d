-- Written by wip/pp.py of this work (a driver around the kit's print), out of the translation; Lean checks it.
import Derived.Test.YtankgbfddgpfmaaPAllx0
import Derived.Test.YtankgbfddgpfmaaPAllx1
namespace Go.Proofs.Ytankgbfddgpfmaa.PAll
open Go.RowKit Go.Proofs.YtankgbfddgpfmaaW.PrintWords Go.Proofs.YtankgbfddgpfmaaW.PrintLast Go.Proofs.YtankgbfddgpfmaaW.PrintMore
attribute [local go_sem] max2_int min2_int max_two min_two max_three min_three max_four min_four   -- for this text's walks alone
set_option linter.unusedVariables false
set_option linter.unusedSimpArgs false

/-! ### spec_l09Placements: function 38 -/
mutual
def spec_l09Placements.l0 : Nat → Int → List Int → Int → Int → Int → List Int → Option (List Int)
 | 0, _, _, _, _, _, _ => none
 | k + 1, x1, x5, x6, x154000, x154001, x154002 => if x6 < x154001 then (spec_l09Placements.l1 k x1 x5 x6 0 x154000 x154001 x154002) else (some x5)
def spec_l09Placements.l1 : Nat → Int → List Int → Int → Int → Int → Int → List Int → Option (List Int)
 | 0, _, _, _, _, _, _, _ => none
 | k + 1, x1, x5, x6, x7, x154000, x154001, x154002 => if x7 < x154000 then (spec_l09Placements.l2 k x1 x5 x6 x7 0 0 0 x154000 x154001 x154002) else (spec_l09Placements.l0 k x1 x5 (wrap64 (x6 + 1)) x154000 x154001 x154002)
def spec_l09Placements.l2 : Nat → Int → List Int → Int → Int → Int → Int → Int → Int → Int → List Int → Option (List Int)
 | 0, _, _, _, _, _, _, _, _, _, _ => none
 | k + 1, x1, x5, x6, x7, x8, x9, x10, x154000, x154001, x154002 => if x10 < x1 then (if 0 ≤ (IntKind.u64.wrap (wrap64 ((wrap64 ((wrap64 (x6 * x154000)) + x7)) + x10))) then (if 0 ≤ (IntKind.u64.wrap (wrap64 ((wrap64 ((wrap64 (x6 + x10)) * x154000)) + x7))) then (spec_l09Placements.l2 k x1 x5 x6 x7 (Go.bits .or .i64 x8 (shl .i64 1 (IntKind.u64.wrap (wrap64 ((wrap64 ((wrap64 (x6 * x154000)) + x7)) + x10))))) (Go.bits .or .i64 x9 (shl .i64 1 (IntKind.u64.wrap (wrap64 ((wrap64 ((wrap64 (x6 + x10)) * x154000)) + x7))))) (wrap64 (x10 + 1)) x154000 x154001 x154002) else (none)) else (none)) else (if (wrap64 (x7 + x1)) ≤ x154000 then ((spec_l01Put.f k x5 x8).bind fun t157 => (if (wrap64 (x6 + x1)) ≤ x154001 then ((spec_l01Put.f k t157 x9).bind fun t160 => (spec_l09Placements.l1 k x1 t160 x6 (wrap64 (x7 + 1)) x154000 x154001 x154002)) else (spec_l09Placements.l1 k x1 t157 x6 (wrap64 (x7 + 1)) x154000 x154001 x154002))) else (if (wrap64 (x6 + x1)) ≤ x154001 then ((spec_l01Put.f k x5 x9).bind fun t163 => (spec_l09Placements.l1 k x1 t163 x6 (wrap64 (x7 + 1)) x154000 x154001 x154002)) else (spec_l09Placements.l1 k x1 x5 x6 (wrap64 (x7 + 1)) x154000 x154001 x154002)))
end
def spec_l09Placements.f (k : Nat) (a0_0 : Int) (a0_1 : Int) (l0_2 : List Int) (a1 : Int) : Option (List Int) := spec_l09Placements.l0 k a1 (([] : List Int)) 0 a0_0 a0_1 l0_2
theorem spec_l09Placements.mono_l : ∀ k, (∀ y0 y1 y2 y3 y4 y5, LeO (spec_l09Placements.l0 k y0 y1 y2 y3 y4 y5) (spec_l09Placements.l0 (k + 1) y0 y1 y2 y3 y4 y5)) ∧ (∀ y0 y1 y2 y3 y4 y5 y6, LeO (spec_l09Placements.l1 k y0 y1 y2 y3 y4 y5 y6) (spec_l09Placements.l1 (k + 1) y0 y1 y2 y3 y4 y5 y6)) ∧ (∀ y0 y1 y2 y3 y4 y5 y6 y7 y8 y9, LeO (spec_l09Placements.l2 k y0 y1 y2 y3 y4 y5 y6 y7 y8 y9) (spec_l09Placements.l2 (k + 1) y0 y1 y2 y3 y4 y5 y6 y7 y8 y9))
 | 0 => ⟨fun _ _ _ _ _ _ r h => by simp [spec_l09Placements.l0] at h, fun _ _ _ _ _ _ _ r h => by simp [spec_l09Placements.l1] at h, fun _ _ _ _ _ _ _ _ _ _ r h => by simp [spec_l09Placements.l2] at h⟩
 | k + 1 => by
  obtain ⟨ih0,ih1,ih2⟩:=spec_l09Placements.mono_l k
  refine ⟨?_,?_,?_⟩
  ·intro y0 y1 y2 y3 y4 y5
   unfold spec_l09Placements.l0
   repeat' first
   | (with_reducible exact ih0 _ _ _ _ _ _)
   | (with_reducible exact ih1 _ _ _ _ _ _ _)
   | (with_reducible exact ih2 _ _ _ _ _ _ _ _ _ _)
   | (with_reducible exact spec_l01Put.mono _ _ _)
   | (with_reducible exact LeO.refl _)
   | (with_reducible exact LeO.none _)
   | (with_reducible refine LeO.ite ?_ ?_)
   | (with_reducible refine LeO.bind ?_ (fun _ => ?_))
   | exact ih0 _ _ _ _ _ _
   | exact ih1 _ _ _ _ _ _ _
   | exact ih2 _ _ _ _ _ _ _ _ _ _
   | exact spec_l01Put.mono _ _ _
   | exact LeO.none _
   | refine LeO.ite ?_ ?_
   | refine LeO.bind ?_ (fun _ => ?_)
  ·intro y0 y1 y2 y3 y4 y5 y6
   unfold spec_l09Placements.l1
   repeat' first
   | (with_reducible exact ih0 _ _ _ _ _ _)
   | (with_reducible exact ih1 _ _ _ _ _ _ _)
   | (with_reducible exact ih2 _ _ _ _ _ _ _ _ _ _)
   | (with_reducible exact spec_l01Put.mono _ _ _)
   | (with_reducible exact LeO.refl _)
   | (with_reducible exact LeO.none _)
   | (with_reducible refine LeO.ite ?_ ?_)
   | (with_reducible refine LeO.bind ?_ (fun _ => ?_))
   | exact ih0 _ _ _ _ _ _
   | exact ih1 _ _ _ _ _ _ _
   | exact ih2 _ _ _ _ _ _ _ _ _ _
   | exact spec_l01Put.mono _ _ _
   | exact LeO.none _
   | refine LeO.ite ?_ ?_
   | refine LeO.bind ?_ (fun _ => ?_)
  ·intro y0 y1 y2 y3 y4 y5 y6 y7 y8 y9
   unfold spec_l09Placements.l2
   repeat' first
   | (with_reducible exact ih0 _ _ _ _ _ _)
   | (with_reducible exact ih1 _ _ _ _ _ _ _)
   | (with_reducible exact ih2 _ _ _ _ _ _ _ _ _ _)
   | (with_reducible exact spec_l01Put.mono _ _ _)
   | (with_reducible exact LeO.refl _)
   | (with_reducible exact LeO.none _)
   | (with_reducible refine LeO.ite ?_ ?_)
   | (with_reducible refine LeO.bind ?_ (fun _ => ?_))
   | exact ih0 _ _ _ _ _ _
   | exact ih1 _ _ _ _ _ _ _
   | exact ih2 _ _ _ _ _ _ _ _ _ _
   | exact spec_l01Put.mono _ _ _
   | exact LeO.none _
   | refine LeO.ite ?_ ?_
   | refine LeO.bind ?_ (fun _ => ?_)
theorem spec_l09Placements.mono : ∀ a0 a1 a2 a3 k, LeO (spec_l09Placements.f k a0 a1 a2 a3) (spec_l09Placements.f (k + 1) a0 a1 a2 a3) := by
 intro a0 a1 a2 a3 k
 obtain ⟨ih0,ih1,ih2⟩:=spec_l09Placements.mono_l k
 unfold spec_l09Placements.f
 repeat' first
   | (with_reducible exact ih0 _ _ _ _ _ _)
   | (with_reducible exact ih1 _ _ _ _ _ _ _)
   | (with_reducible exact ih2 _ _ _ _ _ _ _ _ _ _)
   | (with_reducible exact spec_l01Put.mono _ _ _)
   | (with_reducible exact LeO.refl _)
   | (with_reducible exact LeO.none _)
   | (with_reducible refine LeO.ite ?_ ?_)
   | (with_reducible refine LeO.bind ?_ (fun _ => ?_))
   | exact ih0 _ _ _ _ _ _
   | exact ih1 _ _ _ _ _ _ _
   | exact ih2 _ _ _ _ _ _ _ _ _ _
   | exact spec_l01Put.mono _ _ _
   | exact LeO.none _
   | refine LeO.ite ?_ ?_
   | refine LeO.bind ?_ (fun _ => ?_)
set_option maxHeartbeats 8000000 in
set_option maxRecDepth 100000 in
theorem spec_l09Placements.calls (k : Nat) (a0_0 : Int) (a0_1 : Int) (A0_2 : Option Addr) (c0_2 : Nat) (l0_2 : List Int) (a1 : Int) (r : List Int) (w : World) (hr0_2 : Kd.C (Kd.int .i64) w A0_2 l0_2.length l0_2) (hc0_2 : l0_2.length ≤ c0_2) (h : spec_l09Placements.f k a0_0 a0_1 l0_2 a1 = some r) :
  Calls Try.prog 38 #[.agg #[.int .i64 a0_0,.int .i64 a0_1,.slice A0_2 l0_2.length c0_2],.int .i64 a1] w fun e w'=>∃ v0_ : Value,e = .returned (v0_) ∧ Kd.R (Kd.int .i64) 2 w' w.heap.size (fun _=>True) v0_ r ∧ Below w.heap.size w w':=by
 have hu28:=Try.underlying28
 have HR0_2:=Aside0.mk hr0_2
 have HC0_2:=Aside0.mk hc0_2
 clear hr0_2 hc0_2
 have HB:=Aside0.mk (Below.refl w.heap.size w)
 have H : (spec_l09Placements.l0 k a1 (([] : List Int)) 0 a0_0 a0_1 l0_2) = some r:=h
 clear h
 obtain ⟨y154,hy154⟩ : ∃ y_ : List Int,y_ = (([] : List Int)):=⟨_,rfl⟩
 replace H : (spec_l09Placements.l0 k a1 y154 0 a0_0 a0_1 l0_2) = some r:=by first|(rw [hy154];with_reducible exact H)|(have H2_:=(Option.bind_some _ _).symm.trans H;rw [hy154];with_reducible exact H2_)|(have H2_:=(Option.bind_some _ _).symm.trans H;with_reducible exact H2_)|with_reducible exact H|(rw [hy154];exact H)|exact H
 have Ny154:=Aside0.mk hy154
 clear hy154
 have H':=Aside0.mk H
 clear H
 go_enter Try.func38,Try.ntmps38
 go_wp2_with (first|((with_reducible refine gate_dst (N:=2) rfl ?_);refine box_event ?hg (N:=2) ?hd (cs:=#[.int .i64 a0_0,.int .i64 a0_1,.slice A0_2 l0_2.length c0_2]) (t:=28) ?hr ?_;(case hd=>rfl);(case hg=>rfl);(case hr=>first|(go_simp;done)|(go_simp;rfl));intro gb153 hg w3 hbox hb;have n0_:=Aside0.mk (below_step (by repeat (first|(with_reducible first|exact HB.out|apply below_alloc|apply pw_below_drewN|apply below_drew1)|exact HB.out)) hb);have n1_:=Aside0.mk (hbox);have n2_:=Aside0.mk ((by rw [hg];exact (below_size (by repeat (first|(with_reducible first|exact HB.out|apply below_alloc|apply pw_below_drewN|apply below_drew1)|exact HB.out))) : w.heap.size ≤ gb153));have n3_:=Aside0.mk ((by rw [hg];exact (below_size (by repeat (first|(with_reducible first|exact HB.out|apply below_alloc|apply pw_below_drewN|apply below_drew1)|exact HB.out))) : w.heap.size ≤ gb153));clear HB;have HB:=n0_;have BK153:=n1_;have GW153:=n2_;have GE153:=n3_;clear n0_ n1_ n2_ n3_;clear hb hbox hg)|((with_reducible refine gate_dst (N:=11) rfl ?_);refine Kd.R_lit (Kd.int .i64) _ 2 ?hg (N:=11) ?hd (xs:=([] : List Int)) (inner:=[]) (ok:=fun _=>True) (okp:=fun _=>True) ?hr ?hp (fun _ hk=>hk) trivial (Below.refl _ _) (Nat.le_refl _) (by simp) ?_;(case hd=>rfl);(case hg=>rfl);(case hr=>first|(go_simp;done)|(go_simp;rfl));(case hp=>exact (Reps.none _ _));intro v155 w4 ho5 hb hg_ hnew_;clear hg_ hnew_;(first|rw [← Ny154.out] at ho5|(simp only [Int.reduceToNat] at ho5;rw [← Ny154.out] at ho5));have n0_:=Aside0.mk (Kd.R_lower ho5 (below_size (by repeat (first|(with_reducible first|exact HB.out|apply below_alloc|apply pw_below_drewN|apply below_drew1|refine below_set ?_ GE153.out)|exact HB.out))));have n1_:=Aside0.mk (blk_below (g:=gb153) (o:=.cells #[.int .i64 a0_0,.int .i64 a0_1,.slice A0_2 l0_2.length c0_2] 28 (0,0)) (by (with_reducible repeat (first|refine blk_drewN ?_ _|refine blk_drew ?_|refine blk_alloc ?_ _));exact BK153.out) hb);have n2_:=Aside0.mk (below_step (by repeat (first|(with_reducible first|exact HB.out|apply below_alloc|apply pw_below_drewN|apply below_drew1|refine below_set ?_ GE153.out)|exact HB.out)) hb);clear BK153;clear HB;have HO156:=n0_;have BK153:=n1_;have HB:=n2_;clear n0_ n1_ n2_;clear hb ho5))
 go_loopg [5,6] k (fun kq v5 v6 w'=>∃ (x5_1 : List Int) (x6_1 : Int),v6 = .int .i64 x6_1 ∧ Aside0 (spec_l09Placements.l0 kq a1 x5_1 x6_1 a0_0 a0_1 l0_2 = some r) ∧ Aside0 (kq ≤ k) ∧ Aside0 (Kd.R (Kd.int .i64) 2 w' w.heap.size (fun _=>True) v5 x5_1) ∧ Aside0 (w'.heap[gb153]? = some (.cells #[.int .i64 a0_0,.int .i64 a0_1,(.slice A0_2 l0_2.length c0_2)] 28 (0,0))) ∧ Aside0 (Below w.heap.size w w'))
 case atStart=>exact ⟨(y154),(0),(by first|rfl|(simp;done)|(simp [*];done)),H',⟨Nat.le_refl _⟩,⟨by (with_reducible repeat (first|apply Kd.R_alloc|apply Kd.R_drewN|apply Kd.R_drew));exact HO156.out⟩,⟨by (with_reducible repeat (first|refine blk_drewN ?_ _|refine blk_drew ?_|refine blk_alloc ?_ _));exact BK153.out⟩,⟨by repeat (first|(with_reducible first|exact HB.out|apply below_alloc|apply pw_below_drewN|apply below_drew1|refine below_set ?_ GE153.out)|exact HB.out)⟩⟩
 case round =>
  clear H'
  try clear p2
  try clear c3
  obtain ⟨x5_1,x6_1,rfl,HA,HK1,HO_5,BK153,HB⟩:=hrel
  cases gk with
  | zero => exact absurd HA.out (by simp [spec_l09Placements.l0])
  | succ k1 =>
   have H:=HA.out
   clear HA
   simp only [spec_l09Placements.l0] at H
   by_cases c6 : x6_1 < a0_1
   ·rw [if_pos c6] at H
    have c6b0 : decide (x6_1 < a0_1) = true:=decide_eq_true c6
    clear c6
    have H':=Aside0.mk H
    clear H
    have hcz7_0 : wr.cell? ⟨gb153,0,none⟩ = some (.int .i64 a0_0):=(blk_cell BK153.out 0).trans rfl
    have hcz7_1 : wr.cell? ⟨gb153,1,none⟩ = some (.int .i64 a0_1):=(blk_cell BK153.out 1).trans rfl
    have hcz7_2 : wr.cell? ⟨gb153,2,none⟩ = some (.slice A0_2 l0_2.length c0_2):=(blk_cell BK153.out 2).trans rfl
    have hfz7_0:=blk_frozen BK153.out 0
    have hfz7_1:=blk_frozen BK153.out 1
    have hfz7_2:=blk_frozen BK153.out 2
    go_wp2
    go_loopg [5,7] k1 (fun kq v5 v7 w'=>∃ (x5_2 : List Int) (x7_2 : Int),v7 = .int .i64 x7_2 ∧ Aside0 (spec_l09Placements.l1 kq a1 x5_2 x6_1 x7_2 a0_0 a0_1 l0_2 = some r) ∧ Aside0 (kq ≤ k1) ∧ Aside0 (Kd.R (Kd.int .i64) 2 w' w.heap.size (fun _=>True) v5 x5_2) ∧ Aside0 (w'.heap[gb153]? = some (.cells #[.int .i64 a0_0,.int .i64 a0_1,(.slice A0_2 l0_2.length c0_2)] 28 (0,0))) ∧ Aside0 (Below w.heap.size w w'))
    case atStart=>exact ⟨(x5_1),(0),(by first|rfl|(simp;done)|(simp [*];done)),H',⟨Nat.le_refl _⟩,⟨by (with_reducible repeat (first|apply Kd.R_alloc|apply Kd.R_drewN|apply Kd.R_drew));exact HO_5.out⟩,⟨by (with_reducible repeat (first|refine blk_drewN ?_ _|refine blk_drew ?_|refine blk_alloc ?_ _));exact BK153.out⟩,⟨by repeat (first|(with_reducible first|exact HB.out|apply below_alloc|apply pw_below_drewN|apply below_drew1|refine below_set ?_ GE153.out)|exact HB.out)⟩⟩
    case round =>
     clear H'
     try clear p2
     try clear c3
     try clear c6
     try clear c6b0
     try clear hcz7_0
     try clear hcz7_1
     try clear hcz7_2
     try clear hfz7_0
     try clear hfz7_1
     try clear hfz7_2
     try clear p2
     obtain ⟨x5_2,x7_2,rfl,HA,HK2,HO_5,BK153,HB⟩:=hrel
     cases gk with
     | zero => exact absurd HA.out (by simp [spec_l09Placements.l1])
     | succ k2 =>
      have H:=HA.out
      clear HA
      simp only [spec_l09Placements.l1] at H
      by_cases c8 : x7_2 < a0_0
      ·rw [if_pos c8] at H
       have c8b0 : decide (x7_2 < a0_0) = true:=decide_eq_true c8
       clear c8
       have H':=Aside0.mk H
       clear H
       have hcz9_0 : wr.cell? ⟨gb153,0,none⟩ = some (.int .i64 a0_0):=(blk_cell BK153.out 0).trans rfl
       have hcz9_1 : wr.cell? ⟨gb153,1,none⟩ = some (.int .i64 a0_1):=(blk_cell BK153.out 1).trans rfl
       have hcz9_2 : wr.cell? ⟨gb153,2,none⟩ = some (.slice A0_2 l0_2.length c0_2):=(blk_cell BK153.out 2).trans rfl
       have hfz9_0:=blk_frozen BK153.out 0
       have hfz9_1:=blk_frozen BK153.out 1
       have hfz9_2:=blk_frozen BK153.out 2
       go_wp2
       go_loopg [8,9,10] k2 (fun kq v8 v9 v10 w'=>∃ (x8_3 : Int) (x9_3 : Int) (x10_3 : Int),v8 = .int .i64 x8_3 ∧ v9 = .int .i64 x9_3 ∧ v10 = .int .i64 x10_3 ∧ Aside0 (spec_l09Placements.l2 kq a1 x5_2 x6_1 x7_2 x8_3 x9_3 x10_3 a0_0 a0_1 l0_2 = some r) ∧ Aside0 (kq ≤ k2) ∧ Aside0 (Kd.R (Kd.int .i64) 2 w' w.heap.size (fun _=>True) u5 x5_2) ∧ Aside0 (w'.heap[gb153]? = some (.cells #[.int .i64 a0_0,.int .i64 a0_1,(.slice A0_2 l0_2.length c0_2)] 28 (0,0))) ∧ Aside0 (Below w.heap.size w w'))
       case atStart=>exact ⟨(0),(0),(0),(by first|rfl|(simp;done)|(simp [*];done)),(by first|rfl|(simp;done)|(simp [*];done)),(by first|rfl|(simp;done)|(simp [*];done)),H',⟨Nat.le_refl _⟩,⟨by (with_reducible repeat (first|apply Kd.R_alloc|apply Kd.R_drewN|apply Kd.R_drew));exact HO_5.out⟩,⟨by (with_reducible repeat (first|refine blk_drewN ?_ _|refine blk_drew ?_|refine blk_alloc ?_ _));exact BK153.out⟩,⟨by repeat (first|(with_reducible first|exact HB.out|apply below_alloc|apply pw_below_drewN|apply below_drew1|refine below_set ?_ GE153.out)|exact HB.out)⟩⟩
       case round =>
        clear H'
        try clear p2
        try clear c3
        try clear c6
        try clear c6b0
        try clear c8
        try clear c8b0
        try clear hcz7_0
        try clear hcz7_1
        try clear hcz7_2
        try clear hcz9_0
        try clear hcz9_1
        try clear hcz9_2
        try clear hfz7_0
        try clear hfz7_1
        try clear hfz7_2
        try clear hfz9_0
        try clear hfz9_1
        try clear hfz9_2
        try clear p2
        obtain ⟨x8_3,x9_3,x10_3,rfl,rfl,rfl,HA,HK3,HO_5,BK153,HB⟩:=hrel
        cases gk with
        | zero => exact absurd HA.out (by simp [spec_l09Placements.l2])
        | succ k3 =>
         have H:=HA.out
         clear HA
         simp only [spec_l09Placements.l2] at H
         by_cases c10 : x10_3 < a1
         ·rw [if_pos c10] at H
          have c10b0 : decide (x10_3 < a1) = true:=decide_eq_true c10
          clear c10
          obtain ⟨ji11,hji11⟩ : ∃ j_ : Int,(IntKind.u64.wrap (wrap64 ((wrap64 ((wrap64 (x6_1 * a0_0)) + x7_2)) + x10_3))) = j_:=⟨_,rfl⟩
          replace H : (if 0 ≤ (ji11) then (if 0 ≤ (IntKind.u64.wrap (wrap64 ((wrap64 ((wrap64 (x6_1 + x10_3)) * a0_0)) + x7_2))) then (spec_l09Placements.l2 k3 a1 x5_2 x6_1 x7_2 (Go.bits .or .i64 x8_3 (shl .i64 1 (ji11))) (Go.bits .or .i64 x9_3 (shl .i64 1 (IntKind.u64.wrap (wrap64 ((wrap64 ((wrap64 (x6_1 + x10_3)) * a0_0)) + x7_2))))) (wrap64 (x10_3 + 1)) a0_0 a0_1 l0_2) else (none)) else (none)) = some r:=by first|(rw [hji11] at H;exact H)|(simp only [hji11] at H ⊢;exact H)
          by_cases c12 : 0 ≤ (ji11)
          ·rw [if_pos c12] at H
           have c12b0:=eq_true c12
           have c12b1 : decide (0 ≤ (ji11)) = true:=decide_eq_true c12
           clear c12
           obtain ⟨ji13,hji13⟩ : ∃ j_ : Int,(shl .i64 1 (ji11)) = j_:=⟨_,rfl⟩
           replace H : (if 0 ≤ (IntKind.u64.wrap (wrap64 ((wrap64 ((wrap64 (x6_1 + x10_3)) * a0_0)) + x7_2))) then (spec_l09Placements.l2 k3 a1 x5_2 x6_1 x7_2 (Go.bits .or .i64 x8_3 (ji13)) (Go.bits .or .i64 x9_3 (shl .i64 1 (IntKind.u64.wrap (wrap64 ((wrap64 ((wrap64 (x6_1 + x10_3)) * a0_0)) + x7_2))))) (wrap64 (x10_3 + 1)) a0_0 a0_1 l0_2) else (none)) = some r:=by first|(rw [hji13] at H;exact H)|(simp only [hji13] at H ⊢;exact H)
           have hji13_ : (IntKind.i64.wrap (1 * 2 ^ min (ji11).toNat 64)) = ji13:=hji13
           have hji13z : (ji11) ≤ 64 → (IntKind.i64.wrap (1 * 2 ^ (ji11).toNat)) = ji13:=shl_small hji13
           have hji13u : (IntKind.i64.wrap (2 ^ min (ji11).toNat 64)) = ji13:=by have h_:=hji13_;rw [Int.one_mul] at h_;exact h_
           have hji13v : (ji11) ≤ 64 → (IntKind.i64.wrap (2 ^ (ji11).toNat)) = ji13:=fun hle_=>by have h_:=hji13z hle_;rw [Int.one_mul] at h_;exact h_
           have hji13y : (wrap64 (1 * 2 ^ min (ji11).toNat 64)) = ji13:=(i64_w _).symm.trans hji13_
           have hji13x : (ji11) ≤ 64 → (wrap64 (1 * 2 ^ (ji11).toNat)) = ji13:=fun h_=>(i64_w _).symm.trans (hji13z h_)
           obtain ⟨ji14,hji14⟩ : ∃ j_ : Int,(IntKind.u64.wrap (wrap64 ((wrap64 ((wrap64 (x6_1 + x10_3)) * a0_0)) + x7_2))) = j_:=⟨_,rfl⟩
           replace H : (if 0 ≤ (ji14) then (spec_l09Placements.l2 k3 a1 x5_2 x6_1 x7_2 (Go.bits .or .i64 x8_3 (ji13)) (Go.bits .or .i64 x9_3 (shl .i64 1 (ji14))) (wrap64 (x10_3 + 1)) a0_0 a0_1 l0_2) else (none)) = some r:=by first|(rw [hji14] at H;exact H)|(simp only [hji14] at H ⊢;exact H)
           by_cases c15 : 0 ≤ (ji14)
           ·rw [if_pos c15] at H
            have c15b0:=eq_true c15
            have c15b1 : decide (0 ≤ (ji14)) = true:=decide_eq_true c15
            clear c15
            obtain ⟨ji16,hji16⟩ : ∃ j_ : Int,(shl .i64 1 (ji14)) = j_:=⟨_,rfl⟩
            replace H : (spec_l09Placements.l2 k3 a1 x5_2 x6_1 x7_2 (Go.bits .or .i64 x8_3 (ji13)) (Go.bits .or .i64 x9_3 (ji16)) (wrap64 (x10_3 + 1)) a0_0 a0_1 l0_2) = some r:=by first|(rw [hji16] at H;exact H)|(simp only [hji16] at H ⊢;exact H)
            have hji16_ : (IntKind.i64.wrap (1 * 2 ^ min (ji14).toNat 64)) = ji16:=hji16
            have hji16z : (ji14) ≤ 64 → (IntKind.i64.wrap (1 * 2 ^ (ji14).toNat)) = ji16:=shl_small hji16
            have hji16u : (IntKind.i64.wrap (2 ^ min (ji14).toNat 64)) = ji16:=by have h_:=hji16_;rw [Int.one_mul] at h_;exact h_
            have hji16v : (ji14) ≤ 64 → (IntKind.i64.wrap (2 ^ (ji14).toNat)) = ji16:=fun hle_=>by have h_:=hji16z hle_;rw [Int.one_mul] at h_;exact h_
            have hji16y : (wrap64 (1 * 2 ^ min (ji14).toNat 64)) = ji16:=(i64_w _).symm.trans hji16_
            have hji16x : (ji14) ≤ 64 → (wrap64 (1 * 2 ^ (ji14).toNat)) = ji16:=fun h_=>(i64_w _).symm.trans (hji16z h_)
            have H':=Aside0.mk H
            clear H
            have hcz17_0 : wr.cell? ⟨gb153,0,none⟩ = some (.int .i64 a0_0):=(blk_cell BK153.out 0).trans rfl
            have hcz17_1 : wr.cell? ⟨gb153,1,none⟩ = some (.int .i64 a0_1):=(blk_cell BK153.out 1).trans rfl
            have hcz17_2 : wr.cell? ⟨gb153,2,none⟩ = some (.slice A0_2 l0_2.length c0_2):=(blk_cell BK153.out 2).trans rfl
            have hfz17_0:=blk_frozen BK153.out 0
            have hfz17_1:=blk_frozen BK153.out 1
            have hfz17_2:=blk_frozen BK153.out 2
            go_wp2
            go_roundg k3
            case measure=>have:=HK1.out;have:=HK2.out;have:=HK3.out;omega
            case rel=>exact ⟨(Go.bits .or .i64 x8_3 (ji13)),(Go.bits .or .i64 x9_3 (ji16)),(wrap64 (x10_3 + 1)),(by first|rfl|(simp;done)|(simp only [← hji13] <;> (first|rfl|simp))|(simp [*];done)),(by first|rfl|(simp;done)|(simp only [← hji16] <;> (first|rfl|simp))|(simp [*];done)),(by first|rfl|(simp;done)|(simp [*];done)),H',⟨by have:=HK1.out;have:=HK2.out;have:=HK3.out;omega⟩,⟨by (with_reducible repeat (first|apply Kd.R_alloc|apply Kd.R_drewN|apply Kd.R_drew));exact HO_5.out⟩,⟨by (with_reducible repeat (first|refine blk_drewN ?_ _|refine blk_drew ?_|refine blk_alloc ?_ _));exact BK153.out⟩,⟨by repeat (first|(with_reducible first|exact HB.out|apply below_alloc|apply pw_below_drewN|apply below_drew1|refine below_set ?_ GE153.out)|exact HB.out)⟩⟩
           ·rw [if_neg c15] at H
            exact absurd H (by simp)
          ·rw [if_neg c12] at H
           exact absurd H (by simp)
         ·rw [if_neg c10] at H
          have c10b0 : decide (x10_3 < a1) = false:=decide_eq_false c10
          clear c10
          by_cases c18 : (wrap64 (x7_2 + a1)) ≤ a0_0
          ·rw [if_pos c18] at H
           have c18b0 : decide ((wrap64 (x7_2 + a1)) ≤ a0_0) = true:=decide_eq_true c18
           clear c18
           replace H:=Option.bind_eq_some_iff.mp H
           obtain ⟨t157,A190,H⟩:=H
           replace H : (if (wrap64 (x6_1 + a1)) ≤ a0_1 then ((spec_l01Put.f k3 t157 x9_3).bind fun t160=>(spec_l09Placements.l1 k3 a1 t160 x6_1 (wrap64 (x7_2 + 1)) a0_0 a0_1 l0_2)) else (spec_l09Placements.l1 k3 a1 t157 x6_1 (wrap64 (x7_2 + 1)) a0_0 a0_1 l0_2)) = some r:=H
           have A19:=Aside0.mk A190
           clear A190
           by_cases c20 : (wrap64 (x6_1 + a1)) ≤ a0_1
           ·rw [if_pos c20] at H
            have c20b0 : decide ((wrap64 (x6_1 + a1)) ≤ a0_1) = true:=decide_eq_true c20
            clear c20
            replace H:=Option.bind_eq_some_iff.mp H
            obtain ⟨t160,A210,H⟩:=H
            replace H : (spec_l09Placements.l1 k3 a1 t160 x6_1 (wrap64 (x7_2 + 1)) a0_0 a0_1 l0_2) = some r:=H
            have A21:=Aside0.mk A210
            clear A210
            have H':=Aside0.mk H
            clear H
            have hcz22_0 : wr.cell? ⟨gb153,0,none⟩ = some (.int .i64 a0_0):=(blk_cell BK153.out 0).trans rfl
            have hcz22_1 : wr.cell? ⟨gb153,1,none⟩ = some (.int .i64 a0_1):=(blk_cell BK153.out 1).trans rfl
            have hcz22_2 : wr.cell? ⟨gb153,2,none⟩ = some (.slice A0_2 l0_2.length c0_2):=(blk_cell BK153.out 2).trans rfl
            have hfz22_0:=blk_frozen BK153.out 0
            have hfz22_1:=blk_frozen BK153.out 1
            have hfz22_2:=blk_frozen BK153.out 2
            obtain ⟨Ao23,co23,eo23⟩:=Kd.R_slice HO_5.out
            subst eo23
            go_wp2_with (first|((with_reducible refine gate_callee (f:=64) rfl ?_);refine goesL_ (some 61) rfl rfl Try.func64 (by kernel_rfl) rfl #[.slice Ao23 x5_2.length co23,.int .i64 x8_3] rfl (by (try simp only [List.map_toArray,List.map_cons,List.map_nil]);first|done|rfl|(simp only [List.length_drop,List.length_take];rfl)) ?_;(with_reducible refine (spec_l01Put.calls k3 (fun k_=>some k_ = (.slice Ao23 x5_2.length co23 : Value).ownBlock) (.slice Ao23 x5_2.length co23) x5_2 x8_3 t157 w _ ?side1 ?side2 A19.out).mono ?_);(case side1=>repeat (first|(with_reducible first|exact HB.out|apply below_alloc|apply pw_below_drewN|apply below_drew1|refine below_set ?_ GE153.out)|exact HB.out));(case side2=>exact Kd.R_tight rfl HO_5.out);rintro e w24 ⟨v158,rfl,ho0,hb,hkp⟩;refine ⟨_,rfl,?_⟩;have n0_:=Aside0.mk (blk_kept (by (with_reducible repeat (first|refine blk_drewN ?_ _|refine blk_drew ?_|refine blk_alloc ?_ _));exact BK153.out) hkp (fun hs_=>(fun e_=>(Kd.R_ne HO_5.out BK153.out (by decide)) e_) hs_));have n1_:=Aside0.mk (Kd.R_mono (ok':=fun k_=>True) ho0 (fun k_ hk_=>trivial));have n2_:=Aside0.mk (hb);clear BK153;clear HB;clear HO_5;have BK153:=n0_;have HO159:=n1_;have HB:=n2_;clear n0_ n1_ n2_;(try clear hb);(try clear hkp);(try clear ho0);have hcz25_0 : w24.cell? ⟨gb153,0,none⟩ = some (.int .i64 a0_0):=(blk_cell BK153.out 0).trans rfl;have hcz25_1 : w24.cell? ⟨gb153,1,none⟩ = some (.int .i64 a0_1):=(blk_cell BK153.out 1).trans rfl;have hcz25_2 : w24.cell? ⟨gb153,2,none⟩ = some (.slice A0_2 l0_2.length c0_2):=(blk_cell BK153.out 2).trans rfl;have hfz25_0:=blk_frozen BK153.out 0;have hfz25_1:=blk_frozen BK153.out 1;have hfz25_2:=blk_frozen BK153.out 2;obtain ⟨Ao26,co26,eo26⟩:=Kd.R_slice HO159.out;subst eo26)|((with_reducible refine gate_callee (f:=64) rfl ?_);refine goesL_ (some 70) rfl rfl Try.func64 (by kernel_rfl) rfl #[.slice Ao26 t157.length co26,.int .i64 x9_3] rfl (by (try simp only [List.map_toArray,List.map_cons,List.map_nil]);first|done|rfl|(simp only [List.length_drop,List.length_take];rfl)) ?_;(with_reducible refine (spec_l01Put.calls k3 (fun k_=>some k_ = (.slice Ao26 t157.length co26 : Value).ownBlock) (.slice Ao26 t157.length co26) t157 x9_3 t160 w _ ?side1 ?side2 A21.out).mono ?_);(case side1=>repeat (first|(with_reducible first|exact HB.out|apply below_alloc|apply pw_below_drewN|apply below_drew1|refine below_set ?_ GE153.out)|exact HB.out));(case side2=>exact Kd.R_tight rfl HO159.out);rintro e w27 ⟨v161,rfl,ho0,hb,hkp⟩;refine ⟨_,rfl,?_⟩;have n0_:=Aside0.mk (blk_kept (by (with_reducible repeat (first|refine blk_drewN ?_ _|refine blk_drew ?_|refine blk_alloc ?_ _));exact BK153.out) hkp (fun hs_=>(fun e_=>(Kd.R_ne HO159.out BK153.out (by decide)) e_) hs_));have n1_:=Aside0.mk (Kd.R_mono (ok':=fun k_=>True) ho0 (fun k_ hk_=>trivial));have n2_:=Aside0.mk (hb);clear BK153;clear HB;clear HO159;have BK153:=n0_;have HO162:=n1_;have HB:=n2_;clear n0_ n1_ n2_;(try clear hb);(try clear hkp);(try clear ho0)))
            go_roundg k3
            case measure=>have:=HK1.out;have:=HK2.out;have:=HK3.out;omega
            case rel=>exact ⟨(t160),(wrap64 (x7_2 + 1)),(by first|rfl|(simp;done)|(simp [*];done)),H',⟨by have:=HK1.out;have:=HK2.out;have:=HK3.out;omega⟩,⟨by (with_reducible repeat (first|apply Kd.R_alloc|apply Kd.R_drewN|apply Kd.R_drew));exact HO162.out⟩,⟨by (with_reducible repeat (first|refine blk_drewN ?_ _|refine blk_drew ?_|refine blk_alloc ?_ _));exact BK153.out⟩,⟨by repeat (first|(with_reducible first|exact HB.out|apply below_alloc|apply pw_below_drewN|apply below_drew1|refine below_set ?_ GE153.out)|exact HB.out)⟩⟩
           ·rw [if_neg c20] at H
            have c20b0 : decide ((wrap64 (x6_1 + a1)) ≤ a0_1) = false:=decide_eq_false c20
            clear c20
            have H':=Aside0.mk H
            clear H
            have hcz28_0 : wr.cell? ⟨gb153,0,none⟩ = some (.int .i64 a0_0):=(blk_cell BK153.out 0).trans rfl
            have hcz28_1 : wr.cell? ⟨gb153,1,none⟩ = some (.int .i64 a0_1):=(blk_cell BK153.out 1).trans rfl
            have hcz28_2 : wr.cell? ⟨gb153,2,none⟩ = some (.slice A0_2 l0_2.length c0_2):=(blk_cell BK153.out 2).trans rfl
            have hfz28_0:=blk_frozen BK153.out 0
            have hfz28_1:=blk_frozen BK153.out 1
            have hfz28_2:=blk_frozen BK153.out 2
            obtain ⟨Ao29,co29,eo29⟩:=Kd.R_slice HO_5.out
            subst eo29
            go_wp2_with (first|((with_reducible refine gate_callee (f:=64) rfl ?_);refine goesL_ (some 61) rfl rfl Try.func64 (by kernel_rfl) rfl #[.slice Ao29 x5_2.length co29,.int .i64 x8_3] rfl (by (try simp only [List.map_toArray,List.map_cons,List.map_nil]);first|done|rfl|(simp only [List.length_drop,List.length_take];rfl)) ?_;(with_reducible refine (spec_l01Put.calls k3 (fun k_=>some k_ = (.slice Ao29 x5_2.length co29 : Value).ownBlock) (.slice Ao29 x5_2.length co29) x5_2 x8_3 t157 w _ ?side1 ?side2 A19.out).mono ?_);(case side1=>repeat (first|(with_reducible first|exact HB.out|apply below_alloc|apply pw_below_drewN|apply below_drew1|refine below_set ?_ GE153.out)|exact HB.out));(case side2=>exact Kd.R_tight rfl HO_5.out);rintro e w30 ⟨v158,rfl,ho0,hb,hkp⟩;refine ⟨_,rfl,?_⟩;have n0_:=Aside0.mk (blk_kept (by (with_reducible repeat (first|refine blk_drewN ?_ _|refine blk_drew ?_|refine blk_alloc ?_ _));exact BK153.out) hkp (fun hs_=>(fun e_=>(Kd.R_ne HO_5.out BK153.out (by decide)) e_) hs_));have n1_:=Aside0.mk (Kd.R_mono (ok':=fun k_=>True) ho0 (fun k_ hk_=>trivial));have n2_:=Aside0.mk (hb);clear BK153;clear HB;clear HO_5;have BK153:=n0_;have HO159:=n1_;have HB:=n2_;clear n0_ n1_ n2_;(try clear hb);(try clear hkp);(try clear ho0);have hcz31_0 : w30.cell? ⟨gb153,0,none⟩ = some (.int .i64 a0_0):=(blk_cell BK153.out 0).trans rfl;have hcz31_1 : w30.cell? ⟨gb153,1,none⟩ = some (.int .i64 a0_1):=(blk_cell BK153.out 1).trans rfl;have hcz31_2 : w30.cell? ⟨gb153,2,none⟩ = some (.slice A0_2 l0_2.length c0_2):=(blk_cell BK153.out 2).trans rfl;have hfz31_0:=blk_frozen BK153.out 0;have hfz31_1:=blk_frozen BK153.out 1;have hfz31_2:=blk_frozen BK153.out 2))
            go_roundg k3
            case measure=>have:=HK1.out;have:=HK2.out;have:=HK3.out;omega
            case rel=>exact ⟨(t157),(wrap64 (x7_2 + 1)),(by first|rfl|(simp;done)|(simp [*];done)),H',⟨by have:=HK1.out;have:=HK2.out;have:=HK3.out;omega⟩,⟨by (with_reducible repeat (first|apply Kd.R_alloc|apply Kd.R_drewN|apply Kd.R_drew));exact HO159.out⟩,⟨by (with_reducible repeat (first|refine blk_drewN ?_ _|refine blk_drew ?_|refine blk_alloc ?_ _));exact BK153.out⟩,⟨by repeat (first|(with_reducible first|exact HB.out|apply below_alloc|apply pw_below_drewN|apply below_drew1|refine below_set ?_ GE153.out)|exact HB.out)⟩⟩
          ·rw [if_neg c18] at H
           have c18b0 : decide ((wrap64 (x7_2 + a1)) ≤ a0_0) = false:=decide_eq_false c18
           clear c18
           by_cases c32 : (wrap64 (x6_1 + a1)) ≤ a0_1
           ·rw [if_pos c32] at H
            have c32b0 : decide ((wrap64 (x6_1 + a1)) ≤ a0_1) = true:=decide_eq_true c32
            clear c32
            replace H:=Option.bind_eq_some_iff.mp H
            obtain ⟨t163,A330,H⟩:=H
            replace H : (spec_l09Placements.l1 k3 a1 t163 x6_1 (wrap64 (x7_2 + 1)) a0_0 a0_1 l0_2) = some r:=H
            have A33:=Aside0.mk A330
            clear A330
            have H':=Aside0.mk H
            clear H
            have hcz34_0 : wr.cell? ⟨gb153,0,none⟩ = some (.int .i64 a0_0):=(blk_cell BK153.out 0).trans rfl
            have hcz34_1 : wr.cell? ⟨gb153,1,none⟩ = some (.int .i64 a0_1):=(blk_cell BK153.out 1).trans rfl
            have hcz34_2 : wr.cell? ⟨gb153,2,none⟩ = some (.slice A0_2 l0_2.length c0_2):=(blk_cell BK153.out 2).trans rfl
            have hfz34_0:=blk_frozen BK153.out 0
            have hfz34_1:=blk_frozen BK153.out 1
            have hfz34_2:=blk_frozen BK153.out 2
            obtain ⟨Ao35,co35,eo35⟩:=Kd.R_slice HO_5.out
            subst eo35
            go_wp2_with (first|((with_reducible refine gate_callee (f:=64) rfl ?_);refine goesL_ (some 70) rfl rfl Try.func64 (by kernel_rfl) rfl #[.slice Ao35 x5_2.length co35,.int .i64 x9_3] rfl (by (try simp only [List.map_toArray,List.map_cons,List.map_nil]);first|done|rfl|(simp only [List.length_drop,List.length_take];rfl)) ?_;(with_reducible refine (spec_l01Put.calls k3 (fun k_=>some k_ = (.slice Ao35 x5_2.length co35 : Value).ownBlock) (.slice Ao35 x5_2.length co35) x5_2 x9_3 t163 w _ ?side1 ?side2 A33.out).mono ?_);(case side1=>repeat (first|(with_reducible first|exact HB.out|apply below_alloc|apply pw_below_drewN|apply below_drew1|refine below_set ?_ GE153.out)|exact HB.out));(case side2=>exact Kd.R_tight rfl HO_5.out);rintro e w36 ⟨v164,rfl,ho0,hb,hkp⟩;refine ⟨_,rfl,?_⟩;have n0_:=Aside0.mk (blk_kept (by (with_reducible repeat (first|refine blk_drewN ?_ _|refine blk_drew ?_|refine blk_alloc ?_ _));exact BK153.out) hkp (fun hs_=>(fun e_=>(Kd.R_ne HO_5.out BK153.out (by decide)) e_) hs_));have n1_:=Aside0.mk (Kd.R_mono (ok':=fun k_=>True) ho0 (fun k_ hk_=>trivial));have n2_:=Aside0.mk (hb);clear BK153;clear HB;clear HO_5;have BK153:=n0_;have HO165:=n1_;have HB:=n2_;clear n0_ n1_ n2_;(try clear hb);(try clear hkp);(try clear ho0)))
            go_roundg k3
            case measure=>have:=HK1.out;have:=HK2.out;have:=HK3.out;omega
            case rel=>exact ⟨(t163),(wrap64 (x7_2 + 1)),(by first|rfl|(simp;done)|(simp [*];done)),H',⟨by have:=HK1.out;have:=HK2.out;have:=HK3.out;omega⟩,⟨by (with_reducible repeat (first|apply Kd.R_alloc|apply Kd.R_drewN|apply Kd.R_drew));exact HO165.out⟩,⟨by (with_reducible repeat (first|refine blk_drewN ?_ _|refine blk_drew ?_|refine blk_alloc ?_ _));exact BK153.out⟩,⟨by repeat (first|(with_reducible first|exact HB.out|apply below_alloc|apply pw_below_drewN|apply below_drew1|refine below_set ?_ GE153.out)|exact HB.out)⟩⟩
           ·rw [if_neg c32] at H
            have c32b0 : decide ((wrap64 (x6_1 + a1)) ≤ a0_1) = false:=decide_eq_false c32
            clear c32
            have H':=Aside0.mk H
            clear H
            have hcz37_0 : wr.cell? ⟨gb153,0,none⟩ = some (.int .i64 a0_0):=(blk_cell BK153.out 0).trans rfl
            have hcz37_1 : wr.cell? ⟨gb153,1,none⟩ = some (.int .i64 a0_1):=(blk_cell BK153.out 1).trans rfl
            have hcz37_2 : wr.cell? ⟨gb153,2,none⟩ = some (.slice A0_2 l0_2.length c0_2):=(blk_cell BK153.out 2).trans rfl
            have hfz37_0:=blk_frozen BK153.out 0
            have hfz37_1:=blk_frozen BK153.out 1
            have hfz37_2:=blk_frozen BK153.out 2
            go_wp2
            go_roundg k3
            case measure=>have:=HK1.out;have:=HK2.out;have:=HK3.out;omega
            case rel=>exact ⟨(x5_2),(wrap64 (x7_2 + 1)),(by first|rfl|(simp;done)|(simp [*];done)),H',⟨by have:=HK1.out;have:=HK2.out;have:=HK3.out;omega⟩,⟨by (with_reducible repeat (first|apply Kd.R_alloc|apply Kd.R_drewN|apply Kd.R_drew));exact HO_5.out⟩,⟨by (with_reducible repeat (first|refine blk_drewN ?_ _|refine blk_drew ?_|refine blk_alloc ?_ _));exact BK153.out⟩,⟨by repeat (first|(with_reducible first|exact HB.out|apply below_alloc|apply pw_below_drewN|apply below_drew1|refine below_set ?_ GE153.out)|exact HB.out)⟩⟩
      ·rw [if_neg c8] at H
       have c8b0 : decide (x7_2 < a0_0) = false:=decide_eq_false c8
       clear c8
       have H':=Aside0.mk H
       clear H
       have hcz38_0 : wr.cell? ⟨gb153,0,none⟩ = some (.int .i64 a0_0):=(blk_cell BK153.out 0).trans rfl
       have hcz38_1 : wr.cell? ⟨gb153,1,none⟩ = some (.int .i64 a0_1):=(blk_cell BK153.out 1).trans rfl
       have hcz38_2 : wr.cell? ⟨gb153,2,none⟩ = some (.slice A0_2 l0_2.length c0_2):=(blk_cell BK153.out 2).trans rfl
       have hfz38_0:=blk_frozen BK153.out 0
       have hfz38_1:=blk_frozen BK153.out 1
       have hfz38_2:=blk_frozen BK153.out 2
       go_wp2
       go_roundg k2
       case measure=>have:=HK1.out;have:=HK2.out;omega
       case rel=>exact ⟨(x5_2),(wrap64 (x6_1 + 1)),(by first|rfl|(simp;done)|(simp [*];done)),H',⟨by have:=HK1.out;have:=HK2.out;omega⟩,⟨by (with_reducible repeat (first|apply Kd.R_alloc|apply Kd.R_drewN|apply Kd.R_drew));exact HO_5.out⟩,⟨by (with_reducible repeat (first|refine blk_drewN ?_ _|refine blk_drew ?_|refine blk_alloc ?_ _));exact BK153.out⟩,⟨by repeat (first|(with_reducible first|exact HB.out|apply below_alloc|apply pw_below_drewN|apply below_drew1|refine below_set ?_ GE153.out)|exact HB.out)⟩⟩
   ·rw [if_neg c6] at H
    have c6b0 : decide (x6_1 < a0_1) = false:=decide_eq_false c6
    clear c6
    obtain rfl:=Option.some.inj H
    have hcz39_0 : wr.cell? ⟨gb153,0,none⟩ = some (.int .i64 a0_0):=(blk_cell BK153.out 0).trans rfl
    have hcz39_1 : wr.cell? ⟨gb153,1,none⟩ = some (.int .i64 a0_1):=(blk_cell BK153.out 1).trans rfl
    have hcz39_2 : wr.cell? ⟨gb153,2,none⟩ = some (.slice A0_2 l0_2.length c0_2):=(blk_cell BK153.out 2).trans rfl
    have hfz39_0:=blk_frozen BK153.out 0
    have hfz39_1:=blk_frozen BK153.out 1
    have hfz39_2:=blk_frozen BK153.out 2
    go_wp2
    go_ret
    exact ⟨_,by first|rfl|(simp [errW_none,errW_some] <;> rfl)|(simp [*,errW_none,errW_some] <;> rfl),by (with_reducible repeat (first|apply Kd.R_alloc|apply Kd.R_drewN|apply Kd.R_drew));exact HO_5.out,by repeat (first|(with_reducible first|exact HB.out|apply below_alloc|apply pw_below_drewN|apply below_drew1|refine below_set ?_ GE153.out)|exact HB.out)⟩

/-! ### laws_toInt64S: function 20 -/
def laws_toInt64S.l0 : Nat → List Int → List Int → Int → Option (List Int)
 | 0, _, _, _ => none
 | k + 1, x0, x3, x4 => if x4 < (x0.length : Int) then (if 0 ≤ x4 then (if x4 < (x3.length : Int) then (laws_toInt64S.l0 k x0 (x3.set (x4 : Int).toNat (rd x0 x4)) (wrap64 (x4 + 1))) else (none)) else (none)) else (some x3)
def laws_toInt64S.f (k : Nat) (l0 : List Int) : Option (List Int) := if 0 ≤ (l0.length : Int) then (if ((l0.length : Int) : Int).toNat ≤ 35184372088832 then (laws_toInt64S.l0 k l0 (List.replicate ((l0.length : Int) : Int).toNat 0) 0) else (none)) else (none)
set_option maxHeartbeats 8000000 in
set_option maxRecDepth 100000 in
theorem laws_toInt64S.calls (k : Nat) (A0 : Option Addr) (c0 : Nat) (l0 : List Int) (r : List Int) (w : World) (hr0 : Kd.C (Kd.int .i64) w A0 l0.length l0) (hc0 : l0.length ≤ c0) (h : laws_toInt64S.f k l0 = some r) :
  Calls Try.prog 20 #[.slice A0 l0.length c0] w fun e w'=>∃ v0_ : Value,e = .returned (v0_) ∧ Kd.R (Kd.int .i64) 2 w' w.heap.size (fun _=>True) v0_ r ∧ Below w.heap.size w w':=by
 have HR0:=Aside0.mk hr0
 have HC0:=Aside0.mk hc0
 clear hr0 hc0
 have HB:=Aside0.mk (Below.refl w.heap.size w)
 have H : (if 0 ≤ (l0.length : Int) then (if ((l0.length : Int) : Int).toNat ≤ 35184372088832 then (laws_toInt64S.l0 k l0 (List.replicate ((l0.length : Int) : Int).toNat 0) 0) else (none)) else (none)) = some r:=h
 clear h
 by_cases c2 : 0 ≤ (l0.length : Int)
 ·rw [if_pos c2] at H
  have c2b0:=eq_true c2
  have c2b1 : decide (0 ≤ (l0.length : Int)) = true:=decide_eq_true c2
  clear c2
  by_cases c3 : ((l0.length : Int) : Int).toNat ≤ 35184372088832
  ·rw [if_pos c3] at H
   have c3b0:=eq_true c3
   have c3b1 : decide (((l0.length : Int) : Int).toNat ≤ 35184372088832) = true:=decide_eq_true c3
   clear c3
   obtain ⟨y172,hy172⟩ : ∃ y_ : List Int,y_ = (List.replicate ((l0.length : Int) : Int).toNat 0):=⟨_,rfl⟩
   replace H : (laws_toInt64S.l0 k l0 y172 0) = some r:=by first|(rw [hy172];with_reducible exact H)|(have H2_:=(Option.bind_some _ _).symm.trans H;rw [hy172];with_reducible exact H2_)|(have H2_:=(Option.bind_some _ _).symm.trans H;with_reducible exact H2_)|with_reducible exact H|(rw [hy172];exact H)|exact H
   have Ny172:=Aside0.mk hy172
   clear hy172
   have H':=Aside0.mk H
   clear H
   go_enter Try.func20,Try.ntmps20
   go_wp2_with (first|((with_reducible refine gate_dst (N:=7) rfl ?_);refine Kd.R_make (Kd.int .i64) _ 2 rfl (N:=7) rfl 22 _ _ rfl (l0.length : Int) rfl rfl Try.underlying22 (.int .i64 0) 8 info2 rfl (by decide) (by omega) 0 (ok:=fun _=>True) (okp:=fun _=>True) rfl (fun _ hk=>hk) trivial (of_decide_eq_true (by first|(with_reducible assumption)|assumption)) (Nat.le_trans (Nat.mul_le_mul_right _ (of_decide_eq_true (by first|(with_reducible assumption)|assumption) : (l0.length : Int).toNat ≤ 35184372088832)) (by omega)) (Below.refl _ _) (Nat.le_refl _) ?_;intro v173 w4 ho5 hb hg_ hnew_;clear hg_ hnew_;(first|rw [← Ny172.out] at ho5|(simp only [Int.reduceToNat] at ho5;rw [← Ny172.out] at ho5));have n0_:=Aside0.mk (Kd.R_lower ho5 (below_size (by repeat (first|(with_reducible first|exact HB.out|apply below_alloc|apply pw_below_drewN|apply below_drew1)|exact HB.out))));have n1_:=Aside0.mk (below_step (by repeat (first|(with_reducible first|exact HB.out|apply below_alloc|apply pw_below_drewN|apply below_drew1)|exact HB.out)) hb);clear HB;have HO174:=n0_;have HB:=n1_;clear n0_ n1_;clear hb ho5))
   go_loopg [4] k (fun kq v4 w'=>∃ (x3_1 : List Int) (x4_1 : Int),v4 = .int .i64 x4_1 ∧ Aside0 (laws_toInt64S.l0 kq l0 x3_1 x4_1 = some r) ∧ Aside0 (kq ≤ k) ∧ Aside0 (Kd.R (Kd.int .i64) 2 w' w.heap.size (fun _=>True) v173 x3_1) ∧ Aside0 (Below w.heap.size w w'))
   case atStart=>exact ⟨(y172),(0),(by first|rfl|(simp;done)|(simp [*];done)),H',⟨Nat.le_refl _⟩,⟨by (with_reducible repeat (first|apply Kd.R_alloc|apply Kd.R_drewN|apply Kd.R_drew));exact HO174.out⟩,⟨by repeat (first|(with_reducible first|exact HB.out|apply below_alloc|apply pw_below_drewN|apply below_drew1)|exact HB.out)⟩⟩
   case round =>
    clear H'
    try clear c2
    try clear c2b0
    try clear c2b1
    try clear p2
    try clear c3
    try clear c3b0
    try clear c3b1
    obtain ⟨x3_1,x4_1,rfl,HA,HK1,HO_3,HB⟩:=hrel
    cases gk with
    | zero => exact absurd HA.out (by simp [laws_toInt64S.l0])
    | succ k1 =>
     have H:=HA.out
     clear HA
     simp only [laws_toInt64S.l0] at H
     by_cases c6 : x4_1 < (l0.length : Int)
     ·rw [if_pos c6] at H
      have c6b0 : decide (x4_1 < (l0.length : Int)) = true:=decide_eq_true c6
      clear c6
      by_cases c7 : 0 ≤ x4_1
      ·rw [if_pos c7] at H
       have c7b0 : decide (0 ≤ x4_1) = true:=decide_eq_true c7
       clear c7
       by_cases c8 : x4_1 < (x3_1.length : Int)
       ·rw [if_pos c8] at H
        have c8b0 : decide (x4_1 < (x3_1.length : Int)) = true:=decide_eq_true c8
        clear c8
        obtain ⟨y176,hy176⟩ : ∃ y_ : List Int,y_ = (x3_1.set (x4_1 : Int).toNat (rd l0 x4_1)):=⟨_,rfl⟩
        replace H : (laws_toInt64S.l0 k1 l0 y176 (wrap64 (x4_1 + 1))) = some r:=by first|(rw [hy176];with_reducible exact H)|(have H2_:=(Option.bind_some _ _).symm.trans H;rw [hy176];with_reducible exact H2_)|(have H2_:=(Option.bind_some _ _).symm.trans H;with_reducible exact H2_)|with_reducible exact H|(rw [hy176];exact H)|exact H
        have Ny176:=Aside0.mk hy176
        clear hy176
        have H':=Aside0.mk H
        clear H
        have p175 : 0 ≤ (x4_1 : Int):=of_decide_eq_true (by first|(with_reducible assumption)|assumption)
        have q175 : x4_1 < (l0.length : Int):=of_decide_eq_true (by first|(with_reducible assumption)|assumption)
        obtain ⟨ad175,e175,hx175_0⟩:=Kd.at_int HR0.out x4_1 p175 q175
        cases e175
        replace hx175_0:=(HB.out.cell (World.block_lt_of_cell? w _ hx175_0)).trans hx175_0
        replace p175:=eq_true p175
        replace q175:=eq_true q175
        have p9 : 0 ≤ (x4_1 : Int):=of_decide_eq_true (by first|(with_reducible assumption)|assumption)
        have q9 : (x4_1 : Int) < ((x3_1.length : Int) : Int):=of_decide_eq_true (by first|(with_reducible assumption)|assumption)
        obtain ⟨go9,co9,eo9,gb9,gl9,cl9,HG9⟩:=Kd.R_form HO_3.out (by omega)
        (first|cases eo9|(injection eo9 with ea_ en_ ec_;(first|subst ea_|(injection ea_ with ea_;subst ea_));subst ec_;clear en_))
        have GB9:=Aside0.mk gb9
        have GG9:=Aside0.mk HG9
        clear gb9 gl9 HG9
        obtain ⟨hx9_0,hf9_0⟩:=Kd.R_celln 0 HO_3.out (x4_1 : Int) p9 q9
        replace p9:=eq_true p9
        replace q9:=eq_true q9
        have HP10:=Kd.R_putg HO_3.out (x4_1 : Int) (rd l0 x4_1)
        go_wp2_with (first|((with_reducible refine gate_store (t:=2) (p:=20) rfl ?_);refine store_event (t:=2) (p:=20) (v:=?vo_w11) (w1:=(wr.setCell ⟨go9,(x4_1 : Int).toNat,none⟩ (.int .i64 (rd l0 x4_1)))) ?hg ?ho ?hn ?hr ?_;(case ho=>rfl);(case hg=>rfl);(case hn=>rfl);(case hr=>first|(go_simp;done)|(go_simp;rfl));intro w11 hw;have hg : wr.grownBy w11 (some go9):=(by rw [hw];exact HP10.2);have hp_ : Kd.R (Kd.int .i64) 2 w11 w.heap.size (fun _=>True) (.slice (some ⟨go9,0,none⟩) x3_1.length co9) y176:=(by rw [hw,Ny176.out];exact HP10.1);clear HP10;have n0_:=Aside0.mk (hp_);have n1_:=Aside0.mk ((by rw [hw];exact below_set (HB.out) GB9.out : Below w.heap.size w w11));clear HO_3;clear HB;have HO_3:=n0_;have HB:=n1_;clear n0_ n1_;clear hg hw hp_))
        go_roundg k1
        case measure=>have:=HK1.out;omega
        case rel=>exact ⟨(y176),(wrap64 (x4_1 + 1)),(by first|rfl|(simp;done)|(simp [*];done)),H',⟨by have:=HK1.out;omega⟩,⟨by (with_reducible repeat (first|apply Kd.R_alloc|apply Kd.R_drewN|apply Kd.R_drew));exact HO_3.out⟩,⟨by repeat (first|(with_reducible first|exact HB.out|apply below_alloc|apply pw_below_drewN|apply below_drew1)|exact HB.out)⟩⟩
       ·rw [if_neg c8] at H
        exact absurd H (by simp)
      ·rw [if_neg c7] at H
       exact absurd H (by simp)
     ·rw [if_neg c6] at H
      have c6b0 : decide (x4_1 < (l0.length : Int)) = false:=decide_eq_false c6
      clear c6
      obtain rfl:=Option.some.inj H
      go_wp2
      go_ret
      exact ⟨_,by first|rfl|(simp [errW_none,errW_some] <;> rfl)|(simp [*,errW_none,errW_some] <;> rfl),by (with_reducible repeat (first|apply Kd.R_alloc|apply Kd.R_drewN|apply Kd.R_drew));exact HO_3.out,by repeat (first|(with_reducible first|exact HB.out|apply below_alloc|apply pw_below_drewN|apply below_drew1)|exact HB.out)⟩
  ·rw [if_neg c3] at H
   exact absurd H (by simp)
 ·rw [if_neg c2] at H
  exact absurd H (by simp)

/-! ### laws_toSea: function 12 -/
def laws_toSea.f (k : Nat) (a0_0 : Int) (a0_1 : Int) (l0_2 : List Int) : Option (Int × Int × List Int) := (laws_toInt64S.f k l0_2).bind fun t180 => (some (a0_0, a0_1, t180))
set_option maxHeartbeats 8000000 in
set_option maxRecDepth 100000 in
theorem laws_toSea.calls (k : Nat) (a0_0 : Int) (a0_1 : Int) (A0_2 : Option Addr) (c0_2 : Nat) (l0_2 : List Int) (r1 : Int) (r2 : Int) (r3 : List Int) (w : World) (hr0_2 : Kd.C (Kd.int .i64) w A0_2 l0_2.length l0_2) (hc0_2 : l0_2.length ≤ c0_2) (h : laws_toSea.f k a0_0 a0_1 l0_2 = some (r1, r2, r3)) :
  Calls Try.prog 12 #[.agg #[.int .i64 a0_0,.int .i64 a0_1,.slice A0_2 l0_2.length c0_2]] w fun e w'=>∃ v2_ : Value,e = .returned (.agg #[.int .i64 r1,.int .i64 r2,v2_]) ∧ Kd.R (Kd.int .i64) 2 w' w.heap.size (fun _=>True) v2_ r3 ∧ Below w.heap.size w w':=by
 have hu24:=Try.underlying24
 have hu28:=Try.underlying28
 have HR0_2:=Aside0.mk hr0_2
 have HC0_2:=Aside0.mk hc0_2
 clear hr0_2 hc0_2
 have HB:=Aside0.mk (Below.refl w.heap.size w)
 have H : ((laws_toInt64S.f k l0_2).bind fun t180=>(some (a0_0,a0_1,t180))) = some (r1,r2,r3):=h
 clear h
 replace H:=Option.bind_eq_some_iff.mp H
 obtain ⟨t180,A20,H⟩:=H
 replace H : (some (a0_0,a0_1,t180)) = some (r1,r2,r3):=H
 have A2:=Aside0.mk A20
 clear A20
 simp only [Option.some.injEq,Prod.mk.injEq] at H
 obtain ⟨rfl,rfl,rfl⟩:=H
 go_enter Try.func12,Try.ntmps12
 go_wp2_with (first|((with_reducible refine gate_dst (N:=1) rfl ?_);refine box_event ?hg (N:=1) ?hd (cs:=#[.int .i64 a0_0,.int .i64 a0_1,.slice A0_2 l0_2.length c0_2]) (t:=24) ?hr ?_;(case hd=>rfl);(case hg=>rfl);(case hr=>first|(go_simp;done)|(go_simp;rfl));intro gb177 hg w3 hbox hb;have n0_:=Aside0.mk (below_step (by repeat (first|(with_reducible first|exact HB.out|apply below_alloc|apply pw_below_drewN|apply below_drew1)|exact HB.out)) hb);have n1_:=Aside0.mk (hbox);have n2_:=Aside0.mk ((by rw [hg];exact (below_size (by repeat (first|(with_reducible first|exact HB.out|apply below_alloc|apply pw_below_drewN|apply below_drew1)|exact HB.out))) : w.heap.size ≤ gb177));have n3_:=Aside0.mk ((by rw [hg];exact (below_size (by repeat (first|(with_reducible first|exact HB.out|apply below_alloc|apply pw_below_drewN|apply below_drew1)|exact HB.out))) : w.heap.size ≤ gb177));clear HB;have HB:=n0_;have BK177:=n1_;have GW177:=n2_;have GE177:=n3_;clear n0_ n1_ n2_ n3_;clear hb hbox hg)|((with_reducible refine gate_dst (N:=2) rfl ?_);refine box_event ?hg (N:=2) ?hd (cs:=#[.int .i64 0,.int .i64 0,.slice none 0 0]) (t:=28) ?hr ?_;(case hd=>rfl);(case hg=>rfl);(case hr=>first|(go_simp;done)|(go_simp;rfl));intro gb178 hg w4 hbox hb;have n0_:=Aside0.mk (blk_below (g:=gb177) (o:=.cells #[.int .i64 a0_0,.int .i64 a0_1,.slice A0_2 l0_2.length c0_2] 24 (0,0)) (by (with_reducible repeat (first|refine blk_drewN ?_ _|refine blk_drew ?_|refine blk_alloc ?_ _));exact BK177.out) hb);have n1_:=Aside0.mk (below_step (by repeat (first|(with_reducible first|exact HB.out|apply below_alloc|apply pw_below_drewN|apply below_drew1|refine below_set ?_ GE177.out)|exact HB.out)) hb);have n2_:=Aside0.mk (hbox);have n3_:=Aside0.mk ((by rw [hg];exact (below_size (by repeat (first|(with_reducible first|exact HB.out|apply below_alloc|apply pw_below_drewN|apply below_drew1|refine below_set ?_ GE177.out)|exact HB.out))) : w.heap.size ≤ gb178));have n4_:=Aside0.mk ((by rw [hg];exact (below_size (by repeat (first|(with_reducible first|exact HB.out|apply below_alloc|apply pw_below_drewN|apply below_drew1|refine below_set ?_ GE177.out)|exact HB.out))) : w.heap.size ≤ gb178));have n5_:=Aside0.mk ((by rw [hg];exact Nat.ne_of_lt (blk_lt (g:=gb177) (o:=.cells #[.int .i64 a0_0,.int .i64 a0_1,.slice A0_2 l0_2.length c0_2] 24 (0,0)) (by (with_reducible repeat (first|refine blk_drewN ?_ _|refine blk_drew ?_|refine blk_alloc ?_ _));exact BK177.out)) : gb177 ≠ gb178));have n6_:=Aside0.mk ((by rw [hg];exact Nat.ne_of_gt (blk_lt (g:=gb177) (o:=.cells #[.int .i64 a0_0,.int .i64 a0_1,.slice A0_2 l0_2.length c0_2] 24 (0,0)) (by (with_reducible repeat (first|refine blk_drewN ?_ _|refine blk_drew ?_|refine blk_alloc ?_ _));exact BK177.out)) : gb178 ≠ gb177));clear BK177;clear HB;have BK177:=n0_;have HB:=n1_;have BK178:=n2_;have GW178:=n3_;have GE178:=n4_;have NB177_178:=n5_;have NB178_177:=n6_;clear n0_ n1_ n2_ n3_ n4_ n5_ n6_;clear hb hbox hg)|((with_reducible refine gate_dst (N:=3) rfl ?_);refine box_event ?hg (N:=3) ?hd (cs:=#[.int .i64 0,.int .i64 0,.slice none 0 0]) (t:=28) ?hr ?_;(case hd=>rfl);(case hg=>rfl);(case hr=>first|(go_simp;done)|(go_simp;rfl));intro gb179 hg w5 hbox hb;have n0_:=Aside0.mk (blk_below (g:=gb177) (o:=.cells #[.int .i64 a0_0,.int .i64 a0_1,.slice A0_2 l0_2.length c0_2] 24 (0,0)) (by (with_reducible repeat (first|refine blk_drewN ?_ _|refine blk_drew ?_|refine blk_alloc ?_ _));exact BK177.out) hb);have n1_:=Aside0.mk (blk_below (g:=gb178) (o:=.cells #[.int .i64 0,.int .i64 0,.slice none 0 0] 28 (0,0)) (by (with_reducible repeat (first|refine blk_drewN ?_ _|refine blk_drew ?_|refine blk_alloc ?_ _));exact BK178.out) hb);have n2_:=Aside0.mk (below_step (by repeat (first|(with_reducible first|exact HB.out|apply below_alloc|apply pw_below_drewN|apply below_drew1|refine below_set ?_ GE177.out|refine below_set ?_ GE178.out)|exact HB.out)) hb);have n3_:=Aside0.mk (hbox);have n4_:=Aside0.mk ((by rw [hg];exact (below_size (by repeat (first|(with_reducible first|exact HB.out|apply below_alloc|apply pw_below_drewN|apply below_drew1|refine below_set ?_ GE177.out|refine below_set ?_ GE178.out)|exact HB.out))) : w.heap.size ≤ gb179));have n5_:=Aside0.mk ((by rw [hg];exact (below_size (by repeat (first|(with_reducible first|exact HB.out|apply below_alloc|apply pw_below_drewN|apply below_drew1|refine below_set ?_ GE177.out|refine below_set ?_ GE178.out)|exact HB.out))) : w.heap.size ≤ gb179));have n6_:=Aside0.mk ((by rw [hg];exact Nat.ne_of_lt (blk_lt (g:=gb177) (o:=.cells #[.int .i64 a0_0,.int .i64 a0_1,.slice A0_2 l0_2.length c0_2] 24 (0,0)) (by (with_reducible repeat (first|refine blk_drewN ?_ _|refine blk_drew ?_|refine blk_alloc ?_ _));exact BK177.out)) : gb177 ≠ gb179));have n7_:=Aside0.mk ((by rw [hg];exact Nat.ne_of_gt (blk_lt (g:=gb177) (o:=.cells #[.int .i64 a0_0,.int .i64 a0_1,.slice A0_2 l0_2.length c0_2] 24 (0,0)) (by (with_reducible repeat (first|refine blk_drewN ?_ _|refine blk_drew ?_|refine blk_alloc ?_ _));exact BK177.out)) : gb179 ≠ gb177));have n8_:=Aside0.mk ((by rw [hg];exact Nat.ne_of_lt (blk_lt (g:=gb178) (o:=.cells #[.int .i64 0,.int .i64 0,.slice none 0 0] 28 (0,0)) (by (with_reducible repeat (first|refine blk_drewN ?_ _|refine blk_drew ?_|refine blk_alloc ?_ _));exact BK178.out)) : gb178 ≠ gb179));have n9_:=Aside0.mk ((by rw [hg];exact Nat.ne_of_gt (blk_lt (g:=gb178) (o:=.cells #[.int .i64 0,.int .i64 0,.slice none 0 0] 28 (0,0)) (by (with_reducible repeat (first|refine blk_drewN ?_ _|refine blk_drew ?_|refine blk_alloc ?_ _));exact BK178.out)) : gb179 ≠ gb178));clear BK177;clear BK178;clear HB;have BK177:=n0_;have BK178:=n1_;have HB:=n2_;have BK179:=n3_;have GW179:=n4_;have GE179:=n5_;have NB177_179:=n6_;have NB179_177:=n7_;have NB178_179:=n8_;have NB179_178:=n9_;clear n0_ n1_ n2_ n3_ n4_ n5_ n6_ n7_ n8_ n9_;clear hb hbox hg;have hnb6:=NB177_178.out;have hnc6:=NB178_177.out;have hnb7:=NB177_179.out;have hnc7:=NB179_177.out;have hcz8_0 : w5.cell? ⟨gb177,0,none⟩ = some (.int .i64 a0_0):=(blk_cell BK177.out 0).trans rfl;have hcz8_1 : w5.cell? ⟨gb177,1,none⟩ = some (.int .i64 a0_1):=(blk_cell BK177.out 1).trans rfl;have hcz8_2 : w5.cell? ⟨gb177,2,none⟩ = some (.slice A0_2 l0_2.length c0_2):=(blk_cell BK177.out 2).trans rfl;have hfz8_0:=blk_frozen BK177.out 0;have hfz8_1:=blk_frozen BK177.out 1;have hfz8_2:=blk_frozen BK177.out 2;have hnb9:=NB179_178.out;have hnc9:=NB178_179.out;have hcz10_0 : w5.cell? ⟨gb179,0,none⟩ = some (.int .i64 0):=(blk_cell BK179.out 0).trans rfl;have hcz10_1 : w5.cell? ⟨gb179,1,none⟩ = some (.int .i64 0):=(blk_cell BK179.out 1).trans rfl;have hcz10_2 : w5.cell? ⟨gb179,2,none⟩ = some (.slice none 0 0):=(blk_cell BK179.out 2).trans rfl;have hfz10_0:=blk_frozen BK179.out 0;have hfz10_1:=blk_frozen BK179.out 1;have hfz10_2:=blk_frozen BK179.out 2)|((with_reducible refine gate_callee (f:=20) rfl ?_);refine goesL_ (some 12) rfl rfl Try.func20 (by kernel_rfl) rfl #[.slice A0_2 l0_2.length c0_2] rfl (by (try simp only [List.map_toArray,List.map_cons,List.map_nil]);first|done|rfl|(simp only [List.length_drop,List.length_take];rfl)) ?_;(with_reducible refine (laws_toInt64S.calls k _ _ l0_2 t180 _ ?side1 ?side2 A2.out).mono ?_);(case side1=>exact Kd.C_below HR0_2.out (by repeat (first|(with_reducible first|exact HB.out|apply below_alloc|apply pw_below_drewN|apply below_drew1|refine below_set ?_ GE177.out|refine below_set ?_ GE178.out|refine below_set ?_ GE179.out)|exact HB.out)));(case side2=>exact HC0_2.out);rintro e w11 ⟨v181,rfl,ho0,hb⟩;refine ⟨_,rfl,?_⟩;have n0_:=Aside0.mk (Kd.R_lower ho0 (below_size (by repeat (first|(with_reducible first|exact HB.out|apply below_alloc|apply pw_below_drewN|apply below_drew1|refine below_set ?_ GE177.out|refine below_set ?_ GE178.out|refine below_set ?_ GE179.out)|exact HB.out))));have n1_:=Aside0.mk (blk_below (g:=gb177) (o:=.cells #[.int .i64 a0_0,.int .i64 a0_1,.slice A0_2 l0_2.length c0_2] 24 (0,0)) (by (with_reducible repeat (first|refine blk_drewN ?_ _|refine blk_drew ?_|refine blk_alloc ?_ _));refine blk_far ?_ NB177_179.out _;(with_reducible repeat (first|refine blk_drewN ?_ _|refine blk_drew ?_|refine blk_alloc ?_ _));refine blk_far ?_ NB177_179.out _;(with_reducible repeat (first|refine blk_drewN ?_ _|refine blk_drew ?_|refine blk_alloc ?_ _));exact BK177.out) hb);have n2_:=Aside0.mk (blk_below (g:=gb178) (o:=.cells #[.int .i64 0,.int .i64 0,.slice none 0 0] 28 (0,0)) (by (with_reducible repeat (first|refine blk_drewN ?_ _|refine blk_drew ?_|refine blk_alloc ?_ _));refine blk_far ?_ NB178_179.out _;(with_reducible repeat (first|refine blk_drewN ?_ _|refine blk_drew ?_|refine blk_alloc ?_ _));refine blk_far ?_ NB178_179.out _;(with_reducible repeat (first|refine blk_drewN ?_ _|refine blk_drew ?_|refine blk_alloc ?_ _));exact BK178.out) hb);have n3_:=Aside0.mk (blk_below (g:=gb179) (o:=.cells #[.int .i64 a0_0,.int .i64 a0_1,.slice none 0 0] 28 (0,0)) (by (with_reducible repeat (first|refine blk_drewN ?_ _|refine blk_drew ?_|refine blk_alloc ?_ _));refine blk_put (cs:=#[.int .i64 a0_0,.int .i64 0,.slice none 0 0]) ?_ 1 _ rfl;(with_reducible repeat (first|refine blk_drewN ?_ _|refine blk_drew ?_|refine blk_alloc ?_ _));refine blk_put (cs:=#[.int .i64 0,.int .i64 0,.slice none 0 0]) ?_ 0 _ rfl;(with_reducible repeat (first|refine blk_drewN ?_ _|refine blk_drew ?_|refine blk_alloc ?_ _));exact BK179.out) hb);have n4_:=Aside0.mk (below_step (by repeat (first|(with_reducible first|exact HB.out|apply below_alloc|apply pw_below_drewN|apply below_drew1|refine below_set ?_ GE177.out|refine below_set ?_ GE178.out|refine below_set ?_ GE179.out)|exact HB.out)) hb);clear BK177;clear BK178;clear BK179;clear HB;have HO182:=n0_;have BK177:=n1_;have BK178:=n2_;have BK179:=n3_;have HB:=n4_;clear n0_ n1_ n2_ n3_ n4_;(try clear hb);(try clear hb2);(try clear hk);(try clear hi);(try clear ho0);obtain ⟨Ao12,co12,eo12⟩:=Kd.R_slice HO182.out;subst eo12;have hcz13_0 : w11.cell? ⟨gb179,0,none⟩ = some (.int .i64 a0_0):=(blk_cell BK179.out 0).trans rfl;have hcz13_1 : w11.cell? ⟨gb179,1,none⟩ = some (.int .i64 a0_1):=(blk_cell BK179.out 1).trans rfl;have hcz13_2 : w11.cell? ⟨gb179,2,none⟩ = some (.slice none 0 0):=(blk_cell BK179.out 2).trans rfl;have hfz13_0:=blk_frozen BK179.out 0;have hfz13_1:=blk_frozen BK179.out 1;have hfz13_2:=blk_frozen BK179.out 2;have hcz14_0 : w11.cell? ⟨gb178,0,none⟩ = some (.int .i64 0):=(blk_cell BK178.out 0).trans rfl;have hcz14_1 : w11.cell? ⟨gb178,1,none⟩ = some (.int .i64 0):=(blk_cell BK178.out 1).trans rfl;have hcz14_2 : w11.cell? ⟨gb178,2,none⟩ = some (.slice none 0 0):=(blk_cell BK178.out 2).trans rfl;have hfz14_0:=blk_frozen BK178.out 0;have hfz14_1:=blk_frozen BK178.out 1;have hfz14_2:=blk_frozen BK178.out 2))
 refine bodyPost_ret (results_cell_row rfl _ _ gb178 28 #[.int .i64 a0_0,.int .i64 a0_1,.slice Ao12 t180.length co12] (0,0) _ rfl (by (with_reducible repeat (first|refine blk_drewN ?_ _|refine blk_drew ?_|refine blk_alloc ?_ _));refine blk_put (cs:=#[.int .i64 a0_0,.int .i64 a0_1,.slice none 0 0]) ?_ 2 _ rfl;(with_reducible repeat (first|refine blk_drewN ?_ _|refine blk_drew ?_|refine blk_alloc ?_ _));refine blk_put (cs:=#[.int .i64 a0_0,.int .i64 0,.slice none 0 0]) ?_ 1 _ rfl;(with_reducible repeat (first|refine blk_drewN ?_ _|refine blk_drew ?_|refine blk_alloc ?_ _));refine blk_put (cs:=#[.int .i64 0,.int .i64 0,.slice none 0 0]) ?_ 0 _ rfl;(with_reducible repeat (first|refine blk_drewN ?_ _|refine blk_drew ?_|refine blk_alloc ?_ _));refine blk_far ?_ NB178_179.out _;(with_reducible repeat (first|refine blk_drewN ?_ _|refine blk_drew ?_|refine blk_alloc ?_ _));exact BK178.out) Try.underlying28 rfl (by kernel_rfl)) rfl ?_
 exact ⟨_,by first|rfl|(simp [errW_none,errW_some] <;> rfl)|(simp [*,errW_none,errW_some] <;> rfl),by (with_reducible repeat (first|apply Kd.R_alloc|apply Kd.R_drewN|apply Kd.R_drew));exact Kd.R_mono (Kd.R_far (p:=⟨gb178,2,none⟩) (Kd.R_far (p:=⟨gb178,1,none⟩) (Kd.R_far (p:=⟨gb178,0,none⟩) (Kd.R_far (p:=⟨gb179,2,none⟩) (Kd.R_types (Kd.R_types HO182.out BK179.out (by decide)) BK178.out (by decide)) (fun _ hk=>hk.1.2) (.slice Ao12 t180.length co12)) (fun _ hk=>hk.2) (.int .i64 a0_0)) (fun _ hk=>hk.2) (.int .i64 a0_1)) (fun _ hk=>hk.2) (.slice Ao12 t180.length co12)) (fun _ hk=>trivial),by repeat (first|(with_reducible first|exact HB.out|apply below_alloc|apply pw_below_drewN|apply below_drew1|refine below_set ?_ GE177.out|refine below_set ?_ GE178.out|refine below_set ?_ GE179.out)|exact HB.out)⟩

/-! ### impl_within: function 41 -/
def impl_within.f (a0 : Int) (a1 : Int) (a2 : Int) : Option (Bool) := if a1 ≤ a0 then (some (decide (a0 ≤ a2))) else (some false)
set_option maxHeartbeats 8000000 in
set_option maxRecDepth 100000 in
theorem impl_within.calls (a0 : Int) (a1 : Int) (a2 : Int) (r : Bool) (w : World) (h : impl_within.f a0 a1 a2 = some r) :
  Calls Try.prog 41 #[.int .i64 a0,.int .i64 a1,.int .i64 a2] w fun e w'=>e = .returned (.bool r) ∧ Drawn0 w w':=by
 have H : (if a1 ≤ a0 then (some (decide (a0 ≤ a2))) else (some false)) = some r:=h
 clear h
 by_cases c4 : a1 ≤ a0
 ·rw [if_pos c4] at H
  have c4b0 : decide (a1 ≤ a0) = true:=decide_eq_true c4
  clear c4
  obtain rfl:=Option.some.inj H
  go_enter Try.func41,Try.ntmps41
  go_wp2
  go_ret
  exact ⟨by first|rfl|(simp;done)|(simp [*];done),by repeat (first|exact Drawn0.refl _|apply Drawn0.step)⟩
 ·rw [if_neg c4] at H
  have c4b0 : decide (a1 ≤ a0) = false:=decide_eq_false c4
  clear c4
  obtain rfl:=Option.some.inj H
  go_enter Try.func41,Try.ntmps41
  go_wp2
  go_ret
  exact ⟨by first|rfl|(simp;done)|(simp [*];done),by repeat (first|exact Drawn0.refl _|apply Drawn0.step)⟩

/-! ### impl_size_int64: function 65 -/
def impl_size_int64.f (l0 : List Int) : Option (Int) := some (l0.length : Int)
set_option maxHeartbeats 8000000 in
set_option maxRecDepth 100000 in
theorem impl_size_int64.calls (A0 : Option Addr) (c0 : Nat) (l0 : List Int) (r : Int) (w : World) (hr0 : Kd.C (Kd.int .i64) w A0 l0.length l0) (hc0 : l0.length ≤ c0) (h : impl_size_int64.f l0 = some r) :
  Calls Try.prog 65 #[.slice A0 l0.length c0] w fun e w'=>e = .returned (.int .i64 r) ∧ Drawn0 w w':=by
 have HR0:=Aside0.mk hr0
 have HC0:=Aside0.mk hc0
 clear hr0 hc0
 have H : (some (l0.length : Int)) = some r:=h
 clear h
 obtain rfl:=Option.some.inj H
 go_enter Try.func65,Try.ntmps65
 go_wp2
 go_ret
 exact ⟨by first|rfl|(simp;done)|(simp [*];done),by repeat (first|exact Drawn0.refl _|apply Drawn0.step)⟩

end Go.Proofs.Ytankgbfddgpfmaa.PAll
