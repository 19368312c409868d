-- Written by wip/pp.py of this work (a driver around the kit's print), out of the translation; Lean checks it.
import Derived.Test.YtankgbfddgpfmaaPAllx0
import Derived.Test.YtankgbfddgpfmaaPAllx2
import Derived.Test.YtankgbfddgpfmaaPAllx3
import Derived.Test.YtankgbfddgpfmaaPAllx16
import Derived.Test.YtankgbfddgpfmaaGAre
namespace Go.Proofs.Ytankgbfddgpfmaa.PAll
open Go.RowKit Go.Proofs.YtankgbfddgpfmaaW.PrintWords Go.Proofs.YtankgbfddgpfmaaW.PrintLast Go.Proofs.YtankgbfddgpfmaaW.PrintMore
attribute [local go_sem] max2_int min2_int max_two min_two max_three min_three max_four min_four   -- for this text's walks alone
set_option linter.unusedVariables false
set_option linter.unusedSimpArgs false

/-! ### impl_fleetCode: function 52 -/
def impl_fleetCode.f (k : Nat) (a0_0 : Int) (a0_1 : Int) (l0_2 : List Int) (l1 : List Int) (l2 : List Int) : Option (Int) := (impl_IsSea.f k a0_0 a0_1 l0_2).bind fun t494 => (if t494 = true then ((impl_Sea_isFleet.f k a0_0 a0_1 l0_2 l1).bind fun t495 => (if t495 = true then ((impl_Sea_areCells.f a0_0 a0_1 l0_2 l2).bind fun t496 => ((impl_first.f k (([(⟨t496, 2⟩ : S57)] : List (S57)))).bind fun t500 => (some t500))) else ((impl_first.f k (([(⟨false, 2⟩ : S57)] : List (S57)))).bind fun t504 => (some t504)))) else (some 1))
set_option maxHeartbeats 8000000 in
set_option maxRecDepth 100000 in
theorem impl_fleetCode.calls (k : Nat) (a0_0 : Int) (a0_1 : Int) (A0_2 : Option Addr) (c0_2 : Nat) (l0_2 : List Int) (A1 : Option Addr) (c1 : Nat) (l1 : List Int) (A2 : Option Addr) (c2 : Nat) (l2 : List Int) (r : Int) (w : World) (hr0_2 : Kd.C (Kd.int .i64) w A0_2 l0_2.length l0_2) (hc0_2 : l0_2.length ≤ c0_2) (hr1 : Kd.C (Kd.int .i64) w A1 l1.length l1) (hc1 : l1.length ≤ c1) (hr2 : Kd.C (Kd.int .i64) w A2 l2.length l2) (hc2 : l2.length ≤ c2) (h : impl_fleetCode.f k a0_0 a0_1 l0_2 l1 l2 = some r) :
  Calls Try.prog 52 #[.agg #[.int .i64 a0_0,.int .i64 a0_1,.slice A0_2 l0_2.length c0_2],.slice A1 l1.length c1,.slice A2 l2.length c2] w fun e w'=>e = .returned (.int .i64 r) ∧ Below w.heap.size w w':=by
 have hu28:=Try.underlying28
 have hu57:=Try.underlying57
 have HR0_2:=Aside0.mk hr0_2
 have HC0_2:=Aside0.mk hc0_2
 clear hr0_2 hc0_2
 have HR1:=Aside0.mk hr1
 have HC1:=Aside0.mk hc1
 clear hr1 hc1
 have HR2:=Aside0.mk hr2
 have HC2:=Aside0.mk hc2
 clear hr2 hc2
 have HB:=Aside0.mk (Below.refl w.heap.size w)
 have H : ((impl_IsSea.f k a0_0 a0_1 l0_2).bind fun t494=>(if t494 = true then ((impl_Sea_isFleet.f k a0_0 a0_1 l0_2 l1).bind fun t495=>(if t495 = true then ((impl_Sea_areCells.f a0_0 a0_1 l0_2 l2).bind fun t496=>((impl_first.f k (([(⟨t496,2⟩ : S57)] : List (S57)))).bind fun t500=>(some t500))) else ((impl_first.f k (([(⟨false,2⟩ : S57)] : List (S57)))).bind fun t504=>(some t504)))) else (some 1))) = some r:=h
 clear h
 replace H:=Option.bind_eq_some_iff.mp H
 obtain ⟨t494,A40,H⟩:=H
 replace H : (if t494 = true then ((impl_Sea_isFleet.f k a0_0 a0_1 l0_2 l1).bind fun t495=>(if t495 = true then ((impl_Sea_areCells.f a0_0 a0_1 l0_2 l2).bind fun t496=>((impl_first.f k (([(⟨t496,2⟩ : S57)] : List (S57)))).bind fun t500=>(some t500))) else ((impl_first.f k (([(⟨false,2⟩ : S57)] : List (S57)))).bind fun t504=>(some t504)))) else (some 1)) = some r:=H
 have A4:=Aside0.mk A40
 clear A40
 by_cases c5 : t494 = true
 ·subst c5
  have H1 : ((impl_Sea_isFleet.f k a0_0 a0_1 l0_2 l1).bind fun t495=>(if t495 = true then ((impl_Sea_areCells.f a0_0 a0_1 l0_2 l2).bind fun t496=>((impl_first.f k (([(⟨t496,2⟩ : S57)] : List (S57)))).bind fun t500=>(some t500))) else ((impl_first.f k (([(⟨false,2⟩ : S57)] : List (S57)))).bind fun t504=>(some t504)))) = some r:=by rw [if_pos rfl] at H;exact H
  clear H
  have H:=H1
  clear H1
  replace H:=Option.bind_eq_some_iff.mp H
  obtain ⟨t495,A60,H⟩:=H
  replace H : (if t495 = true then ((impl_Sea_areCells.f a0_0 a0_1 l0_2 l2).bind fun t496=>((impl_first.f k (([(⟨t496,2⟩ : S57)] : List (S57)))).bind fun t500=>(some t500))) else ((impl_first.f k (([(⟨false,2⟩ : S57)] : List (S57)))).bind fun t504=>(some t504))) = some r:=H
  have A6:=Aside0.mk A60
  clear A60
  by_cases c7 : t495 = true
  ·subst c7
   have H1 : ((impl_Sea_areCells.f a0_0 a0_1 l0_2 l2).bind fun t496=>((impl_first.f k (([(⟨t496,2⟩ : S57)] : List (S57)))).bind fun t500=>(some t500))) = some r:=by rw [if_pos rfl] at H;exact H
   clear H
   have H:=H1
   clear H1
   replace H:=Option.bind_eq_some_iff.mp H
   obtain ⟨t496,A80,H⟩:=H
   replace H : ((impl_first.f k (([(⟨t496,2⟩ : S57)] : List (S57)))).bind fun t500=>(some t500)) = some r:=H
   have A8:=Aside0.mk A80
   clear A80
   obtain ⟨y497,hy497⟩ : ∃ y_ : List (S57),y_ = (([(⟨t496,2⟩ : S57)] : List (S57))):=⟨_,rfl⟩
   replace H : ((impl_first.f k y497).bind fun t500=>(some t500)) = some r:=by first|(rw [hy497];with_reducible exact H)|(have H2_:=(Option.bind_some _ _).symm.trans H;rw [hy497];with_reducible exact H2_)|(have H2_:=(Option.bind_some _ _).symm.trans H;with_reducible exact H2_)|with_reducible exact H|(rw [hy497];exact H)|exact H
   have Ny497:=Aside0.mk hy497
   clear hy497
   replace H:=Option.bind_eq_some_iff.mp H
   obtain ⟨t500,A90,H⟩:=H
   replace H : (some t500) = some r:=H
   have A9:=Aside0.mk A90
   clear A90
   obtain rfl:=Option.some.inj H
   go_enter Try.func52,Try.ntmps52
   go_wp2_with (first|((with_reducible refine gate_dst (N:=3) rfl ?_);refine box_event ?hg (N:=3) ?hd (cs:=#[.int .i64 a0_0,.int .i64 a0_1,.slice A0_2 l0_2.length c0_2]) (t:=28) ?hr ?_;(case hd=>rfl);(case hg=>rfl);(case hr=>first|(go_simp;done)|(go_simp;rfl));intro gb493 hg w10 hbox hb;have n0_:=Aside0.mk (below_step (by repeat (first|(with_reducible first|exact HB.out|apply below_alloc|apply pw_below_drewN|apply below_drew1)|exact HB.out)) hb);have n1_:=Aside0.mk (hbox);have n2_:=Aside0.mk ((by rw [hg];exact (below_size (by repeat (first|(with_reducible first|exact HB.out|apply below_alloc|apply pw_below_drewN|apply below_drew1)|exact HB.out))) : w.heap.size ≤ gb493));have n3_:=Aside0.mk ((by rw [hg];exact (below_size (by repeat (first|(with_reducible first|exact HB.out|apply below_alloc|apply pw_below_drewN|apply below_drew1)|exact HB.out))) : w.heap.size ≤ gb493));clear HB;have HB:=n0_;have BK493:=n1_;have GW493:=n2_;have GE493:=n3_;clear n0_ n1_ n2_ n3_;clear hb hbox hg;have hcz11_0 : w10.cell? ⟨gb493,0,none⟩ = some (.int .i64 a0_0):=(blk_cell BK493.out 0).trans rfl;have hcz11_1 : w10.cell? ⟨gb493,1,none⟩ = some (.int .i64 a0_1):=(blk_cell BK493.out 1).trans rfl;have hcz11_2 : w10.cell? ⟨gb493,2,none⟩ = some (.slice A0_2 l0_2.length c0_2):=(blk_cell BK493.out 2).trans rfl;have hfz11_0:=blk_frozen BK493.out 0;have hfz11_1:=blk_frozen BK493.out 1;have hfz11_2:=blk_frozen BK493.out 2)|((with_reducible refine gate_callee (f:=40) rfl ?_);refine goesL_ (some 8) rfl rfl Try.func40 (by kernel_rfl) rfl #[.agg #[.int .i64 a0_0,.int .i64 a0_1,.slice A0_2 l0_2.length c0_2]] rfl (by (try simp only [List.map_toArray,List.map_cons,List.map_nil]);first|done|rfl|(simp only [List.length_drop,List.length_take];rfl)) ?_;(with_reducible refine (impl_IsSea.calls k a0_0 a0_1 _ _ l0_2 true _ ?side1 ?side2 A4.out).mono ?_);(case side1=>repeat (first|exact (Kd.C_below HR0_2.out HB.out)|(with_reducible refine Kd.C_alloc ?_ _)|(with_reducible refine Kd.C_drewN ?_ _)|(with_reducible refine Kd.C_drew ?_)));(case side2=>exact HC0_2.out);rintro e w12 ⟨rfl,hb⟩;refine ⟨_,rfl,?_⟩;have n0_:=Aside0.mk (blk_below (g:=gb493) (o:=.cells #[.int .i64 a0_0,.int .i64 a0_1,.slice A0_2 l0_2.length c0_2] 28 (0,0)) (by (with_reducible repeat (first|refine blk_drewN ?_ _|refine blk_drew ?_|refine blk_alloc ?_ _));exact BK493.out) hb);have n1_:=Aside0.mk (below_step (by repeat (first|(with_reducible first|exact HB.out|apply below_alloc|apply pw_below_drewN|apply below_drew1|refine below_set ?_ GE493.out)|exact HB.out)) hb);clear BK493;clear HB;have BK493:=n0_;have HB:=n1_;clear n0_ n1_;(try clear hb);(try clear hb2);(try clear hk);(try clear hi);have hcz13_0 : w12.cell? ⟨gb493,0,none⟩ = some (.int .i64 a0_0):=(blk_cell BK493.out 0).trans rfl;have hcz13_1 : w12.cell? ⟨gb493,1,none⟩ = some (.int .i64 a0_1):=(blk_cell BK493.out 1).trans rfl;have hcz13_2 : w12.cell? ⟨gb493,2,none⟩ = some (.slice A0_2 l0_2.length c0_2):=(blk_cell BK493.out 2).trans rfl;have hfz13_0:=blk_frozen BK493.out 0;have hfz13_1:=blk_frozen BK493.out 1;have hfz13_2:=blk_frozen BK493.out 2)|((with_reducible refine gate_callee (f:=44) rfl ?_);refine goesL_ (some 12) rfl rfl Try.func44 (by kernel_rfl) rfl #[.agg #[.int .i64 a0_0,.int .i64 a0_1,.slice A0_2 l0_2.length c0_2],.slice A1 l1.length c1] rfl (by (try simp only [List.map_toArray,List.map_cons,List.map_nil]);first|done|rfl|(simp only [List.length_drop,List.length_take];rfl)) ?_;(with_reducible refine (impl_Sea_isFleet.calls k a0_0 a0_1 _ _ l0_2 _ _ l1 true _ ?side1 ?side2 ?side3 ?side4 A6.out).mono ?_);(case side1=>repeat (first|exact (Kd.C_below HR0_2.out HB.out)|(with_reducible refine Kd.C_alloc ?_ _)|(with_reducible refine Kd.C_drewN ?_ _)|(with_reducible refine Kd.C_drew ?_)));(case side2=>exact HC0_2.out);(case side3=>repeat (first|exact (Kd.C_below HR1.out HB.out)|(with_reducible refine Kd.C_alloc ?_ _)|(with_reducible refine Kd.C_drewN ?_ _)|(with_reducible refine Kd.C_drew ?_)));(case side4=>exact HC1.out);rintro e w14 ⟨rfl,hb⟩;refine ⟨_,rfl,?_⟩;have n0_:=Aside0.mk (blk_below (g:=gb493) (o:=.cells #[.int .i64 a0_0,.int .i64 a0_1,.slice A0_2 l0_2.length c0_2] 28 (0,0)) (by (with_reducible repeat (first|refine blk_drewN ?_ _|refine blk_drew ?_|refine blk_alloc ?_ _));exact BK493.out) hb);have n1_:=Aside0.mk (below_step (by repeat (first|(with_reducible first|exact HB.out|apply below_alloc|apply pw_below_drewN|apply below_drew1|refine below_set ?_ GE493.out)|exact HB.out)) hb);clear BK493;clear HB;have BK493:=n0_;have HB:=n1_;clear n0_ n1_;(try clear hb);(try clear hb2);(try clear hk);(try clear hi);have hcz15_0 : w14.cell? ⟨gb493,0,none⟩ = some (.int .i64 a0_0):=(blk_cell BK493.out 0).trans rfl;have hcz15_1 : w14.cell? ⟨gb493,1,none⟩ = some (.int .i64 a0_1):=(blk_cell BK493.out 1).trans rfl;have hcz15_2 : w14.cell? ⟨gb493,2,none⟩ = some (.slice A0_2 l0_2.length c0_2):=(blk_cell BK493.out 2).trans rfl;have hfz15_0:=blk_frozen BK493.out 0;have hfz15_1:=blk_frozen BK493.out 1;have hfz15_2:=blk_frozen BK493.out 2)|(go_at_call 74;(with_reducible refine (impl_Sea_areCells.calls a0_0 a0_1 _ _ l0_2 _ _ l2 t496 _ ?side1 ?side2 ?side3 ?side4 A8.out).mono ?_);(case side1=>repeat (first|exact (Kd.C_below HR0_2.out HB.out)|(with_reducible refine Kd.C_alloc ?_ _)|(with_reducible refine Kd.C_drewN ?_ _)|(with_reducible refine Kd.C_drew ?_)));(case side2=>exact HC0_2.out);(case side3=>repeat (first|exact (Kd.C_below HR2.out HB.out)|(with_reducible refine Kd.C_alloc ?_ _)|(with_reducible refine Kd.C_drewN ?_ _)|(with_reducible refine Kd.C_drew ?_)));(case side4=>exact HC2.out);rintro e w16 ⟨rfl,hb⟩;have n0_:=Aside0.mk (blk_below (g:=gb493) (o:=.cells #[.int .i64 a0_0,.int .i64 a0_1,.slice A0_2 l0_2.length c0_2] 28 (0,0)) (by (with_reducible repeat (first|refine blk_drewN ?_ _|refine blk_drew ?_|refine blk_alloc ?_ _));exact BK493.out) hb);have n1_:=Aside0.mk (below_step (by repeat (first|(with_reducible first|exact HB.out|apply below_alloc|apply pw_below_drewN|apply below_drew1|refine below_set ?_ GE493.out)|exact HB.out)) hb);clear BK493;clear HB;have BK493:=n0_;have HB:=n1_;clear n0_ n1_;(try clear hb);(try clear hb2);(try clear hk);(try clear hi))|((with_reducible refine gate_dst (N:=19) rfl ?_);refine Kd.R_lit k57 _ 57 ?hg (N:=19) ?hd (xs:=([(⟨t496,2⟩ : S57)] : List (S57))) (inner:=[.bool t496,.int .i64 2]) (ok:=fun _=>True) (okp:=fun _=>True) ?hr ?hp (fun _ hk=>hk) trivial (Below.refl _ _) (Nat.le_refl _) (by simp) ?_;(case hd=>rfl);(case hg=>rfl);(case hr=>first|(go_simp;done)|(go_simp;rfl));(case hp=>exact (Reps.c2 (show Kd.M k57 _ _ _ (⟨t496,2⟩ : S57) [.bool t496,.int .i64 2] from (k57_mkM _ _ _ (⟨t496,2⟩ : S57) )) (Reps.none _ _)));intro v498 w17 ho18 hb hg_ hnew_;clear hg_ hnew_;(first|rw [← Ny497.out] at ho18|(simp only [Int.reduceToNat] at ho18;rw [← Ny497.out] at ho18));have n0_:=Aside0.mk (Kd.R_lower ho18 (below_size (by repeat (first|(with_reducible first|exact HB.out|apply below_alloc|apply pw_below_drewN|apply below_drew1|refine below_set ?_ GE493.out)|exact HB.out))));have n1_:=Aside0.mk (blk_below (g:=gb493) (o:=.cells #[.int .i64 a0_0,.int .i64 a0_1,.slice A0_2 l0_2.length c0_2] 28 (0,0)) (by (with_reducible repeat (first|refine blk_drewN ?_ _|refine blk_drew ?_|refine blk_alloc ?_ _));exact BK493.out) hb);have n2_:=Aside0.mk (below_step (by repeat (first|(with_reducible first|exact HB.out|apply below_alloc|apply pw_below_drewN|apply below_drew1|refine below_set ?_ GE493.out)|exact HB.out)) hb);clear BK493;clear HB;have HO499:=n0_;have BK493:=n1_;have HB:=n2_;clear n0_ n1_ n2_;clear hb ho18;obtain ⟨Ao19,co19,eo19⟩:=Kd.R_slice HO499.out;subst eo19)|((with_reducible refine gate_callee (f:=39) rfl ?_);refine goesL_ (some 20) rfl rfl Try.func39 (by kernel_rfl) rfl #[.slice Ao19 y497.length co19] rfl (by (try simp only [List.map_toArray,List.map_cons,List.map_nil]);first|done|rfl|(simp only [List.length_drop,List.length_take];rfl)) ?_;(with_reducible refine (impl_first.calls k _ _ y497 t500 _ ?side1 ?side2 A9.out).mono ?_);(case side1=>repeat (first|exact (Kd.R_reads' HO499.out).2.2|(with_reducible refine Kd.C_alloc ?_ _)|(with_reducible refine Kd.C_drewN ?_ _)|(with_reducible refine Kd.C_drew ?_)));(case side2=>exact (Kd.R_reads' HO499.out).2.1);rintro e w20 ⟨rfl,hb⟩;refine ⟨_,rfl,?_⟩;have n0_:=Aside0.mk (Kd.R_below (by (with_reducible repeat (first|apply Kd.R_alloc|apply Kd.R_drewN|apply Kd.R_drew));exact HO499.out) hb);have n1_:=Aside0.mk (blk_below (g:=gb493) (o:=.cells #[.int .i64 a0_0,.int .i64 a0_1,.slice A0_2 l0_2.length c0_2] 28 (0,0)) (by (with_reducible repeat (first|refine blk_drewN ?_ _|refine blk_drew ?_|refine blk_alloc ?_ _));exact BK493.out) hb);have n2_:=Aside0.mk (below_step (by repeat (first|(with_reducible first|exact HB.out|apply below_alloc|apply pw_below_drewN|apply below_drew1|refine below_set ?_ GE493.out)|exact HB.out)) hb);clear HO499;clear BK493;clear HB;have HO499:=n0_;have BK493:=n1_;have HB:=n2_;clear n0_ n1_ n2_;(try clear hb);(try clear hb2);(try clear hk);(try clear hi)))
   go_ret
   exact ⟨by first|rfl|(simp [errW_none,errW_some] <;> rfl)|(simp [*,errW_none,errW_some] <;> rfl),by repeat (first|(with_reducible first|exact HB.out|apply below_alloc|apply pw_below_drewN|apply below_drew1|refine below_set ?_ GE493.out)|exact HB.out)⟩
  ·replace c7:=Bool.eq_false_iff.mpr c7
   subst c7
   have H1 : ((impl_first.f k (([(⟨false,2⟩ : S57)] : List (S57)))).bind fun t504=>(some t504)) = some r:=by rw [if_neg (show ¬ (false = true) by decide)] at H;exact H
   clear H
   have H:=H1
   clear H1
   obtain ⟨y501,hy501⟩ : ∃ y_ : List (S57),y_ = (([(⟨false,2⟩ : S57)] : List (S57))):=⟨_,rfl⟩
   replace H : ((impl_first.f k y501).bind fun t504=>(some t504)) = some r:=by first|(rw [hy501];with_reducible exact H)|(have H2_:=(Option.bind_some _ _).symm.trans H;rw [hy501];with_reducible exact H2_)|(have H2_:=(Option.bind_some _ _).symm.trans H;with_reducible exact H2_)|with_reducible exact H|(rw [hy501];exact H)|exact H
   have Ny501:=Aside0.mk hy501
   clear hy501
   replace H:=Option.bind_eq_some_iff.mp H
   obtain ⟨t504,A210,H⟩:=H
   replace H : (some t504) = some r:=H
   have A21:=Aside0.mk A210
   clear A210
   obtain rfl:=Option.some.inj H
   go_enter Try.func52,Try.ntmps52
   go_wp2_with (first|((with_reducible refine gate_dst (N:=3) rfl ?_);refine box_event ?hg (N:=3) ?hd (cs:=#[.int .i64 a0_0,.int .i64 a0_1,.slice A0_2 l0_2.length c0_2]) (t:=28) ?hr ?_;(case hd=>rfl);(case hg=>rfl);(case hr=>first|(go_simp;done)|(go_simp;rfl));intro gb493 hg w22 hbox hb;have n0_:=Aside0.mk (below_step (by repeat (first|(with_reducible first|exact HB.out|apply below_alloc|apply pw_below_drewN|apply below_drew1)|exact HB.out)) hb);have n1_:=Aside0.mk (hbox);have n2_:=Aside0.mk ((by rw [hg];exact (below_size (by repeat (first|(with_reducible first|exact HB.out|apply below_alloc|apply pw_below_drewN|apply below_drew1)|exact HB.out))) : w.heap.size ≤ gb493));have n3_:=Aside0.mk ((by rw [hg];exact (below_size (by repeat (first|(with_reducible first|exact HB.out|apply below_alloc|apply pw_below_drewN|apply below_drew1)|exact HB.out))) : w.heap.size ≤ gb493));clear HB;have HB:=n0_;have BK493:=n1_;have GW493:=n2_;have GE493:=n3_;clear n0_ n1_ n2_ n3_;clear hb hbox hg;have hcz23_0 : w22.cell? ⟨gb493,0,none⟩ = some (.int .i64 a0_0):=(blk_cell BK493.out 0).trans rfl;have hcz23_1 : w22.cell? ⟨gb493,1,none⟩ = some (.int .i64 a0_1):=(blk_cell BK493.out 1).trans rfl;have hcz23_2 : w22.cell? ⟨gb493,2,none⟩ = some (.slice A0_2 l0_2.length c0_2):=(blk_cell BK493.out 2).trans rfl;have hfz23_0:=blk_frozen BK493.out 0;have hfz23_1:=blk_frozen BK493.out 1;have hfz23_2:=blk_frozen BK493.out 2)|((with_reducible refine gate_callee (f:=40) rfl ?_);refine goesL_ (some 8) rfl rfl Try.func40 (by kernel_rfl) rfl #[.agg #[.int .i64 a0_0,.int .i64 a0_1,.slice A0_2 l0_2.length c0_2]] rfl (by (try simp only [List.map_toArray,List.map_cons,List.map_nil]);first|done|rfl|(simp only [List.length_drop,List.length_take];rfl)) ?_;(with_reducible refine (impl_IsSea.calls k a0_0 a0_1 _ _ l0_2 true _ ?side1 ?side2 A4.out).mono ?_);(case side1=>repeat (first|exact (Kd.C_below HR0_2.out HB.out)|(with_reducible refine Kd.C_alloc ?_ _)|(with_reducible refine Kd.C_drewN ?_ _)|(with_reducible refine Kd.C_drew ?_)));(case side2=>exact HC0_2.out);rintro e w24 ⟨rfl,hb⟩;refine ⟨_,rfl,?_⟩;have n0_:=Aside0.mk (blk_below (g:=gb493) (o:=.cells #[.int .i64 a0_0,.int .i64 a0_1,.slice A0_2 l0_2.length c0_2] 28 (0,0)) (by (with_reducible repeat (first|refine blk_drewN ?_ _|refine blk_drew ?_|refine blk_alloc ?_ _));exact BK493.out) hb);have n1_:=Aside0.mk (below_step (by repeat (first|(with_reducible first|exact HB.out|apply below_alloc|apply pw_below_drewN|apply below_drew1|refine below_set ?_ GE493.out)|exact HB.out)) hb);clear BK493;clear HB;have BK493:=n0_;have HB:=n1_;clear n0_ n1_;(try clear hb);(try clear hb2);(try clear hk);(try clear hi);have hcz25_0 : w24.cell? ⟨gb493,0,none⟩ = some (.int .i64 a0_0):=(blk_cell BK493.out 0).trans rfl;have hcz25_1 : w24.cell? ⟨gb493,1,none⟩ = some (.int .i64 a0_1):=(blk_cell BK493.out 1).trans rfl;have hcz25_2 : w24.cell? ⟨gb493,2,none⟩ = some (.slice A0_2 l0_2.length c0_2):=(blk_cell BK493.out 2).trans rfl;have hfz25_0:=blk_frozen BK493.out 0;have hfz25_1:=blk_frozen BK493.out 1;have hfz25_2:=blk_frozen BK493.out 2)|((with_reducible refine gate_callee (f:=44) rfl ?_);refine goesL_ (some 12) rfl rfl Try.func44 (by kernel_rfl) rfl #[.agg #[.int .i64 a0_0,.int .i64 a0_1,.slice A0_2 l0_2.length c0_2],.slice A1 l1.length c1] rfl (by (try simp only [List.map_toArray,List.map_cons,List.map_nil]);first|done|rfl|(simp only [List.length_drop,List.length_take];rfl)) ?_;(with_reducible refine (impl_Sea_isFleet.calls k a0_0 a0_1 _ _ l0_2 _ _ l1 false _ ?side1 ?side2 ?side3 ?side4 A6.out).mono ?_);(case side1=>repeat (first|exact (Kd.C_below HR0_2.out HB.out)|(with_reducible refine Kd.C_alloc ?_ _)|(with_reducible refine Kd.C_drewN ?_ _)|(with_reducible refine Kd.C_drew ?_)));(case side2=>exact HC0_2.out);(case side3=>repeat (first|exact (Kd.C_below HR1.out HB.out)|(with_reducible refine Kd.C_alloc ?_ _)|(with_reducible refine Kd.C_drewN ?_ _)|(with_reducible refine Kd.C_drew ?_)));(case side4=>exact HC1.out);rintro e w26 ⟨rfl,hb⟩;refine ⟨_,rfl,?_⟩;have n0_:=Aside0.mk (blk_below (g:=gb493) (o:=.cells #[.int .i64 a0_0,.int .i64 a0_1,.slice A0_2 l0_2.length c0_2] 28 (0,0)) (by (with_reducible repeat (first|refine blk_drewN ?_ _|refine blk_drew ?_|refine blk_alloc ?_ _));exact BK493.out) hb);have n1_:=Aside0.mk (below_step (by repeat (first|(with_reducible first|exact HB.out|apply below_alloc|apply pw_below_drewN|apply below_drew1|refine below_set ?_ GE493.out)|exact HB.out)) hb);clear BK493;clear HB;have BK493:=n0_;have HB:=n1_;clear n0_ n1_;(try clear hb);(try clear hb2);(try clear hk);(try clear hi))|((with_reducible refine gate_dst (N:=19) rfl ?_);refine Kd.R_lit k57 _ 57 ?hg (N:=19) ?hd (xs:=([(⟨false,2⟩ : S57)] : List (S57))) (inner:=[.bool false,.int .i64 2]) (ok:=fun _=>True) (okp:=fun _=>True) ?hr ?hp (fun _ hk=>hk) trivial (Below.refl _ _) (Nat.le_refl _) (by simp) ?_;(case hd=>rfl);(case hg=>rfl);(case hr=>first|(go_simp;done)|(go_simp;rfl));(case hp=>exact (Reps.c2 (show Kd.M k57 _ _ _ (⟨false,2⟩ : S57) [.bool false,.int .i64 2] from (k57_mkM _ _ _ (⟨false,2⟩ : S57) )) (Reps.none _ _)));intro v502 w27 ho28 hb hg_ hnew_;clear hg_ hnew_;(first|rw [← Ny501.out] at ho28|(simp only [Int.reduceToNat] at ho28;rw [← Ny501.out] at ho28));have n0_:=Aside0.mk (Kd.R_lower ho28 (below_size (by repeat (first|(with_reducible first|exact HB.out|apply below_alloc|apply pw_below_drewN|apply below_drew1|refine below_set ?_ GE493.out)|exact HB.out))));have n1_:=Aside0.mk (blk_below (g:=gb493) (o:=.cells #[.int .i64 a0_0,.int .i64 a0_1,.slice A0_2 l0_2.length c0_2] 28 (0,0)) (by (with_reducible repeat (first|refine blk_drewN ?_ _|refine blk_drew ?_|refine blk_alloc ?_ _));exact BK493.out) hb);have n2_:=Aside0.mk (below_step (by repeat (first|(with_reducible first|exact HB.out|apply below_alloc|apply pw_below_drewN|apply below_drew1|refine below_set ?_ GE493.out)|exact HB.out)) hb);clear BK493;clear HB;have HO503:=n0_;have BK493:=n1_;have HB:=n2_;clear n0_ n1_ n2_;clear hb ho28;obtain ⟨Ao29,co29,eo29⟩:=Kd.R_slice HO503.out;subst eo29)|((with_reducible refine gate_callee (f:=39) rfl ?_);refine goesL_ (some 20) rfl rfl Try.func39 (by kernel_rfl) rfl #[.slice Ao29 y501.length co29] rfl (by (try simp only [List.map_toArray,List.map_cons,List.map_nil]);first|done|rfl|(simp only [List.length_drop,List.length_take];rfl)) ?_;(with_reducible refine (impl_first.calls k _ _ y501 t504 _ ?side1 ?side2 A21.out).mono ?_);(case side1=>repeat (first|exact (Kd.R_reads' HO503.out).2.2|(with_reducible refine Kd.C_alloc ?_ _)|(with_reducible refine Kd.C_drewN ?_ _)|(with_reducible refine Kd.C_drew ?_)));(case side2=>exact (Kd.R_reads' HO503.out).2.1);rintro e w30 ⟨rfl,hb⟩;refine ⟨_,rfl,?_⟩;have n0_:=Aside0.mk (Kd.R_below (by (with_reducible repeat (first|apply Kd.R_alloc|apply Kd.R_drewN|apply Kd.R_drew));exact HO503.out) hb);have n1_:=Aside0.mk (blk_below (g:=gb493) (o:=.cells #[.int .i64 a0_0,.int .i64 a0_1,.slice A0_2 l0_2.length c0_2] 28 (0,0)) (by (with_reducible repeat (first|refine blk_drewN ?_ _|refine blk_drew ?_|refine blk_alloc ?_ _));exact BK493.out) hb);have n2_:=Aside0.mk (below_step (by repeat (first|(with_reducible first|exact HB.out|apply below_alloc|apply pw_below_drewN|apply below_drew1|refine below_set ?_ GE493.out)|exact HB.out)) hb);clear HO503;clear BK493;clear HB;have HO503:=n0_;have BK493:=n1_;have HB:=n2_;clear n0_ n1_ n2_;(try clear hb);(try clear hb2);(try clear hk);(try clear hi)))
   go_ret
   exact ⟨by first|rfl|(simp [errW_none,errW_some] <;> rfl)|(simp [*,errW_none,errW_some] <;> rfl),by repeat (first|(with_reducible first|exact HB.out|apply below_alloc|apply pw_below_drewN|apply below_drew1|refine below_set ?_ GE493.out)|exact HB.out)⟩
 ·replace c5:=Bool.eq_false_iff.mpr c5
  subst c5
  have H1 : (some 1) = some r:=by rw [if_neg (show ¬ (false = true) by decide)] at H;exact H
  clear H
  have H:=H1
  clear H1
  obtain rfl:=Option.some.inj H
  go_enter Try.func52,Try.ntmps52
  go_wp2_with (first|((with_reducible refine gate_dst (N:=3) rfl ?_);refine box_event ?hg (N:=3) ?hd (cs:=#[.int .i64 a0_0,.int .i64 a0_1,.slice A0_2 l0_2.length c0_2]) (t:=28) ?hr ?_;(case hd=>rfl);(case hg=>rfl);(case hr=>first|(go_simp;done)|(go_simp;rfl));intro gb493 hg w31 hbox hb;have n0_:=Aside0.mk (below_step (by repeat (first|(with_reducible first|exact HB.out|apply below_alloc|apply pw_below_drewN|apply below_drew1)|exact HB.out)) hb);have n1_:=Aside0.mk (hbox);have n2_:=Aside0.mk ((by rw [hg];exact (below_size (by repeat (first|(with_reducible first|exact HB.out|apply below_alloc|apply pw_below_drewN|apply below_drew1)|exact HB.out))) : w.heap.size ≤ gb493));have n3_:=Aside0.mk ((by rw [hg];exact (below_size (by repeat (first|(with_reducible first|exact HB.out|apply below_alloc|apply pw_below_drewN|apply below_drew1)|exact HB.out))) : w.heap.size ≤ gb493));clear HB;have HB:=n0_;have BK493:=n1_;have GW493:=n2_;have GE493:=n3_;clear n0_ n1_ n2_ n3_;clear hb hbox hg;have hcz32_0 : w31.cell? ⟨gb493,0,none⟩ = some (.int .i64 a0_0):=(blk_cell BK493.out 0).trans rfl;have hcz32_1 : w31.cell? ⟨gb493,1,none⟩ = some (.int .i64 a0_1):=(blk_cell BK493.out 1).trans rfl;have hcz32_2 : w31.cell? ⟨gb493,2,none⟩ = some (.slice A0_2 l0_2.length c0_2):=(blk_cell BK493.out 2).trans rfl;have hfz32_0:=blk_frozen BK493.out 0;have hfz32_1:=blk_frozen BK493.out 1;have hfz32_2:=blk_frozen BK493.out 2)|((with_reducible refine gate_callee (f:=40) rfl ?_);refine goesL_ (some 8) rfl rfl Try.func40 (by kernel_rfl) rfl #[.agg #[.int .i64 a0_0,.int .i64 a0_1,.slice A0_2 l0_2.length c0_2]] rfl (by (try simp only [List.map_toArray,List.map_cons,List.map_nil]);first|done|rfl|(simp only [List.length_drop,List.length_take];rfl)) ?_;(with_reducible refine (impl_IsSea.calls k a0_0 a0_1 _ _ l0_2 false _ ?side1 ?side2 A4.out).mono ?_);(case side1=>repeat (first|exact (Kd.C_below HR0_2.out HB.out)|(with_reducible refine Kd.C_alloc ?_ _)|(with_reducible refine Kd.C_drewN ?_ _)|(with_reducible refine Kd.C_drew ?_)));(case side2=>exact HC0_2.out);rintro e w33 ⟨rfl,hb⟩;refine ⟨_,rfl,?_⟩;have n0_:=Aside0.mk (blk_below (g:=gb493) (o:=.cells #[.int .i64 a0_0,.int .i64 a0_1,.slice A0_2 l0_2.length c0_2] 28 (0,0)) (by (with_reducible repeat (first|refine blk_drewN ?_ _|refine blk_drew ?_|refine blk_alloc ?_ _));exact BK493.out) hb);have n1_:=Aside0.mk (below_step (by repeat (first|(with_reducible first|exact HB.out|apply below_alloc|apply pw_below_drewN|apply below_drew1|refine below_set ?_ GE493.out)|exact HB.out)) hb);clear BK493;clear HB;have BK493:=n0_;have HB:=n1_;clear n0_ n1_;(try clear hb);(try clear hb2);(try clear hk);(try clear hi)))
  go_ret
  exact ⟨by first|rfl|(simp [errW_none,errW_some] <;> rfl)|(simp [*,errW_none,errW_some] <;> rfl),by repeat (first|(with_reducible first|exact HB.out|apply below_alloc|apply pw_below_drewN|apply below_drew1|refine below_set ?_ GE493.out)|exact HB.out)⟩

-- NOT PRINTED: function 53 (impl_chosen)

/-! ### impl_whole: function 56 -/
def impl_whole.l0 : Nat → Int → List Int → Int → Int → Option (Int)
 | 0, _, _, _, _ => none
 | k + 1, x3, x6, x7, x8 => if x8 < x7 then (if 0 ≤ x8 then (if x8 < (x6.length : Int) then (impl_whole.l0 k (Go.bits .or .i64 x3 (rd x6 x8)) x6 x7 (wrap64 (x8 + 1))) else (none)) else (none)) else (some x3)
def impl_whole.f (k : Nat) (l0 : List Int) : Option (Int) := impl_whole.l0 k 0 l0 (l0.length : Int) 0
set_option maxHeartbeats 8000000 in
set_option maxRecDepth 100000 in
theorem impl_whole.calls (k : Nat) (A0 : Option Addr) (c0 : Nat) (l0 : List Int) (r : Int) (w : World) (hr0 : Kd.C (Kd.int .i64) w A0 l0.length l0) (hc0 : l0.length ≤ c0) (h : impl_whole.f k l0 = some r) :
  Calls Try.prog 56 #[.slice A0 l0.length c0] w fun e w'=>e = .returned (.int .i64 r) ∧ Drawn0 w w':=by
 have HR0:=Aside0.mk hr0
 have HC0:=Aside0.mk hc0
 clear hr0 hc0
 have H : (impl_whole.l0 k 0 l0 (l0.length : Int) 0) = some r:=h
 clear h
 have H':=Aside0.mk H
 clear H
 go_enter Try.func56,Try.ntmps56
 go_wp2
 go_loopg [3,8] k (fun kq v3 v8 w'=>∃ (x3_1 : Int) (x8_1 : Int),v3 = .int .i64 x3_1 ∧ v8 = .int .i64 x8_1 ∧ Aside0 (impl_whole.l0 kq x3_1 l0 (l0.length : Int) x8_1 = some r) ∧ Aside0 (kq ≤ k) ∧ Drawn0 w w')
 case atStart=>exact ⟨(0),(0),(by first|rfl|(simp;done)|(simp [*];done)),(by first|rfl|(simp;done)|(simp [*];done)),H',⟨Nat.le_refl _⟩,by repeat (first|exact Drawn0.refl _|apply Drawn0.step)⟩
 case round =>
  clear H'
  obtain ⟨x3_1,x8_1,rfl,rfl,HA,HK1,⟨m1,rfl⟩⟩:=hrel
  cases gk with
  | zero => exact absurd HA.out (by simp [impl_whole.l0])
  | succ k1 =>
   have H:=HA.out
   clear HA
   simp only [impl_whole.l0] at H
   by_cases c2 : x8_1 < (l0.length : Int)
   ·rw [if_pos c2] at H
    have c2b0 : decide (x8_1 < (l0.length : Int)) = true:=decide_eq_true c2
    clear c2
    by_cases c3 : 0 ≤ x8_1
    ·rw [if_pos c3] at H
     have c3b0 : decide (0 ≤ x8_1) = true:=decide_eq_true c3
     clear c3
     by_cases c4 : x8_1 < (l0.length : Int)
     ·rw [if_pos c4] at H
      have c4b0 : decide (x8_1 < (l0.length : Int)) = true:=decide_eq_true c4
      clear c4
      have H':=Aside0.mk H
      clear H
      have p505 : 0 ≤ (x8_1 : Int):=of_decide_eq_true (by first|(with_reducible assumption)|assumption)
      have q505 : x8_1 < (l0.length : Int):=of_decide_eq_true (by first|(with_reducible assumption)|assumption)
      obtain ⟨ad505,e505,hx505_0⟩:=Kd.at_int HR0.out x8_1 p505 q505
      cases e505
      replace p505:=eq_true p505
      replace q505:=eq_true q505
      go_wp2
      go_roundg k1
      case measure=>have:=HK1.out;omega
      case rel=>exact ⟨(Go.bits .or .i64 x3_1 (rd l0 x8_1)),(wrap64 (x8_1 + 1)),(by first|rfl|(simp;done)|(simp [*];done)),(by first|rfl|(simp;done)|(simp [*];done)),H',⟨by have:=HK1.out;omega⟩,by repeat (first|exact Drawn0.refl _|apply Drawn0.step)⟩
     ·rw [if_neg c4] at H
      exact absurd H (by simp)
    ·rw [if_neg c3] at H
     exact absurd H (by simp)
   ·rw [if_neg c2] at H
    have c2b0 : decide (x8_1 < (l0.length : Int)) = false:=decide_eq_false c2
    clear c2
    obtain rfl:=Option.some.inj H
    go_wp2
    go_ret
    exact ⟨by first|rfl|(simp;done)|(simp [*];done),by repeat (first|exact Drawn0.refl _|apply Drawn0.step)⟩

/-! ### impl_CellsOfFleet_1: function 100004 -/
def impl_CellsOfFleet_1.f (k : Nat) (a0 : Int) (l1_0_0 : List Int) : Option (Bool) := (impl_whole.f k l1_0_0).bind fun t506 => (if 0 ≤ a0 then (some ((Go.bits .and .i64 (shr .i64 t506 a0) 1) == 1)) else (none))
set_option maxHeartbeats 8000000 in
set_option maxRecDepth 100000 in
theorem impl_CellsOfFleet_1.calls (k : Nat) (a0 : Int) (g1_0 : Nat) (A1_0_0 : Option Addr) (c1_0_0 : Nat) (l1_0_0 : List Int) (r : Bool) (w : World) (hb1_0 : w.heap[g1_0]? = some (.cells #[.slice A1_0_0 l1_0_0.length c1_0_0] 22 (0, 0))) (hr1_0_0 : Kd.C (Kd.int .i64) w A1_0_0 l1_0_0.length l1_0_0) (hc1_0_0 : l1_0_0.length ≤ c1_0_0) (h : impl_CellsOfFleet_1.f k a0 l1_0_0 = some r) :
  Calls Try.prog 55 #[.int .i64 a0,.pointer (some ⟨g1_0,0,none⟩)] w fun e w'=>e = .returned (.bool r) ∧ Drawn0 w w':=by
 have HR1_0_0:=Aside0.mk hr1_0_0
 have HC1_0_0:=Aside0.mk hc1_0_0
 clear hr1_0_0 hc1_0_0
 have HBX90010:=Aside0.mk hb1_0
 clear hb1_0
 have H : ((impl_whole.f k l1_0_0).bind fun t506=>(if 0 ≤ a0 then (some ((Go.bits .and .i64 (shr .i64 t506 a0) 1) == 1)) else (none))) = some r:=h
 clear h
 replace H:=Option.bind_eq_some_iff.mp H
 obtain ⟨t506,A30,H⟩:=H
 replace H : (if 0 ≤ a0 then (some ((Go.bits .and .i64 (shr .i64 t506 a0) 1) == 1)) else (none)) = some r:=H
 have A3:=Aside0.mk A30
 clear A30
 by_cases c4 : 0 ≤ a0
 ·rw [if_pos c4] at H
  have c4b0:=eq_true c4
  have c4b1 : decide (0 ≤ a0) = true:=decide_eq_true c4
  clear c4
  obtain ⟨ji5,hji5⟩ : ∃ j_ : Int,(shr .i64 t506 a0) = j_:=⟨_,rfl⟩
  replace H : (some ((Go.bits .and .i64 (ji5) 1) == 1)) = some r:=by first|(rw [hji5] at H;exact H)|(simp only [hji5] at H ⊢;exact H)
  (try rw [hji5] at A3)
  have hji5_ : (t506 / 2 ^ min a0.toNat 64) = ji5:=hji5
  have hji5z : a0 ≤ 64 → (t506 / 2 ^ a0.toNat) = ji5:=shr_small hji5
  obtain rfl:=Option.some.inj H
  have hcz6_0 : w.cell? ⟨g1_0,0,none⟩ = some (.slice A1_0_0 l1_0_0.length c1_0_0):=(blk_cell HBX90010.out 0).trans rfl
  have hfz6_0:=blk_frozen HBX90010.out 0
  go_enter Try.func55,Try.ntmps55
  go_wp2_with (first|((with_reducible refine gate_callee (f:=56) rfl ?_);refine goesL_ (some 5) rfl rfl Try.func56 (by kernel_rfl) rfl #[.slice A1_0_0 l1_0_0.length c1_0_0] rfl (by (try simp only [List.map_toArray,List.map_cons,List.map_nil]);first|done|rfl|(simp only [List.length_drop,List.length_take];rfl)) ?_;(with_reducible refine (impl_whole.calls k _ _ l1_0_0 t506 _ ?side1 ?side2 A3.out).mono ?_);(case side1=>repeat (first|exact HR1_0_0.out|(with_reducible refine Kd.C_alloc ?_ _)|(with_reducible refine Kd.C_drewN ?_ _)|(with_reducible refine Kd.C_drew ?_)));(case side2=>exact HC1_0_0.out);rintro e w' ⟨rfl,⟨nd,rfl⟩⟩;refine ⟨_,rfl,?_⟩))
  go_ret
  exact ⟨by first|rfl|(simp;done)|(simp only [← hji5] <;> (first|rfl|simp))|(simp [*];done),by repeat (first|exact Drawn0.refl _|apply Drawn0.step)⟩
 ·rw [if_neg c4] at H
  exact absurd H (by simp)

/-! ### impl_chosen_impl_CellsOfFleet_1: function 100003 -/
def impl_chosen_impl_CellsOfFleet_1.l0 : Nat → List Int → Int → Int → List Int → Option (List Int)
 | 0, _, _, _, _ => none
 | k + 1, x5, x8, x9, x90011000 => if x9 < x8 then ((impl_CellsOfFleet_1.f k x9 x90011000).bind fun t510 => (if t510 = true then (if x5.length < 17592186044416 then (impl_chosen_impl_CellsOfFleet_1.l0 k (x5 ++ [x9]) x8 (wrap64 (x9 + 1)) x90011000) else (none)) else (impl_chosen_impl_CellsOfFleet_1.l0 k x5 x8 (wrap64 (x9 + 1)) x90011000))) else (some x5)
def impl_chosen_impl_CellsOfFleet_1.f (k : Nat) (a0 : Int) (l1_0_0 : List Int) : Option (List Int) := impl_chosen_impl_CellsOfFleet_1.l0 k (([] : List Int)) a0 0 l1_0_0
set_option maxHeartbeats 8000000 in
set_option maxRecDepth 100000 in
theorem impl_chosen_impl_CellsOfFleet_1.calls (k : Nat) (a0 : Int) (g1_0 : Nat) (A1_0_0 : Option Addr) (c1_0_0 : Nat) (l1_0_0 : List Int) (r : List Int) (w : World) (hb1_0 : w.heap[g1_0]? = some (.cells #[.slice A1_0_0 l1_0_0.length c1_0_0] 22 (0, 0))) (hr1_0_0 : Kd.C (Kd.int .i64) w A1_0_0 l1_0_0.length l1_0_0) (hc1_0_0 : l1_0_0.length ≤ c1_0_0) (h : impl_chosen_impl_CellsOfFleet_1.f k a0 l1_0_0 = some r) :
  Calls Try.prog 53 #[.int .i64 a0,.func (.func 55) #[] #[.pointer (some ⟨g1_0,0,none⟩)]] w fun e w'=>∃ v0_ : Value,e = .returned (v0_) ∧ Kd.R (Kd.int .i64) 2 w' w.heap.size (fun _=>True) v0_ r ∧ Below w.heap.size w w':=by
 have HR1_0_0:=Aside0.mk hr1_0_0
 have HC1_0_0:=Aside0.mk hc1_0_0
 clear hr1_0_0 hc1_0_0
 have HBX90010:=Aside0.mk hb1_0
 clear hb1_0
 have HB:=Aside0.mk (Below.refl w.heap.size w)
 have H : (impl_chosen_impl_CellsOfFleet_1.l0 k (([] : List Int)) a0 0 l1_0_0) = some r:=h
 clear h
 obtain ⟨y507,hy507⟩ : ∃ y_ : List Int,y_ = (([] : List Int)):=⟨_,rfl⟩
 replace H : (impl_chosen_impl_CellsOfFleet_1.l0 k y507 a0 0 l1_0_0) = some r:=by first|(rw [hy507];with_reducible exact H)|(have H2_:=(Option.bind_some _ _).symm.trans H;rw [hy507];with_reducible exact H2_)|(have H2_:=(Option.bind_some _ _).symm.trans H;with_reducible exact H2_)|with_reducible exact H|(rw [hy507];exact H)|exact H
 have Ny507:=Aside0.mk hy507
 clear hy507
 have H':=Aside0.mk H
 clear H
 go_enter Try.func53,Try.ntmps53
 go_wp2_with (first|((with_reducible refine gate_dst (N:=7) rfl ?_);refine Kd.R_lit (Kd.int .i64) _ 2 ?hg (N:=7) ?hd (xs:=([] : List Int)) (inner:=[]) (ok:=fun _=>True) (okp:=fun _=>True) ?hr ?hp (fun _ hk=>hk) trivial (Below.refl _ _) (Nat.le_refl _) (by simp) ?_;(case hd=>rfl);(case hg=>rfl);(case hr=>first|(go_simp;done)|(go_simp;rfl));(case hp=>exact (Reps.none _ _));intro v508 w3 ho4 hb hg_ hnew_;clear hg_ hnew_;(first|rw [← Ny507.out] at ho4|(simp only [Int.reduceToNat] at ho4;rw [← Ny507.out] at ho4));have n0_:=Aside0.mk (Kd.R_lower ho4 (below_size (by repeat (first|(with_reducible first|exact HB.out|apply below_alloc|apply pw_below_drewN|apply below_drew1|refine below_set ?_ GE90010.out)|exact HB.out))));have n1_:=Aside0.mk (blk_below (g:=g1_0) (o:=.cells #[.slice A1_0_0 l1_0_0.length c1_0_0] 22 (0,0)) (by (with_reducible repeat (first|refine blk_drewN ?_ _|refine blk_drew ?_|refine blk_alloc ?_ _));exact HBX90010.out) hb);have n2_:=Aside0.mk (below_step (by repeat (first|(with_reducible first|exact HB.out|apply below_alloc|apply pw_below_drewN|apply below_drew1|refine below_set ?_ GE90010.out)|exact HB.out)) hb);clear HBX90010;clear HB;have HO509:=n0_;have HBX90010:=n1_;have HB:=n2_;clear n0_ n1_ n2_;clear hb ho4))
 go_loopg [5,9] k (fun kq v5 v9 w'=>∃ (x5_1 : List Int) (x9_1 : Int),v9 = .int .i64 x9_1 ∧ Aside0 (impl_chosen_impl_CellsOfFleet_1.l0 kq x5_1 a0 x9_1 l1_0_0 = some r) ∧ Aside0 (kq ≤ k) ∧ Aside0 (Kd.R (Kd.int .i64) 2 w' w.heap.size (fun _=>True) v5 x5_1) ∧ Aside0 (w'.heap[g1_0]? = some (.cells #[(.slice A1_0_0 l1_0_0.length c1_0_0)] 22 (0,0))) ∧ Aside0 (Below w.heap.size w w'))
 case atStart=>exact ⟨(y507),(0),(by first|rfl|(simp;done)|(simp [*];done)),H',⟨Nat.le_refl _⟩,⟨by (with_reducible repeat (first|apply Kd.R_alloc|apply Kd.R_drewN|apply Kd.R_drew));exact HO509.out⟩,⟨by (with_reducible repeat (first|refine blk_drewN ?_ _|refine blk_drew ?_|refine blk_alloc ?_ _));exact HBX90010.out⟩,⟨by repeat (first|(with_reducible first|exact HB.out|apply below_alloc|apply pw_below_drewN|apply below_drew1|refine below_set ?_ GE90010.out)|exact HB.out)⟩⟩
 case round =>
  clear H'
  try clear c1
  try clear p2
  obtain ⟨x5_1,x9_1,rfl,HA,HK1,HO_5,HBX90010,HB⟩:=hrel
  cases gk with
  | zero => exact absurd HA.out (by simp [impl_chosen_impl_CellsOfFleet_1.l0])
  | succ k1 =>
   have H:=HA.out
   clear HA
   simp only [impl_chosen_impl_CellsOfFleet_1.l0] at H
   by_cases c5 : x9_1 < a0
   ·rw [if_pos c5] at H
    have c5b0 : decide (x9_1 < a0) = true:=decide_eq_true c5
    clear c5
    replace H:=Option.bind_eq_some_iff.mp H
    obtain ⟨t510,A60,H⟩:=H
    replace H : (if t510 = true then (if x5_1.length < 17592186044416 then (impl_chosen_impl_CellsOfFleet_1.l0 k1 (x5_1 ++ [x9_1]) a0 (wrap64 (x9_1 + 1)) l1_0_0) else (none)) else (impl_chosen_impl_CellsOfFleet_1.l0 k1 x5_1 a0 (wrap64 (x9_1 + 1)) l1_0_0)) = some r:=H
    have A6:=Aside0.mk A60
    clear A60
    by_cases c7 : t510 = true
    ·subst c7
     have H1 : (if x5_1.length < 17592186044416 then (impl_chosen_impl_CellsOfFleet_1.l0 k1 (x5_1 ++ [x9_1]) a0 (wrap64 (x9_1 + 1)) l1_0_0) else (none)) = some r:=by rw [if_pos rfl] at H;exact H
     clear H
     have H:=H1
     clear H1
     by_cases c8 : x5_1.length < 17592186044416
     ·rw [if_pos c8] at H
      have LMc8:=Aside0.mk c8
      clear c8
      obtain ⟨y511,hy511⟩ : ∃ y_ : List Int,y_ = (x5_1 ++ [x9_1]):=⟨_,rfl⟩
      replace H : (impl_chosen_impl_CellsOfFleet_1.l0 k1 y511 a0 (wrap64 (x9_1 + 1)) l1_0_0) = some r:=by first|(rw [hy511];with_reducible exact H)|(have H2_:=(Option.bind_some _ _).symm.trans H;rw [hy511];with_reducible exact H2_)|(have H2_:=(Option.bind_some _ _).symm.trans H;with_reducible exact H2_)|with_reducible exact H|(rw [hy511];exact H)|exact H
      have Ny511:=Aside0.mk hy511
      clear hy511
      have H':=Aside0.mk H
      clear H
      go_wp2_with (first|(go_at_call 55;(with_reducible refine (impl_CellsOfFleet_1.calls k1 x9_1 g1_0 A1_0_0 c1_0_0 l1_0_0 true _ ?side1 ?side2 ?side3 A6.out).mono ?_);(case side1=>(with_reducible repeat (first|refine blk_drewN ?_ _|refine blk_drew ?_|refine blk_alloc ?_ _));exact HBX90010.out);(case side2=>repeat (first|exact (Kd.C_below HR1_0_0.out HB.out)|(with_reducible refine Kd.C_alloc ?_ _)|(with_reducible refine Kd.C_drewN ?_ _)|(with_reducible refine Kd.C_drew ?_)));(case side3=>exact HC1_0_0.out);rintro e w' ⟨rfl,⟨nd,rfl⟩⟩)|((with_reducible refine gate_builtin (b:=.append) (xs:=#[.tmp 15,.tmp 17]) rfl ?_);at_builtin;refine Kd.R_append (Kd.int .i64) (w0:=w) w.heap.size rfl (.tmp 15) (.tmp 17) 22 2 (.int .i64 0) 8 rfl Try.underlying22 info2 rfl (by decide) (by omega) u5 x5_1 x9_1 [.int .i64 x9_1] (fun _=>True) (fun _=>False) rfl rfl ?aP (fun _ hk=>hk.elim) ?aF ?aO ?aB ?aS ?aL ?_;(case aP=>exact rfl);(case aB=>exact (by repeat (first|(with_reducible first|exact HB.out|apply below_alloc|apply pw_below_drewN|apply below_drew1|refine below_set ?_ GE90010.out)|exact HB.out)));(case aF=>exact (fun _ _=>trivial));(case aO=>exact (by (with_reducible repeat (first|apply Kd.R_alloc|apply Kd.R_drewN|apply Kd.R_drew));exact HO_5.out));(case aS=>exact (below_size (by repeat (first|(with_reducible first|exact HB.out|apply below_alloc|apply pw_below_drewN|apply below_drew1|refine below_set ?_ GE90010.out)|exact HB.out))));(case aL=>have:=LMc8.out;omega);intro v512 w9 ho hb hg hat;rw [← Ny511.out] at ho;have n0_:=Aside0.mk (blk_grown (g:=g1_0) (o:=.cells #[.slice A1_0_0 l1_0_0.length c1_0_0] 22 (0,0)) (by (with_reducible repeat (first|refine blk_drewN ?_ _|refine blk_drew ?_|refine blk_alloc ?_ _));exact HBX90010.out) hg (Kd.R_ne HO_5.out HBX90010.out (by decide)));have n1_:=Aside0.mk (hb);have n2_:=Aside0.mk (ho);clear HBX90010;clear HB;clear HO_5;have HBX90010:=n0_;have HB:=n1_;have HO513:=n2_;clear n0_ n1_ n2_;clear ho hb hg hat))
      go_roundg k1
      case measure=>have:=HK1.out;omega
      case rel=>exact ⟨(y511),(wrap64 (x9_1 + 1)),(by first|rfl|(simp;done)|(simp [*];done)),H',⟨by have:=HK1.out;omega⟩,⟨by (with_reducible repeat (first|apply Kd.R_alloc|apply Kd.R_drewN|apply Kd.R_drew));exact HO513.out⟩,⟨by (with_reducible repeat (first|refine blk_drewN ?_ _|refine blk_drew ?_|refine blk_alloc ?_ _));exact HBX90010.out⟩,⟨by repeat (first|(with_reducible first|exact HB.out|apply below_alloc|apply pw_below_drewN|apply below_drew1|refine below_set ?_ GE90010.out)|exact HB.out)⟩⟩
     ·rw [if_neg c8] at H
      exact absurd H (by simp)
    ·replace c7:=Bool.eq_false_iff.mpr c7
     subst c7
     have H1 : (impl_chosen_impl_CellsOfFleet_1.l0 k1 x5_1 a0 (wrap64 (x9_1 + 1)) l1_0_0) = some r:=by rw [if_neg (show ¬ (false = true) by decide)] at H;exact H
     clear H
     have H:=H1
     clear H1
     have H':=Aside0.mk H
     clear H
     go_wp2_with (first|(go_at_call 55;(with_reducible refine (impl_CellsOfFleet_1.calls k1 x9_1 g1_0 A1_0_0 c1_0_0 l1_0_0 false _ ?side1 ?side2 ?side3 A6.out).mono ?_);(case side1=>(with_reducible repeat (first|refine blk_drewN ?_ _|refine blk_drew ?_|refine blk_alloc ?_ _));exact HBX90010.out);(case side2=>repeat (first|exact (Kd.C_below HR1_0_0.out HB.out)|(with_reducible refine Kd.C_alloc ?_ _)|(with_reducible refine Kd.C_drewN ?_ _)|(with_reducible refine Kd.C_drew ?_)));(case side3=>exact HC1_0_0.out);rintro e w' ⟨rfl,⟨nd,rfl⟩⟩))
     go_roundg k1
     case measure=>have:=HK1.out;omega
     case rel=>exact ⟨(x5_1),(wrap64 (x9_1 + 1)),(by first|rfl|(simp;done)|(simp [*];done)),H',⟨by have:=HK1.out;omega⟩,⟨by (with_reducible repeat (first|apply Kd.R_alloc|apply Kd.R_drewN|apply Kd.R_drew));exact HO_5.out⟩,⟨by (with_reducible repeat (first|refine blk_drewN ?_ _|refine blk_drew ?_|refine blk_alloc ?_ _));exact HBX90010.out⟩,⟨by repeat (first|(with_reducible first|exact HB.out|apply below_alloc|apply pw_below_drewN|apply below_drew1|refine below_set ?_ GE90010.out)|exact HB.out)⟩⟩
   ·rw [if_neg c5] at H
    have c5b0 : decide (x9_1 < a0) = false:=decide_eq_false c5
    clear c5
    obtain rfl:=Option.some.inj H
    go_wp2
    go_ret
    exact ⟨_,by first|rfl|(simp [errW_none,errW_some] <;> rfl)|(simp [*,errW_none,errW_some] <;> rfl),by (with_reducible repeat (first|apply Kd.R_alloc|apply Kd.R_drewN|apply Kd.R_drew));exact HO_5.out,by repeat (first|(with_reducible first|exact HB.out|apply below_alloc|apply pw_below_drewN|apply below_drew1|refine below_set ?_ GE90010.out)|exact HB.out)⟩

/-! ### impl_CellsOfFleet: function 30 -/
def impl_CellsOfFleet.f (k : Nat) (a0_0 : Int) (a0_1 : Int) (l0_2 : List Int) (l1 : List Int) : Option (List Int × Int) := (impl_fleetCode.f k a0_0 a0_1 l0_2 l1 ([] : List Int)).bind fun t516 => (if t516 = 0 then ((impl_Sea_cells.f a0_0 a0_1 l0_2).bind fun t517 => ((impl_chosen_impl_CellsOfFleet_1.f k t517 l1).bind fun t518 => (some (t518, 0)))) else (some (([] : List Int), t516)))
set_option maxHeartbeats 8000000 in
set_option maxRecDepth 100000 in
theorem impl_CellsOfFleet.calls (k : Nat) (a0_0 : Int) (a0_1 : Int) (A0_2 : Option Addr) (c0_2 : Nat) (l0_2 : List Int) (A1 : Option Addr) (c1 : Nat) (l1 : List Int) (r1 : List Int) (r2 : Int) (w : World) (hr0_2 : Kd.C (Kd.int .i64) w A0_2 l0_2.length l0_2) (hc0_2 : l0_2.length ≤ c0_2) (hr1 : Kd.C (Kd.int .i64) w A1 l1.length l1) (hc1 : l1.length ≤ c1) (h : impl_CellsOfFleet.f k a0_0 a0_1 l0_2 l1 = some (r1, r2)) :
  Calls Try.prog 30 #[.agg #[.int .i64 a0_0,.int .i64 a0_1,.slice A0_2 l0_2.length c0_2],.slice A1 l1.length c1] w fun e w'=>∃ v0_ : Value,e = .returned (.tuple #[v0_,.int .i64 r2]) ∧ Kd.R (Kd.int .i64) 2 w' w.heap.size (fun _=>True) v0_ r1 ∧ Below w.heap.size w w':=by
 have hu28:=Try.underlying28
 have hmf : ∀ (fn : Fn) (first cap : Array Value) (w : World),(Instr.makeFunc fn first cap).run Try.prog w = .ok (.func fn first cap) w:=fun _ _ _ _=>rfl
 have HR0_2:=Aside0.mk hr0_2
 have HC0_2:=Aside0.mk hc0_2
 clear hr0_2 hc0_2
 have HR1:=Aside0.mk hr1
 have HC1:=Aside0.mk hc1
 clear hr1 hc1
 have HB:=Aside0.mk (Below.refl w.heap.size w)
 have H : ((impl_fleetCode.f k a0_0 a0_1 l0_2 l1 ([] : List Int)).bind fun t516=>(if t516 = 0 then ((impl_Sea_cells.f a0_0 a0_1 l0_2).bind fun t517=>((impl_chosen_impl_CellsOfFleet_1.f k t517 l1).bind fun t518=>(some (t518,0)))) else (some (([] : List Int),t516)))) = some (r1,r2):=h
 clear h
 replace H:=Option.bind_eq_some_iff.mp H
 obtain ⟨t516,A30,H⟩:=H
 replace H : (if t516 = 0 then ((impl_Sea_cells.f a0_0 a0_1 l0_2).bind fun t517=>((impl_chosen_impl_CellsOfFleet_1.f k t517 l1).bind fun t518=>(some (t518,0)))) else (some (([] : List Int),t516))) = some (r1,r2):=H
 have A3:=Aside0.mk A30
 clear A30
 by_cases c4 : t516 = 0
 ·rw [if_pos c4] at H
  have c4b0 : (t516 == 0) = true:=beq_iff_eq.mpr c4
  have c4b1 : (t516 != 0) = false:=bne_eq_false_iff_eq.mpr c4
  clear c4
  replace H:=Option.bind_eq_some_iff.mp H
  obtain ⟨t517,A50,H⟩:=H
  replace H : ((impl_chosen_impl_CellsOfFleet_1.f k t517 l1).bind fun t518=>(some (t518,0))) = some (r1,r2):=H
  have A5:=Aside0.mk A50
  clear A50
  replace H:=Option.bind_eq_some_iff.mp H
  obtain ⟨t518,A60,H⟩:=H
  replace H : (some (t518,0)) = some (r1,r2):=H
  have A6:=Aside0.mk A60
  clear A60
  simp only [Option.some.injEq,Prod.mk.injEq] at H
  obtain ⟨rfl,rfl⟩:=H
  go_enter Try.func30,Try.ntmps30
  go_wp2_with (first|((with_reducible refine gate_dst (N:=2) rfl ?_);refine box_event ?hg (N:=2) ?hd (cs:=#[.int .i64 a0_0,.int .i64 a0_1,.slice A0_2 l0_2.length c0_2]) (t:=28) ?hr ?_;(case hd=>rfl);(case hg=>rfl);(case hr=>first|(go_simp;done)|(go_simp;rfl));intro gb514 hg w7 hbox hb;have n0_:=Aside0.mk (below_step (by repeat (first|(with_reducible first|exact HB.out|apply below_alloc|apply pw_below_drewN|apply below_drew1)|exact HB.out)) hb);have n1_:=Aside0.mk (hbox);have n2_:=Aside0.mk ((by rw [hg];exact (below_size (by repeat (first|(with_reducible first|exact HB.out|apply below_alloc|apply pw_below_drewN|apply below_drew1)|exact HB.out))) : w.heap.size ≤ gb514));have n3_:=Aside0.mk ((by rw [hg];exact (below_size (by repeat (first|(with_reducible first|exact HB.out|apply below_alloc|apply pw_below_drewN|apply below_drew1)|exact HB.out))) : w.heap.size ≤ gb514));clear HB;have HB:=n0_;have BK514:=n1_;have GW514:=n2_;have GE514:=n3_;clear n0_ n1_ n2_ n3_;clear hb hbox hg)|((with_reducible refine gate_dst (N:=3) rfl ?_);refine box_event ?hg (N:=3) ?hd (cs:=#[.slice A1 l1.length c1]) (t:=22) ?hr ?_;(case hd=>rfl);(case hg=>rfl);(case hr=>first|(go_simp;done)|(go_simp;rfl));intro gb515 hg w8 hbox hb;have n0_:=Aside0.mk (blk_below (g:=gb514) (o:=.cells #[.int .i64 a0_0,.int .i64 a0_1,.slice A0_2 l0_2.length c0_2] 28 (0,0)) (by (with_reducible repeat (first|refine blk_drewN ?_ _|refine blk_drew ?_|refine blk_alloc ?_ _));exact BK514.out) hb);have n1_:=Aside0.mk (below_step (by repeat (first|(with_reducible first|exact HB.out|apply below_alloc|apply pw_below_drewN|apply below_drew1|refine below_set ?_ GE514.out)|exact HB.out)) hb);have n2_:=Aside0.mk (hbox);have n3_:=Aside0.mk ((by rw [hg];exact (below_size (by repeat (first|(with_reducible first|exact HB.out|apply below_alloc|apply pw_below_drewN|apply below_drew1|refine below_set ?_ GE514.out)|exact HB.out))) : w.heap.size ≤ gb515));have n4_:=Aside0.mk ((by rw [hg];exact (below_size (by repeat (first|(with_reducible first|exact HB.out|apply below_alloc|apply pw_below_drewN|apply below_drew1|refine below_set ?_ GE514.out)|exact HB.out))) : w.heap.size ≤ gb515));have n5_:=Aside0.mk ((by rw [hg];exact Nat.ne_of_lt (blk_lt (g:=gb514) (o:=.cells #[.int .i64 a0_0,.int .i64 a0_1,.slice A0_2 l0_2.length c0_2] 28 (0,0)) (by (with_reducible repeat (first|refine blk_drewN ?_ _|refine blk_drew ?_|refine blk_alloc ?_ _));exact BK514.out)) : gb514 ≠ gb515));have n6_:=Aside0.mk ((by rw [hg];exact Nat.ne_of_gt (blk_lt (g:=gb514) (o:=.cells #[.int .i64 a0_0,.int .i64 a0_1,.slice A0_2 l0_2.length c0_2] 28 (0,0)) (by (with_reducible repeat (first|refine blk_drewN ?_ _|refine blk_drew ?_|refine blk_alloc ?_ _));exact BK514.out)) : gb515 ≠ gb514));clear BK514;clear HB;have BK514:=n0_;have HB:=n1_;have BK515:=n2_;have GW515:=n3_;have GE515:=n4_;have NB514_515:=n5_;have NB515_514:=n6_;clear n0_ n1_ n2_ n3_ n4_ n5_ n6_;clear hb hbox hg;have hnb9:=NB514_515.out;have hnc9:=NB515_514.out;have hcz10_0 : w8.cell? ⟨gb514,0,none⟩ = some (.int .i64 a0_0):=(blk_cell BK514.out 0).trans rfl;have hcz10_1 : w8.cell? ⟨gb514,1,none⟩ = some (.int .i64 a0_1):=(blk_cell BK514.out 1).trans rfl;have hcz10_2 : w8.cell? ⟨gb514,2,none⟩ = some (.slice A0_2 l0_2.length c0_2):=(blk_cell BK514.out 2).trans rfl;have hfz10_0:=blk_frozen BK514.out 0;have hfz10_1:=blk_frozen BK514.out 1;have hfz10_2:=blk_frozen BK514.out 2;have hcz11_0 : w8.cell? ⟨gb515,0,none⟩ = some (.slice A1 l1.length c1):=(blk_cell BK515.out 0).trans rfl;have hfz11_0:=blk_frozen BK515.out 0)|((with_reducible refine gate_callee (f:=52) rfl ?_);refine goesL_ (some 9) rfl rfl Try.func52 (by kernel_rfl) rfl #[.agg #[.int .i64 a0_0,.int .i64 a0_1,.slice A0_2 l0_2.length c0_2],.slice A1 l1.length c1,.slice none 0 0] rfl (by (try simp only [List.map_toArray,List.map_cons,List.map_nil]);first|done|rfl|(simp only [List.length_drop,List.length_take];rfl)) ?_;(refine (impl_fleetCode.calls k a0_0 a0_1 _ _ l0_2 _ _ l1 _ _ ([] : List Int) t516 _ ?side1 ?side2 ?side3 ?side4 ?side5 ?side6 A3.out).mono ?_);(case side1=>repeat (first|exact (Kd.C_below HR0_2.out HB.out)|(with_reducible refine Kd.C_alloc ?_ _)|(with_reducible refine Kd.C_drewN ?_ _)|(with_reducible refine Kd.C_drew ?_)));(case side2=>exact HC0_2.out);(case side3=>repeat (first|exact (Kd.C_below HR1.out HB.out)|(with_reducible refine Kd.C_alloc ?_ _)|(with_reducible refine Kd.C_drewN ?_ _)|(with_reducible refine Kd.C_drew ?_)));(case side4=>exact HC1.out);(case side5=>exact Kd.C_nil _ _);(case side6=>exact Nat.le_refl _);rintro e w12 ⟨rfl,hb⟩;refine ⟨_,rfl,?_⟩;have n0_:=Aside0.mk (blk_below (g:=gb514) (o:=.cells #[.int .i64 a0_0,.int .i64 a0_1,.slice A0_2 l0_2.length c0_2] 28 (0,0)) (by (with_reducible repeat (first|refine blk_drewN ?_ _|refine blk_drew ?_|refine blk_alloc ?_ _));exact BK514.out) hb);have n1_:=Aside0.mk (blk_below (g:=gb515) (o:=.cells #[.slice A1 l1.length c1] 22 (0,0)) (by (with_reducible repeat (first|refine blk_drewN ?_ _|refine blk_drew ?_|refine blk_alloc ?_ _));exact BK515.out) hb);have n2_:=Aside0.mk (below_step (by repeat (first|(with_reducible first|exact HB.out|apply below_alloc|apply pw_below_drewN|apply below_drew1|refine below_set ?_ GE514.out|refine below_set ?_ GE515.out)|exact HB.out)) hb);clear BK514;clear BK515;clear HB;have BK514:=n0_;have BK515:=n1_;have HB:=n2_;clear n0_ n1_ n2_;(try clear hb);(try clear hb2);(try clear hk);(try clear hi);have hcz13_0 : w12.cell? ⟨gb514,0,none⟩ = some (.int .i64 a0_0):=(blk_cell BK514.out 0).trans rfl;have hcz13_1 : w12.cell? ⟨gb514,1,none⟩ = some (.int .i64 a0_1):=(blk_cell BK514.out 1).trans rfl;have hcz13_2 : w12.cell? ⟨gb514,2,none⟩ = some (.slice A0_2 l0_2.length c0_2):=(blk_cell BK514.out 2).trans rfl;have hfz13_0:=blk_frozen BK514.out 0;have hfz13_1:=blk_frozen BK514.out 1;have hfz13_2:=blk_frozen BK514.out 2)|((with_reducible refine gate_callee (f:=54) rfl ?_);refine goesL_ (some 14) rfl rfl Try.func54 (by kernel_rfl) rfl #[.agg #[.int .i64 a0_0,.int .i64 a0_1,.slice A0_2 l0_2.length c0_2]] rfl (by (try simp only [List.map_toArray,List.map_cons,List.map_nil]);first|done|rfl|(simp only [List.length_drop,List.length_take];rfl)) ?_;(with_reducible refine (impl_Sea_cells.calls a0_0 a0_1 _ _ l0_2 t517 _ ?side1 ?side2 A5.out).mono ?_);(case side1=>repeat (first|exact (Kd.C_below HR0_2.out HB.out)|(with_reducible refine Kd.C_alloc ?_ _)|(with_reducible refine Kd.C_drewN ?_ _)|(with_reducible refine Kd.C_drew ?_)));(case side2=>exact HC0_2.out);rintro e w14 ⟨rfl,hb⟩;refine ⟨_,rfl,?_⟩;have n0_:=Aside0.mk (blk_below (g:=gb514) (o:=.cells #[.int .i64 a0_0,.int .i64 a0_1,.slice A0_2 l0_2.length c0_2] 28 (0,0)) (by (with_reducible repeat (first|refine blk_drewN ?_ _|refine blk_drew ?_|refine blk_alloc ?_ _));exact BK514.out) hb);have n1_:=Aside0.mk (blk_below (g:=gb515) (o:=.cells #[.slice A1 l1.length c1] 22 (0,0)) (by (with_reducible repeat (first|refine blk_drewN ?_ _|refine blk_drew ?_|refine blk_alloc ?_ _));exact BK515.out) hb);have n2_:=Aside0.mk (below_step (by repeat (first|(with_reducible first|exact HB.out|apply below_alloc|apply pw_below_drewN|apply below_drew1|refine below_set ?_ GE514.out|refine below_set ?_ GE515.out)|exact HB.out)) hb);clear BK514;clear BK515;clear HB;have BK514:=n0_;have BK515:=n1_;have HB:=n2_;clear n0_ n1_ n2_;(try clear hb);(try clear hb2);(try clear hk);(try clear hi))|((with_reducible refine gate_callee (f:=53) rfl ?_);refine goesL_ (some 16) rfl rfl Try.func53 (by kernel_rfl) rfl #[.int .i64 t517,.func (.func 55) #[] #[.pointer (some ⟨gb515,0,none⟩)]] rfl (by (try simp only [List.map_toArray,List.map_cons,List.map_nil]);first|done|rfl|(simp only [List.length_drop,List.length_take];rfl)) ?_;(with_reducible refine (impl_chosen_impl_CellsOfFleet_1.calls k t517 gb515 A1 c1 l1 t518 _ ?side1 ?side2 ?side3 A6.out).mono ?_);(case side1=>(with_reducible repeat (first|refine blk_drewN ?_ _|refine blk_drew ?_|refine blk_alloc ?_ _));exact BK515.out);(case side2=>repeat (first|exact (Kd.C_below HR1.out HB.out)|(with_reducible refine Kd.C_alloc ?_ _)|(with_reducible refine Kd.C_drewN ?_ _)|(with_reducible refine Kd.C_drew ?_)));(case side3=>exact HC1.out);rintro e w15 ⟨v519,rfl,ho0,hb⟩;refine ⟨_,rfl,?_⟩;have n0_:=Aside0.mk (Kd.R_lower ho0 (below_size (by repeat (first|(with_reducible first|exact HB.out|apply below_alloc|apply pw_below_drewN|apply below_drew1|refine below_set ?_ GE514.out|refine below_set ?_ GE515.out)|exact HB.out))));have n1_:=Aside0.mk (blk_below (g:=gb514) (o:=.cells #[.int .i64 a0_0,.int .i64 a0_1,.slice A0_2 l0_2.length c0_2] 28 (0,0)) (by (with_reducible repeat (first|refine blk_drewN ?_ _|refine blk_drew ?_|refine blk_alloc ?_ _));exact BK514.out) hb);have n2_:=Aside0.mk (blk_below (g:=gb515) (o:=.cells #[.slice A1 l1.length c1] 22 (0,0)) (by (with_reducible repeat (first|refine blk_drewN ?_ _|refine blk_drew ?_|refine blk_alloc ?_ _));exact BK515.out) hb);have n3_:=Aside0.mk (below_step (by repeat (first|(with_reducible first|exact HB.out|apply below_alloc|apply pw_below_drewN|apply below_drew1|refine below_set ?_ GE514.out|refine below_set ?_ GE515.out)|exact HB.out)) hb);clear BK514;clear BK515;clear HB;have HO520:=n0_;have BK514:=n1_;have BK515:=n2_;have HB:=n3_;clear n0_ n1_ n2_ n3_;(try clear hb);(try clear hb2);(try clear hk);(try clear hi);(try clear ho0)))
  go_ret2
  exact ⟨_,by first|rfl|(simp [errW_none,errW_some] <;> rfl)|(simp [*,errW_none,errW_some] <;> rfl),by (with_reducible repeat (first|apply Kd.R_alloc|apply Kd.R_drewN|apply Kd.R_drew));exact HO520.out,by repeat (first|(with_reducible first|exact HB.out|apply below_alloc|apply pw_below_drewN|apply below_drew1|refine below_set ?_ GE514.out|refine below_set ?_ GE515.out)|exact HB.out)⟩
 ·rw [if_neg c4] at H
  have c4b0 : (t516 == 0) = false:=beq_eq_false_iff_ne.mpr c4
  have c4b1 : (t516 != 0) = true:=bne_iff_ne.mpr c4
  simp only [Option.some.injEq,Prod.mk.injEq] at H
  obtain ⟨rfl,rfl⟩:=H
  go_enter Try.func30,Try.ntmps30
  go_wp2_with (first|((with_reducible refine gate_dst (N:=2) rfl ?_);refine box_event ?hg (N:=2) ?hd (cs:=#[.int .i64 a0_0,.int .i64 a0_1,.slice A0_2 l0_2.length c0_2]) (t:=28) ?hr ?_;(case hd=>rfl);(case hg=>rfl);(case hr=>first|(go_simp;done)|(go_simp;rfl));intro gb514 hg w16 hbox hb;have n0_:=Aside0.mk (below_step (by repeat (first|(with_reducible first|exact HB.out|apply below_alloc|apply pw_below_drewN|apply below_drew1)|exact HB.out)) hb);have n1_:=Aside0.mk (hbox);have n2_:=Aside0.mk ((by rw [hg];exact (below_size (by repeat (first|(with_reducible first|exact HB.out|apply below_alloc|apply pw_below_drewN|apply below_drew1)|exact HB.out))) : w.heap.size ≤ gb514));have n3_:=Aside0.mk ((by rw [hg];exact (below_size (by repeat (first|(with_reducible first|exact HB.out|apply below_alloc|apply pw_below_drewN|apply below_drew1)|exact HB.out))) : w.heap.size ≤ gb514));clear HB;have HB:=n0_;have BK514:=n1_;have GW514:=n2_;have GE514:=n3_;clear n0_ n1_ n2_ n3_;clear hb hbox hg)|((with_reducible refine gate_dst (N:=3) rfl ?_);refine box_event ?hg (N:=3) ?hd (cs:=#[.slice A1 l1.length c1]) (t:=22) ?hr ?_;(case hd=>rfl);(case hg=>rfl);(case hr=>first|(go_simp;done)|(go_simp;rfl));intro gb515 hg w17 hbox hb;have n0_:=Aside0.mk (blk_below (g:=gb514) (o:=.cells #[.int .i64 a0_0,.int .i64 a0_1,.slice A0_2 l0_2.length c0_2] 28 (0,0)) (by (with_reducible repeat (first|refine blk_drewN ?_ _|refine blk_drew ?_|refine blk_alloc ?_ _));exact BK514.out) hb);have n1_:=Aside0.mk (below_step (by repeat (first|(with_reducible first|exact HB.out|apply below_alloc|apply pw_below_drewN|apply below_drew1|refine below_set ?_ GE514.out)|exact HB.out)) hb);have n2_:=Aside0.mk (hbox);have n3_:=Aside0.mk ((by rw [hg];exact (below_size (by repeat (first|(with_reducible first|exact HB.out|apply below_alloc|apply pw_below_drewN|apply below_drew1|refine below_set ?_ GE514.out)|exact HB.out))) : w.heap.size ≤ gb515));have n4_:=Aside0.mk ((by rw [hg];exact (below_size (by repeat (first|(with_reducible first|exact HB.out|apply below_alloc|apply pw_below_drewN|apply below_drew1|refine below_set ?_ GE514.out)|exact HB.out))) : w.heap.size ≤ gb515));have n5_:=Aside0.mk ((by rw [hg];exact Nat.ne_of_lt (blk_lt (g:=gb514) (o:=.cells #[.int .i64 a0_0,.int .i64 a0_1,.slice A0_2 l0_2.length c0_2] 28 (0,0)) (by (with_reducible repeat (first|refine blk_drewN ?_ _|refine blk_drew ?_|refine blk_alloc ?_ _));exact BK514.out)) : gb514 ≠ gb515));have n6_:=Aside0.mk ((by rw [hg];exact Nat.ne_of_gt (blk_lt (g:=gb514) (o:=.cells #[.int .i64 a0_0,.int .i64 a0_1,.slice A0_2 l0_2.length c0_2] 28 (0,0)) (by (with_reducible repeat (first|refine blk_drewN ?_ _|refine blk_drew ?_|refine blk_alloc ?_ _));exact BK514.out)) : gb515 ≠ gb514));clear BK514;clear HB;have BK514:=n0_;have HB:=n1_;have BK515:=n2_;have GW515:=n3_;have GE515:=n4_;have NB514_515:=n5_;have NB515_514:=n6_;clear n0_ n1_ n2_ n3_ n4_ n5_ n6_;clear hb hbox hg;have hnb18:=NB514_515.out;have hnc18:=NB515_514.out;have hcz19_0 : w17.cell? ⟨gb514,0,none⟩ = some (.int .i64 a0_0):=(blk_cell BK514.out 0).trans rfl;have hcz19_1 : w17.cell? ⟨gb514,1,none⟩ = some (.int .i64 a0_1):=(blk_cell BK514.out 1).trans rfl;have hcz19_2 : w17.cell? ⟨gb514,2,none⟩ = some (.slice A0_2 l0_2.length c0_2):=(blk_cell BK514.out 2).trans rfl;have hfz19_0:=blk_frozen BK514.out 0;have hfz19_1:=blk_frozen BK514.out 1;have hfz19_2:=blk_frozen BK514.out 2;have hcz20_0 : w17.cell? ⟨gb515,0,none⟩ = some (.slice A1 l1.length c1):=(blk_cell BK515.out 0).trans rfl;have hfz20_0:=blk_frozen BK515.out 0)|((with_reducible refine gate_callee (f:=52) rfl ?_);refine goesL_ (some 9) rfl rfl Try.func52 (by kernel_rfl) rfl #[.agg #[.int .i64 a0_0,.int .i64 a0_1,.slice A0_2 l0_2.length c0_2],.slice A1 l1.length c1,.slice none 0 0] rfl (by (try simp only [List.map_toArray,List.map_cons,List.map_nil]);first|done|rfl|(simp only [List.length_drop,List.length_take];rfl)) ?_;(refine (impl_fleetCode.calls k a0_0 a0_1 _ _ l0_2 _ _ l1 _ _ ([] : List Int) t516 _ ?side1 ?side2 ?side3 ?side4 ?side5 ?side6 A3.out).mono ?_);(case side1=>repeat (first|exact (Kd.C_below HR0_2.out HB.out)|(with_reducible refine Kd.C_alloc ?_ _)|(with_reducible refine Kd.C_drewN ?_ _)|(with_reducible refine Kd.C_drew ?_)));(case side2=>exact HC0_2.out);(case side3=>repeat (first|exact (Kd.C_below HR1.out HB.out)|(with_reducible refine Kd.C_alloc ?_ _)|(with_reducible refine Kd.C_drewN ?_ _)|(with_reducible refine Kd.C_drew ?_)));(case side4=>exact HC1.out);(case side5=>exact Kd.C_nil _ _);(case side6=>exact Nat.le_refl _);rintro e w21 ⟨rfl,hb⟩;refine ⟨_,rfl,?_⟩;have n0_:=Aside0.mk (blk_below (g:=gb514) (o:=.cells #[.int .i64 a0_0,.int .i64 a0_1,.slice A0_2 l0_2.length c0_2] 28 (0,0)) (by (with_reducible repeat (first|refine blk_drewN ?_ _|refine blk_drew ?_|refine blk_alloc ?_ _));exact BK514.out) hb);have n1_:=Aside0.mk (blk_below (g:=gb515) (o:=.cells #[.slice A1 l1.length c1] 22 (0,0)) (by (with_reducible repeat (first|refine blk_drewN ?_ _|refine blk_drew ?_|refine blk_alloc ?_ _));exact BK515.out) hb);have n2_:=Aside0.mk (below_step (by repeat (first|(with_reducible first|exact HB.out|apply below_alloc|apply pw_below_drewN|apply below_drew1|refine below_set ?_ GE514.out|refine below_set ?_ GE515.out)|exact HB.out)) hb);clear BK514;clear BK515;clear HB;have BK514:=n0_;have BK515:=n1_;have HB:=n2_;clear n0_ n1_ n2_;(try clear hb);(try clear hb2);(try clear hk);(try clear hi)))
  go_ret2
  exact ⟨_,by first|rfl|(simp [errW_none,errW_some] <;> rfl)|(simp [*,errW_none,errW_some] <;> rfl),by first|exact Kd.R_nil _ _ _ _ _|exact Kd.N_nil _ _ _ _ _|exact Kd.V_nil _ _ _ _ _|exact Kd.Q_nil _ _ _ _ _|exact Kd.S_nil _ _ _ _ _,by repeat (first|(with_reducible first|exact HB.out|apply below_alloc|apply pw_below_drewN|apply below_drew1|refine below_set ?_ GE514.out|refine below_set ?_ GE515.out)|exact HB.out)⟩

end Go.Proofs.Ytankgbfddgpfmaa.PAll
