-- Written by wip/pp.py of this work (a driver around the kit's print), out of the translation; Lean checks it.
import Derived.Test.YtankgbfddgpfmaaPAllx0
import Derived.Test.YtankgbfddgpfmaaPAllx1
import Derived.Test.YtankgbfddgpfmaaPAllx2
import Derived.Test.YtankgbfddgpfmaaPAllx3
import Derived.Test.YtankgbfddgpfmaaPAllx11
import Derived.Test.YtankgbfddgpfmaaPAllx14
import Derived.Test.YtankgbfddgpfmaaPAllx15
import Derived.Test.YtankgbfddgpfmaaPAllx16
namespace Go.Proofs.Ytankgbfddgpfmaa.PAll
open Go.RowKit Go.Proofs.YtankgbfddgpfmaaW.PrintWords Go.Proofs.YtankgbfddgpfmaaW.PrintLast Go.Proofs.YtankgbfddgpfmaaW.PrintMore
attribute [local go_sem] max2_int min2_int max_two min_two max_three min_three max_four min_four   -- for this text's walks alone
set_option linter.unusedVariables false
set_option linter.unusedSimpArgs false

/-! ### impl_IsFleet: function 21 -/
def impl_IsFleet.f (k : Nat) (a0_0 : Int) (a0_1 : Int) (l0_2 : List Int) (l1 : List Int) : Option (Bool × Int) := (impl_IsSea.f k a0_0 a0_1 l0_2).bind fun t439 => (if t439 = true then ((impl_Sea_isFleet.f k a0_0 a0_1 l0_2 l1).bind fun t440 => (some (t440, 0))) else (some (false, 1)))
set_option maxHeartbeats 8000000 in
set_option maxRecDepth 100000 in
theorem impl_IsFleet.calls (k : Nat) (a0_0 : Int) (a0_1 : Int) (A0_2 : Option Addr) (c0_2 : Nat) (l0_2 : List Int) (A1 : Option Addr) (c1 : Nat) (l1 : List Int) (r1 : Bool) (r2 : Int) (w : World) (hr0_2 : Kd.C (Kd.int .i64) w A0_2 l0_2.length l0_2) (hc0_2 : l0_2.length ≤ c0_2) (hr1 : Kd.C (Kd.int .i64) w A1 l1.length l1) (hc1 : l1.length ≤ c1) (h : impl_IsFleet.f k a0_0 a0_1 l0_2 l1 = some (r1, r2)) :
  Calls Try.prog 21 #[.agg #[.int .i64 a0_0,.int .i64 a0_1,.slice A0_2 l0_2.length c0_2],.slice A1 l1.length c1] w fun e w'=>e = .returned (.tuple #[.bool r1,.int .i64 r2]) ∧ Below w.heap.size w w':=by
 have hu28:=Try.underlying28
 have HR0_2:=Aside0.mk hr0_2
 have HC0_2:=Aside0.mk hc0_2
 clear hr0_2 hc0_2
 have HR1:=Aside0.mk hr1
 have HC1:=Aside0.mk hc1
 clear hr1 hc1
 have HB:=Aside0.mk (Below.refl w.heap.size w)
 have H : ((impl_IsSea.f k a0_0 a0_1 l0_2).bind fun t439=>(if t439 = true then ((impl_Sea_isFleet.f k a0_0 a0_1 l0_2 l1).bind fun t440=>(some (t440,0))) else (some (false,1)))) = some (r1,r2):=h
 clear h
 replace H:=Option.bind_eq_some_iff.mp H
 obtain ⟨t439,A30,H⟩:=H
 replace H : (if t439 = true then ((impl_Sea_isFleet.f k a0_0 a0_1 l0_2 l1).bind fun t440=>(some (t440,0))) else (some (false,1))) = some (r1,r2):=H
 have A3:=Aside0.mk A30
 clear A30
 by_cases c4 : t439 = true
 ·subst c4
  have H1 : ((impl_Sea_isFleet.f k a0_0 a0_1 l0_2 l1).bind fun t440=>(some (t440,0))) = some (r1,r2):=by rw [if_pos rfl] at H;exact H
  clear H
  have H:=H1
  clear H1
  replace H:=Option.bind_eq_some_iff.mp H
  obtain ⟨t440,A50,H⟩:=H
  replace H : (some (t440,0)) = some (r1,r2):=H
  have A5:=Aside0.mk A50
  clear A50
  simp only [Option.some.injEq,Prod.mk.injEq] at H
  obtain ⟨rfl,rfl⟩:=H
  go_enter Try.func21,Try.ntmps21
  go_wp2_with (first|((with_reducible refine gate_dst (N:=2) rfl ?_);refine box_event ?hg (N:=2) ?hd (cs:=#[.int .i64 a0_0,.int .i64 a0_1,.slice A0_2 l0_2.length c0_2]) (t:=28) ?hr ?_;(case hd=>rfl);(case hg=>rfl);(case hr=>first|(go_simp;done)|(go_simp;rfl));intro gb438 hg w6 hbox hb;have n0_:=Aside0.mk (below_step (by repeat (first|(with_reducible first|exact HB.out|apply below_alloc|apply pw_below_drewN|apply below_drew1)|exact HB.out)) hb);have n1_:=Aside0.mk (hbox);have n2_:=Aside0.mk ((by rw [hg];exact (below_size (by repeat (first|(with_reducible first|exact HB.out|apply below_alloc|apply pw_below_drewN|apply below_drew1)|exact HB.out))) : w.heap.size ≤ gb438));have n3_:=Aside0.mk ((by rw [hg];exact (below_size (by repeat (first|(with_reducible first|exact HB.out|apply below_alloc|apply pw_below_drewN|apply below_drew1)|exact HB.out))) : w.heap.size ≤ gb438));clear HB;have HB:=n0_;have BK438:=n1_;have GW438:=n2_;have GE438:=n3_;clear n0_ n1_ n2_ n3_;clear hb hbox hg;have hcz7_0 : w6.cell? ⟨gb438,0,none⟩ = some (.int .i64 a0_0):=(blk_cell BK438.out 0).trans rfl;have hcz7_1 : w6.cell? ⟨gb438,1,none⟩ = some (.int .i64 a0_1):=(blk_cell BK438.out 1).trans rfl;have hcz7_2 : w6.cell? ⟨gb438,2,none⟩ = some (.slice A0_2 l0_2.length c0_2):=(blk_cell BK438.out 2).trans rfl;have hfz7_0:=blk_frozen BK438.out 0;have hfz7_1:=blk_frozen BK438.out 1;have hfz7_2:=blk_frozen BK438.out 2)|((with_reducible refine gate_callee (f:=40) rfl ?_);refine goesL_ (some 7) rfl rfl Try.func40 (by kernel_rfl) rfl #[.agg #[.int .i64 a0_0,.int .i64 a0_1,.slice A0_2 l0_2.length c0_2]] rfl (by (try simp only [List.map_toArray,List.map_cons,List.map_nil]);first|done|rfl|(simp only [List.length_drop,List.length_take];rfl)) ?_;(with_reducible refine (impl_IsSea.calls k a0_0 a0_1 _ _ l0_2 true _ ?side1 ?side2 A3.out).mono ?_);(case side1=>repeat (first|exact (Kd.C_below HR0_2.out HB.out)|(with_reducible refine Kd.C_alloc ?_ _)|(with_reducible refine Kd.C_drewN ?_ _)|(with_reducible refine Kd.C_drew ?_)));(case side2=>exact HC0_2.out);rintro e w8 ⟨rfl,hb⟩;refine ⟨_,rfl,?_⟩;have n0_:=Aside0.mk (blk_below (g:=gb438) (o:=.cells #[.int .i64 a0_0,.int .i64 a0_1,.slice A0_2 l0_2.length c0_2] 28 (0,0)) (by (with_reducible repeat (first|refine blk_drewN ?_ _|refine blk_drew ?_|refine blk_alloc ?_ _));exact BK438.out) hb);have n1_:=Aside0.mk (below_step (by repeat (first|(with_reducible first|exact HB.out|apply below_alloc|apply pw_below_drewN|apply below_drew1|refine below_set ?_ GE438.out)|exact HB.out)) hb);clear BK438;clear HB;have BK438:=n0_;have HB:=n1_;clear n0_ n1_;(try clear hb);(try clear hb2);(try clear hk);(try clear hi);have hcz9_0 : w8.cell? ⟨gb438,0,none⟩ = some (.int .i64 a0_0):=(blk_cell BK438.out 0).trans rfl;have hcz9_1 : w8.cell? ⟨gb438,1,none⟩ = some (.int .i64 a0_1):=(blk_cell BK438.out 1).trans rfl;have hcz9_2 : w8.cell? ⟨gb438,2,none⟩ = some (.slice A0_2 l0_2.length c0_2):=(blk_cell BK438.out 2).trans rfl;have hfz9_0:=blk_frozen BK438.out 0;have hfz9_1:=blk_frozen BK438.out 1;have hfz9_2:=blk_frozen BK438.out 2)|((with_reducible refine gate_callee (f:=44) rfl ?_);refine goesL_ (some 11) rfl rfl Try.func44 (by kernel_rfl) rfl #[.agg #[.int .i64 a0_0,.int .i64 a0_1,.slice A0_2 l0_2.length c0_2],.slice A1 l1.length c1] rfl (by (try simp only [List.map_toArray,List.map_cons,List.map_nil]);first|done|rfl|(simp only [List.length_drop,List.length_take];rfl)) ?_;(with_reducible refine (impl_Sea_isFleet.calls k a0_0 a0_1 _ _ l0_2 _ _ l1 t440 _ ?side1 ?side2 ?side3 ?side4 A5.out).mono ?_);(case side1=>repeat (first|exact (Kd.C_below HR0_2.out HB.out)|(with_reducible refine Kd.C_alloc ?_ _)|(with_reducible refine Kd.C_drewN ?_ _)|(with_reducible refine Kd.C_drew ?_)));(case side2=>exact HC0_2.out);(case side3=>repeat (first|exact (Kd.C_below HR1.out HB.out)|(with_reducible refine Kd.C_alloc ?_ _)|(with_reducible refine Kd.C_drewN ?_ _)|(with_reducible refine Kd.C_drew ?_)));(case side4=>exact HC1.out);rintro e w10 ⟨rfl,hb⟩;refine ⟨_,rfl,?_⟩;have n0_:=Aside0.mk (blk_below (g:=gb438) (o:=.cells #[.int .i64 a0_0,.int .i64 a0_1,.slice A0_2 l0_2.length c0_2] 28 (0,0)) (by (with_reducible repeat (first|refine blk_drewN ?_ _|refine blk_drew ?_|refine blk_alloc ?_ _));exact BK438.out) hb);have n1_:=Aside0.mk (below_step (by repeat (first|(with_reducible first|exact HB.out|apply below_alloc|apply pw_below_drewN|apply below_drew1|refine below_set ?_ GE438.out)|exact HB.out)) hb);clear BK438;clear HB;have BK438:=n0_;have HB:=n1_;clear n0_ n1_;(try clear hb);(try clear hb2);(try clear hk);(try clear hi)))
  go_ret2
  exact ⟨by first|rfl|(simp [errW_none,errW_some] <;> rfl)|(simp [*,errW_none,errW_some] <;> rfl),by repeat (first|(with_reducible first|exact HB.out|apply below_alloc|apply pw_below_drewN|apply below_drew1|refine below_set ?_ GE438.out)|exact HB.out)⟩
 ·replace c4:=Bool.eq_false_iff.mpr c4
  subst c4
  have H1 : (some (false,1)) = some (r1,r2):=by rw [if_neg (show ¬ (false = true) by decide)] at H;exact H
  clear H
  have H:=H1
  clear H1
  simp only [Option.some.injEq,Prod.mk.injEq] at H
  obtain ⟨rfl,rfl⟩:=H
  go_enter Try.func21,Try.ntmps21
  go_wp2_with (first|((with_reducible refine gate_dst (N:=2) rfl ?_);refine box_event ?hg (N:=2) ?hd (cs:=#[.int .i64 a0_0,.int .i64 a0_1,.slice A0_2 l0_2.length c0_2]) (t:=28) ?hr ?_;(case hd=>rfl);(case hg=>rfl);(case hr=>first|(go_simp;done)|(go_simp;rfl));intro gb438 hg w11 hbox hb;have n0_:=Aside0.mk (below_step (by repeat (first|(with_reducible first|exact HB.out|apply below_alloc|apply pw_below_drewN|apply below_drew1)|exact HB.out)) hb);have n1_:=Aside0.mk (hbox);have n2_:=Aside0.mk ((by rw [hg];exact (below_size (by repeat (first|(with_reducible first|exact HB.out|apply below_alloc|apply pw_below_drewN|apply below_drew1)|exact HB.out))) : w.heap.size ≤ gb438));have n3_:=Aside0.mk ((by rw [hg];exact (below_size (by repeat (first|(with_reducible first|exact HB.out|apply below_alloc|apply pw_below_drewN|apply below_drew1)|exact HB.out))) : w.heap.size ≤ gb438));clear HB;have HB:=n0_;have BK438:=n1_;have GW438:=n2_;have GE438:=n3_;clear n0_ n1_ n2_ n3_;clear hb hbox hg;have hcz12_0 : w11.cell? ⟨gb438,0,none⟩ = some (.int .i64 a0_0):=(blk_cell BK438.out 0).trans rfl;have hcz12_1 : w11.cell? ⟨gb438,1,none⟩ = some (.int .i64 a0_1):=(blk_cell BK438.out 1).trans rfl;have hcz12_2 : w11.cell? ⟨gb438,2,none⟩ = some (.slice A0_2 l0_2.length c0_2):=(blk_cell BK438.out 2).trans rfl;have hfz12_0:=blk_frozen BK438.out 0;have hfz12_1:=blk_frozen BK438.out 1;have hfz12_2:=blk_frozen BK438.out 2)|((with_reducible refine gate_callee (f:=40) rfl ?_);refine goesL_ (some 7) rfl rfl Try.func40 (by kernel_rfl) rfl #[.agg #[.int .i64 a0_0,.int .i64 a0_1,.slice A0_2 l0_2.length c0_2]] rfl (by (try simp only [List.map_toArray,List.map_cons,List.map_nil]);first|done|rfl|(simp only [List.length_drop,List.length_take];rfl)) ?_;(with_reducible refine (impl_IsSea.calls k a0_0 a0_1 _ _ l0_2 false _ ?side1 ?side2 A3.out).mono ?_);(case side1=>repeat (first|exact (Kd.C_below HR0_2.out HB.out)|(with_reducible refine Kd.C_alloc ?_ _)|(with_reducible refine Kd.C_drewN ?_ _)|(with_reducible refine Kd.C_drew ?_)));(case side2=>exact HC0_2.out);rintro e w13 ⟨rfl,hb⟩;refine ⟨_,rfl,?_⟩;have n0_:=Aside0.mk (blk_below (g:=gb438) (o:=.cells #[.int .i64 a0_0,.int .i64 a0_1,.slice A0_2 l0_2.length c0_2] 28 (0,0)) (by (with_reducible repeat (first|refine blk_drewN ?_ _|refine blk_drew ?_|refine blk_alloc ?_ _));exact BK438.out) hb);have n1_:=Aside0.mk (below_step (by repeat (first|(with_reducible first|exact HB.out|apply below_alloc|apply pw_below_drewN|apply below_drew1|refine below_set ?_ GE438.out)|exact HB.out)) hb);clear BK438;clear HB;have BK438:=n0_;have HB:=n1_;clear n0_ n1_;(try clear hb);(try clear hb2);(try clear hk);(try clear hi)))
  go_ret2
  exact ⟨by first|rfl|(simp [errW_none,errW_some] <;> rfl)|(simp [*,errW_none,errW_some] <;> rfl),by repeat (first|(with_reducible first|exact HB.out|apply below_alloc|apply pw_below_drewN|apply below_drew1|refine below_set ?_ GE438.out)|exact HB.out)⟩

/-! ### laws_FnExactIsFleet: function 4 -/
def laws_FnExactIsFleet.j0 : Nat → List Int → List Int → Bool → Int → Int → List Int → Int → Int → List Int → Option (Bool)
 | 0, _, _, _, _, _, _, _, _, _ => none
 | k + 1, x1, x9, x45, x442000, x442001, x442002, x459000, x459001, x459002 => if x45 = true then (some false) else ((laws_toSea.f k x442000 x442001 x442002).bind fun bt464 => ((laws_eqSea.f k x459000 x459001 x459002 bt464.1 bt464.2.1 bt464.2.2).bind fun t469 => (if t469 = true then ((laws_toInt64S.f k x1).bind fun t470 => ((laws_eqInt64S.f k x9 t470).bind fun t473 => (if t473 = true then (some true) else (some false)))) else (some false))))
def laws_FnExactIsFleet.f (k : Nat) (a0_0 : Int) (a0_1 : Int) (l0_2 : List Int) (l1 : List Int) : Option (Bool) := if (l1.length : Int) > 1048576 then (some true) else ((laws_szSea.f a0_0 a0_1 l0_2 1048576).bind fun t442 => (if t442 < 0 then (some true) else ((laws_toSea.f k a0_0 a0_1 l0_2).bind fun bt443 => ((laws_toInt64S.f k l1).bind fun t448 => ((spec_IsFleet.f k bt443.1 bt443.2.1 bt443.2.2 t448).bind fun bt451 => ((laws_toSea.f k a0_0 a0_1 l0_2).bind fun bt453 => ((laws_toInt64S.f k l1).bind fun t459 => ((impl_IsFleet.f k bt453.1 bt453.2.1 bt453.2.2 t459).bind fun bt462 => (if (bt462.1 != bt451.1) = true then (laws_FnExactIsFleet.j0 k l1 t459 true a0_0 a0_1 l0_2 bt453.1 bt453.2.1 bt453.2.2) else (laws_FnExactIsFleet.j0 k l1 t459 (bt462.2 != bt451.2) a0_0 a0_1 l0_2 bt453.1 bt453.2.1 bt453.2.2))))))))))
set_option maxHeartbeats 8000000 in
set_option maxRecDepth 100000 in
theorem laws_FnExactIsFleet.calls (k : Nat) (a0_0 : Int) (a0_1 : Int) (A0_2 : Option Addr) (c0_2 : Nat) (l0_2 : List Int) (A1 : Option Addr) (c1 : Nat) (l1 : List Int) (r : Bool) (w : World) (hr0_2 : Kd.C (Kd.int .i64) w A0_2 l0_2.length l0_2) (hc0_2 : l0_2.length ≤ c0_2) (hr1 : Kd.C (Kd.int .i64) w A1 l1.length l1) (hc1 : l1.length ≤ c1) (h : laws_FnExactIsFleet.f k a0_0 a0_1 l0_2 l1 = some r) :
  Calls Try.prog 4 #[.agg #[.int .i64 a0_0,.int .i64 a0_1,.slice A0_2 l0_2.length c0_2],.slice A1 l1.length c1] w fun e w'=>e = .returned (.bool r) ∧ Below w.heap.size w w':=by
 have hu24:=Try.underlying24
 have hu28:=Try.underlying28
 have HR0_2:=Aside0.mk hr0_2
 have HC0_2:=Aside0.mk hc0_2
 clear hr0_2 hc0_2
 have HR1:=Aside0.mk hr1
 have HC1:=Aside0.mk hc1
 clear hr1 hc1
 have HB:=Aside0.mk (Below.refl w.heap.size w)
 have H : (if (l1.length : Int) > 1048576 then (some true) else ((laws_szSea.f a0_0 a0_1 l0_2 1048576).bind fun t442=>(if t442 < 0 then (some true) else ((laws_toSea.f k a0_0 a0_1 l0_2).bind fun bt443=>((laws_toInt64S.f k l1).bind fun t448=>((spec_IsFleet.f k bt443.1 bt443.2.1 bt443.2.2 t448).bind fun bt451=>((laws_toSea.f k a0_0 a0_1 l0_2).bind fun bt453=>((laws_toInt64S.f k l1).bind fun t459=>((impl_IsFleet.f k bt453.1 bt453.2.1 bt453.2.2 t459).bind fun bt462=>(if (bt462.1 != bt451.1) = true then (laws_FnExactIsFleet.j0 k l1 t459 true a0_0 a0_1 l0_2 bt453.1 bt453.2.1 bt453.2.2) else (laws_FnExactIsFleet.j0 k l1 t459 (bt462.2 != bt451.2) a0_0 a0_1 l0_2 bt453.1 bt453.2.1 bt453.2.2))))))))))) = some r:=h
 clear h
 by_cases c3 : (l1.length : Int) > 1048576
 ·rw [if_pos c3] at H
  have c3b0 : decide (1048576 < (l1.length : Int)) = true:=decide_eq_true c3
  have c3b1 : decide (1048576 < l1.length) = true:=decide_eq_true (by omega)
  clear c3
  obtain rfl:=Option.some.inj H
  go_enter Try.func4,Try.ntmps4
  go_wp2_with (first|((with_reducible refine gate_dst (N:=2) rfl ?_);refine box_event ?hg (N:=2) ?hd (cs:=#[.int .i64 a0_0,.int .i64 a0_1,.slice A0_2 l0_2.length c0_2]) (t:=24) ?hr ?_;(case hd=>rfl);(case hg=>rfl);(case hr=>first|(go_simp;done)|(go_simp;rfl));intro gb441 hg w4 hbox hb;have n0_:=Aside0.mk (below_step (by repeat (first|(with_reducible first|exact HB.out|apply below_alloc|apply pw_below_drewN|apply below_drew1)|exact HB.out)) hb);have n1_:=Aside0.mk (hbox);have n2_:=Aside0.mk ((by rw [hg];exact (below_size (by repeat (first|(with_reducible first|exact HB.out|apply below_alloc|apply pw_below_drewN|apply below_drew1)|exact HB.out))) : w.heap.size ≤ gb441));have n3_:=Aside0.mk ((by rw [hg];exact (below_size (by repeat (first|(with_reducible first|exact HB.out|apply below_alloc|apply pw_below_drewN|apply below_drew1)|exact HB.out))) : w.heap.size ≤ gb441));clear HB;have HB:=n0_;have BK441:=n1_;have GW441:=n2_;have GE441:=n3_;clear n0_ n1_ n2_ n3_;clear hb hbox hg))
  go_ret
  exact ⟨by first|rfl|(simp [errW_none,errW_some] <;> rfl)|(simp [*,errW_none,errW_some] <;> rfl),by repeat (first|(with_reducible first|exact HB.out|apply below_alloc|apply pw_below_drewN|apply below_drew1|refine below_set ?_ GE441.out)|exact HB.out)⟩
 ·rw [if_neg c3] at H
  have c3b0 : decide (1048576 < (l1.length : Int)) = false:=decide_eq_false c3
  have c3b1 : decide (1048576 < l1.length) = false:=decide_eq_false (by omega)
  clear c3
  replace H:=Option.bind_eq_some_iff.mp H
  obtain ⟨t442,A50,H⟩:=H
  replace H : (if t442 < 0 then (some true) else ((laws_toSea.f k a0_0 a0_1 l0_2).bind fun bt443=>((laws_toInt64S.f k l1).bind fun t448=>((spec_IsFleet.f k bt443.1 bt443.2.1 bt443.2.2 t448).bind fun bt451=>((laws_toSea.f k a0_0 a0_1 l0_2).bind fun bt453=>((laws_toInt64S.f k l1).bind fun t459=>((impl_IsFleet.f k bt453.1 bt453.2.1 bt453.2.2 t459).bind fun bt462=>(if (bt462.1 != bt451.1) = true then (laws_FnExactIsFleet.j0 k l1 t459 true a0_0 a0_1 l0_2 bt453.1 bt453.2.1 bt453.2.2) else (laws_FnExactIsFleet.j0 k l1 t459 (bt462.2 != bt451.2) a0_0 a0_1 l0_2 bt453.1 bt453.2.1 bt453.2.2))))))))) = some r:=H
  have A5:=Aside0.mk A50
  clear A50
  by_cases c6 : t442 < 0
  ·rw [if_pos c6] at H
   have c6b0 : decide (t442 < 0) = true:=decide_eq_true c6
   clear c6
   obtain rfl:=Option.some.inj H
   go_enter Try.func4,Try.ntmps4
   go_wp2_with (first|((with_reducible refine gate_dst (N:=2) rfl ?_);refine box_event ?hg (N:=2) ?hd (cs:=#[.int .i64 a0_0,.int .i64 a0_1,.slice A0_2 l0_2.length c0_2]) (t:=24) ?hr ?_;(case hd=>rfl);(case hg=>rfl);(case hr=>first|(go_simp;done)|(go_simp;rfl));intro gb441 hg w7 hbox hb;have n0_:=Aside0.mk (below_step (by repeat (first|(with_reducible first|exact HB.out|apply below_alloc|apply pw_below_drewN|apply below_drew1)|exact HB.out)) hb);have n1_:=Aside0.mk (hbox);have n2_:=Aside0.mk ((by rw [hg];exact (below_size (by repeat (first|(with_reducible first|exact HB.out|apply below_alloc|apply pw_below_drewN|apply below_drew1)|exact HB.out))) : w.heap.size ≤ gb441));have n3_:=Aside0.mk ((by rw [hg];exact (below_size (by repeat (first|(with_reducible first|exact HB.out|apply below_alloc|apply pw_below_drewN|apply below_drew1)|exact HB.out))) : w.heap.size ≤ gb441));clear HB;have HB:=n0_;have BK441:=n1_;have GW441:=n2_;have GE441:=n3_;clear n0_ n1_ n2_ n3_;clear hb hbox hg;have hcz8_0 : w7.cell? ⟨gb441,0,none⟩ = some (.int .i64 a0_0):=(blk_cell BK441.out 0).trans rfl;have hcz8_1 : w7.cell? ⟨gb441,1,none⟩ = some (.int .i64 a0_1):=(blk_cell BK441.out 1).trans rfl;have hcz8_2 : w7.cell? ⟨gb441,2,none⟩ = some (.slice A0_2 l0_2.length c0_2):=(blk_cell BK441.out 2).trans rfl;have hfz8_0:=blk_frozen BK441.out 0;have hfz8_1:=blk_frozen BK441.out 1;have hfz8_2:=blk_frozen BK441.out 2)|((with_reducible refine gate_callee (f:=10) rfl ?_);refine goesL_ (some 17) rfl rfl Try.func10 (by kernel_rfl) rfl #[.agg #[.int .i64 a0_0,.int .i64 a0_1,.slice A0_2 l0_2.length c0_2],.int .i64 1048576] rfl (by (try simp only [List.map_toArray,List.map_cons,List.map_nil]);first|done|rfl|(simp only [List.length_drop,List.length_take];rfl)) ?_;(with_reducible refine (laws_szSea.calls a0_0 a0_1 _ _ l0_2 1048576 t442 _ ?side1 ?side2 A5.out).mono ?_);(case side1=>repeat (first|exact (Kd.C_below HR0_2.out HB.out)|(with_reducible refine Kd.C_alloc ?_ _)|(with_reducible refine Kd.C_drewN ?_ _)|(with_reducible refine Kd.C_drew ?_)));(case side2=>exact HC0_2.out);rintro e w9 ⟨rfl,hb⟩;refine ⟨_,rfl,?_⟩;have n0_:=Aside0.mk (blk_below (g:=gb441) (o:=.cells #[.int .i64 a0_0,.int .i64 a0_1,.slice A0_2 l0_2.length c0_2] 24 (0,0)) (by (with_reducible repeat (first|refine blk_drewN ?_ _|refine blk_drew ?_|refine blk_alloc ?_ _));exact BK441.out) hb);have n1_:=Aside0.mk (below_step (by repeat (first|(with_reducible first|exact HB.out|apply below_alloc|apply pw_below_drewN|apply below_drew1|refine below_set ?_ GE441.out)|exact HB.out)) hb);clear BK441;clear HB;have BK441:=n0_;have HB:=n1_;clear n0_ n1_;(try clear hb);(try clear hb2);(try clear hk);(try clear hi)))
   go_ret
   exact ⟨by first|rfl|(simp [errW_none,errW_some] <;> rfl)|(simp [*,errW_none,errW_some] <;> rfl),by repeat (first|(with_reducible first|exact HB.out|apply below_alloc|apply pw_below_drewN|apply below_drew1|refine below_set ?_ GE441.out)|exact HB.out)⟩
  ·rw [if_neg c6] at H
   have c6b0 : decide (t442 < 0) = false:=decide_eq_false c6
   clear c6
   replace H:=Option.bind_eq_some_iff.mp H
   obtain ⟨⟨t443,t444,t445⟩,A100,H⟩:=H
   replace H : ((laws_toInt64S.f k l1).bind fun t448=>((spec_IsFleet.f k t443 t444 t445 t448).bind fun bt451=>((laws_toSea.f k a0_0 a0_1 l0_2).bind fun bt453=>((laws_toInt64S.f k l1).bind fun t459=>((impl_IsFleet.f k bt453.1 bt453.2.1 bt453.2.2 t459).bind fun bt462=>(if (bt462.1 != bt451.1) = true then (laws_FnExactIsFleet.j0 k l1 t459 true a0_0 a0_1 l0_2 bt453.1 bt453.2.1 bt453.2.2) else (laws_FnExactIsFleet.j0 k l1 t459 (bt462.2 != bt451.2) a0_0 a0_1 l0_2 bt453.1 bt453.2.1 bt453.2.2))))))) = some r:=H
   have A10:=Aside0.mk A100
   clear A100
   replace H:=Option.bind_eq_some_iff.mp H
   obtain ⟨t448,A110,H⟩:=H
   replace H : ((spec_IsFleet.f k t443 t444 t445 t448).bind fun bt451=>((laws_toSea.f k a0_0 a0_1 l0_2).bind fun bt453=>((laws_toInt64S.f k l1).bind fun t459=>((impl_IsFleet.f k bt453.1 bt453.2.1 bt453.2.2 t459).bind fun bt462=>(if (bt462.1 != bt451.1) = true then (laws_FnExactIsFleet.j0 k l1 t459 true a0_0 a0_1 l0_2 bt453.1 bt453.2.1 bt453.2.2) else (laws_FnExactIsFleet.j0 k l1 t459 (bt462.2 != bt451.2) a0_0 a0_1 l0_2 bt453.1 bt453.2.1 bt453.2.2)))))) = some r:=H
   have A11:=Aside0.mk A110
   clear A110
   replace H:=Option.bind_eq_some_iff.mp H
   obtain ⟨⟨t451,t452⟩,A120,H⟩:=H
   replace H : ((laws_toSea.f k a0_0 a0_1 l0_2).bind fun bt453=>((laws_toInt64S.f k l1).bind fun t459=>((impl_IsFleet.f k bt453.1 bt453.2.1 bt453.2.2 t459).bind fun bt462=>(if (bt462.1 != t451) = true then (laws_FnExactIsFleet.j0 k l1 t459 true a0_0 a0_1 l0_2 bt453.1 bt453.2.1 bt453.2.2) else (laws_FnExactIsFleet.j0 k l1 t459 (bt462.2 != t452) a0_0 a0_1 l0_2 bt453.1 bt453.2.1 bt453.2.2))))) = some r:=H
   have A12:=Aside0.mk A120
   clear A120
   replace H:=Option.bind_eq_some_iff.mp H
   obtain ⟨⟨t453,t454,t455⟩,A130,H⟩:=H
   replace H : ((laws_toInt64S.f k l1).bind fun t459=>((impl_IsFleet.f k t453 t454 t455 t459).bind fun bt462=>(if (bt462.1 != t451) = true then (laws_FnExactIsFleet.j0 k l1 t459 true a0_0 a0_1 l0_2 t453 t454 t455) else (laws_FnExactIsFleet.j0 k l1 t459 (bt462.2 != t452) a0_0 a0_1 l0_2 t453 t454 t455)))) = some r:=H
   have A13:=Aside0.mk A130
   clear A130
   replace H:=Option.bind_eq_some_iff.mp H
   obtain ⟨t459,A140,H⟩:=H
   replace H : ((impl_IsFleet.f k t453 t454 t455 t459).bind fun bt462=>(if (bt462.1 != t451) = true then (laws_FnExactIsFleet.j0 k l1 t459 true a0_0 a0_1 l0_2 t453 t454 t455) else (laws_FnExactIsFleet.j0 k l1 t459 (bt462.2 != t452) a0_0 a0_1 l0_2 t453 t454 t455))) = some r:=H
   have A14:=Aside0.mk A140
   clear A140
   replace H:=Option.bind_eq_some_iff.mp H
   obtain ⟨⟨t462,t463⟩,A150,H⟩:=H
   replace H : (if (t462 != t451) = true then (laws_FnExactIsFleet.j0 k l1 t459 true a0_0 a0_1 l0_2 t453 t454 t455) else (laws_FnExactIsFleet.j0 k l1 t459 (t463 != t452) a0_0 a0_1 l0_2 t453 t454 t455)) = some r:=H
   have A15:=Aside0.mk A150
   clear A150
   have HC16:=Aside0.mk H
   clear H
   go_enter Try.func4,Try.ntmps4
   go_upto_region 11 with (first|((with_reducible refine gate_dst (N:=2) rfl ?_);refine box_event ?hg (N:=2) ?hd (cs:=#[.int .i64 a0_0,.int .i64 a0_1,.slice A0_2 l0_2.length c0_2]) (t:=24) ?hr ?_;(case hd=>rfl);(case hg=>rfl);(case hr=>first|(go_simp;done)|(go_simp;rfl));intro gb441 hg w17 hbox hb;have n0_:=Aside0.mk (below_step (by repeat (first|(with_reducible first|exact HB.out|apply below_alloc|apply pw_below_drewN|apply below_drew1)|exact HB.out)) hb);have n1_:=Aside0.mk (hbox);have n2_:=Aside0.mk ((by rw [hg];exact (below_size (by repeat (first|(with_reducible first|exact HB.out|apply below_alloc|apply pw_below_drewN|apply below_drew1)|exact HB.out))) : w.heap.size ≤ gb441));have n3_:=Aside0.mk ((by rw [hg];exact (below_size (by repeat (first|(with_reducible first|exact HB.out|apply below_alloc|apply pw_below_drewN|apply below_drew1)|exact HB.out))) : w.heap.size ≤ gb441));clear HB;have HB:=n0_;have BK441:=n1_;have GW441:=n2_;have GE441:=n3_;clear n0_ n1_ n2_ n3_;clear hb hbox hg;have hcz18_0 : w17.cell? ⟨gb441,0,none⟩ = some (.int .i64 a0_0):=(blk_cell BK441.out 0).trans rfl;have hcz18_1 : w17.cell? ⟨gb441,1,none⟩ = some (.int .i64 a0_1):=(blk_cell BK441.out 1).trans rfl;have hcz18_2 : w17.cell? ⟨gb441,2,none⟩ = some (.slice A0_2 l0_2.length c0_2):=(blk_cell BK441.out 2).trans rfl;have hfz18_0:=blk_frozen BK441.out 0;have hfz18_1:=blk_frozen BK441.out 1;have hfz18_2:=blk_frozen BK441.out 2)|((with_reducible refine gate_callee (f:=10) rfl ?_);refine goesL_ (some 17) rfl rfl Try.func10 (by kernel_rfl) rfl #[.agg #[.int .i64 a0_0,.int .i64 a0_1,.slice A0_2 l0_2.length c0_2],.int .i64 1048576] rfl (by (try simp only [List.map_toArray,List.map_cons,List.map_nil]);first|done|rfl|(simp only [List.length_drop,List.length_take];rfl)) ?_;(with_reducible refine (laws_szSea.calls a0_0 a0_1 _ _ l0_2 1048576 t442 _ ?side1 ?side2 A5.out).mono ?_);(case side1=>repeat (first|exact (Kd.C_below HR0_2.out HB.out)|(with_reducible refine Kd.C_alloc ?_ _)|(with_reducible refine Kd.C_drewN ?_ _)|(with_reducible refine Kd.C_drew ?_)));(case side2=>exact HC0_2.out);rintro e w19 ⟨rfl,hb⟩;refine ⟨_,rfl,?_⟩;have n0_:=Aside0.mk (blk_below (g:=gb441) (o:=.cells #[.int .i64 a0_0,.int .i64 a0_1,.slice A0_2 l0_2.length c0_2] 24 (0,0)) (by (with_reducible repeat (first|refine blk_drewN ?_ _|refine blk_drew ?_|refine blk_alloc ?_ _));exact BK441.out) hb);have n1_:=Aside0.mk (below_step (by repeat (first|(with_reducible first|exact HB.out|apply below_alloc|apply pw_below_drewN|apply below_drew1|refine below_set ?_ GE441.out)|exact HB.out)) hb);clear BK441;clear HB;have BK441:=n0_;have HB:=n1_;clear n0_ n1_;(try clear hb);(try clear hb2);(try clear hk);(try clear hi);have hcz20_0 : w19.cell? ⟨gb441,0,none⟩ = some (.int .i64 a0_0):=(blk_cell BK441.out 0).trans rfl;have hcz20_1 : w19.cell? ⟨gb441,1,none⟩ = some (.int .i64 a0_1):=(blk_cell BK441.out 1).trans rfl;have hcz20_2 : w19.cell? ⟨gb441,2,none⟩ = some (.slice A0_2 l0_2.length c0_2):=(blk_cell BK441.out 2).trans rfl;have hfz20_0:=blk_frozen BK441.out 0;have hfz20_1:=blk_frozen BK441.out 1;have hfz20_2:=blk_frozen BK441.out 2)|((with_reducible refine gate_callee (f:=12) rfl ?_);refine goesL_ (some 22) rfl rfl Try.func12 (by kernel_rfl) rfl #[.agg #[.int .i64 a0_0,.int .i64 a0_1,.slice A0_2 l0_2.length c0_2]] rfl (by (try simp only [List.map_toArray,List.map_cons,List.map_nil]);first|done|rfl|(simp only [List.length_drop,List.length_take];rfl)) ?_;(with_reducible refine (laws_toSea.calls k a0_0 a0_1 _ _ l0_2 t443 t444 t445 _ ?side1 ?side2 A10.out).mono ?_);(case side1=>repeat (first|exact (Kd.C_below HR0_2.out HB.out)|(with_reducible refine Kd.C_alloc ?_ _)|(with_reducible refine Kd.C_drewN ?_ _)|(with_reducible refine Kd.C_drew ?_)));(case side2=>exact HC0_2.out);rintro e w21 ⟨v446,rfl,ho0,hb⟩;refine ⟨_,rfl,?_⟩;have n0_:=Aside0.mk (Kd.R_lower ho0 (below_size (by repeat (first|(with_reducible first|exact HB.out|apply below_alloc|apply pw_below_drewN|apply below_drew1|refine below_set ?_ GE441.out)|exact HB.out))));have n1_:=Aside0.mk (blk_below (g:=gb441) (o:=.cells #[.int .i64 a0_0,.int .i64 a0_1,.slice A0_2 l0_2.length c0_2] 24 (0,0)) (by (with_reducible repeat (first|refine blk_drewN ?_ _|refine blk_drew ?_|refine blk_alloc ?_ _));exact BK441.out) hb);have n2_:=Aside0.mk (below_step (by repeat (first|(with_reducible first|exact HB.out|apply below_alloc|apply pw_below_drewN|apply below_drew1|refine below_set ?_ GE441.out)|exact HB.out)) hb);clear BK441;clear HB;have HO447:=n0_;have BK441:=n1_;have HB:=n2_;clear n0_ n1_ n2_;(try clear hb);(try clear hb2);(try clear hk);(try clear hi);(try clear ho0))|((with_reducible refine gate_callee (f:=20) rfl ?_);refine goesL_ (some 24) rfl rfl Try.func20 (by kernel_rfl) rfl #[.slice A1 l1.length c1] rfl (by (try simp only [List.map_toArray,List.map_cons,List.map_nil]);first|done|rfl|(simp only [List.length_drop,List.length_take];rfl)) ?_;(with_reducible refine (laws_toInt64S.calls k _ _ l1 t448 _ ?side1 ?side2 A11.out).mono ?_);(case side1=>repeat (first|exact (Kd.C_below HR1.out HB.out)|(with_reducible refine Kd.C_alloc ?_ _)|(with_reducible refine Kd.C_drewN ?_ _)|(with_reducible refine Kd.C_drew ?_)));(case side2=>exact HC1.out);rintro e w22 ⟨v449,rfl,ho0,hb⟩;refine ⟨_,rfl,?_⟩;have n0_:=Aside0.mk (Kd.R_elder' (by (with_reducible repeat (first|apply Kd.R_alloc|apply Kd.R_drewN|apply Kd.R_drew));exact HO447.out) (Kd.R_base ho0) hb);have n1_:=Aside0.mk (Kd.R_lower (Kd.R_new' ho0 (Kd.R_lt (by (with_reducible repeat (first|apply Kd.R_alloc|apply Kd.R_drewN|apply Kd.R_drew));exact HO447.out))) (below_size (by repeat (first|(with_reducible first|exact HB.out|apply below_alloc|apply pw_below_drewN|apply below_drew1|refine below_set ?_ GE441.out)|exact HB.out))));have n2_:=Aside0.mk (blk_below (g:=gb441) (o:=.cells #[.int .i64 a0_0,.int .i64 a0_1,.slice A0_2 l0_2.length c0_2] 24 (0,0)) (by (with_reducible repeat (first|refine blk_drewN ?_ _|refine blk_drew ?_|refine blk_alloc ?_ _));exact BK441.out) hb);have n3_:=Aside0.mk (below_step (by repeat (first|(with_reducible first|exact HB.out|apply below_alloc|apply pw_below_drewN|apply below_drew1|refine below_set ?_ GE441.out)|exact HB.out)) hb);clear HO447;clear BK441;clear HB;have HO447:=n0_;have HO450:=n1_;have BK441:=n2_;have HB:=n3_;clear n0_ n1_ n2_ n3_;(try clear hb);(try clear hb2);(try clear hk);(try clear hi);(try clear ho0);obtain ⟨Ao23,co23,eo23⟩:=Kd.R_slice HO447.out;subst eo23;obtain ⟨Ao24,co24,eo24⟩:=Kd.R_slice HO450.out;subst eo24)|((with_reducible refine gate_callee (f:=19) rfl ?_);refine goesL_ (some 25) rfl rfl Try.func19 (by kernel_rfl) rfl #[.agg #[.int .i64 t443,.int .i64 t444,.slice Ao23 t445.length co23],.slice Ao24 t448.length co24] rfl (by (try simp only [List.map_toArray,List.map_cons,List.map_nil]);first|done|rfl|(simp only [List.length_drop,List.length_take];rfl)) ?_;(with_reducible refine (spec_IsFleet.calls k t443 t444 _ _ t445 _ _ t448 t451 t452 _ ?side1 ?side2 ?side3 ?side4 A12.out).mono ?_);(case side1=>repeat (first|exact (Kd.R_reads' HO447.out).2.2|(with_reducible refine Kd.C_alloc ?_ _)|(with_reducible refine Kd.C_drewN ?_ _)|(with_reducible refine Kd.C_drew ?_)));(case side2=>exact (Kd.R_reads' HO447.out).2.1);(case side3=>repeat (first|exact (Kd.R_reads' HO450.out).2.2|(with_reducible refine Kd.C_alloc ?_ _)|(with_reducible refine Kd.C_drewN ?_ _)|(with_reducible refine Kd.C_drew ?_)));(case side4=>exact (Kd.R_reads' HO450.out).2.1);rintro e w25 ⟨rfl,hb⟩;refine ⟨_,rfl,?_⟩;have n0_:=Aside0.mk (Kd.R_below (by (with_reducible repeat (first|apply Kd.R_alloc|apply Kd.R_drewN|apply Kd.R_drew));exact HO447.out) hb);have n1_:=Aside0.mk (Kd.R_below (by (with_reducible repeat (first|apply Kd.R_alloc|apply Kd.R_drewN|apply Kd.R_drew));exact HO450.out) hb);have n2_:=Aside0.mk (blk_below (g:=gb441) (o:=.cells #[.int .i64 a0_0,.int .i64 a0_1,.slice A0_2 l0_2.length c0_2] 24 (0,0)) (by (with_reducible repeat (first|refine blk_drewN ?_ _|refine blk_drew ?_|refine blk_alloc ?_ _));exact BK441.out) hb);have n3_:=Aside0.mk (below_step (by repeat (first|(with_reducible first|exact HB.out|apply below_alloc|apply pw_below_drewN|apply below_drew1|refine below_set ?_ GE441.out)|exact HB.out)) hb);clear HO447;clear HO450;clear BK441;clear HB;have HO447:=n0_;have HO450:=n1_;have BK441:=n2_;have HB:=n3_;clear n0_ n1_ n2_ n3_;(try clear hb);(try clear hb2);(try clear hk);(try clear hi);have hcz26_0 : w25.cell? ⟨gb441,0,none⟩ = some (.int .i64 a0_0):=(blk_cell BK441.out 0).trans rfl;have hcz26_1 : w25.cell? ⟨gb441,1,none⟩ = some (.int .i64 a0_1):=(blk_cell BK441.out 1).trans rfl;have hcz26_2 : w25.cell? ⟨gb441,2,none⟩ = some (.slice A0_2 l0_2.length c0_2):=(blk_cell BK441.out 2).trans rfl;have hfz26_0:=blk_frozen BK441.out 0;have hfz26_1:=blk_frozen BK441.out 1;have hfz26_2:=blk_frozen BK441.out 2)|((with_reducible refine gate_callee (f:=12) rfl ?_);refine goesL_ (some 29) rfl rfl Try.func12 (by kernel_rfl) rfl #[.agg #[.int .i64 a0_0,.int .i64 a0_1,.slice A0_2 l0_2.length c0_2]] rfl (by (try simp only [List.map_toArray,List.map_cons,List.map_nil]);first|done|rfl|(simp only [List.length_drop,List.length_take];rfl)) ?_;(with_reducible refine (laws_toSea.calls k a0_0 a0_1 _ _ l0_2 t453 t454 t455 _ ?side1 ?side2 A13.out).mono ?_);(case side1=>repeat (first|exact (Kd.C_below HR0_2.out HB.out)|(with_reducible refine Kd.C_alloc ?_ _)|(with_reducible refine Kd.C_drewN ?_ _)|(with_reducible refine Kd.C_drew ?_)));(case side2=>exact HC0_2.out);rintro e w27 ⟨v456,rfl,ho0,hb⟩;refine ⟨_,rfl,?_⟩;have n0_:=Aside0.mk (Kd.R_elder' (by (with_reducible repeat (first|apply Kd.R_alloc|apply Kd.R_drewN|apply Kd.R_drew));exact HO447.out) (Kd.R_base ho0) hb);have n1_:=Aside0.mk (Kd.R_elder' (by (with_reducible repeat (first|apply Kd.R_alloc|apply Kd.R_drewN|apply Kd.R_drew));exact HO450.out) (Kd.R_base ho0) hb);have n2_:=Aside0.mk (Kd.R_lower (Kd.R_new' (Kd.R_new' ho0 (Kd.R_lt (by (with_reducible repeat (first|apply Kd.R_alloc|apply Kd.R_drewN|apply Kd.R_drew));exact HO447.out))) (Kd.R_lt (by (with_reducible repeat (first|apply Kd.R_alloc|apply Kd.R_drewN|apply Kd.R_drew));exact HO450.out))) (below_size (by repeat (first|(with_reducible first|exact HB.out|apply below_alloc|apply pw_below_drewN|apply below_drew1|refine below_set ?_ GE441.out)|exact HB.out))));have n3_:=Aside0.mk (blk_below (g:=gb441) (o:=.cells #[.int .i64 a0_0,.int .i64 a0_1,.slice A0_2 l0_2.length c0_2] 24 (0,0)) (by (with_reducible repeat (first|refine blk_drewN ?_ _|refine blk_drew ?_|refine blk_alloc ?_ _));exact BK441.out) hb);have n4_:=Aside0.mk (below_step (by repeat (first|(with_reducible first|exact HB.out|apply below_alloc|apply pw_below_drewN|apply below_drew1|refine below_set ?_ GE441.out)|exact HB.out)) hb);clear HO447;clear HO450;clear BK441;clear HB;have HO447:=n0_;have HO450:=n1_;have HO457:=n2_;have BK441:=n3_;have HB:=n4_;clear n0_ n1_ n2_ n3_ n4_;(try clear hb);(try clear hb2);(try clear hk);(try clear hi);(try clear ho0))|((with_reducible refine gate_dst (N:=8) rfl ?_);refine box_event ?hg (N:=8) ?hd (cs:=#[.int .i64 0,.int .i64 0,.slice none 0 0]) (t:=28) ?hr ?_;(case hd=>rfl);(case hg=>rfl);(case hr=>first|(go_simp;done)|(go_simp;rfl));intro gb458 hg w28 hbox hb;have n0_:=Aside0.mk (Kd.R_below (by (with_reducible repeat (first|apply Kd.R_alloc|apply Kd.R_drewN|apply Kd.R_drew));exact HO447.out) hb);have n1_:=Aside0.mk (Kd.R_below (by (with_reducible repeat (first|apply Kd.R_alloc|apply Kd.R_drewN|apply Kd.R_drew));exact HO450.out) hb);have n2_:=Aside0.mk (Kd.R_below (by (with_reducible repeat (first|apply Kd.R_alloc|apply Kd.R_drewN|apply Kd.R_drew));exact HO457.out) hb);have n3_:=Aside0.mk (blk_below (g:=gb441) (o:=.cells #[.int .i64 a0_0,.int .i64 a0_1,.slice A0_2 l0_2.length c0_2] 24 (0,0)) (by (with_reducible repeat (first|refine blk_drewN ?_ _|refine blk_drew ?_|refine blk_alloc ?_ _));exact BK441.out) hb);have n4_:=Aside0.mk (below_step (by repeat (first|(with_reducible first|exact HB.out|apply below_alloc|apply pw_below_drewN|apply below_drew1|refine below_set ?_ GE441.out)|exact HB.out)) hb);have n5_:=Aside0.mk (hbox);have n6_:=Aside0.mk ((by rw [hg];exact (below_size (by repeat (first|(with_reducible first|exact HB.out|apply below_alloc|apply pw_below_drewN|apply below_drew1|refine below_set ?_ GE441.out)|exact HB.out))) : w.heap.size ≤ gb458));have n7_:=Aside0.mk ((by rw [hg];exact (below_size (by repeat (first|(with_reducible first|exact HB.out|apply below_alloc|apply pw_below_drewN|apply below_drew1|refine below_set ?_ GE441.out)|exact HB.out))) : w.heap.size ≤ gb458));have n8_:=Aside0.mk ((by rw [hg];exact Nat.ne_of_lt (blk_lt (g:=gb441) (o:=.cells #[.int .i64 a0_0,.int .i64 a0_1,.slice A0_2 l0_2.length c0_2] 24 (0,0)) (by (with_reducible repeat (first|refine blk_drewN ?_ _|refine blk_drew ?_|refine blk_alloc ?_ _));exact BK441.out)) : gb441 ≠ gb458));have n9_:=Aside0.mk ((by rw [hg];exact Nat.ne_of_gt (blk_lt (g:=gb441) (o:=.cells #[.int .i64 a0_0,.int .i64 a0_1,.slice A0_2 l0_2.length c0_2] 24 (0,0)) (by (with_reducible repeat (first|refine blk_drewN ?_ _|refine blk_drew ?_|refine blk_alloc ?_ _));exact BK441.out)) : gb458 ≠ gb441));clear HO447;clear HO450;clear HO457;clear BK441;clear HB;have HO447:=n0_;have HO450:=n1_;have HO457:=n2_;have BK441:=n3_;have HB:=n4_;have BK458:=n5_;have GW458:=n6_;have GE458:=n7_;have NB441_458:=n8_;have NB458_441:=n9_;clear n0_ n1_ n2_ n3_ n4_ n5_ n6_ n7_ n8_ n9_;clear hb hbox hg;have hnb29:=NB458_441.out;have hnc29:=NB441_458.out;have hcz30_0 : w28.cell? ⟨gb458,0,none⟩ = some (.int .i64 0):=(blk_cell BK458.out 0).trans rfl;have hcz30_1 : w28.cell? ⟨gb458,1,none⟩ = some (.int .i64 0):=(blk_cell BK458.out 1).trans rfl;have hcz30_2 : w28.cell? ⟨gb458,2,none⟩ = some (.slice none 0 0):=(blk_cell BK458.out 2).trans rfl;have hfz30_0:=blk_frozen BK458.out 0;have hfz30_1:=blk_frozen BK458.out 1;have hfz30_2:=blk_frozen BK458.out 2;obtain ⟨Ao31,co31,eo31⟩:=Kd.R_slice HO457.out;subst eo31)|((with_reducible refine gate_callee (f:=20) rfl ?_);refine goesL_ (some 31) rfl rfl Try.func20 (by kernel_rfl) rfl #[.slice A1 l1.length c1] rfl (by (try simp only [List.map_toArray,List.map_cons,List.map_nil]);first|done|rfl|(simp only [List.length_drop,List.length_take];rfl)) ?_;(with_reducible refine (laws_toInt64S.calls k _ _ l1 t459 _ ?side1 ?side2 A14.out).mono ?_);(case side1=>exact Kd.C_below HR1.out (by repeat (first|(with_reducible first|exact HB.out|apply below_alloc|apply pw_below_drewN|apply below_drew1|refine below_set ?_ GE441.out|refine below_set ?_ GE458.out)|exact HB.out)));(case side2=>exact HC1.out);rintro e w32 ⟨v460,rfl,ho0,hb⟩;refine ⟨_,rfl,?_⟩;have n0_:=Aside0.mk (Kd.R_elder' (by (with_reducible repeat (first|apply Kd.R_alloc|apply Kd.R_drewN|apply Kd.R_drew));exact (Kd.R_mono (Kd.R_far (p:=⟨gb458,2,none⟩) (Kd.R_far (p:=⟨gb458,1,none⟩) (Kd.R_far (p:=⟨gb458,0,none⟩) (Kd.R_types HO447.out BK458.out (by decide)) (fun _ hk=>hk.2) (.int .i64 t453)) (fun _ hk=>hk.2) (.int .i64 t454)) (fun _ hk=>hk.2) (.slice Ao31 t455.length co31)) (fun _ h_=>h_.1))) (Kd.R_base ho0) hb);have n1_:=Aside0.mk (Kd.R_elder' (by (with_reducible repeat (first|apply Kd.R_alloc|apply Kd.R_drewN|apply Kd.R_drew));exact (Kd.R_mono (Kd.R_far (p:=⟨gb458,2,none⟩) (Kd.R_far (p:=⟨gb458,1,none⟩) (Kd.R_far (p:=⟨gb458,0,none⟩) (Kd.R_types HO450.out BK458.out (by decide)) (fun _ hk=>hk.2) (.int .i64 t453)) (fun _ hk=>hk.2) (.int .i64 t454)) (fun _ hk=>hk.2) (.slice Ao31 t455.length co31)) (fun _ h_=>h_.1))) (Kd.R_base ho0) hb);have n2_:=Aside0.mk (Kd.R_elder' (by (with_reducible repeat (first|apply Kd.R_alloc|apply Kd.R_drewN|apply Kd.R_drew));exact (Kd.R_mono (Kd.R_far (p:=⟨gb458,2,none⟩) (Kd.R_far (p:=⟨gb458,1,none⟩) (Kd.R_far (p:=⟨gb458,0,none⟩) (Kd.R_types HO457.out BK458.out (by decide)) (fun _ hk=>hk.2) (.int .i64 t453)) (fun _ hk=>hk.2) (.int .i64 t454)) (fun _ hk=>hk.2) (.slice Ao31 t455.length co31)) (fun _ h_=>h_.1))) (Kd.R_base ho0) hb);have n3_:=Aside0.mk (Kd.R_lower (Kd.R_new' (Kd.R_new' (Kd.R_new' ho0 (Kd.R_lt (by (with_reducible repeat (first|apply Kd.R_alloc|apply Kd.R_drewN|apply Kd.R_drew));exact (Kd.R_mono (Kd.R_far (p:=⟨gb458,2,none⟩) (Kd.R_far (p:=⟨gb458,1,none⟩) (Kd.R_far (p:=⟨gb458,0,none⟩) (Kd.R_types HO447.out BK458.out (by decide)) (fun _ hk=>hk.2) (.int .i64 t453)) (fun _ hk=>hk.2) (.int .i64 t454)) (fun _ hk=>hk.2) (.slice Ao31 t455.length co31)) (fun _ h_=>h_.1))))) (Kd.R_lt (by (with_reducible repeat (first|apply Kd.R_alloc|apply Kd.R_drewN|apply Kd.R_drew));exact (Kd.R_mono (Kd.R_far (p:=⟨gb458,2,none⟩) (Kd.R_far (p:=⟨gb458,1,none⟩) (Kd.R_far (p:=⟨gb458,0,none⟩) (Kd.R_types HO450.out BK458.out (by decide)) (fun _ hk=>hk.2) (.int .i64 t453)) (fun _ hk=>hk.2) (.int .i64 t454)) (fun _ hk=>hk.2) (.slice Ao31 t455.length co31)) (fun _ h_=>h_.1))))) (Kd.R_lt (by (with_reducible repeat (first|apply Kd.R_alloc|apply Kd.R_drewN|apply Kd.R_drew));exact (Kd.R_mono (Kd.R_far (p:=⟨gb458,2,none⟩) (Kd.R_far (p:=⟨gb458,1,none⟩) (Kd.R_far (p:=⟨gb458,0,none⟩) (Kd.R_types HO457.out BK458.out (by decide)) (fun _ hk=>hk.2) (.int .i64 t453)) (fun _ hk=>hk.2) (.int .i64 t454)) (fun _ hk=>hk.2) (.slice Ao31 t455.length co31)) (fun _ h_=>h_.1))))) (below_size (by repeat (first|(with_reducible first|exact HB.out|apply below_alloc|apply pw_below_drewN|apply below_drew1|refine below_set ?_ GE441.out|refine below_set ?_ GE458.out)|exact HB.out))));have n4_:=Aside0.mk (blk_below (g:=gb441) (o:=.cells #[.int .i64 a0_0,.int .i64 a0_1,.slice A0_2 l0_2.length c0_2] 24 (0,0)) (by (with_reducible repeat (first|refine blk_drewN ?_ _|refine blk_drew ?_|refine blk_alloc ?_ _));refine blk_far ?_ NB441_458.out _;(with_reducible repeat (first|refine blk_drewN ?_ _|refine blk_drew ?_|refine blk_alloc ?_ _));refine blk_far ?_ NB441_458.out _;(with_reducible repeat (first|refine blk_drewN ?_ _|refine blk_drew ?_|refine blk_alloc ?_ _));refine blk_far ?_ NB441_458.out _;(with_reducible repeat (first|refine blk_drewN ?_ _|refine blk_drew ?_|refine blk_alloc ?_ _));exact BK441.out) hb);have n5_:=Aside0.mk (blk_below (g:=gb458) (o:=.cells #[.int .i64 t453,.int .i64 t454,.slice Ao31 t455.length co31] 28 (0,0)) (by (with_reducible repeat (first|refine blk_drewN ?_ _|refine blk_drew ?_|refine blk_alloc ?_ _));refine blk_put (cs:=#[.int .i64 t453,.int .i64 t454,.slice none 0 0]) ?_ 2 _ rfl;(with_reducible repeat (first|refine blk_drewN ?_ _|refine blk_drew ?_|refine blk_alloc ?_ _));refine blk_put (cs:=#[.int .i64 t453,.int .i64 0,.slice none 0 0]) ?_ 1 _ rfl;(with_reducible repeat (first|refine blk_drewN ?_ _|refine blk_drew ?_|refine blk_alloc ?_ _));refine blk_put (cs:=#[.int .i64 0,.int .i64 0,.slice none 0 0]) ?_ 0 _ rfl;(with_reducible repeat (first|refine blk_drewN ?_ _|refine blk_drew ?_|refine blk_alloc ?_ _));exact BK458.out) hb);have n6_:=Aside0.mk (below_step (by repeat (first|(with_reducible first|exact HB.out|apply below_alloc|apply pw_below_drewN|apply below_drew1|refine below_set ?_ GE441.out|refine below_set ?_ GE458.out)|exact HB.out)) hb);clear HO447;clear HO450;clear HO457;clear BK441;clear BK458;clear HB;have HO447:=n0_;have HO450:=n1_;have HO457:=n2_;have HO461:=n3_;have BK441:=n4_;have BK458:=n5_;have HB:=n6_;clear n0_ n1_ n2_ n3_ n4_ n5_ n6_;(try clear hb);(try clear hb2);(try clear hk);(try clear hi);(try clear ho0);have hcz33_0 : w32.cell? ⟨gb458,0,none⟩ = some (.int .i64 t453):=(blk_cell BK458.out 0).trans rfl;have hcz33_1 : w32.cell? ⟨gb458,1,none⟩ = some (.int .i64 t454):=(blk_cell BK458.out 1).trans rfl;have hcz33_2 : w32.cell? ⟨gb458,2,none⟩ = some (.slice Ao31 t455.length co31):=(blk_cell BK458.out 2).trans rfl;have hfz33_0:=blk_frozen BK458.out 0;have hfz33_1:=blk_frozen BK458.out 1;have hfz33_2:=blk_frozen BK458.out 2;obtain ⟨Ao34,co34,eo34⟩:=Kd.R_slice HO461.out;subst eo34)|((with_reducible refine gate_callee (f:=21) rfl ?_);refine goesL_ (some 35) rfl rfl Try.func21 (by kernel_rfl) rfl #[.agg #[.int .i64 t453,.int .i64 t454,.slice Ao31 t455.length co31],.slice Ao34 t459.length co34] rfl (by (try simp only [List.map_toArray,List.map_cons,List.map_nil]);first|done|rfl|(simp only [List.length_drop,List.length_take];rfl)) ?_;(with_reducible refine (impl_IsFleet.calls k t453 t454 _ _ t455 _ _ t459 t462 t463 _ ?side1 ?side2 ?side3 ?side4 A15.out).mono ?_);(case side1=>repeat (first|exact (Kd.R_reads' HO457.out).2.2|(with_reducible refine Kd.C_alloc ?_ _)|(with_reducible refine Kd.C_drewN ?_ _)|(with_reducible refine Kd.C_drew ?_)));(case side2=>exact (Kd.R_reads' HO457.out).2.1);(case side3=>repeat (first|exact (Kd.R_reads' HO461.out).2.2|(with_reducible refine Kd.C_alloc ?_ _)|(with_reducible refine Kd.C_drewN ?_ _)|(with_reducible refine Kd.C_drew ?_)));(case side4=>exact (Kd.R_reads' HO461.out).2.1);rintro e w35 ⟨rfl,hb⟩;refine ⟨_,rfl,?_⟩;have n0_:=Aside0.mk (Kd.R_below (by (with_reducible repeat (first|apply Kd.R_alloc|apply Kd.R_drewN|apply Kd.R_drew));exact HO447.out) hb);have n1_:=Aside0.mk (Kd.R_below (by (with_reducible repeat (first|apply Kd.R_alloc|apply Kd.R_drewN|apply Kd.R_drew));exact HO450.out) hb);have n2_:=Aside0.mk (Kd.R_below (by (with_reducible repeat (first|apply Kd.R_alloc|apply Kd.R_drewN|apply Kd.R_drew));exact HO457.out) hb);have n3_:=Aside0.mk (Kd.R_below (by (with_reducible repeat (first|apply Kd.R_alloc|apply Kd.R_drewN|apply Kd.R_drew));exact HO461.out) hb);have n4_:=Aside0.mk (blk_below (g:=gb441) (o:=.cells #[.int .i64 a0_0,.int .i64 a0_1,.slice A0_2 l0_2.length c0_2] 24 (0,0)) (by (with_reducible repeat (first|refine blk_drewN ?_ _|refine blk_drew ?_|refine blk_alloc ?_ _));exact BK441.out) hb);have n5_:=Aside0.mk (blk_below (g:=gb458) (o:=.cells #[.int .i64 t453,.int .i64 t454,.slice Ao31 t455.length co31] 28 (0,0)) (by (with_reducible repeat (first|refine blk_drewN ?_ _|refine blk_drew ?_|refine blk_alloc ?_ _));exact BK458.out) hb);have n6_:=Aside0.mk (below_step (by repeat (first|(with_reducible first|exact HB.out|apply below_alloc|apply pw_below_drewN|apply below_drew1|refine below_set ?_ GE441.out|refine below_set ?_ GE458.out)|exact HB.out)) hb);clear HO447;clear HO450;clear HO457;clear HO461;clear BK441;clear BK458;clear HB;have HO447:=n0_;have HO450:=n1_;have HO457:=n2_;have HO461:=n3_;have BK441:=n4_;have BK458:=n5_;have HB:=n6_;clear n0_ n1_ n2_ n3_ n4_ n5_ n6_;(try clear hb);(try clear hb2);(try clear hk);(try clear hi)))
   (try simp only [Act.put,List.setIfInBounds_toArray,List.set_cons_zero,List.set_cons_succ])
   go_cut [45] (fun v45 wc=>∃ (kq : Nat) (x45_15 : Bool),v45 = .bool x45_15 ∧ Aside0 (laws_FnExactIsFleet.j0 kq l1 t459 x45_15 a0_0 a0_1 l0_2 t453 t454 t455 = some r) ∧ Aside0 (kq ≤ k) ∧ Aside0 (Kd.R (Kd.int .i64) 2 wc w.heap.size (fun k_=>some k_ ≠ ((.slice Ao31 t455.length co31) : Value).ownBlock) (.slice Ao34 t459.length co34) t459) ∧ Aside0 (Kd.R (Kd.int .i64) 2 wc w.heap.size (fun k_=>some k_ ≠ ((.slice Ao34 t459.length co34) : Value).ownBlock) (.slice Ao31 t455.length co31) t455) ∧ Aside0 (wc.heap[gb441]? = some (.cells #[.int .i64 a0_0,.int .i64 a0_1,(.slice A0_2 l0_2.length c0_2)] 24 (0,0))) ∧ Aside0 (wc.heap[gb458]? = some (.cells #[.int .i64 t453,.int .i64 t454,(.slice Ao31 t455.length co31)] 28 (0,0))) ∧ Aside0 (Below w.heap.size w wc))
   case first =>
    have H:=HC16.out
    clear HC16
    by_cases c36 : (t462 != t451) = true
    ·rw [if_pos c36] at H
     have c36b0 : (t462 != t451) = true:=c36
     (try (have c36b1 : decide (t462 = t451) = false:=by simpa using c36))
     (try (have c36b2 : (t462 == t451) = false:=by simpa using c36))
     (try (have c36b3 : ¬ (t462 = t451):=by simpa using c36))
     clear c36
     (first|rw [c36b0]|(simp only [i64_w,i32_w];rw [c36b0])|skip)
     have H':=Aside0.mk H
     clear H
     go_wp2
     go_meet
     case rel=>exact ⟨_,(true),(by first|rfl|(simp;done)|(simp [*];done)),H',⟨by first|omega|exact Nat.le_refl _⟩,⟨by (with_reducible repeat (first|apply Kd.R_alloc|apply Kd.R_drewN|apply Kd.R_drew));exact Kd.R_mono HO461.out (fun _ hk=>hk.2)⟩,⟨by (with_reducible repeat (first|apply Kd.R_alloc|apply Kd.R_drewN|apply Kd.R_drew));exact Kd.R_mono HO457.out (fun _ hk=>hk.2)⟩,⟨by (with_reducible repeat (first|refine blk_drewN ?_ _|refine blk_drew ?_|refine blk_alloc ?_ _));exact BK441.out⟩,⟨by (with_reducible repeat (first|refine blk_drewN ?_ _|refine blk_drew ?_|refine blk_alloc ?_ _));exact BK458.out⟩,⟨by repeat (first|(with_reducible first|exact HB.out|apply below_alloc|apply pw_below_drewN|apply below_drew1|refine below_set ?_ GE441.out|refine below_set ?_ GE458.out)|exact HB.out)⟩⟩
    ·rw [if_neg c36] at H
     have c36b0 : (t462 != t451) = false:=by simpa using c36
     (try (have c36b1 : decide (t462 = t451) = true:=by simpa using c36))
     (try (have c36b2 : (t462 == t451) = true:=by simpa using c36))
     clear c36
     (first|rw [c36b0]|(simp only [i64_w,i32_w];rw [c36b0])|skip)
     have H':=Aside0.mk H
     clear H
     go_wp2
     go_meet
     case rel=>exact ⟨_,((t463 != t452)),(by first|rfl|(simp;done)|(simp [*];done)),H',⟨by first|omega|exact Nat.le_refl _⟩,⟨by (with_reducible repeat (first|apply Kd.R_alloc|apply Kd.R_drewN|apply Kd.R_drew));exact Kd.R_mono HO461.out (fun _ hk=>hk.2)⟩,⟨by (with_reducible repeat (first|apply Kd.R_alloc|apply Kd.R_drewN|apply Kd.R_drew));exact Kd.R_mono HO457.out (fun _ hk=>hk.2)⟩,⟨by (with_reducible repeat (first|refine blk_drewN ?_ _|refine blk_drew ?_|refine blk_alloc ?_ _));exact BK441.out⟩,⟨by (with_reducible repeat (first|refine blk_drewN ?_ _|refine blk_drew ?_|refine blk_alloc ?_ _));exact BK458.out⟩,⟨by repeat (first|(with_reducible first|exact HB.out|apply below_alloc|apply pw_below_drewN|apply below_drew1|refine below_set ?_ GE441.out|refine below_set ?_ GE458.out)|exact HB.out)⟩⟩
   case rest =>
    clear HC16
    try clear c1
    try clear c2
    try clear p2
    try clear c3
    try clear c3b0
    try clear c3b1
    try clear c4
    try clear c6
    try clear c6b0
    try clear c10
    try clear c12
    try clear c19
    try clear c20
    try clear c21
    try clear c29
    try clear c36
    try clear c36b0
    try clear c36b1
    try clear c36b2
    try clear hcz18_0
    try clear hcz18_1
    try clear hcz18_2
    try clear hcz20_0
    try clear hcz20_1
    try clear hcz20_2
    try clear hcz26_0
    try clear hcz26_1
    try clear hcz26_2
    try clear hcz30_0
    try clear hcz30_1
    try clear hcz30_2
    try clear hcz33_0
    try clear hcz33_1
    try clear hcz33_2
    try clear hcz8_0
    try clear hcz8_1
    try clear hcz8_2
    try clear hfz18_0
    try clear hfz18_1
    try clear hfz18_2
    try clear hfz20_0
    try clear hfz20_1
    try clear hfz20_2
    try clear hfz26_0
    try clear hfz26_1
    try clear hfz26_2
    try clear hfz30_0
    try clear hfz30_1
    try clear hfz30_2
    try clear hfz33_0
    try clear hfz33_1
    try clear hfz33_2
    try clear hfz8_0
    try clear hfz8_1
    try clear hfz8_2
    obtain ⟨kq,x45_15,rfl,HA,HJ15,HO_9,HO_459002,BK441,BK458,HB⟩:=hcut
    cases kq with
    | zero => exact absurd HA.out (by simp [laws_FnExactIsFleet.j0])
    | succ kj15 =>
     have H:=HA.out
     clear HA
     simp only [laws_FnExactIsFleet.j0] at H
     by_cases c37 : x45_15 = true
     ·subst c37
      have H1 : (some false) = some r:=by rw [if_pos rfl] at H;exact H
      clear H
      have H:=H1
      clear H1
      obtain rfl:=Option.some.inj H
      go_wp2
      go_ret
      exact ⟨by first|rfl|(simp [errW_none,errW_some] <;> rfl)|(simp [*,errW_none,errW_some] <;> rfl),by repeat (first|(with_reducible first|exact HB.out|apply below_alloc|apply pw_below_drewN|apply below_drew1|refine below_set ?_ GE441.out|refine below_set ?_ GE458.out)|exact HB.out)⟩
     ·replace c37:=Bool.eq_false_iff.mpr c37
      subst c37
      have H1 : ((laws_toSea.f kj15 a0_0 a0_1 l0_2).bind fun bt464=>((laws_eqSea.f kj15 t453 t454 t455 bt464.1 bt464.2.1 bt464.2.2).bind fun t469=>(if t469 = true then ((laws_toInt64S.f kj15 l1).bind fun t470=>((laws_eqInt64S.f kj15 t459 t470).bind fun t473=>(if t473 = true then (some true) else (some false)))) else (some false)))) = some r:=by rw [if_neg (show ¬ (false = true) by decide)] at H;exact H
      clear H
      have H:=H1
      clear H1
      replace H:=Option.bind_eq_some_iff.mp H
      obtain ⟨⟨t464,t465,t466⟩,A380,H⟩:=H
      replace H : ((laws_eqSea.f kj15 t453 t454 t455 t464 t465 t466).bind fun t469=>(if t469 = true then ((laws_toInt64S.f kj15 l1).bind fun t470=>((laws_eqInt64S.f kj15 t459 t470).bind fun t473=>(if t473 = true then (some true) else (some false)))) else (some false))) = some r:=H
      have A38:=Aside0.mk A380
      clear A380
      replace H:=Option.bind_eq_some_iff.mp H
      obtain ⟨t469,A390,H⟩:=H
      replace H : (if t469 = true then ((laws_toInt64S.f kj15 l1).bind fun t470=>((laws_eqInt64S.f kj15 t459 t470).bind fun t473=>(if t473 = true then (some true) else (some false)))) else (some false)) = some r:=H
      have A39:=Aside0.mk A390
      clear A390
      by_cases c40 : t469 = true
      ·subst c40
       have H1 : ((laws_toInt64S.f kj15 l1).bind fun t470=>((laws_eqInt64S.f kj15 t459 t470).bind fun t473=>(if t473 = true then (some true) else (some false)))) = some r:=by rw [if_pos rfl] at H;exact H
       clear H
       have H:=H1
       clear H1
       replace H:=Option.bind_eq_some_iff.mp H
       obtain ⟨t470,A410,H⟩:=H
       replace H : ((laws_eqInt64S.f kj15 t459 t470).bind fun t473=>(if t473 = true then (some true) else (some false))) = some r:=H
       have A41:=Aside0.mk A410
       clear A410
       replace H:=Option.bind_eq_some_iff.mp H
       obtain ⟨t473,A420,H⟩:=H
       replace H : (if t473 = true then (some true) else (some false)) = some r:=H
       have A42:=Aside0.mk A420
       clear A420
       by_cases c43 : t473 = true
       ·subst c43
        have H1 : (some true) = some r:=by rw [if_pos rfl] at H;exact H
        clear H
        have H:=H1
        clear H1
        obtain rfl:=Option.some.inj H
        try go_wp2
        have n0_:=Aside0.mk (Kd.R_drew HO_9.out)
        have n1_:=Aside0.mk (Kd.R_drew HO_459002.out)
        have n2_:=Aside0.mk (blk_drew BK441.out)
        have n3_:=Aside0.mk (blk_drew BK458.out)
        have n4_:=Aside0.mk (below_drew1 HB.out)
        clear HO_9
        clear HO_459002
        clear BK441
        clear BK458
        clear HB
        have HO_9:=n0_
        have HO_459002:=n1_
        have BK441:=n2_
        have BK458:=n3_
        have HB:=n4_
        clear n0_ n1_ n2_ n3_ n4_
        refine start_ (n:=5) (S:=fun w'=>w'.cell? ⟨gb458,0,none⟩ = some (.int .i64 t453) ∧ w'.cell? ⟨gb458,1,none⟩ = some (.int .i64 t454) ∧ w'.cell? ⟨gb458,2,none⟩ = some (.slice Ao31 t455.length co31) ∧ w'.cell? ⟨gb441,0,none⟩ = some (.int .i64 a0_0) ∧ w'.cell? ⟨gb441,1,none⟩ = some (.int .i64 a0_1) ∧ w'.cell? ⟨gb441,2,none⟩ = some (.slice A0_2 l0_2.length c0_2)) (ds:=[]) #[false,false,false,false,false] (by kernel_rfl) rfl rfl ⟨(blk_cell BK458.out 0).trans rfl,(blk_cell BK458.out 1).trans rfl,(blk_cell BK458.out 2).trans rfl,(blk_cell BK441.out 0).trans rfl,(blk_cell BK441.out 1).trans rfl,(blk_cell BK441.out 2).trans rfl⟩ (fun hHeld=>?_)
        generalize wc.drew = w44 at HO_9 HO_459002 BK441 BK458 HB hHeld ⊢
        refine take_ (i:=0) (N:=some 46) (v:=?_) (a':=?_) #[true,false,false,false,false] rfl rfl (by kernel_rfl) (fun _ _ _ h=>h) (Or.inl ⟨by rfl,?_⟩) hHeld ?_ ?_
        rotate_left
        ·rintro w' ⟨s0,s1,s2,s3,s4,s5⟩
         go_simp
         with_reducible rfl
        rotate_left
        ·simp only [Act.put,List.setIfInBounds_toArray,List.set_cons_zero,List.set_cons_succ,i64_w,i32_w]
         rfl
        refine take_ (i:=1) (N:=some 47) (v:=?_) (a':=?_) #[true,true,false,false,false] rfl rfl (by kernel_rfl) (fun _ _ _ h=>h) (Or.inl ⟨by rfl,?_⟩) hHeld ?_ ?_
        rotate_left
        ·rintro w' ⟨s0,s1,s2,s3,s4,s5⟩
         go_simp
         with_reducible rfl
        rotate_left
        ·simp only [Act.put,List.setIfInBounds_toArray,List.set_cons_zero,List.set_cons_succ,i64_w,i32_w]
         rfl
        refine one_ (i:=2) (N:=some 48) #[true,true,true,false,false] rfl rfl (by kernel_rfl) (by decide) (fun K hK=>?_)
        refine goes_ Try.func12 (by kernel_rfl) rfl #[.agg #[.int .i64 a0_0,.int .i64 a0_1,.slice A0_2 l0_2.length c0_2]] (by rfl) rfl rfl (by (try simp only [List.map_toArray,List.map_cons,List.map_nil]);first|done|rfl|(simp only [List.length_drop,List.length_take];rfl)) ?_
        with_reducible refine (laws_toSea.calls kj15 a0_0 a0_1 _ _ l0_2 t464 t465 t466 _ ?side1 ?side2 A38.out).mono ?_
        (case side1=>repeat (first|exact (Kd.C_below HR0_2.out HB.out)|(with_reducible refine Kd.C_alloc ?_ _)|(with_reducible refine Kd.C_drewN ?_ _)|(with_reducible refine Kd.C_drew ?_)))
        (case side2=>exact HC0_2.out)
        rintro e w45 ⟨v467,rfl,ho0,hb⟩
        refine ⟨_,rfl,?_⟩
        have n0_:=Aside0.mk (Kd.R_elder' (by (with_reducible repeat (first|apply Kd.R_alloc|apply Kd.R_drewN|apply Kd.R_drew));exact HO_9.out) (Kd.R_base ho0) hb)
        have n1_:=Aside0.mk (Kd.R_elder' (by (with_reducible repeat (first|apply Kd.R_alloc|apply Kd.R_drewN|apply Kd.R_drew));exact HO_459002.out) (Kd.R_base ho0) hb)
        have n2_:=Aside0.mk (Kd.R_lower (Kd.R_new' (Kd.R_new' ho0 (Kd.R_lt (by (with_reducible repeat (first|apply Kd.R_alloc|apply Kd.R_drewN|apply Kd.R_drew));exact HO_9.out))) (Kd.R_lt (by (with_reducible repeat (first|apply Kd.R_alloc|apply Kd.R_drewN|apply Kd.R_drew));exact HO_459002.out))) (below_size (by repeat (first|(with_reducible first|exact HB.out|apply below_alloc|apply pw_below_drewN|apply below_drew1|refine below_set ?_ GE441.out|refine below_set ?_ GE458.out)|exact HB.out))))
        have n3_:=Aside0.mk (blk_below (g:=gb441) (o:=.cells #[.int .i64 a0_0,.int .i64 a0_1,.slice A0_2 l0_2.length c0_2] 24 (0,0)) (by (with_reducible repeat (first|refine blk_drewN ?_ _|refine blk_drew ?_|refine blk_alloc ?_ _));exact BK441.out) hb)
        have n4_:=Aside0.mk (blk_below (g:=gb458) (o:=.cells #[.int .i64 t453,.int .i64 t454,.slice Ao31 t455.length co31] 28 (0,0)) (by (with_reducible repeat (first|refine blk_drewN ?_ _|refine blk_drew ?_|refine blk_alloc ?_ _));exact BK458.out) hb)
        have n5_:=Aside0.mk (below_step (by repeat (first|(with_reducible first|exact HB.out|apply below_alloc|apply pw_below_drewN|apply below_drew1|refine below_set ?_ GE441.out|refine below_set ?_ GE458.out)|exact HB.out)) hb)
        clear HO_9
        clear HO_459002
        clear BK441
        clear BK458
        clear HB
        have HO_9:=n0_
        have HO_459002:=n1_
        have HO468:=n2_
        have BK441:=n3_
        have BK458:=n4_
        have HB:=n5_
        clear n0_ n1_ n2_ n3_ n4_ n5_
        (try clear hb)
        (try clear hb2)
        (try clear hk)
        (try clear hi)
        (try clear ho0)
        obtain ⟨Ao46,co46,eo46⟩:=Kd.R_slice HO468.out
        (first|subst eo46|(injection eo46 with f1_ f2_ f3_;have f4_:=f1_.symm;have f5_:=f3_.symm;clear f1_ f2_ f3_;subst f4_;subst f5_))
        refine hK.out _ _ ⟨(blk_cell BK458.out 0).trans rfl,(blk_cell BK458.out 1).trans rfl,(blk_cell BK458.out 2).trans rfl,(blk_cell BK441.out 0).trans rfl,(blk_cell BK441.out 1).trans rfl,(blk_cell BK441.out 2).trans rfl⟩ (fun hHeld=>?_)
        clear hK K
        refine norm_ (a':=?_) ?_ ?_
        rotate_left
        ·show Act.put _ (some 48) _ = _
         simp only [Act.put,List.setIfInBounds_toArray,List.set_cons_zero,List.set_cons_succ,i64_w,i32_w]
         rfl
        refine one_ (i:=3) (N:=some 49) #[true,true,true,true,false] rfl rfl (by kernel_rfl) (by decide) (fun K hK=>?_)
        refine goes_ Try.func15 (by kernel_rfl) rfl #[.agg #[.int .i64 t453,.int .i64 t454,.slice Ao31 t455.length co31],.agg #[.int .i64 t464,.int .i64 t465,.slice Ao46 t466.length co46]] (by rfl) rfl rfl (by (try simp only [List.map_toArray,List.map_cons,List.map_nil]);first|done|rfl|(simp only [List.length_drop,List.length_take];rfl)) ?_
        with_reducible refine (laws_eqSea.calls kj15 t453 t454 _ _ t455 t464 t465 _ _ t466 true _ ?side1 ?side2 ?side3 ?side4 A39.out).mono ?_
        (case side1=>repeat (first|exact (Kd.R_reads' HO_459002.out).2.2|(with_reducible refine Kd.C_alloc ?_ _)|(with_reducible refine Kd.C_drewN ?_ _)|(with_reducible refine Kd.C_drew ?_)))
        (case side2=>exact (Kd.R_reads' HO_459002.out).2.1)
        (case side3=>repeat (first|exact (Kd.R_reads' HO468.out).2.2|(with_reducible refine Kd.C_alloc ?_ _)|(with_reducible refine Kd.C_drewN ?_ _)|(with_reducible refine Kd.C_drew ?_)))
        (case side4=>exact (Kd.R_reads' HO468.out).2.1)
        rintro e w47 ⟨rfl,hb⟩
        refine ⟨_,rfl,?_⟩
        have n0_:=Aside0.mk (Kd.R_below (by (with_reducible repeat (first|apply Kd.R_alloc|apply Kd.R_drewN|apply Kd.R_drew));exact HO_9.out) hb)
        have n1_:=Aside0.mk (Kd.R_below (by (with_reducible repeat (first|apply Kd.R_alloc|apply Kd.R_drewN|apply Kd.R_drew));exact HO_459002.out) hb)
        have n2_:=Aside0.mk (Kd.R_below (by (with_reducible repeat (first|apply Kd.R_alloc|apply Kd.R_drewN|apply Kd.R_drew));exact HO468.out) hb)
        have n3_:=Aside0.mk (blk_below (g:=gb441) (o:=.cells #[.int .i64 a0_0,.int .i64 a0_1,.slice A0_2 l0_2.length c0_2] 24 (0,0)) (by (with_reducible repeat (first|refine blk_drewN ?_ _|refine blk_drew ?_|refine blk_alloc ?_ _));exact BK441.out) hb)
        have n4_:=Aside0.mk (blk_below (g:=gb458) (o:=.cells #[.int .i64 t453,.int .i64 t454,.slice Ao31 t455.length co31] 28 (0,0)) (by (with_reducible repeat (first|refine blk_drewN ?_ _|refine blk_drew ?_|refine blk_alloc ?_ _));exact BK458.out) hb)
        have n5_:=Aside0.mk (below_step (by repeat (first|(with_reducible first|exact HB.out|apply below_alloc|apply pw_below_drewN|apply below_drew1|refine below_set ?_ GE441.out|refine below_set ?_ GE458.out)|exact HB.out)) hb)
        clear HO_9
        clear HO_459002
        clear HO468
        clear BK441
        clear BK458
        clear HB
        have HO_9:=n0_
        have HO_459002:=n1_
        have HO468:=n2_
        have BK441:=n3_
        have BK458:=n4_
        have HB:=n5_
        clear n0_ n1_ n2_ n3_ n4_ n5_
        (try clear hb)
        (try clear hb2)
        (try clear hk)
        (try clear hi)
        refine hK.out _ _ ⟨(blk_cell BK458.out 0).trans rfl,(blk_cell BK458.out 1).trans rfl,(blk_cell BK458.out 2).trans rfl,(blk_cell BK441.out 0).trans rfl,(blk_cell BK441.out 1).trans rfl,(blk_cell BK441.out 2).trans rfl⟩ (fun hHeld=>?_)
        clear hK K
        refine norm_ (a':=?_) ?_ ?_
        rotate_left
        ·show Act.put _ (some 49) _ = _
         simp only [Act.put,List.setIfInBounds_toArray,List.set_cons_zero,List.set_cons_succ,i64_w,i32_w]
         rfl
        refine pure_ (i:=4) (N:=some 50) (v:=?_) (a':=?_) #[true,true,true,true,true] rfl rfl (by kernel_rfl) (fun _ _ _ h=>h) (Or.inl ⟨by rfl,?_⟩) ?_ ?_
        rotate_left
        ·intro w'
         go_simp
         with_reducible rfl
        rotate_left
        ·simp only [Act.put,List.setIfInBounds_toArray,List.set_cons_zero,List.set_cons_succ,i64_w,i32_w]
         rfl
        refine done_ (by kernel_rfl) ?_
        try go_wp2_with (first|((with_reducible refine gate_callee (f:=20) rfl ?_);refine goesL_ (some 53) rfl rfl Try.func20 (by kernel_rfl) rfl #[.slice A1 l1.length c1] rfl (by (try simp only [List.map_toArray,List.map_cons,List.map_nil]);first|done|rfl|(simp only [List.length_drop,List.length_take];rfl)) ?_;(with_reducible refine (laws_toInt64S.calls kj15 _ _ l1 t470 _ ?side1 ?side2 A41.out).mono ?_);(case side1=>repeat (first|exact (Kd.C_below HR1.out HB.out)|(with_reducible refine Kd.C_alloc ?_ _)|(with_reducible refine Kd.C_drewN ?_ _)|(with_reducible refine Kd.C_drew ?_)));(case side2=>exact HC1.out);rintro e w48 ⟨v471,rfl,ho0,hb⟩;refine ⟨_,rfl,?_⟩;have n0_:=Aside0.mk (Kd.R_elder' (by (with_reducible repeat (first|apply Kd.R_alloc|apply Kd.R_drewN|apply Kd.R_drew));exact HO_9.out) (Kd.R_base ho0) hb);have n1_:=Aside0.mk (Kd.R_elder' (by (with_reducible repeat (first|apply Kd.R_alloc|apply Kd.R_drewN|apply Kd.R_drew));exact HO_459002.out) (Kd.R_base ho0) hb);have n2_:=Aside0.mk (Kd.R_elder' (by (with_reducible repeat (first|apply Kd.R_alloc|apply Kd.R_drewN|apply Kd.R_drew));exact HO468.out) (Kd.R_base ho0) hb);have n3_:=Aside0.mk (Kd.R_lower (Kd.R_new' (Kd.R_new' (Kd.R_new' ho0 (Kd.R_lt (by (with_reducible repeat (first|apply Kd.R_alloc|apply Kd.R_drewN|apply Kd.R_drew));exact HO_9.out))) (Kd.R_lt (by (with_reducible repeat (first|apply Kd.R_alloc|apply Kd.R_drewN|apply Kd.R_drew));exact HO_459002.out))) (Kd.R_lt (by (with_reducible repeat (first|apply Kd.R_alloc|apply Kd.R_drewN|apply Kd.R_drew));exact HO468.out))) (below_size (by repeat (first|(with_reducible first|exact HB.out|apply below_alloc|apply pw_below_drewN|apply below_drew1|refine below_set ?_ GE441.out|refine below_set ?_ GE458.out)|exact HB.out))));have n4_:=Aside0.mk (blk_below (g:=gb441) (o:=.cells #[.int .i64 a0_0,.int .i64 a0_1,.slice A0_2 l0_2.length c0_2] 24 (0,0)) (by (with_reducible repeat (first|refine blk_drewN ?_ _|refine blk_drew ?_|refine blk_alloc ?_ _));exact BK441.out) hb);have n5_:=Aside0.mk (blk_below (g:=gb458) (o:=.cells #[.int .i64 t453,.int .i64 t454,.slice Ao31 t455.length co31] 28 (0,0)) (by (with_reducible repeat (first|refine blk_drewN ?_ _|refine blk_drew ?_|refine blk_alloc ?_ _));exact BK458.out) hb);have n6_:=Aside0.mk (below_step (by repeat (first|(with_reducible first|exact HB.out|apply below_alloc|apply pw_below_drewN|apply below_drew1|refine below_set ?_ GE441.out|refine below_set ?_ GE458.out)|exact HB.out)) hb);clear HO_9;clear HO_459002;clear HO468;clear BK441;clear BK458;clear HB;have HO_9:=n0_;have HO_459002:=n1_;have HO468:=n2_;have HO472:=n3_;have BK441:=n4_;have BK458:=n5_;have HB:=n6_;clear n0_ n1_ n2_ n3_ n4_ n5_ n6_;(try clear hb);(try clear hb2);(try clear hk);(try clear hi);(try clear ho0);obtain ⟨Ao49,co49,eo49⟩:=Kd.R_slice HO472.out;subst eo49)|((with_reducible refine gate_callee (f:=14) rfl ?_);refine goesL_ (some 54) rfl rfl Try.func14 (by kernel_rfl) rfl #[.slice Ao34 t459.length co34,.slice Ao49 t470.length co49] rfl (by (try simp only [List.map_toArray,List.map_cons,List.map_nil]);first|done|rfl|(simp only [List.length_drop,List.length_take];rfl)) ?_;(with_reducible refine (laws_eqInt64S.calls kj15 _ _ t459 _ _ t470 true _ ?side1 ?side2 ?side3 ?side4 A42.out).mono ?_);(case side1=>repeat (first|exact (Kd.R_reads' HO_9.out).2.2|(with_reducible refine Kd.C_alloc ?_ _)|(with_reducible refine Kd.C_drewN ?_ _)|(with_reducible refine Kd.C_drew ?_)));(case side2=>exact (Kd.R_reads' HO_9.out).2.1);(case side3=>repeat (first|exact (Kd.R_reads' HO472.out).2.2|(with_reducible refine Kd.C_alloc ?_ _)|(with_reducible refine Kd.C_drewN ?_ _)|(with_reducible refine Kd.C_drew ?_)));(case side4=>exact (Kd.R_reads' HO472.out).2.1);rintro e w' ⟨rfl,⟨nd,rfl⟩⟩;refine ⟨_,rfl,?_⟩))
        go_ret
        exact ⟨by first|rfl|(simp [errW_none,errW_some] <;> rfl)|(simp [*,errW_none,errW_some] <;> rfl),by repeat (first|(with_reducible first|exact HB.out|apply below_alloc|apply pw_below_drewN|apply below_drew1|refine below_set ?_ GE441.out|refine below_set ?_ GE458.out)|exact HB.out)⟩
       ·replace c43:=Bool.eq_false_iff.mpr c43
        subst c43
        have H1 : (some false) = some r:=by rw [if_neg (show ¬ (false = true) by decide)] at H;exact H
        clear H
        have H:=H1
        clear H1
        obtain rfl:=Option.some.inj H
        try go_wp2
        have n0_:=Aside0.mk (Kd.R_drew HO_9.out)
        have n1_:=Aside0.mk (Kd.R_drew HO_459002.out)
        have n2_:=Aside0.mk (blk_drew BK441.out)
        have n3_:=Aside0.mk (blk_drew BK458.out)
        have n4_:=Aside0.mk (below_drew1 HB.out)
        clear HO_9
        clear HO_459002
        clear BK441
        clear BK458
        clear HB
        have HO_9:=n0_
        have HO_459002:=n1_
        have BK441:=n2_
        have BK458:=n3_
        have HB:=n4_
        clear n0_ n1_ n2_ n3_ n4_
        refine start_ (n:=5) (S:=fun w'=>w'.cell? ⟨gb458,0,none⟩ = some (.int .i64 t453) ∧ w'.cell? ⟨gb458,1,none⟩ = some (.int .i64 t454) ∧ w'.cell? ⟨gb458,2,none⟩ = some (.slice Ao31 t455.length co31) ∧ w'.cell? ⟨gb441,0,none⟩ = some (.int .i64 a0_0) ∧ w'.cell? ⟨gb441,1,none⟩ = some (.int .i64 a0_1) ∧ w'.cell? ⟨gb441,2,none⟩ = some (.slice A0_2 l0_2.length c0_2)) (ds:=[]) #[false,false,false,false,false] (by kernel_rfl) rfl rfl ⟨(blk_cell BK458.out 0).trans rfl,(blk_cell BK458.out 1).trans rfl,(blk_cell BK458.out 2).trans rfl,(blk_cell BK441.out 0).trans rfl,(blk_cell BK441.out 1).trans rfl,(blk_cell BK441.out 2).trans rfl⟩ (fun hHeld=>?_)
        generalize wc.drew = w50 at HO_9 HO_459002 BK441 BK458 HB hHeld ⊢
        refine take_ (i:=0) (N:=some 46) (v:=?_) (a':=?_) #[true,false,false,false,false] rfl rfl (by kernel_rfl) (fun _ _ _ h=>h) (Or.inl ⟨by rfl,?_⟩) hHeld ?_ ?_
        rotate_left
        ·rintro w' ⟨s0,s1,s2,s3,s4,s5⟩
         go_simp
         with_reducible rfl
        rotate_left
        ·simp only [Act.put,List.setIfInBounds_toArray,List.set_cons_zero,List.set_cons_succ,i64_w,i32_w]
         rfl
        refine take_ (i:=1) (N:=some 47) (v:=?_) (a':=?_) #[true,true,false,false,false] rfl rfl (by kernel_rfl) (fun _ _ _ h=>h) (Or.inl ⟨by rfl,?_⟩) hHeld ?_ ?_
        rotate_left
        ·rintro w' ⟨s0,s1,s2,s3,s4,s5⟩
         go_simp
         with_reducible rfl
        rotate_left
        ·simp only [Act.put,List.setIfInBounds_toArray,List.set_cons_zero,List.set_cons_succ,i64_w,i32_w]
         rfl
        refine one_ (i:=2) (N:=some 48) #[true,true,true,false,false] rfl rfl (by kernel_rfl) (by decide) (fun K hK=>?_)
        refine goes_ Try.func12 (by kernel_rfl) rfl #[.agg #[.int .i64 a0_0,.int .i64 a0_1,.slice A0_2 l0_2.length c0_2]] (by rfl) rfl rfl (by (try simp only [List.map_toArray,List.map_cons,List.map_nil]);first|done|rfl|(simp only [List.length_drop,List.length_take];rfl)) ?_
        with_reducible refine (laws_toSea.calls kj15 a0_0 a0_1 _ _ l0_2 t464 t465 t466 _ ?side1 ?side2 A38.out).mono ?_
        (case side1=>repeat (first|exact (Kd.C_below HR0_2.out HB.out)|(with_reducible refine Kd.C_alloc ?_ _)|(with_reducible refine Kd.C_drewN ?_ _)|(with_reducible refine Kd.C_drew ?_)))
        (case side2=>exact HC0_2.out)
        rintro e w51 ⟨v467,rfl,ho0,hb⟩
        refine ⟨_,rfl,?_⟩
        have n0_:=Aside0.mk (Kd.R_elder' (by (with_reducible repeat (first|apply Kd.R_alloc|apply Kd.R_drewN|apply Kd.R_drew));exact HO_9.out) (Kd.R_base ho0) hb)
        have n1_:=Aside0.mk (Kd.R_elder' (by (with_reducible repeat (first|apply Kd.R_alloc|apply Kd.R_drewN|apply Kd.R_drew));exact HO_459002.out) (Kd.R_base ho0) hb)
        have n2_:=Aside0.mk (Kd.R_lower (Kd.R_new' (Kd.R_new' ho0 (Kd.R_lt (by (with_reducible repeat (first|apply Kd.R_alloc|apply Kd.R_drewN|apply Kd.R_drew));exact HO_9.out))) (Kd.R_lt (by (with_reducible repeat (first|apply Kd.R_alloc|apply Kd.R_drewN|apply Kd.R_drew));exact HO_459002.out))) (below_size (by repeat (first|(with_reducible first|exact HB.out|apply below_alloc|apply pw_below_drewN|apply below_drew1|refine below_set ?_ GE441.out|refine below_set ?_ GE458.out)|exact HB.out))))
        have n3_:=Aside0.mk (blk_below (g:=gb441) (o:=.cells #[.int .i64 a0_0,.int .i64 a0_1,.slice A0_2 l0_2.length c0_2] 24 (0,0)) (by (with_reducible repeat (first|refine blk_drewN ?_ _|refine blk_drew ?_|refine blk_alloc ?_ _));exact BK441.out) hb)
        have n4_:=Aside0.mk (blk_below (g:=gb458) (o:=.cells #[.int .i64 t453,.int .i64 t454,.slice Ao31 t455.length co31] 28 (0,0)) (by (with_reducible repeat (first|refine blk_drewN ?_ _|refine blk_drew ?_|refine blk_alloc ?_ _));exact BK458.out) hb)
        have n5_:=Aside0.mk (below_step (by repeat (first|(with_reducible first|exact HB.out|apply below_alloc|apply pw_below_drewN|apply below_drew1|refine below_set ?_ GE441.out|refine below_set ?_ GE458.out)|exact HB.out)) hb)
        clear HO_9
        clear HO_459002
        clear BK441
        clear BK458
        clear HB
        have HO_9:=n0_
        have HO_459002:=n1_
        have HO468:=n2_
        have BK441:=n3_
        have BK458:=n4_
        have HB:=n5_
        clear n0_ n1_ n2_ n3_ n4_ n5_
        (try clear hb)
        (try clear hb2)
        (try clear hk)
        (try clear hi)
        (try clear ho0)
        obtain ⟨Ao52,co52,eo52⟩:=Kd.R_slice HO468.out
        (first|subst eo52|(injection eo52 with f1_ f2_ f3_;have f4_:=f1_.symm;have f5_:=f3_.symm;clear f1_ f2_ f3_;subst f4_;subst f5_))
        refine hK.out _ _ ⟨(blk_cell BK458.out 0).trans rfl,(blk_cell BK458.out 1).trans rfl,(blk_cell BK458.out 2).trans rfl,(blk_cell BK441.out 0).trans rfl,(blk_cell BK441.out 1).trans rfl,(blk_cell BK441.out 2).trans rfl⟩ (fun hHeld=>?_)
        clear hK K
        refine norm_ (a':=?_) ?_ ?_
        rotate_left
        ·show Act.put _ (some 48) _ = _
         simp only [Act.put,List.setIfInBounds_toArray,List.set_cons_zero,List.set_cons_succ,i64_w,i32_w]
         rfl
        refine one_ (i:=3) (N:=some 49) #[true,true,true,true,false] rfl rfl (by kernel_rfl) (by decide) (fun K hK=>?_)
        refine goes_ Try.func15 (by kernel_rfl) rfl #[.agg #[.int .i64 t453,.int .i64 t454,.slice Ao31 t455.length co31],.agg #[.int .i64 t464,.int .i64 t465,.slice Ao52 t466.length co52]] (by rfl) rfl rfl (by (try simp only [List.map_toArray,List.map_cons,List.map_nil]);first|done|rfl|(simp only [List.length_drop,List.length_take];rfl)) ?_
        with_reducible refine (laws_eqSea.calls kj15 t453 t454 _ _ t455 t464 t465 _ _ t466 true _ ?side1 ?side2 ?side3 ?side4 A39.out).mono ?_
        (case side1=>repeat (first|exact (Kd.R_reads' HO_459002.out).2.2|(with_reducible refine Kd.C_alloc ?_ _)|(with_reducible refine Kd.C_drewN ?_ _)|(with_reducible refine Kd.C_drew ?_)))
        (case side2=>exact (Kd.R_reads' HO_459002.out).2.1)
        (case side3=>repeat (first|exact (Kd.R_reads' HO468.out).2.2|(with_reducible refine Kd.C_alloc ?_ _)|(with_reducible refine Kd.C_drewN ?_ _)|(with_reducible refine Kd.C_drew ?_)))
        (case side4=>exact (Kd.R_reads' HO468.out).2.1)
        rintro e w53 ⟨rfl,hb⟩
        refine ⟨_,rfl,?_⟩
        have n0_:=Aside0.mk (Kd.R_below (by (with_reducible repeat (first|apply Kd.R_alloc|apply Kd.R_drewN|apply Kd.R_drew));exact HO_9.out) hb)
        have n1_:=Aside0.mk (Kd.R_below (by (with_reducible repeat (first|apply Kd.R_alloc|apply Kd.R_drewN|apply Kd.R_drew));exact HO_459002.out) hb)
        have n2_:=Aside0.mk (Kd.R_below (by (with_reducible repeat (first|apply Kd.R_alloc|apply Kd.R_drewN|apply Kd.R_drew));exact HO468.out) hb)
        have n3_:=Aside0.mk (blk_below (g:=gb441) (o:=.cells #[.int .i64 a0_0,.int .i64 a0_1,.slice A0_2 l0_2.length c0_2] 24 (0,0)) (by (with_reducible repeat (first|refine blk_drewN ?_ _|refine blk_drew ?_|refine blk_alloc ?_ _));exact BK441.out) hb)
        have n4_:=Aside0.mk (blk_below (g:=gb458) (o:=.cells #[.int .i64 t453,.int .i64 t454,.slice Ao31 t455.length co31] 28 (0,0)) (by (with_reducible repeat (first|refine blk_drewN ?_ _|refine blk_drew ?_|refine blk_alloc ?_ _));exact BK458.out) hb)
        have n5_:=Aside0.mk (below_step (by repeat (first|(with_reducible first|exact HB.out|apply below_alloc|apply pw_below_drewN|apply below_drew1|refine below_set ?_ GE441.out|refine below_set ?_ GE458.out)|exact HB.out)) hb)
        clear HO_9
        clear HO_459002
        clear HO468
        clear BK441
        clear BK458
        clear HB
        have HO_9:=n0_
        have HO_459002:=n1_
        have HO468:=n2_
        have BK441:=n3_
        have BK458:=n4_
        have HB:=n5_
        clear n0_ n1_ n2_ n3_ n4_ n5_
        (try clear hb)
        (try clear hb2)
        (try clear hk)
        (try clear hi)
        refine hK.out _ _ ⟨(blk_cell BK458.out 0).trans rfl,(blk_cell BK458.out 1).trans rfl,(blk_cell BK458.out 2).trans rfl,(blk_cell BK441.out 0).trans rfl,(blk_cell BK441.out 1).trans rfl,(blk_cell BK441.out 2).trans rfl⟩ (fun hHeld=>?_)
        clear hK K
        refine norm_ (a':=?_) ?_ ?_
        rotate_left
        ·show Act.put _ (some 49) _ = _
         simp only [Act.put,List.setIfInBounds_toArray,List.set_cons_zero,List.set_cons_succ,i64_w,i32_w]
         rfl
        refine pure_ (i:=4) (N:=some 50) (v:=?_) (a':=?_) #[true,true,true,true,true] rfl rfl (by kernel_rfl) (fun _ _ _ h=>h) (Or.inl ⟨by rfl,?_⟩) ?_ ?_
        rotate_left
        ·intro w'
         go_simp
         with_reducible rfl
        rotate_left
        ·simp only [Act.put,List.setIfInBounds_toArray,List.set_cons_zero,List.set_cons_succ,i64_w,i32_w]
         rfl
        refine done_ (by kernel_rfl) ?_
        try go_wp2_with (first|((with_reducible refine gate_callee (f:=20) rfl ?_);refine goesL_ (some 53) rfl rfl Try.func20 (by kernel_rfl) rfl #[.slice A1 l1.length c1] rfl (by (try simp only [List.map_toArray,List.map_cons,List.map_nil]);first|done|rfl|(simp only [List.length_drop,List.length_take];rfl)) ?_;(with_reducible refine (laws_toInt64S.calls kj15 _ _ l1 t470 _ ?side1 ?side2 A41.out).mono ?_);(case side1=>repeat (first|exact (Kd.C_below HR1.out HB.out)|(with_reducible refine Kd.C_alloc ?_ _)|(with_reducible refine Kd.C_drewN ?_ _)|(with_reducible refine Kd.C_drew ?_)));(case side2=>exact HC1.out);rintro e w54 ⟨v471,rfl,ho0,hb⟩;refine ⟨_,rfl,?_⟩;have n0_:=Aside0.mk (Kd.R_elder' (by (with_reducible repeat (first|apply Kd.R_alloc|apply Kd.R_drewN|apply Kd.R_drew));exact HO_9.out) (Kd.R_base ho0) hb);have n1_:=Aside0.mk (Kd.R_elder' (by (with_reducible repeat (first|apply Kd.R_alloc|apply Kd.R_drewN|apply Kd.R_drew));exact HO_459002.out) (Kd.R_base ho0) hb);have n2_:=Aside0.mk (Kd.R_elder' (by (with_reducible repeat (first|apply Kd.R_alloc|apply Kd.R_drewN|apply Kd.R_drew));exact HO468.out) (Kd.R_base ho0) hb);have n3_:=Aside0.mk (Kd.R_lower (Kd.R_new' (Kd.R_new' (Kd.R_new' ho0 (Kd.R_lt (by (with_reducible repeat (first|apply Kd.R_alloc|apply Kd.R_drewN|apply Kd.R_drew));exact HO_9.out))) (Kd.R_lt (by (with_reducible repeat (first|apply Kd.R_alloc|apply Kd.R_drewN|apply Kd.R_drew));exact HO_459002.out))) (Kd.R_lt (by (with_reducible repeat (first|apply Kd.R_alloc|apply Kd.R_drewN|apply Kd.R_drew));exact HO468.out))) (below_size (by repeat (first|(with_reducible first|exact HB.out|apply below_alloc|apply pw_below_drewN|apply below_drew1|refine below_set ?_ GE441.out|refine below_set ?_ GE458.out)|exact HB.out))));have n4_:=Aside0.mk (blk_below (g:=gb441) (o:=.cells #[.int .i64 a0_0,.int .i64 a0_1,.slice A0_2 l0_2.length c0_2] 24 (0,0)) (by (with_reducible repeat (first|refine blk_drewN ?_ _|refine blk_drew ?_|refine blk_alloc ?_ _));exact BK441.out) hb);have n5_:=Aside0.mk (blk_below (g:=gb458) (o:=.cells #[.int .i64 t453,.int .i64 t454,.slice Ao31 t455.length co31] 28 (0,0)) (by (with_reducible repeat (first|refine blk_drewN ?_ _|refine blk_drew ?_|refine blk_alloc ?_ _));exact BK458.out) hb);have n6_:=Aside0.mk (below_step (by repeat (first|(with_reducible first|exact HB.out|apply below_alloc|apply pw_below_drewN|apply below_drew1|refine below_set ?_ GE441.out|refine below_set ?_ GE458.out)|exact HB.out)) hb);clear HO_9;clear HO_459002;clear HO468;clear BK441;clear BK458;clear HB;have HO_9:=n0_;have HO_459002:=n1_;have HO468:=n2_;have HO472:=n3_;have BK441:=n4_;have BK458:=n5_;have HB:=n6_;clear n0_ n1_ n2_ n3_ n4_ n5_ n6_;(try clear hb);(try clear hb2);(try clear hk);(try clear hi);(try clear ho0);obtain ⟨Ao55,co55,eo55⟩:=Kd.R_slice HO472.out;subst eo55)|((with_reducible refine gate_callee (f:=14) rfl ?_);refine goesL_ (some 54) rfl rfl Try.func14 (by kernel_rfl) rfl #[.slice Ao34 t459.length co34,.slice Ao55 t470.length co55] rfl (by (try simp only [List.map_toArray,List.map_cons,List.map_nil]);first|done|rfl|(simp only [List.length_drop,List.length_take];rfl)) ?_;(with_reducible refine (laws_eqInt64S.calls kj15 _ _ t459 _ _ t470 false _ ?side1 ?side2 ?side3 ?side4 A42.out).mono ?_);(case side1=>repeat (first|exact (Kd.R_reads' HO_9.out).2.2|(with_reducible refine Kd.C_alloc ?_ _)|(with_reducible refine Kd.C_drewN ?_ _)|(with_reducible refine Kd.C_drew ?_)));(case side2=>exact (Kd.R_reads' HO_9.out).2.1);(case side3=>repeat (first|exact (Kd.R_reads' HO472.out).2.2|(with_reducible refine Kd.C_alloc ?_ _)|(with_reducible refine Kd.C_drewN ?_ _)|(with_reducible refine Kd.C_drew ?_)));(case side4=>exact (Kd.R_reads' HO472.out).2.1);rintro e w' ⟨rfl,⟨nd,rfl⟩⟩;refine ⟨_,rfl,?_⟩))
        go_ret
        exact ⟨by first|rfl|(simp [errW_none,errW_some] <;> rfl)|(simp [*,errW_none,errW_some] <;> rfl),by repeat (first|(with_reducible first|exact HB.out|apply below_alloc|apply pw_below_drewN|apply below_drew1|refine below_set ?_ GE441.out|refine below_set ?_ GE458.out)|exact HB.out)⟩
      ·replace c40:=Bool.eq_false_iff.mpr c40
       subst c40
       have H1 : (some false) = some r:=by rw [if_neg (show ¬ (false = true) by decide)] at H;exact H
       clear H
       have H:=H1
       clear H1
       obtain rfl:=Option.some.inj H
       try go_wp2
       have n0_:=Aside0.mk (Kd.R_drew HO_9.out)
       have n1_:=Aside0.mk (Kd.R_drew HO_459002.out)
       have n2_:=Aside0.mk (blk_drew BK441.out)
       have n3_:=Aside0.mk (blk_drew BK458.out)
       have n4_:=Aside0.mk (below_drew1 HB.out)
       clear HO_9
       clear HO_459002
       clear BK441
       clear BK458
       clear HB
       have HO_9:=n0_
       have HO_459002:=n1_
       have BK441:=n2_
       have BK458:=n3_
       have HB:=n4_
       clear n0_ n1_ n2_ n3_ n4_
       refine start_ (n:=5) (S:=fun w'=>w'.cell? ⟨gb458,0,none⟩ = some (.int .i64 t453) ∧ w'.cell? ⟨gb458,1,none⟩ = some (.int .i64 t454) ∧ w'.cell? ⟨gb458,2,none⟩ = some (.slice Ao31 t455.length co31) ∧ w'.cell? ⟨gb441,0,none⟩ = some (.int .i64 a0_0) ∧ w'.cell? ⟨gb441,1,none⟩ = some (.int .i64 a0_1) ∧ w'.cell? ⟨gb441,2,none⟩ = some (.slice A0_2 l0_2.length c0_2)) (ds:=[]) #[false,false,false,false,false] (by kernel_rfl) rfl rfl ⟨(blk_cell BK458.out 0).trans rfl,(blk_cell BK458.out 1).trans rfl,(blk_cell BK458.out 2).trans rfl,(blk_cell BK441.out 0).trans rfl,(blk_cell BK441.out 1).trans rfl,(blk_cell BK441.out 2).trans rfl⟩ (fun hHeld=>?_)
       generalize wc.drew = w56 at HO_9 HO_459002 BK441 BK458 HB hHeld ⊢
       refine take_ (i:=0) (N:=some 46) (v:=?_) (a':=?_) #[true,false,false,false,false] rfl rfl (by kernel_rfl) (fun _ _ _ h=>h) (Or.inl ⟨by rfl,?_⟩) hHeld ?_ ?_
       rotate_left
       ·rintro w' ⟨s0,s1,s2,s3,s4,s5⟩
        go_simp
        with_reducible rfl
       rotate_left
       ·simp only [Act.put,List.setIfInBounds_toArray,List.set_cons_zero,List.set_cons_succ,i64_w,i32_w]
        rfl
       refine take_ (i:=1) (N:=some 47) (v:=?_) (a':=?_) #[true,true,false,false,false] rfl rfl (by kernel_rfl) (fun _ _ _ h=>h) (Or.inl ⟨by rfl,?_⟩) hHeld ?_ ?_
       rotate_left
       ·rintro w' ⟨s0,s1,s2,s3,s4,s5⟩
        go_simp
        with_reducible rfl
       rotate_left
       ·simp only [Act.put,List.setIfInBounds_toArray,List.set_cons_zero,List.set_cons_succ,i64_w,i32_w]
        rfl
       refine one_ (i:=2) (N:=some 48) #[true,true,true,false,false] rfl rfl (by kernel_rfl) (by decide) (fun K hK=>?_)
       refine goes_ Try.func12 (by kernel_rfl) rfl #[.agg #[.int .i64 a0_0,.int .i64 a0_1,.slice A0_2 l0_2.length c0_2]] (by rfl) rfl rfl (by (try simp only [List.map_toArray,List.map_cons,List.map_nil]);first|done|rfl|(simp only [List.length_drop,List.length_take];rfl)) ?_
       with_reducible refine (laws_toSea.calls kj15 a0_0 a0_1 _ _ l0_2 t464 t465 t466 _ ?side1 ?side2 A38.out).mono ?_
       (case side1=>repeat (first|exact (Kd.C_below HR0_2.out HB.out)|(with_reducible refine Kd.C_alloc ?_ _)|(with_reducible refine Kd.C_drewN ?_ _)|(with_reducible refine Kd.C_drew ?_)))
       (case side2=>exact HC0_2.out)
       rintro e w57 ⟨v467,rfl,ho0,hb⟩
       refine ⟨_,rfl,?_⟩
       have n0_:=Aside0.mk (Kd.R_elder' (by (with_reducible repeat (first|apply Kd.R_alloc|apply Kd.R_drewN|apply Kd.R_drew));exact HO_9.out) (Kd.R_base ho0) hb)
       have n1_:=Aside0.mk (Kd.R_elder' (by (with_reducible repeat (first|apply Kd.R_alloc|apply Kd.R_drewN|apply Kd.R_drew));exact HO_459002.out) (Kd.R_base ho0) hb)
       have n2_:=Aside0.mk (Kd.R_lower (Kd.R_new' (Kd.R_new' ho0 (Kd.R_lt (by (with_reducible repeat (first|apply Kd.R_alloc|apply Kd.R_drewN|apply Kd.R_drew));exact HO_9.out))) (Kd.R_lt (by (with_reducible repeat (first|apply Kd.R_alloc|apply Kd.R_drewN|apply Kd.R_drew));exact HO_459002.out))) (below_size (by repeat (first|(with_reducible first|exact HB.out|apply below_alloc|apply pw_below_drewN|apply below_drew1|refine below_set ?_ GE441.out|refine below_set ?_ GE458.out)|exact HB.out))))
       have n3_:=Aside0.mk (blk_below (g:=gb441) (o:=.cells #[.int .i64 a0_0,.int .i64 a0_1,.slice A0_2 l0_2.length c0_2] 24 (0,0)) (by (with_reducible repeat (first|refine blk_drewN ?_ _|refine blk_drew ?_|refine blk_alloc ?_ _));exact BK441.out) hb)
       have n4_:=Aside0.mk (blk_below (g:=gb458) (o:=.cells #[.int .i64 t453,.int .i64 t454,.slice Ao31 t455.length co31] 28 (0,0)) (by (with_reducible repeat (first|refine blk_drewN ?_ _|refine blk_drew ?_|refine blk_alloc ?_ _));exact BK458.out) hb)
       have n5_:=Aside0.mk (below_step (by repeat (first|(with_reducible first|exact HB.out|apply below_alloc|apply pw_below_drewN|apply below_drew1|refine below_set ?_ GE441.out|refine below_set ?_ GE458.out)|exact HB.out)) hb)
       clear HO_9
       clear HO_459002
       clear BK441
       clear BK458
       clear HB
       have HO_9:=n0_
       have HO_459002:=n1_
       have HO468:=n2_
       have BK441:=n3_
       have BK458:=n4_
       have HB:=n5_
       clear n0_ n1_ n2_ n3_ n4_ n5_
       (try clear hb)
       (try clear hb2)
       (try clear hk)
       (try clear hi)
       (try clear ho0)
       obtain ⟨Ao58,co58,eo58⟩:=Kd.R_slice HO468.out
       (first|subst eo58|(injection eo58 with f1_ f2_ f3_;have f4_:=f1_.symm;have f5_:=f3_.symm;clear f1_ f2_ f3_;subst f4_;subst f5_))
       refine hK.out _ _ ⟨(blk_cell BK458.out 0).trans rfl,(blk_cell BK458.out 1).trans rfl,(blk_cell BK458.out 2).trans rfl,(blk_cell BK441.out 0).trans rfl,(blk_cell BK441.out 1).trans rfl,(blk_cell BK441.out 2).trans rfl⟩ (fun hHeld=>?_)
       clear hK K
       refine norm_ (a':=?_) ?_ ?_
       rotate_left
       ·show Act.put _ (some 48) _ = _
        simp only [Act.put,List.setIfInBounds_toArray,List.set_cons_zero,List.set_cons_succ,i64_w,i32_w]
        rfl
       refine one_ (i:=3) (N:=some 49) #[true,true,true,true,false] rfl rfl (by kernel_rfl) (by decide) (fun K hK=>?_)
       refine goes_ Try.func15 (by kernel_rfl) rfl #[.agg #[.int .i64 t453,.int .i64 t454,.slice Ao31 t455.length co31],.agg #[.int .i64 t464,.int .i64 t465,.slice Ao58 t466.length co58]] (by rfl) rfl rfl (by (try simp only [List.map_toArray,List.map_cons,List.map_nil]);first|done|rfl|(simp only [List.length_drop,List.length_take];rfl)) ?_
       with_reducible refine (laws_eqSea.calls kj15 t453 t454 _ _ t455 t464 t465 _ _ t466 false _ ?side1 ?side2 ?side3 ?side4 A39.out).mono ?_
       (case side1=>repeat (first|exact (Kd.R_reads' HO_459002.out).2.2|(with_reducible refine Kd.C_alloc ?_ _)|(with_reducible refine Kd.C_drewN ?_ _)|(with_reducible refine Kd.C_drew ?_)))
       (case side2=>exact (Kd.R_reads' HO_459002.out).2.1)
       (case side3=>repeat (first|exact (Kd.R_reads' HO468.out).2.2|(with_reducible refine Kd.C_alloc ?_ _)|(with_reducible refine Kd.C_drewN ?_ _)|(with_reducible refine Kd.C_drew ?_)))
       (case side4=>exact (Kd.R_reads' HO468.out).2.1)
       rintro e w59 ⟨rfl,hb⟩
       refine ⟨_,rfl,?_⟩
       have n0_:=Aside0.mk (Kd.R_below (by (with_reducible repeat (first|apply Kd.R_alloc|apply Kd.R_drewN|apply Kd.R_drew));exact HO_9.out) hb)
       have n1_:=Aside0.mk (Kd.R_below (by (with_reducible repeat (first|apply Kd.R_alloc|apply Kd.R_drewN|apply Kd.R_drew));exact HO_459002.out) hb)
       have n2_:=Aside0.mk (Kd.R_below (by (with_reducible repeat (first|apply Kd.R_alloc|apply Kd.R_drewN|apply Kd.R_drew));exact HO468.out) hb)
       have n3_:=Aside0.mk (blk_below (g:=gb441) (o:=.cells #[.int .i64 a0_0,.int .i64 a0_1,.slice A0_2 l0_2.length c0_2] 24 (0,0)) (by (with_reducible repeat (first|refine blk_drewN ?_ _|refine blk_drew ?_|refine blk_alloc ?_ _));exact BK441.out) hb)
       have n4_:=Aside0.mk (blk_below (g:=gb458) (o:=.cells #[.int .i64 t453,.int .i64 t454,.slice Ao31 t455.length co31] 28 (0,0)) (by (with_reducible repeat (first|refine blk_drewN ?_ _|refine blk_drew ?_|refine blk_alloc ?_ _));exact BK458.out) hb)
       have n5_:=Aside0.mk (below_step (by repeat (first|(with_reducible first|exact HB.out|apply below_alloc|apply pw_below_drewN|apply below_drew1|refine below_set ?_ GE441.out|refine below_set ?_ GE458.out)|exact HB.out)) hb)
       clear HO_9
       clear HO_459002
       clear HO468
       clear BK441
       clear BK458
       clear HB
       have HO_9:=n0_
       have HO_459002:=n1_
       have HO468:=n2_
       have BK441:=n3_
       have BK458:=n4_
       have HB:=n5_
       clear n0_ n1_ n2_ n3_ n4_ n5_
       (try clear hb)
       (try clear hb2)
       (try clear hk)
       (try clear hi)
       refine hK.out _ _ ⟨(blk_cell BK458.out 0).trans rfl,(blk_cell BK458.out 1).trans rfl,(blk_cell BK458.out 2).trans rfl,(blk_cell BK441.out 0).trans rfl,(blk_cell BK441.out 1).trans rfl,(blk_cell BK441.out 2).trans rfl⟩ (fun hHeld=>?_)
       clear hK K
       refine norm_ (a':=?_) ?_ ?_
       rotate_left
       ·show Act.put _ (some 49) _ = _
        simp only [Act.put,List.setIfInBounds_toArray,List.set_cons_zero,List.set_cons_succ,i64_w,i32_w]
        rfl
       refine pure_ (i:=4) (N:=some 50) (v:=?_) (a':=?_) #[true,true,true,true,true] rfl rfl (by kernel_rfl) (fun _ _ _ h=>h) (Or.inl ⟨by rfl,?_⟩) ?_ ?_
       rotate_left
       ·intro w'
        go_simp
        with_reducible rfl
       rotate_left
       ·simp only [Act.put,List.setIfInBounds_toArray,List.set_cons_zero,List.set_cons_succ,i64_w,i32_w]
        rfl
       refine done_ (by kernel_rfl) ?_
       try go_wp2
       go_ret
       exact ⟨by first|rfl|(simp [errW_none,errW_some] <;> rfl)|(simp [*,errW_none,errW_some] <;> rfl),by repeat (first|(with_reducible first|exact HB.out|apply below_alloc|apply pw_below_drewN|apply below_drew1|refine below_set ?_ GE441.out|refine below_set ?_ GE458.out)|exact HB.out)⟩

end Go.Proofs.Ytankgbfddgpfmaa.PAll
