-- Written by wip/pp.py of this work (a driver around the kit's print), out of the translation; Lean checks it.
import Derived.Test.YtankgbfddgpfmaaPAllx0
import Derived.Test.YtankgbfddgpfmaaPAllx1
import Derived.Test.YtankgbfddgpfmaaPAllx2
import Derived.Test.YtankgbfddgpfmaaPAllx11
import Derived.Test.YtankgbfddgpfmaaPAllx12
import Derived.Test.YtankgbfddgpfmaaPAllx21
import Derived.Test.YtankgbfddgpfmaaPAllx22
namespace Go.Proofs.Ytankgbfddgpfmaa.PAll
open Go.RowKit Go.Proofs.YtankgbfddgpfmaaW.PrintWords Go.Proofs.YtankgbfddgpfmaaW.PrintLast Go.Proofs.YtankgbfddgpfmaaW.PrintMore
attribute [local go_sem] max2_int min2_int max_two min_two max_three min_three max_four min_four   -- for this text's walks alone
set_option linter.unusedVariables false
set_option linter.unusedSimpArgs false

/-! ### laws_FnExactAnswersOf: function 8 -/
mutual
def laws_FnExactAnswersOf.j0 : Nat → List Int → List Int → List Int → Int → List Int → List Int → List Int → Int → Bool → Int → Int → List Int → Int → Int → List Int → Option (Bool)
 | 0, _, _, _, _, _, _, _, _, _, _, _, _, _, _, _ => none
 | k + 1, x1, x2, x8, x9, x11, x12, x13, x14, x62, x613000, x613001, x613002, x635000, x635001, x635002 => if x62 = true then (some false) else ((laws_toSea.f k x613000 x613001 x613002).bind fun bt646 => ((laws_eqSea.f k x635000 x635001 x635002 bt646.1 bt646.2.1 bt646.2.2).bind fun t651 => (if t651 = true then ((laws_toInt64S.f k x1).bind fun t652 => ((laws_eqInt64S.f k x11 t652).bind fun t655 => (if t655 = true then ((laws_toInt64S.f k x2).bind fun t656 => ((laws_eqInt64S.f k x12 t656).bind fun t659 => (if t659 = true then ((laws_markSea.f k x635000 x635001 x635002 1).bind fun bt660 => ((laws_markInt64S.f k x11 bt660.1).bind fun bt662 => ((laws_markInt64S.f k x12 bt662.1).bind fun bt664 => (if bt664.1 < 0 then (laws_FnExactAnswersOf.j1 k x1 x2 x8 x9 x13 true x613000 x613001 x613002) else ((laws_eqInt64S.f k x13 x8).bind fun t666 => (if t666 = true then (laws_FnExactAnswersOf.j1 k x1 x2 x8 x9 x13 (x14 != x9) x613000 x613001 x613002) else (laws_FnExactAnswersOf.j1 k x1 x2 x8 x9 x13 true x613000 x613001 x613002))))))) else (some false)))) else (some false)))) else (some false))))
def laws_FnExactAnswersOf.j1 : Nat → List Int → List Int → List Int → Int → List Int → Bool → Int → Int → List Int → Option (Bool)
 | 0, _, _, _, _, _, _, _, _, _ => none
 | k + 1, x1, x2, x8, x9, x13, x99, x613000, x613001, x613002 => if x99 = true then (some false) else ((laws_markInt64S.f k x13 1).bind fun bt667 => ((laws_heldInt64S.f k bt667.2 1).bind fun t669 => (if t669 < 0 then (some false) else (if t669 = bt667.1 then ((laws_toSea.f k x613000 x613001 x613002).bind fun bt670 => ((laws_toInt64S.f k x1).bind fun t675 => ((laws_toInt64S.f k x2).bind fun t678 => ((impl_AnswersOf.f k bt670.1 bt670.2.1 bt670.2.2 t675 t678).bind fun bt681 => ((laws_eqInt64S.f k bt681.1 x8).bind fun t685 => (if t685 = true then (laws_FnExactAnswersOf.j2 k bt667.2 bt667.1 (bt681.2 != x9)) else (laws_FnExactAnswersOf.j2 k bt667.2 bt667.1 true))))))) else (some false)))))
def laws_FnExactAnswersOf.j2 : Nat → List Int → Int → Bool → Option (Bool)
 | 0, _, _, _ => none
 | k + 1, x13, x16, x129 => if x129 = true then (some false) else ((laws_heldInt64S.f k x13 1).bind fun t686 => (if t686 < 0 then (some false) else (if t686 = x16 then (some true) else (some false))))
end
def laws_FnExactAnswersOf.f (k : Nat) (a0_0 : Int) (a0_1 : Int) (l0_2 : List Int) (l1 : List Int) (l2 : List Int) : Option (Bool) := if (l1.length : Int) > 1048576 then (some true) else (if (l2.length : Int) > 1048576 then (some true) else ((laws_szSea.f a0_0 a0_1 l0_2 1048576).bind fun t613 => (if t613 < 0 then (some true) else ((laws_toSea.f k a0_0 a0_1 l0_2).bind fun bt614 => ((laws_toInt64S.f k l1).bind fun t619 => ((laws_toInt64S.f k l2).bind fun t622 => ((spec_AnswersOf.f k bt614.1 bt614.2.1 bt614.2.2 t619 t622).bind fun bt625 => ((laws_toSea.f k a0_0 a0_1 l0_2).bind fun bt629 => ((laws_toInt64S.f k l1).bind fun t635 => ((laws_toInt64S.f k l2).bind fun t638 => ((impl_AnswersOf.f k bt629.1 bt629.2.1 bt629.2.2 t635 t638).bind fun bt641 => ((laws_eqInt64S.f k bt641.1 bt625.1).bind fun t645 => (if t645 = true then (laws_FnExactAnswersOf.j0 k l1 l2 bt625.1 bt625.2 t635 t638 bt641.1 bt641.2 (bt641.2 != bt625.2) a0_0 a0_1 l0_2 bt629.1 bt629.2.1 bt629.2.2) else (laws_FnExactAnswersOf.j0 k l1 l2 bt625.1 bt625.2 t635 t638 bt641.1 bt641.2 true a0_0 a0_1 l0_2 bt629.1 bt629.2.1 bt629.2.2))))))))))))))
set_option maxHeartbeats 8000000 in
set_option maxRecDepth 100000 in
theorem laws_FnExactAnswersOf.calls (k : Nat) (a0_0 : Int) (a0_1 : Int) (A0_2 : Option Addr) (c0_2 : Nat) (l0_2 : List Int) (A1 : Option Addr) (c1 : Nat) (l1 : List Int) (A2 : Option Addr) (c2 : Nat) (l2 : List Int) (r : Bool) (w : World) (hr0_2 : Kd.C (Kd.int .i64) w A0_2 l0_2.length l0_2) (hc0_2 : l0_2.length ≤ c0_2) (hr1 : Kd.C (Kd.int .i64) w A1 l1.length l1) (hc1 : l1.length ≤ c1) (hr2 : Kd.C (Kd.int .i64) w A2 l2.length l2) (hc2 : l2.length ≤ c2) (h : laws_FnExactAnswersOf.f k a0_0 a0_1 l0_2 l1 l2 = some r) :
  Calls Try.prog 8 #[.agg #[.int .i64 a0_0,.int .i64 a0_1,.slice A0_2 l0_2.length c0_2],.slice A1 l1.length c1,.slice A2 l2.length c2] w fun e w'=>e = .returned (.bool r) ∧ Below w.heap.size w w':=by
 have hu24:=Try.underlying24
 have hu28:=Try.underlying28
 have HR0_2:=Aside0.mk hr0_2
 have HC0_2:=Aside0.mk hc0_2
 clear hr0_2 hc0_2
 have HR1:=Aside0.mk hr1
 have HC1:=Aside0.mk hc1
 clear hr1 hc1
 have HR2:=Aside0.mk hr2
 have HC2:=Aside0.mk hc2
 clear hr2 hc2
 have HB:=Aside0.mk (Below.refl w.heap.size w)
 have H : (if (l1.length : Int) > 1048576 then (some true) else (if (l2.length : Int) > 1048576 then (some true) else ((laws_szSea.f a0_0 a0_1 l0_2 1048576).bind fun t613=>(if t613 < 0 then (some true) else ((laws_toSea.f k a0_0 a0_1 l0_2).bind fun bt614=>((laws_toInt64S.f k l1).bind fun t619=>((laws_toInt64S.f k l2).bind fun t622=>((spec_AnswersOf.f k bt614.1 bt614.2.1 bt614.2.2 t619 t622).bind fun bt625=>((laws_toSea.f k a0_0 a0_1 l0_2).bind fun bt629=>((laws_toInt64S.f k l1).bind fun t635=>((laws_toInt64S.f k l2).bind fun t638=>((impl_AnswersOf.f k bt629.1 bt629.2.1 bt629.2.2 t635 t638).bind fun bt641=>((laws_eqInt64S.f k bt641.1 bt625.1).bind fun t645=>(if t645 = true then (laws_FnExactAnswersOf.j0 k l1 l2 bt625.1 bt625.2 t635 t638 bt641.1 bt641.2 (bt641.2 != bt625.2) a0_0 a0_1 l0_2 bt629.1 bt629.2.1 bt629.2.2) else (laws_FnExactAnswersOf.j0 k l1 l2 bt625.1 bt625.2 t635 t638 bt641.1 bt641.2 true a0_0 a0_1 l0_2 bt629.1 bt629.2.1 bt629.2.2))))))))))))))) = some r:=h
 clear h
 by_cases c4 : (l1.length : Int) > 1048576
 ·rw [if_pos c4] at H
  have c4b0 : decide (1048576 < (l1.length : Int)) = true:=decide_eq_true c4
  have c4b1 : decide (1048576 < l1.length) = true:=decide_eq_true (by omega)
  clear c4
  obtain rfl:=Option.some.inj H
  go_enter Try.func8,Try.ntmps8
  go_wp2_with (first|((with_reducible refine gate_dst (N:=3) rfl ?_);refine box_event ?hg (N:=3) ?hd (cs:=#[.int .i64 a0_0,.int .i64 a0_1,.slice A0_2 l0_2.length c0_2]) (t:=24) ?hr ?_;(case hd=>rfl);(case hg=>rfl);(case hr=>first|(go_simp;done)|(go_simp;rfl));intro gb612 hg w5 hbox hb;have n0_:=Aside0.mk (below_step (by repeat (first|(with_reducible first|exact HB.out|apply below_alloc|apply pw_below_drewN|apply below_drew1)|exact HB.out)) hb);have n1_:=Aside0.mk (hbox);have n2_:=Aside0.mk ((by rw [hg];exact (below_size (by repeat (first|(with_reducible first|exact HB.out|apply below_alloc|apply pw_below_drewN|apply below_drew1)|exact HB.out))) : w.heap.size ≤ gb612));have n3_:=Aside0.mk ((by rw [hg];exact (below_size (by repeat (first|(with_reducible first|exact HB.out|apply below_alloc|apply pw_below_drewN|apply below_drew1)|exact HB.out))) : w.heap.size ≤ gb612));clear HB;have HB:=n0_;have BK612:=n1_;have GW612:=n2_;have GE612:=n3_;clear n0_ n1_ n2_ n3_;clear hb hbox hg))
  go_ret
  exact ⟨by first|rfl|(simp [errW_none,errW_some] <;> rfl)|(simp [*,errW_none,errW_some] <;> rfl),by repeat (first|(with_reducible first|exact HB.out|apply below_alloc|apply pw_below_drewN|apply below_drew1|refine below_set ?_ GE612.out)|exact HB.out)⟩
 ·rw [if_neg c4] at H
  have c4b0 : decide (1048576 < (l1.length : Int)) = false:=decide_eq_false c4
  have c4b1 : decide (1048576 < l1.length) = false:=decide_eq_false (by omega)
  clear c4
  by_cases c6 : (l2.length : Int) > 1048576
  ·rw [if_pos c6] at H
   have c6b0 : decide (1048576 < (l2.length : Int)) = true:=decide_eq_true c6
   have c6b1 : decide (1048576 < l2.length) = true:=decide_eq_true (by omega)
   clear c6
   obtain rfl:=Option.some.inj H
   go_enter Try.func8,Try.ntmps8
   go_wp2_with (first|((with_reducible refine gate_dst (N:=3) rfl ?_);refine box_event ?hg (N:=3) ?hd (cs:=#[.int .i64 a0_0,.int .i64 a0_1,.slice A0_2 l0_2.length c0_2]) (t:=24) ?hr ?_;(case hd=>rfl);(case hg=>rfl);(case hr=>first|(go_simp;done)|(go_simp;rfl));intro gb612 hg w7 hbox hb;have n0_:=Aside0.mk (below_step (by repeat (first|(with_reducible first|exact HB.out|apply below_alloc|apply pw_below_drewN|apply below_drew1)|exact HB.out)) hb);have n1_:=Aside0.mk (hbox);have n2_:=Aside0.mk ((by rw [hg];exact (below_size (by repeat (first|(with_reducible first|exact HB.out|apply below_alloc|apply pw_below_drewN|apply below_drew1)|exact HB.out))) : w.heap.size ≤ gb612));have n3_:=Aside0.mk ((by rw [hg];exact (below_size (by repeat (first|(with_reducible first|exact HB.out|apply below_alloc|apply pw_below_drewN|apply below_drew1)|exact HB.out))) : w.heap.size ≤ gb612));clear HB;have HB:=n0_;have BK612:=n1_;have GW612:=n2_;have GE612:=n3_;clear n0_ n1_ n2_ n3_;clear hb hbox hg))
   go_ret
   exact ⟨by first|rfl|(simp [errW_none,errW_some] <;> rfl)|(simp [*,errW_none,errW_some] <;> rfl),by repeat (first|(with_reducible first|exact HB.out|apply below_alloc|apply pw_below_drewN|apply below_drew1|refine below_set ?_ GE612.out)|exact HB.out)⟩
  ·rw [if_neg c6] at H
   have c6b0 : decide (1048576 < (l2.length : Int)) = false:=decide_eq_false c6
   have c6b1 : decide (1048576 < l2.length) = false:=decide_eq_false (by omega)
   clear c6
   replace H:=Option.bind_eq_some_iff.mp H
   obtain ⟨t613,A80,H⟩:=H
   replace H : (if t613 < 0 then (some true) else ((laws_toSea.f k a0_0 a0_1 l0_2).bind fun bt614=>((laws_toInt64S.f k l1).bind fun t619=>((laws_toInt64S.f k l2).bind fun t622=>((spec_AnswersOf.f k bt614.1 bt614.2.1 bt614.2.2 t619 t622).bind fun bt625=>((laws_toSea.f k a0_0 a0_1 l0_2).bind fun bt629=>((laws_toInt64S.f k l1).bind fun t635=>((laws_toInt64S.f k l2).bind fun t638=>((impl_AnswersOf.f k bt629.1 bt629.2.1 bt629.2.2 t635 t638).bind fun bt641=>((laws_eqInt64S.f k bt641.1 bt625.1).bind fun t645=>(if t645 = true then (laws_FnExactAnswersOf.j0 k l1 l2 bt625.1 bt625.2 t635 t638 bt641.1 bt641.2 (bt641.2 != bt625.2) a0_0 a0_1 l0_2 bt629.1 bt629.2.1 bt629.2.2) else (laws_FnExactAnswersOf.j0 k l1 l2 bt625.1 bt625.2 t635 t638 bt641.1 bt641.2 true a0_0 a0_1 l0_2 bt629.1 bt629.2.1 bt629.2.2)))))))))))) = some r:=H
   have A8:=Aside0.mk A80
   clear A80
   by_cases c9 : t613 < 0
   ·rw [if_pos c9] at H
    have c9b0 : decide (t613 < 0) = true:=decide_eq_true c9
    clear c9
    obtain rfl:=Option.some.inj H
    go_enter Try.func8,Try.ntmps8
    go_wp2_with (first|((with_reducible refine gate_dst (N:=3) rfl ?_);refine box_event ?hg (N:=3) ?hd (cs:=#[.int .i64 a0_0,.int .i64 a0_1,.slice A0_2 l0_2.length c0_2]) (t:=24) ?hr ?_;(case hd=>rfl);(case hg=>rfl);(case hr=>first|(go_simp;done)|(go_simp;rfl));intro gb612 hg w10 hbox hb;have n0_:=Aside0.mk (below_step (by repeat (first|(with_reducible first|exact HB.out|apply below_alloc|apply pw_below_drewN|apply below_drew1)|exact HB.out)) hb);have n1_:=Aside0.mk (hbox);have n2_:=Aside0.mk ((by rw [hg];exact (below_size (by repeat (first|(with_reducible first|exact HB.out|apply below_alloc|apply pw_below_drewN|apply below_drew1)|exact HB.out))) : w.heap.size ≤ gb612));have n3_:=Aside0.mk ((by rw [hg];exact (below_size (by repeat (first|(with_reducible first|exact HB.out|apply below_alloc|apply pw_below_drewN|apply below_drew1)|exact HB.out))) : w.heap.size ≤ gb612));clear HB;have HB:=n0_;have BK612:=n1_;have GW612:=n2_;have GE612:=n3_;clear n0_ n1_ n2_ n3_;clear hb hbox hg;have hcz11_0 : w10.cell? ⟨gb612,0,none⟩ = some (.int .i64 a0_0):=(blk_cell BK612.out 0).trans rfl;have hcz11_1 : w10.cell? ⟨gb612,1,none⟩ = some (.int .i64 a0_1):=(blk_cell BK612.out 1).trans rfl;have hcz11_2 : w10.cell? ⟨gb612,2,none⟩ = some (.slice A0_2 l0_2.length c0_2):=(blk_cell BK612.out 2).trans rfl;have hfz11_0:=blk_frozen BK612.out 0;have hfz11_1:=blk_frozen BK612.out 1;have hfz11_2:=blk_frozen BK612.out 2)|((with_reducible refine gate_callee (f:=10) rfl ?_);refine goesL_ (some 28) rfl rfl Try.func10 (by kernel_rfl) rfl #[.agg #[.int .i64 a0_0,.int .i64 a0_1,.slice A0_2 l0_2.length c0_2],.int .i64 1048576] rfl (by (try simp only [List.map_toArray,List.map_cons,List.map_nil]);first|done|rfl|(simp only [List.length_drop,List.length_take];rfl)) ?_;(with_reducible refine (laws_szSea.calls a0_0 a0_1 _ _ l0_2 1048576 t613 _ ?side1 ?side2 A8.out).mono ?_);(case side1=>repeat (first|exact (Kd.C_below HR0_2.out HB.out)|(with_reducible refine Kd.C_alloc ?_ _)|(with_reducible refine Kd.C_drewN ?_ _)|(with_reducible refine Kd.C_drew ?_)));(case side2=>exact HC0_2.out);rintro e w12 ⟨rfl,hb⟩;refine ⟨_,rfl,?_⟩;have n0_:=Aside0.mk (blk_below (g:=gb612) (o:=.cells #[.int .i64 a0_0,.int .i64 a0_1,.slice A0_2 l0_2.length c0_2] 24 (0,0)) (by (with_reducible repeat (first|refine blk_drewN ?_ _|refine blk_drew ?_|refine blk_alloc ?_ _));exact BK612.out) hb);have n1_:=Aside0.mk (below_step (by repeat (first|(with_reducible first|exact HB.out|apply below_alloc|apply pw_below_drewN|apply below_drew1|refine below_set ?_ GE612.out)|exact HB.out)) hb);clear BK612;clear HB;have BK612:=n0_;have HB:=n1_;clear n0_ n1_;(try clear hb);(try clear hb2);(try clear hk);(try clear hi)))
    go_ret
    exact ⟨by first|rfl|(simp [errW_none,errW_some] <;> rfl)|(simp [*,errW_none,errW_some] <;> rfl),by repeat (first|(with_reducible first|exact HB.out|apply below_alloc|apply pw_below_drewN|apply below_drew1|refine below_set ?_ GE612.out)|exact HB.out)⟩
   ·rw [if_neg c9] at H
    have c9b0 : decide (t613 < 0) = false:=decide_eq_false c9
    clear c9
    replace H:=Option.bind_eq_some_iff.mp H
    obtain ⟨⟨t614,t615,t616⟩,A130,H⟩:=H
    replace H : ((laws_toInt64S.f k l1).bind fun t619=>((laws_toInt64S.f k l2).bind fun t622=>((spec_AnswersOf.f k t614 t615 t616 t619 t622).bind fun bt625=>((laws_toSea.f k a0_0 a0_1 l0_2).bind fun bt629=>((laws_toInt64S.f k l1).bind fun t635=>((laws_toInt64S.f k l2).bind fun t638=>((impl_AnswersOf.f k bt629.1 bt629.2.1 bt629.2.2 t635 t638).bind fun bt641=>((laws_eqInt64S.f k bt641.1 bt625.1).bind fun t645=>(if t645 = true then (laws_FnExactAnswersOf.j0 k l1 l2 bt625.1 bt625.2 t635 t638 bt641.1 bt641.2 (bt641.2 != bt625.2) a0_0 a0_1 l0_2 bt629.1 bt629.2.1 bt629.2.2) else (laws_FnExactAnswersOf.j0 k l1 l2 bt625.1 bt625.2 t635 t638 bt641.1 bt641.2 true a0_0 a0_1 l0_2 bt629.1 bt629.2.1 bt629.2.2)))))))))) = some r:=H
    have A13:=Aside0.mk A130
    clear A130
    replace H:=Option.bind_eq_some_iff.mp H
    obtain ⟨t619,A140,H⟩:=H
    replace H : ((laws_toInt64S.f k l2).bind fun t622=>((spec_AnswersOf.f k t614 t615 t616 t619 t622).bind fun bt625=>((laws_toSea.f k a0_0 a0_1 l0_2).bind fun bt629=>((laws_toInt64S.f k l1).bind fun t635=>((laws_toInt64S.f k l2).bind fun t638=>((impl_AnswersOf.f k bt629.1 bt629.2.1 bt629.2.2 t635 t638).bind fun bt641=>((laws_eqInt64S.f k bt641.1 bt625.1).bind fun t645=>(if t645 = true then (laws_FnExactAnswersOf.j0 k l1 l2 bt625.1 bt625.2 t635 t638 bt641.1 bt641.2 (bt641.2 != bt625.2) a0_0 a0_1 l0_2 bt629.1 bt629.2.1 bt629.2.2) else (laws_FnExactAnswersOf.j0 k l1 l2 bt625.1 bt625.2 t635 t638 bt641.1 bt641.2 true a0_0 a0_1 l0_2 bt629.1 bt629.2.1 bt629.2.2))))))))) = some r:=H
    have A14:=Aside0.mk A140
    clear A140
    replace H:=Option.bind_eq_some_iff.mp H
    obtain ⟨t622,A150,H⟩:=H
    replace H : ((spec_AnswersOf.f k t614 t615 t616 t619 t622).bind fun bt625=>((laws_toSea.f k a0_0 a0_1 l0_2).bind fun bt629=>((laws_toInt64S.f k l1).bind fun t635=>((laws_toInt64S.f k l2).bind fun t638=>((impl_AnswersOf.f k bt629.1 bt629.2.1 bt629.2.2 t635 t638).bind fun bt641=>((laws_eqInt64S.f k bt641.1 bt625.1).bind fun t645=>(if t645 = true then (laws_FnExactAnswersOf.j0 k l1 l2 bt625.1 bt625.2 t635 t638 bt641.1 bt641.2 (bt641.2 != bt625.2) a0_0 a0_1 l0_2 bt629.1 bt629.2.1 bt629.2.2) else (laws_FnExactAnswersOf.j0 k l1 l2 bt625.1 bt625.2 t635 t638 bt641.1 bt641.2 true a0_0 a0_1 l0_2 bt629.1 bt629.2.1 bt629.2.2)))))))) = some r:=H
    have A15:=Aside0.mk A150
    clear A150
    replace H:=Option.bind_eq_some_iff.mp H
    obtain ⟨⟨t625,t628⟩,A160,H⟩:=H
    replace H : ((laws_toSea.f k a0_0 a0_1 l0_2).bind fun bt629=>((laws_toInt64S.f k l1).bind fun t635=>((laws_toInt64S.f k l2).bind fun t638=>((impl_AnswersOf.f k bt629.1 bt629.2.1 bt629.2.2 t635 t638).bind fun bt641=>((laws_eqInt64S.f k bt641.1 t625).bind fun t645=>(if t645 = true then (laws_FnExactAnswersOf.j0 k l1 l2 t625 t628 t635 t638 bt641.1 bt641.2 (bt641.2 != t628) a0_0 a0_1 l0_2 bt629.1 bt629.2.1 bt629.2.2) else (laws_FnExactAnswersOf.j0 k l1 l2 t625 t628 t635 t638 bt641.1 bt641.2 true a0_0 a0_1 l0_2 bt629.1 bt629.2.1 bt629.2.2))))))) = some r:=H
    have A16:=Aside0.mk A160
    clear A160
    replace H:=Option.bind_eq_some_iff.mp H
    obtain ⟨⟨t629,t630,t631⟩,A170,H⟩:=H
    replace H : ((laws_toInt64S.f k l1).bind fun t635=>((laws_toInt64S.f k l2).bind fun t638=>((impl_AnswersOf.f k t629 t630 t631 t635 t638).bind fun bt641=>((laws_eqInt64S.f k bt641.1 t625).bind fun t645=>(if t645 = true then (laws_FnExactAnswersOf.j0 k l1 l2 t625 t628 t635 t638 bt641.1 bt641.2 (bt641.2 != t628) a0_0 a0_1 l0_2 t629 t630 t631) else (laws_FnExactAnswersOf.j0 k l1 l2 t625 t628 t635 t638 bt641.1 bt641.2 true a0_0 a0_1 l0_2 t629 t630 t631)))))) = some r:=H
    have A17:=Aside0.mk A170
    clear A170
    replace H:=Option.bind_eq_some_iff.mp H
    obtain ⟨t635,A180,H⟩:=H
    replace H : ((laws_toInt64S.f k l2).bind fun t638=>((impl_AnswersOf.f k t629 t630 t631 t635 t638).bind fun bt641=>((laws_eqInt64S.f k bt641.1 t625).bind fun t645=>(if t645 = true then (laws_FnExactAnswersOf.j0 k l1 l2 t625 t628 t635 t638 bt641.1 bt641.2 (bt641.2 != t628) a0_0 a0_1 l0_2 t629 t630 t631) else (laws_FnExactAnswersOf.j0 k l1 l2 t625 t628 t635 t638 bt641.1 bt641.2 true a0_0 a0_1 l0_2 t629 t630 t631))))) = some r:=H
    have A18:=Aside0.mk A180
    clear A180
    replace H:=Option.bind_eq_some_iff.mp H
    obtain ⟨t638,A190,H⟩:=H
    replace H : ((impl_AnswersOf.f k t629 t630 t631 t635 t638).bind fun bt641=>((laws_eqInt64S.f k bt641.1 t625).bind fun t645=>(if t645 = true then (laws_FnExactAnswersOf.j0 k l1 l2 t625 t628 t635 t638 bt641.1 bt641.2 (bt641.2 != t628) a0_0 a0_1 l0_2 t629 t630 t631) else (laws_FnExactAnswersOf.j0 k l1 l2 t625 t628 t635 t638 bt641.1 bt641.2 true a0_0 a0_1 l0_2 t629 t630 t631)))) = some r:=H
    have A19:=Aside0.mk A190
    clear A190
    replace H:=Option.bind_eq_some_iff.mp H
    obtain ⟨⟨t641,t644⟩,A200,H⟩:=H
    replace H : ((laws_eqInt64S.f k t641 t625).bind fun t645=>(if t645 = true then (laws_FnExactAnswersOf.j0 k l1 l2 t625 t628 t635 t638 t641 t644 (t644 != t628) a0_0 a0_1 l0_2 t629 t630 t631) else (laws_FnExactAnswersOf.j0 k l1 l2 t625 t628 t635 t638 t641 t644 true a0_0 a0_1 l0_2 t629 t630 t631))) = some r:=H
    have A20:=Aside0.mk A200
    clear A200
    have HC21:=Aside0.mk H
    clear H
    go_enter Try.func8,Try.ntmps8
    go_upto_region 14 with (first|((with_reducible refine gate_dst (N:=3) rfl ?_);refine box_event ?hg (N:=3) ?hd (cs:=#[.int .i64 a0_0,.int .i64 a0_1,.slice A0_2 l0_2.length c0_2]) (t:=24) ?hr ?_;(case hd=>rfl);(case hg=>rfl);(case hr=>first|(go_simp;done)|(go_simp;rfl));intro gb612 hg w22 hbox hb;have n0_:=Aside0.mk (below_step (by repeat (first|(with_reducible first|exact HB.out|apply below_alloc|apply pw_below_drewN|apply below_drew1)|exact HB.out)) hb);have n1_:=Aside0.mk (hbox);have n2_:=Aside0.mk ((by rw [hg];exact (below_size (by repeat (first|(with_reducible first|exact HB.out|apply below_alloc|apply pw_below_drewN|apply below_drew1)|exact HB.out))) : w.heap.size ≤ gb612));have n3_:=Aside0.mk ((by rw [hg];exact (below_size (by repeat (first|(with_reducible first|exact HB.out|apply below_alloc|apply pw_below_drewN|apply below_drew1)|exact HB.out))) : w.heap.size ≤ gb612));clear HB;have HB:=n0_;have BK612:=n1_;have GW612:=n2_;have GE612:=n3_;clear n0_ n1_ n2_ n3_;clear hb hbox hg;have hcz23_0 : w22.cell? ⟨gb612,0,none⟩ = some (.int .i64 a0_0):=(blk_cell BK612.out 0).trans rfl;have hcz23_1 : w22.cell? ⟨gb612,1,none⟩ = some (.int .i64 a0_1):=(blk_cell BK612.out 1).trans rfl;have hcz23_2 : w22.cell? ⟨gb612,2,none⟩ = some (.slice A0_2 l0_2.length c0_2):=(blk_cell BK612.out 2).trans rfl;have hfz23_0:=blk_frozen BK612.out 0;have hfz23_1:=blk_frozen BK612.out 1;have hfz23_2:=blk_frozen BK612.out 2)|((with_reducible refine gate_callee (f:=10) rfl ?_);refine goesL_ (some 28) rfl rfl Try.func10 (by kernel_rfl) rfl #[.agg #[.int .i64 a0_0,.int .i64 a0_1,.slice A0_2 l0_2.length c0_2],.int .i64 1048576] rfl (by (try simp only [List.map_toArray,List.map_cons,List.map_nil]);first|done|rfl|(simp only [List.length_drop,List.length_take];rfl)) ?_;(with_reducible refine (laws_szSea.calls a0_0 a0_1 _ _ l0_2 1048576 t613 _ ?side1 ?side2 A8.out).mono ?_);(case side1=>repeat (first|exact (Kd.C_below HR0_2.out HB.out)|(with_reducible refine Kd.C_alloc ?_ _)|(with_reducible refine Kd.C_drewN ?_ _)|(with_reducible refine Kd.C_drew ?_)));(case side2=>exact HC0_2.out);rintro e w24 ⟨rfl,hb⟩;refine ⟨_,rfl,?_⟩;have n0_:=Aside0.mk (blk_below (g:=gb612) (o:=.cells #[.int .i64 a0_0,.int .i64 a0_1,.slice A0_2 l0_2.length c0_2] 24 (0,0)) (by (with_reducible repeat (first|refine blk_drewN ?_ _|refine blk_drew ?_|refine blk_alloc ?_ _));exact BK612.out) hb);have n1_:=Aside0.mk (below_step (by repeat (first|(with_reducible first|exact HB.out|apply below_alloc|apply pw_below_drewN|apply below_drew1|refine below_set ?_ GE612.out)|exact HB.out)) hb);clear BK612;clear HB;have BK612:=n0_;have HB:=n1_;clear n0_ n1_;(try clear hb);(try clear hb2);(try clear hk);(try clear hi);have hcz25_0 : w24.cell? ⟨gb612,0,none⟩ = some (.int .i64 a0_0):=(blk_cell BK612.out 0).trans rfl;have hcz25_1 : w24.cell? ⟨gb612,1,none⟩ = some (.int .i64 a0_1):=(blk_cell BK612.out 1).trans rfl;have hcz25_2 : w24.cell? ⟨gb612,2,none⟩ = some (.slice A0_2 l0_2.length c0_2):=(blk_cell BK612.out 2).trans rfl;have hfz25_0:=blk_frozen BK612.out 0;have hfz25_1:=blk_frozen BK612.out 1;have hfz25_2:=blk_frozen BK612.out 2)|((with_reducible refine gate_callee (f:=12) rfl ?_);refine goesL_ (some 33) rfl rfl Try.func12 (by kernel_rfl) rfl #[.agg #[.int .i64 a0_0,.int .i64 a0_1,.slice A0_2 l0_2.length c0_2]] rfl (by (try simp only [List.map_toArray,List.map_cons,List.map_nil]);first|done|rfl|(simp only [List.length_drop,List.length_take];rfl)) ?_;(with_reducible refine (laws_toSea.calls k a0_0 a0_1 _ _ l0_2 t614 t615 t616 _ ?side1 ?side2 A13.out).mono ?_);(case side1=>repeat (first|exact (Kd.C_below HR0_2.out HB.out)|(with_reducible refine Kd.C_alloc ?_ _)|(with_reducible refine Kd.C_drewN ?_ _)|(with_reducible refine Kd.C_drew ?_)));(case side2=>exact HC0_2.out);rintro e w26 ⟨v617,rfl,ho0,hb⟩;refine ⟨_,rfl,?_⟩;have n0_:=Aside0.mk (Kd.R_lower ho0 (below_size (by repeat (first|(with_reducible first|exact HB.out|apply below_alloc|apply pw_below_drewN|apply below_drew1|refine below_set ?_ GE612.out)|exact HB.out))));have n1_:=Aside0.mk (blk_below (g:=gb612) (o:=.cells #[.int .i64 a0_0,.int .i64 a0_1,.slice A0_2 l0_2.length c0_2] 24 (0,0)) (by (with_reducible repeat (first|refine blk_drewN ?_ _|refine blk_drew ?_|refine blk_alloc ?_ _));exact BK612.out) hb);have n2_:=Aside0.mk (below_step (by repeat (first|(with_reducible first|exact HB.out|apply below_alloc|apply pw_below_drewN|apply below_drew1|refine below_set ?_ GE612.out)|exact HB.out)) hb);clear BK612;clear HB;have HO618:=n0_;have BK612:=n1_;have HB:=n2_;clear n0_ n1_ n2_;(try clear hb);(try clear hb2);(try clear hk);(try clear hi);(try clear ho0))|((with_reducible refine gate_callee (f:=20) rfl ?_);refine goesL_ (some 35) rfl rfl Try.func20 (by kernel_rfl) rfl #[.slice A1 l1.length c1] rfl (by (try simp only [List.map_toArray,List.map_cons,List.map_nil]);first|done|rfl|(simp only [List.length_drop,List.length_take];rfl)) ?_;(with_reducible refine (laws_toInt64S.calls k _ _ l1 t619 _ ?side1 ?side2 A14.out).mono ?_);(case side1=>repeat (first|exact (Kd.C_below HR1.out HB.out)|(with_reducible refine Kd.C_alloc ?_ _)|(with_reducible refine Kd.C_drewN ?_ _)|(with_reducible refine Kd.C_drew ?_)));(case side2=>exact HC1.out);rintro e w27 ⟨v620,rfl,ho0,hb⟩;refine ⟨_,rfl,?_⟩;have n0_:=Aside0.mk (Kd.R_elder' (by (with_reducible repeat (first|apply Kd.R_alloc|apply Kd.R_drewN|apply Kd.R_drew));exact HO618.out) (Kd.R_base ho0) hb);have n1_:=Aside0.mk (Kd.R_lower (Kd.R_new' ho0 (Kd.R_lt (by (with_reducible repeat (first|apply Kd.R_alloc|apply Kd.R_drewN|apply Kd.R_drew));exact HO618.out))) (below_size (by repeat (first|(with_reducible first|exact HB.out|apply below_alloc|apply pw_below_drewN|apply below_drew1|refine below_set ?_ GE612.out)|exact HB.out))));have n2_:=Aside0.mk (blk_below (g:=gb612) (o:=.cells #[.int .i64 a0_0,.int .i64 a0_1,.slice A0_2 l0_2.length c0_2] 24 (0,0)) (by (with_reducible repeat (first|refine blk_drewN ?_ _|refine blk_drew ?_|refine blk_alloc ?_ _));exact BK612.out) hb);have n3_:=Aside0.mk (below_step (by repeat (first|(with_reducible first|exact HB.out|apply below_alloc|apply pw_below_drewN|apply below_drew1|refine below_set ?_ GE612.out)|exact HB.out)) hb);clear HO618;clear BK612;clear HB;have HO618:=n0_;have HO621:=n1_;have BK612:=n2_;have HB:=n3_;clear n0_ n1_ n2_ n3_;(try clear hb);(try clear hb2);(try clear hk);(try clear hi);(try clear ho0))|((with_reducible refine gate_callee (f:=20) rfl ?_);refine goesL_ (some 37) rfl rfl Try.func20 (by kernel_rfl) rfl #[.slice A2 l2.length c2] rfl (by (try simp only [List.map_toArray,List.map_cons,List.map_nil]);first|done|rfl|(simp only [List.length_drop,List.length_take];rfl)) ?_;(with_reducible refine (laws_toInt64S.calls k _ _ l2 t622 _ ?side1 ?side2 A15.out).mono ?_);(case side1=>repeat (first|exact (Kd.C_below HR2.out HB.out)|(with_reducible refine Kd.C_alloc ?_ _)|(with_reducible refine Kd.C_drewN ?_ _)|(with_reducible refine Kd.C_drew ?_)));(case side2=>exact HC2.out);rintro e w28 ⟨v623,rfl,ho0,hb⟩;refine ⟨_,rfl,?_⟩;have n0_:=Aside0.mk (Kd.R_elder' (by (with_reducible repeat (first|apply Kd.R_alloc|apply Kd.R_drewN|apply Kd.R_drew));exact HO618.out) (Kd.R_base ho0) hb);have n1_:=Aside0.mk (Kd.R_elder' (by (with_reducible repeat (first|apply Kd.R_alloc|apply Kd.R_drewN|apply Kd.R_drew));exact HO621.out) (Kd.R_base ho0) hb);have n2_:=Aside0.mk (Kd.R_lower (Kd.R_new' (Kd.R_new' ho0 (Kd.R_lt (by (with_reducible repeat (first|apply Kd.R_alloc|apply Kd.R_drewN|apply Kd.R_drew));exact HO618.out))) (Kd.R_lt (by (with_reducible repeat (first|apply Kd.R_alloc|apply Kd.R_drewN|apply Kd.R_drew));exact HO621.out))) (below_size (by repeat (first|(with_reducible first|exact HB.out|apply below_alloc|apply pw_below_drewN|apply below_drew1|refine below_set ?_ GE612.out)|exact HB.out))));have n3_:=Aside0.mk (blk_below (g:=gb612) (o:=.cells #[.int .i64 a0_0,.int .i64 a0_1,.slice A0_2 l0_2.length c0_2] 24 (0,0)) (by (with_reducible repeat (first|refine blk_drewN ?_ _|refine blk_drew ?_|refine blk_alloc ?_ _));exact BK612.out) hb);have n4_:=Aside0.mk (below_step (by repeat (first|(with_reducible first|exact HB.out|apply below_alloc|apply pw_below_drewN|apply below_drew1|refine below_set ?_ GE612.out)|exact HB.out)) hb);clear HO618;clear HO621;clear BK612;clear HB;have HO618:=n0_;have HO621:=n1_;have HO624:=n2_;have BK612:=n3_;have HB:=n4_;clear n0_ n1_ n2_ n3_ n4_;(try clear hb);(try clear hb2);(try clear hk);(try clear hi);(try clear ho0);obtain ⟨Ao29,co29,eo29⟩:=Kd.R_slice HO618.out;subst eo29;obtain ⟨Ao30,co30,eo30⟩:=Kd.R_slice HO621.out;subst eo30;obtain ⟨Ao31,co31,eo31⟩:=Kd.R_slice HO624.out;subst eo31)|((with_reducible refine gate_callee (f:=31) rfl ?_);refine goesL_ (some 38) rfl rfl Try.func31 (by kernel_rfl) rfl #[.agg #[.int .i64 t614,.int .i64 t615,.slice Ao29 t616.length co29],.slice Ao30 t619.length co30,.slice Ao31 t622.length co31] rfl (by (try simp only [List.map_toArray,List.map_cons,List.map_nil]);first|done|rfl|(simp only [List.length_drop,List.length_take];rfl)) ?_;(with_reducible refine (spec_AnswersOf.calls k t614 t615 _ _ t616 _ _ t619 _ _ t622 t625 t628 _ ?side1 ?side2 ?side3 ?side4 ?side5 ?side6 A16.out).mono ?_);(case side1=>repeat (first|exact (Kd.R_reads' HO618.out).2.2|(with_reducible refine Kd.C_alloc ?_ _)|(with_reducible refine Kd.C_drewN ?_ _)|(with_reducible refine Kd.C_drew ?_)));(case side2=>exact (Kd.R_reads' HO618.out).2.1);(case side3=>repeat (first|exact (Kd.R_reads' HO621.out).2.2|(with_reducible refine Kd.C_alloc ?_ _)|(with_reducible refine Kd.C_drewN ?_ _)|(with_reducible refine Kd.C_drew ?_)));(case side4=>exact (Kd.R_reads' HO621.out).2.1);(case side5=>repeat (first|exact (Kd.R_reads' HO624.out).2.2|(with_reducible refine Kd.C_alloc ?_ _)|(with_reducible refine Kd.C_drewN ?_ _)|(with_reducible refine Kd.C_drew ?_)));(case side6=>exact (Kd.R_reads' HO624.out).2.1);rintro e w32 ⟨v626,rfl,ho0,hb⟩;refine ⟨_,rfl,?_⟩;have n0_:=Aside0.mk (Kd.R_elder' (by (with_reducible repeat (first|apply Kd.R_alloc|apply Kd.R_drewN|apply Kd.R_drew));exact HO618.out) (Kd.R_base ho0) hb);have n1_:=Aside0.mk (Kd.R_elder' (by (with_reducible repeat (first|apply Kd.R_alloc|apply Kd.R_drewN|apply Kd.R_drew));exact HO621.out) (Kd.R_base ho0) hb);have n2_:=Aside0.mk (Kd.R_elder' (by (with_reducible repeat (first|apply Kd.R_alloc|apply Kd.R_drewN|apply Kd.R_drew));exact HO624.out) (Kd.R_base ho0) hb);have n3_:=Aside0.mk (Kd.R_lower (Kd.R_new' (Kd.R_new' (Kd.R_new' ho0 (Kd.R_lt (by (with_reducible repeat (first|apply Kd.R_alloc|apply Kd.R_drewN|apply Kd.R_drew));exact HO618.out))) (Kd.R_lt (by (with_reducible repeat (first|apply Kd.R_alloc|apply Kd.R_drewN|apply Kd.R_drew));exact HO621.out))) (Kd.R_lt (by (with_reducible repeat (first|apply Kd.R_alloc|apply Kd.R_drewN|apply Kd.R_drew));exact HO624.out))) (below_size (by repeat (first|(with_reducible first|exact HB.out|apply below_alloc|apply pw_below_drewN|apply below_drew1|refine below_set ?_ GE612.out)|exact HB.out))));have n4_:=Aside0.mk (blk_below (g:=gb612) (o:=.cells #[.int .i64 a0_0,.int .i64 a0_1,.slice A0_2 l0_2.length c0_2] 24 (0,0)) (by (with_reducible repeat (first|refine blk_drewN ?_ _|refine blk_drew ?_|refine blk_alloc ?_ _));exact BK612.out) hb);have n5_:=Aside0.mk (below_step (by repeat (first|(with_reducible first|exact HB.out|apply below_alloc|apply pw_below_drewN|apply below_drew1|refine below_set ?_ GE612.out)|exact HB.out)) hb);clear HO618;clear HO621;clear HO624;clear BK612;clear HB;have HO618:=n0_;have HO621:=n1_;have HO624:=n2_;have HO627:=n3_;have BK612:=n4_;have HB:=n5_;clear n0_ n1_ n2_ n3_ n4_ n5_;(try clear hb);(try clear hb2);(try clear hk);(try clear hi);(try clear ho0);have hcz33_0 : w32.cell? ⟨gb612,0,none⟩ = some (.int .i64 a0_0):=(blk_cell BK612.out 0).trans rfl;have hcz33_1 : w32.cell? ⟨gb612,1,none⟩ = some (.int .i64 a0_1):=(blk_cell BK612.out 1).trans rfl;have hcz33_2 : w32.cell? ⟨gb612,2,none⟩ = some (.slice A0_2 l0_2.length c0_2):=(blk_cell BK612.out 2).trans rfl;have hfz33_0:=blk_frozen BK612.out 0;have hfz33_1:=blk_frozen BK612.out 1;have hfz33_2:=blk_frozen BK612.out 2)|((with_reducible refine gate_callee (f:=12) rfl ?_);refine goesL_ (some 42) rfl rfl Try.func12 (by kernel_rfl) rfl #[.agg #[.int .i64 a0_0,.int .i64 a0_1,.slice A0_2 l0_2.length c0_2]] rfl (by (try simp only [List.map_toArray,List.map_cons,List.map_nil]);first|done|rfl|(simp only [List.length_drop,List.length_take];rfl)) ?_;(with_reducible refine (laws_toSea.calls k a0_0 a0_1 _ _ l0_2 t629 t630 t631 _ ?side1 ?side2 A17.out).mono ?_);(case side1=>repeat (first|exact (Kd.C_below HR0_2.out HB.out)|(with_reducible refine Kd.C_alloc ?_ _)|(with_reducible refine Kd.C_drewN ?_ _)|(with_reducible refine Kd.C_drew ?_)));(case side2=>exact HC0_2.out);rintro e w34 ⟨v632,rfl,ho0,hb⟩;refine ⟨_,rfl,?_⟩;have n0_:=Aside0.mk (Kd.R_elder' (by (with_reducible repeat (first|apply Kd.R_alloc|apply Kd.R_drewN|apply Kd.R_drew));exact HO618.out) (Kd.R_base ho0) hb);have n1_:=Aside0.mk (Kd.R_elder' (by (with_reducible repeat (first|apply Kd.R_alloc|apply Kd.R_drewN|apply Kd.R_drew));exact HO621.out) (Kd.R_base ho0) hb);have n2_:=Aside0.mk (Kd.R_elder' (by (with_reducible repeat (first|apply Kd.R_alloc|apply Kd.R_drewN|apply Kd.R_drew));exact HO624.out) (Kd.R_base ho0) hb);have n3_:=Aside0.mk (Kd.R_elder' (by (with_reducible repeat (first|apply Kd.R_alloc|apply Kd.R_drewN|apply Kd.R_drew));exact HO627.out) (Kd.R_base ho0) hb);have n4_:=Aside0.mk (Kd.R_lower (Kd.R_new' (Kd.R_new' (Kd.R_new' (Kd.R_new' ho0 (Kd.R_lt (by (with_reducible repeat (first|apply Kd.R_alloc|apply Kd.R_drewN|apply Kd.R_drew));exact HO618.out))) (Kd.R_lt (by (with_reducible repeat (first|apply Kd.R_alloc|apply Kd.R_drewN|apply Kd.R_drew));exact HO621.out))) (Kd.R_lt (by (with_reducible repeat (first|apply Kd.R_alloc|apply Kd.R_drewN|apply Kd.R_drew));exact HO624.out))) (Kd.R_lt (by (with_reducible repeat (first|apply Kd.R_alloc|apply Kd.R_drewN|apply Kd.R_drew));exact HO627.out))) (below_size (by repeat (first|(with_reducible first|exact HB.out|apply below_alloc|apply pw_below_drewN|apply below_drew1|refine below_set ?_ GE612.out)|exact HB.out))));have n5_:=Aside0.mk (blk_below (g:=gb612) (o:=.cells #[.int .i64 a0_0,.int .i64 a0_1,.slice A0_2 l0_2.length c0_2] 24 (0,0)) (by (with_reducible repeat (first|refine blk_drewN ?_ _|refine blk_drew ?_|refine blk_alloc ?_ _));exact BK612.out) hb);have n6_:=Aside0.mk (below_step (by repeat (first|(with_reducible first|exact HB.out|apply below_alloc|apply pw_below_drewN|apply below_drew1|refine below_set ?_ GE612.out)|exact HB.out)) hb);clear HO618;clear HO621;clear HO624;clear HO627;clear BK612;clear HB;have HO618:=n0_;have HO621:=n1_;have HO624:=n2_;have HO627:=n3_;have HO633:=n4_;have BK612:=n5_;have HB:=n6_;clear n0_ n1_ n2_ n3_ n4_ n5_ n6_;(try clear hb);(try clear hb2);(try clear hk);(try clear hi);(try clear ho0))|((with_reducible refine gate_dst (N:=10) rfl ?_);refine box_event ?hg (N:=10) ?hd (cs:=#[.int .i64 0,.int .i64 0,.slice none 0 0]) (t:=28) ?hr ?_;(case hd=>rfl);(case hg=>rfl);(case hr=>first|(go_simp;done)|(go_simp;rfl));intro gb634 hg w35 hbox hb;have n0_:=Aside0.mk (Kd.R_below (by (with_reducible repeat (first|apply Kd.R_alloc|apply Kd.R_drewN|apply Kd.R_drew));exact HO618.out) hb);have n1_:=Aside0.mk (Kd.R_below (by (with_reducible repeat (first|apply Kd.R_alloc|apply Kd.R_drewN|apply Kd.R_drew));exact HO621.out) hb);have n2_:=Aside0.mk (Kd.R_below (by (with_reducible repeat (first|apply Kd.R_alloc|apply Kd.R_drewN|apply Kd.R_drew));exact HO624.out) hb);have n3_:=Aside0.mk (Kd.R_below (by (with_reducible repeat (first|apply Kd.R_alloc|apply Kd.R_drewN|apply Kd.R_drew));exact HO627.out) hb);have n4_:=Aside0.mk (Kd.R_below (by (with_reducible repeat (first|apply Kd.R_alloc|apply Kd.R_drewN|apply Kd.R_drew));exact HO633.out) hb);have n5_:=Aside0.mk (blk_below (g:=gb612) (o:=.cells #[.int .i64 a0_0,.int .i64 a0_1,.slice A0_2 l0_2.length c0_2] 24 (0,0)) (by (with_reducible repeat (first|refine blk_drewN ?_ _|refine blk_drew ?_|refine blk_alloc ?_ _));exact BK612.out) hb);have n6_:=Aside0.mk (below_step (by repeat (first|(with_reducible first|exact HB.out|apply below_alloc|apply pw_below_drewN|apply below_drew1|refine below_set ?_ GE612.out)|exact HB.out)) hb);have n7_:=Aside0.mk (hbox);have n8_:=Aside0.mk ((by rw [hg];exact (below_size (by repeat (first|(with_reducible first|exact HB.out|apply below_alloc|apply pw_below_drewN|apply below_drew1|refine below_set ?_ GE612.out)|exact HB.out))) : w.heap.size ≤ gb634));have n9_:=Aside0.mk ((by rw [hg];exact (below_size (by repeat (first|(with_reducible first|exact HB.out|apply below_alloc|apply pw_below_drewN|apply below_drew1|refine below_set ?_ GE612.out)|exact HB.out))) : w.heap.size ≤ gb634));have n10_:=Aside0.mk ((by rw [hg];exact Nat.ne_of_lt (blk_lt (g:=gb612) (o:=.cells #[.int .i64 a0_0,.int .i64 a0_1,.slice A0_2 l0_2.length c0_2] 24 (0,0)) (by (with_reducible repeat (first|refine blk_drewN ?_ _|refine blk_drew ?_|refine blk_alloc ?_ _));exact BK612.out)) : gb612 ≠ gb634));have n11_:=Aside0.mk ((by rw [hg];exact Nat.ne_of_gt (blk_lt (g:=gb612) (o:=.cells #[.int .i64 a0_0,.int .i64 a0_1,.slice A0_2 l0_2.length c0_2] 24 (0,0)) (by (with_reducible repeat (first|refine blk_drewN ?_ _|refine blk_drew ?_|refine blk_alloc ?_ _));exact BK612.out)) : gb634 ≠ gb612));clear HO618;clear HO621;clear HO624;clear HO627;clear HO633;clear BK612;clear HB;have HO618:=n0_;have HO621:=n1_;have HO624:=n2_;have HO627:=n3_;have HO633:=n4_;have BK612:=n5_;have HB:=n6_;have BK634:=n7_;have GW634:=n8_;have GE634:=n9_;have NB612_634:=n10_;have NB634_612:=n11_;clear n0_ n1_ n2_ n3_ n4_ n5_ n6_ n7_ n8_ n9_ n10_ n11_;clear hb hbox hg;have hnb36:=NB634_612.out;have hnc36:=NB612_634.out;have hcz37_0 : w35.cell? ⟨gb634,0,none⟩ = some (.int .i64 0):=(blk_cell BK634.out 0).trans rfl;have hcz37_1 : w35.cell? ⟨gb634,1,none⟩ = some (.int .i64 0):=(blk_cell BK634.out 1).trans rfl;have hcz37_2 : w35.cell? ⟨gb634,2,none⟩ = some (.slice none 0 0):=(blk_cell BK634.out 2).trans rfl;have hfz37_0:=blk_frozen BK634.out 0;have hfz37_1:=blk_frozen BK634.out 1;have hfz37_2:=blk_frozen BK634.out 2;obtain ⟨Ao38,co38,eo38⟩:=Kd.R_slice HO633.out;subst eo38)|((with_reducible refine gate_callee (f:=20) rfl ?_);refine goesL_ (some 44) rfl rfl Try.func20 (by kernel_rfl) rfl #[.slice A1 l1.length c1] rfl (by (try simp only [List.map_toArray,List.map_cons,List.map_nil]);first|done|rfl|(simp only [List.length_drop,List.length_take];rfl)) ?_;(with_reducible refine (laws_toInt64S.calls k _ _ l1 t635 _ ?side1 ?side2 A18.out).mono ?_);(case side1=>exact Kd.C_below HR1.out (by repeat (first|(with_reducible first|exact HB.out|apply below_alloc|apply pw_below_drewN|apply below_drew1|refine below_set ?_ GE612.out|refine below_set ?_ GE634.out)|exact HB.out)));(case side2=>exact HC1.out);rintro e w39 ⟨v636,rfl,ho0,hb⟩;refine ⟨_,rfl,?_⟩;have n0_:=Aside0.mk (Kd.R_elder' (by (with_reducible repeat (first|apply Kd.R_alloc|apply Kd.R_drewN|apply Kd.R_drew));exact (Kd.R_mono (Kd.R_far (p:=⟨gb634,2,none⟩) (Kd.R_far (p:=⟨gb634,1,none⟩) (Kd.R_far (p:=⟨gb634,0,none⟩) (Kd.R_types HO618.out BK634.out (by decide)) (fun _ hk=>hk.2) (.int .i64 t629)) (fun _ hk=>hk.2) (.int .i64 t630)) (fun _ hk=>hk.2) (.slice Ao38 t631.length co38)) (fun _ h_=>h_.1))) (Kd.R_base ho0) hb);have n1_:=Aside0.mk (Kd.R_elder' (by (with_reducible repeat (first|apply Kd.R_alloc|apply Kd.R_drewN|apply Kd.R_drew));exact (Kd.R_mono (Kd.R_far (p:=⟨gb634,2,none⟩) (Kd.R_far (p:=⟨gb634,1,none⟩) (Kd.R_far (p:=⟨gb634,0,none⟩) (Kd.R_types HO621.out BK634.out (by decide)) (fun _ hk=>hk.2) (.int .i64 t629)) (fun _ hk=>hk.2) (.int .i64 t630)) (fun _ hk=>hk.2) (.slice Ao38 t631.length co38)) (fun _ h_=>h_.1))) (Kd.R_base ho0) hb);have n2_:=Aside0.mk (Kd.R_elder' (by (with_reducible repeat (first|apply Kd.R_alloc|apply Kd.R_drewN|apply Kd.R_drew));exact (Kd.R_mono (Kd.R_far (p:=⟨gb634,2,none⟩) (Kd.R_far (p:=⟨gb634,1,none⟩) (Kd.R_far (p:=⟨gb634,0,none⟩) (Kd.R_types HO624.out BK634.out (by decide)) (fun _ hk=>hk.2) (.int .i64 t629)) (fun _ hk=>hk.2) (.int .i64 t630)) (fun _ hk=>hk.2) (.slice Ao38 t631.length co38)) (fun _ h_=>h_.1))) (Kd.R_base ho0) hb);have n3_:=Aside0.mk (Kd.R_elder' (by (with_reducible repeat (first|apply Kd.R_alloc|apply Kd.R_drewN|apply Kd.R_drew));exact (Kd.R_mono (Kd.R_far (p:=⟨gb634,2,none⟩) (Kd.R_far (p:=⟨gb634,1,none⟩) (Kd.R_far (p:=⟨gb634,0,none⟩) (Kd.R_types HO627.out BK634.out (by decide)) (fun _ hk=>hk.2) (.int .i64 t629)) (fun _ hk=>hk.2) (.int .i64 t630)) (fun _ hk=>hk.2) (.slice Ao38 t631.length co38)) (fun _ h_=>h_.1))) (Kd.R_base ho0) hb);have n4_:=Aside0.mk (Kd.R_elder' (by (with_reducible repeat (first|apply Kd.R_alloc|apply Kd.R_drewN|apply Kd.R_drew));exact (Kd.R_mono (Kd.R_far (p:=⟨gb634,2,none⟩) (Kd.R_far (p:=⟨gb634,1,none⟩) (Kd.R_far (p:=⟨gb634,0,none⟩) (Kd.R_types HO633.out BK634.out (by decide)) (fun _ hk=>hk.2) (.int .i64 t629)) (fun _ hk=>hk.2) (.int .i64 t630)) (fun _ hk=>hk.2) (.slice Ao38 t631.length co38)) (fun _ h_=>h_.1))) (Kd.R_base ho0) hb);have n5_:=Aside0.mk (Kd.R_lower (Kd.R_new' (Kd.R_new' (Kd.R_new' (Kd.R_new' (Kd.R_new' ho0 (Kd.R_lt (by (with_reducible repeat (first|apply Kd.R_alloc|apply Kd.R_drewN|apply Kd.R_drew));exact (Kd.R_mono (Kd.R_far (p:=⟨gb634,2,none⟩) (Kd.R_far (p:=⟨gb634,1,none⟩) (Kd.R_far (p:=⟨gb634,0,none⟩) (Kd.R_types HO618.out BK634.out (by decide)) (fun _ hk=>hk.2) (.int .i64 t629)) (fun _ hk=>hk.2) (.int .i64 t630)) (fun _ hk=>hk.2) (.slice Ao38 t631.length co38)) (fun _ h_=>h_.1))))) (Kd.R_lt (by (with_reducible repeat (first|apply Kd.R_alloc|apply Kd.R_drewN|apply Kd.R_drew));exact (Kd.R_mono (Kd.R_far (p:=⟨gb634,2,none⟩) (Kd.R_far (p:=⟨gb634,1,none⟩) (Kd.R_far (p:=⟨gb634,0,none⟩) (Kd.R_types HO621.out BK634.out (by decide)) (fun _ hk=>hk.2) (.int .i64 t629)) (fun _ hk=>hk.2) (.int .i64 t630)) (fun _ hk=>hk.2) (.slice Ao38 t631.length co38)) (fun _ h_=>h_.1))))) (Kd.R_lt (by (with_reducible repeat (first|apply Kd.R_alloc|apply Kd.R_drewN|apply Kd.R_drew));exact (Kd.R_mono (Kd.R_far (p:=⟨gb634,2,none⟩) (Kd.R_far (p:=⟨gb634,1,none⟩) (Kd.R_far (p:=⟨gb634,0,none⟩) (Kd.R_types HO624.out BK634.out (by decide)) (fun _ hk=>hk.2) (.int .i64 t629)) (fun _ hk=>hk.2) (.int .i64 t630)) (fun _ hk=>hk.2) (.slice Ao38 t631.length co38)) (fun _ h_=>h_.1))))) (Kd.R_lt (by (with_reducible repeat (first|apply Kd.R_alloc|apply Kd.R_drewN|apply Kd.R_drew));exact (Kd.R_mono (Kd.R_far (p:=⟨gb634,2,none⟩) (Kd.R_far (p:=⟨gb634,1,none⟩) (Kd.R_far (p:=⟨gb634,0,none⟩) (Kd.R_types HO627.out BK634.out (by decide)) (fun _ hk=>hk.2) (.int .i64 t629)) (fun _ hk=>hk.2) (.int .i64 t630)) (fun _ hk=>hk.2) (.slice Ao38 t631.length co38)) (fun _ h_=>h_.1))))) (Kd.R_lt (by (with_reducible repeat (first|apply Kd.R_alloc|apply Kd.R_drewN|apply Kd.R_drew));exact (Kd.R_mono (Kd.R_far (p:=⟨gb634,2,none⟩) (Kd.R_far (p:=⟨gb634,1,none⟩) (Kd.R_far (p:=⟨gb634,0,none⟩) (Kd.R_types HO633.out BK634.out (by decide)) (fun _ hk=>hk.2) (.int .i64 t629)) (fun _ hk=>hk.2) (.int .i64 t630)) (fun _ hk=>hk.2) (.slice Ao38 t631.length co38)) (fun _ h_=>h_.1))))) (below_size (by repeat (first|(with_reducible first|exact HB.out|apply below_alloc|apply pw_below_drewN|apply below_drew1|refine below_set ?_ GE612.out|refine below_set ?_ GE634.out)|exact HB.out))));have n6_:=Aside0.mk (blk_below (g:=gb612) (o:=.cells #[.int .i64 a0_0,.int .i64 a0_1,.slice A0_2 l0_2.length c0_2] 24 (0,0)) (by (with_reducible repeat (first|refine blk_drewN ?_ _|refine blk_drew ?_|refine blk_alloc ?_ _));refine blk_far ?_ NB612_634.out _;(with_reducible repeat (first|refine blk_drewN ?_ _|refine blk_drew ?_|refine blk_alloc ?_ _));refine blk_far ?_ NB612_634.out _;(with_reducible repeat (first|refine blk_drewN ?_ _|refine blk_drew ?_|refine blk_alloc ?_ _));refine blk_far ?_ NB612_634.out _;(with_reducible repeat (first|refine blk_drewN ?_ _|refine blk_drew ?_|refine blk_alloc ?_ _));exact BK612.out) hb);have n7_:=Aside0.mk (blk_below (g:=gb634) (o:=.cells #[.int .i64 t629,.int .i64 t630,.slice Ao38 t631.length co38] 28 (0,0)) (by (with_reducible repeat (first|refine blk_drewN ?_ _|refine blk_drew ?_|refine blk_alloc ?_ _));refine blk_put (cs:=#[.int .i64 t629,.int .i64 t630,.slice none 0 0]) ?_ 2 _ rfl;(with_reducible repeat (first|refine blk_drewN ?_ _|refine blk_drew ?_|refine blk_alloc ?_ _));refine blk_put (cs:=#[.int .i64 t629,.int .i64 0,.slice none 0 0]) ?_ 1 _ rfl;(with_reducible repeat (first|refine blk_drewN ?_ _|refine blk_drew ?_|refine blk_alloc ?_ _));refine blk_put (cs:=#[.int .i64 0,.int .i64 0,.slice none 0 0]) ?_ 0 _ rfl;(with_reducible repeat (first|refine blk_drewN ?_ _|refine blk_drew ?_|refine blk_alloc ?_ _));exact BK634.out) hb);have n8_:=Aside0.mk (below_step (by repeat (first|(with_reducible first|exact HB.out|apply below_alloc|apply pw_below_drewN|apply below_drew1|refine below_set ?_ GE612.out|refine below_set ?_ GE634.out)|exact HB.out)) hb);clear HO618;clear HO621;clear HO624;clear HO627;clear HO633;clear BK612;clear BK634;clear HB;have HO618:=n0_;have HO621:=n1_;have HO624:=n2_;have HO627:=n3_;have HO633:=n4_;have HO637:=n5_;have BK612:=n6_;have BK634:=n7_;have HB:=n8_;clear n0_ n1_ n2_ n3_ n4_ n5_ n6_ n7_ n8_;(try clear hb);(try clear hb2);(try clear hk);(try clear hi);(try clear ho0))|((with_reducible refine gate_callee (f:=20) rfl ?_);refine goesL_ (some 46) rfl rfl Try.func20 (by kernel_rfl) rfl #[.slice A2 l2.length c2] rfl (by (try simp only [List.map_toArray,List.map_cons,List.map_nil]);first|done|rfl|(simp only [List.length_drop,List.length_take];rfl)) ?_;(with_reducible refine (laws_toInt64S.calls k _ _ l2 t638 _ ?side1 ?side2 A19.out).mono ?_);(case side1=>repeat (first|exact (Kd.C_below HR2.out HB.out)|(with_reducible refine Kd.C_alloc ?_ _)|(with_reducible refine Kd.C_drewN ?_ _)|(with_reducible refine Kd.C_drew ?_)));(case side2=>exact HC2.out);rintro e w40 ⟨v639,rfl,ho0,hb⟩;refine ⟨_,rfl,?_⟩;have n0_:=Aside0.mk (Kd.R_elder' (by (with_reducible repeat (first|apply Kd.R_alloc|apply Kd.R_drewN|apply Kd.R_drew));exact HO618.out) (Kd.R_base ho0) hb);have n1_:=Aside0.mk (Kd.R_elder' (by (with_reducible repeat (first|apply Kd.R_alloc|apply Kd.R_drewN|apply Kd.R_drew));exact HO621.out) (Kd.R_base ho0) hb);have n2_:=Aside0.mk (Kd.R_elder' (by (with_reducible repeat (first|apply Kd.R_alloc|apply Kd.R_drewN|apply Kd.R_drew));exact HO624.out) (Kd.R_base ho0) hb);have n3_:=Aside0.mk (Kd.R_elder' (by (with_reducible repeat (first|apply Kd.R_alloc|apply Kd.R_drewN|apply Kd.R_drew));exact HO627.out) (Kd.R_base ho0) hb);have n4_:=Aside0.mk (Kd.R_elder' (by (with_reducible repeat (first|apply Kd.R_alloc|apply Kd.R_drewN|apply Kd.R_drew));exact HO633.out) (Kd.R_base ho0) hb);have n5_:=Aside0.mk (Kd.R_elder' (by (with_reducible repeat (first|apply Kd.R_alloc|apply Kd.R_drewN|apply Kd.R_drew));exact HO637.out) (Kd.R_base ho0) hb);have n6_:=Aside0.mk (Kd.R_lower (Kd.R_new' (Kd.R_new' (Kd.R_new' (Kd.R_new' (Kd.R_new' (Kd.R_new' ho0 (Kd.R_lt (by (with_reducible repeat (first|apply Kd.R_alloc|apply Kd.R_drewN|apply Kd.R_drew));exact HO618.out))) (Kd.R_lt (by (with_reducible repeat (first|apply Kd.R_alloc|apply Kd.R_drewN|apply Kd.R_drew));exact HO621.out))) (Kd.R_lt (by (with_reducible repeat (first|apply Kd.R_alloc|apply Kd.R_drewN|apply Kd.R_drew));exact HO624.out))) (Kd.R_lt (by (with_reducible repeat (first|apply Kd.R_alloc|apply Kd.R_drewN|apply Kd.R_drew));exact HO627.out))) (Kd.R_lt (by (with_reducible repeat (first|apply Kd.R_alloc|apply Kd.R_drewN|apply Kd.R_drew));exact HO633.out))) (Kd.R_lt (by (with_reducible repeat (first|apply Kd.R_alloc|apply Kd.R_drewN|apply Kd.R_drew));exact HO637.out))) (below_size (by repeat (first|(with_reducible first|exact HB.out|apply below_alloc|apply pw_below_drewN|apply below_drew1|refine below_set ?_ GE612.out|refine below_set ?_ GE634.out)|exact HB.out))));have n7_:=Aside0.mk (blk_below (g:=gb612) (o:=.cells #[.int .i64 a0_0,.int .i64 a0_1,.slice A0_2 l0_2.length c0_2] 24 (0,0)) (by (with_reducible repeat (first|refine blk_drewN ?_ _|refine blk_drew ?_|refine blk_alloc ?_ _));exact BK612.out) hb);have n8_:=Aside0.mk (blk_below (g:=gb634) (o:=.cells #[.int .i64 t629,.int .i64 t630,.slice Ao38 t631.length co38] 28 (0,0)) (by (with_reducible repeat (first|refine blk_drewN ?_ _|refine blk_drew ?_|refine blk_alloc ?_ _));exact BK634.out) hb);have n9_:=Aside0.mk (below_step (by repeat (first|(with_reducible first|exact HB.out|apply below_alloc|apply pw_below_drewN|apply below_drew1|refine below_set ?_ GE612.out|refine below_set ?_ GE634.out)|exact HB.out)) hb);clear HO618;clear HO621;clear HO624;clear HO627;clear HO633;clear HO637;clear BK612;clear BK634;clear HB;have HO618:=n0_;have HO621:=n1_;have HO624:=n2_;have HO627:=n3_;have HO633:=n4_;have HO637:=n5_;have HO640:=n6_;have BK612:=n7_;have BK634:=n8_;have HB:=n9_;clear n0_ n1_ n2_ n3_ n4_ n5_ n6_ n7_ n8_ n9_;(try clear hb);(try clear hb2);(try clear hk);(try clear hi);(try clear ho0);have hcz41_0 : w40.cell? ⟨gb634,0,none⟩ = some (.int .i64 t629):=(blk_cell BK634.out 0).trans rfl;have hcz41_1 : w40.cell? ⟨gb634,1,none⟩ = some (.int .i64 t630):=(blk_cell BK634.out 1).trans rfl;have hcz41_2 : w40.cell? ⟨gb634,2,none⟩ = some (.slice Ao38 t631.length co38):=(blk_cell BK634.out 2).trans rfl;have hfz41_0:=blk_frozen BK634.out 0;have hfz41_1:=blk_frozen BK634.out 1;have hfz41_2:=blk_frozen BK634.out 2;obtain ⟨Ao42,co42,eo42⟩:=Kd.R_slice HO637.out;subst eo42;obtain ⟨Ao43,co43,eo43⟩:=Kd.R_slice HO640.out;subst eo43)|((with_reducible refine gate_callee (f:=32) rfl ?_);refine goesL_ (some 51) rfl rfl Try.func32 (by kernel_rfl) rfl #[.agg #[.int .i64 t629,.int .i64 t630,.slice Ao38 t631.length co38],.slice Ao42 t635.length co42,.slice Ao43 t638.length co43] rfl (by (try simp only [List.map_toArray,List.map_cons,List.map_nil]);first|done|rfl|(simp only [List.length_drop,List.length_take];rfl)) ?_;(with_reducible refine (impl_AnswersOf.calls k t629 t630 _ _ t631 _ _ t635 _ _ t638 t641 t644 _ ?side1 ?side2 ?side3 ?side4 ?side5 ?side6 A20.out).mono ?_);(case side1=>repeat (first|exact (Kd.R_reads' HO633.out).2.2|(with_reducible refine Kd.C_alloc ?_ _)|(with_reducible refine Kd.C_drewN ?_ _)|(with_reducible refine Kd.C_drew ?_)));(case side2=>exact (Kd.R_reads' HO633.out).2.1);(case side3=>repeat (first|exact (Kd.R_reads' HO637.out).2.2|(with_reducible refine Kd.C_alloc ?_ _)|(with_reducible refine Kd.C_drewN ?_ _)|(with_reducible refine Kd.C_drew ?_)));(case side4=>exact (Kd.R_reads' HO637.out).2.1);(case side5=>repeat (first|exact (Kd.R_reads' HO640.out).2.2|(with_reducible refine Kd.C_alloc ?_ _)|(with_reducible refine Kd.C_drewN ?_ _)|(with_reducible refine Kd.C_drew ?_)));(case side6=>exact (Kd.R_reads' HO640.out).2.1);rintro e w44 ⟨v642,rfl,ho0,hb⟩;refine ⟨_,rfl,?_⟩;have n0_:=Aside0.mk (Kd.R_elder' (by (with_reducible repeat (first|apply Kd.R_alloc|apply Kd.R_drewN|apply Kd.R_drew));exact HO618.out) (Kd.R_base ho0) hb);have n1_:=Aside0.mk (Kd.R_elder' (by (with_reducible repeat (first|apply Kd.R_alloc|apply Kd.R_drewN|apply Kd.R_drew));exact HO621.out) (Kd.R_base ho0) hb);have n2_:=Aside0.mk (Kd.R_elder' (by (with_reducible repeat (first|apply Kd.R_alloc|apply Kd.R_drewN|apply Kd.R_drew));exact HO624.out) (Kd.R_base ho0) hb);have n3_:=Aside0.mk (Kd.R_elder' (by (with_reducible repeat (first|apply Kd.R_alloc|apply Kd.R_drewN|apply Kd.R_drew));exact HO627.out) (Kd.R_base ho0) hb);have n4_:=Aside0.mk (Kd.R_elder' (by (with_reducible repeat (first|apply Kd.R_alloc|apply Kd.R_drewN|apply Kd.R_drew));exact HO633.out) (Kd.R_base ho0) hb);have n5_:=Aside0.mk (Kd.R_elder' (by (with_reducible repeat (first|apply Kd.R_alloc|apply Kd.R_drewN|apply Kd.R_drew));exact HO637.out) (Kd.R_base ho0) hb);have n6_:=Aside0.mk (Kd.R_elder' (by (with_reducible repeat (first|apply Kd.R_alloc|apply Kd.R_drewN|apply Kd.R_drew));exact HO640.out) (Kd.R_base ho0) hb);have n7_:=Aside0.mk (Kd.R_lower (Kd.R_new' (Kd.R_new' (Kd.R_new' (Kd.R_new' (Kd.R_new' (Kd.R_new' (Kd.R_new' ho0 (Kd.R_lt (by (with_reducible repeat (first|apply Kd.R_alloc|apply Kd.R_drewN|apply Kd.R_drew));exact HO618.out))) (Kd.R_lt (by (with_reducible repeat (first|apply Kd.R_alloc|apply Kd.R_drewN|apply Kd.R_drew));exact HO621.out))) (Kd.R_lt (by (with_reducible repeat (first|apply Kd.R_alloc|apply Kd.R_drewN|apply Kd.R_drew));exact HO624.out))) (Kd.R_lt (by (with_reducible repeat (first|apply Kd.R_alloc|apply Kd.R_drewN|apply Kd.R_drew));exact HO627.out))) (Kd.R_lt (by (with_reducible repeat (first|apply Kd.R_alloc|apply Kd.R_drewN|apply Kd.R_drew));exact HO633.out))) (Kd.R_lt (by (with_reducible repeat (first|apply Kd.R_alloc|apply Kd.R_drewN|apply Kd.R_drew));exact HO637.out))) (Kd.R_lt (by (with_reducible repeat (first|apply Kd.R_alloc|apply Kd.R_drewN|apply Kd.R_drew));exact HO640.out))) (below_size (by repeat (first|(with_reducible first|exact HB.out|apply below_alloc|apply pw_below_drewN|apply below_drew1|refine below_set ?_ GE612.out|refine below_set ?_ GE634.out)|exact HB.out))));have n8_:=Aside0.mk (blk_below (g:=gb612) (o:=.cells #[.int .i64 a0_0,.int .i64 a0_1,.slice A0_2 l0_2.length c0_2] 24 (0,0)) (by (with_reducible repeat (first|refine blk_drewN ?_ _|refine blk_drew ?_|refine blk_alloc ?_ _));exact BK612.out) hb);have n9_:=Aside0.mk (blk_below (g:=gb634) (o:=.cells #[.int .i64 t629,.int .i64 t630,.slice Ao38 t631.length co38] 28 (0,0)) (by (with_reducible repeat (first|refine blk_drewN ?_ _|refine blk_drew ?_|refine blk_alloc ?_ _));exact BK634.out) hb);have n10_:=Aside0.mk (below_step (by repeat (first|(with_reducible first|exact HB.out|apply below_alloc|apply pw_below_drewN|apply below_drew1|refine below_set ?_ GE612.out|refine below_set ?_ GE634.out)|exact HB.out)) hb);clear HO618;clear HO621;clear HO624;clear HO627;clear HO633;clear HO637;clear HO640;clear BK612;clear BK634;clear HB;have HO618:=n0_;have HO621:=n1_;have HO624:=n2_;have HO627:=n3_;have HO633:=n4_;have HO637:=n5_;have HO640:=n6_;have HO643:=n7_;have BK612:=n8_;have BK634:=n9_;have HB:=n10_;clear n0_ n1_ n2_ n3_ n4_ n5_ n6_ n7_ n8_ n9_ n10_;(try clear hb);(try clear hb2);(try clear hk);(try clear hi);(try clear ho0)))
    (try simp only [Act.put,List.setIfInBounds_toArray,List.set_cons_zero,List.set_cons_succ])
    go_cut [62] (fun v62 wc=>∃ (kq : Nat) (x62_20 : Bool),v62 = .bool x62_20 ∧ Aside0 (laws_FnExactAnswersOf.j0 kq l1 l2 t625 t628 t635 t638 t641 t644 x62_20 a0_0 a0_1 l0_2 t629 t630 t631 = some r) ∧ Aside0 (kq ≤ k) ∧ Aside0 (Kd.R (Kd.int .i64) 2 wc w.heap.size (fun k_=>some k_ ≠ ((.slice Ao42 t635.length co42) : Value).ownBlock ∧ some k_ ≠ ((.slice Ao43 t638.length co43) : Value).ownBlock ∧ some k_ ≠ (v642 : Value).ownBlock ∧ some k_ ≠ ((.slice Ao38 t631.length co38) : Value).ownBlock) v626 t625) ∧ Aside0 (Kd.R (Kd.int .i64) 2 wc w.heap.size (fun k_=>some k_ ≠ (v626 : Value).ownBlock ∧ some k_ ≠ ((.slice Ao43 t638.length co43) : Value).ownBlock ∧ some k_ ≠ (v642 : Value).ownBlock ∧ some k_ ≠ ((.slice Ao38 t631.length co38) : Value).ownBlock) (.slice Ao42 t635.length co42) t635) ∧ Aside0 (Kd.R (Kd.int .i64) 2 wc w.heap.size (fun k_=>some k_ ≠ (v626 : Value).ownBlock ∧ some k_ ≠ ((.slice Ao42 t635.length co42) : Value).ownBlock ∧ some k_ ≠ (v642 : Value).ownBlock ∧ some k_ ≠ ((.slice Ao38 t631.length co38) : Value).ownBlock) (.slice Ao43 t638.length co43) t638) ∧ Aside0 (Kd.R (Kd.int .i64) 2 wc w.heap.size (fun k_=>some k_ ≠ (v626 : Value).ownBlock ∧ some k_ ≠ ((.slice Ao42 t635.length co42) : Value).ownBlock ∧ some k_ ≠ ((.slice Ao43 t638.length co43) : Value).ownBlock ∧ some k_ ≠ ((.slice Ao38 t631.length co38) : Value).ownBlock) v642 t641) ∧ Aside0 (Kd.R (Kd.int .i64) 2 wc w.heap.size (fun k_=>some k_ ≠ (v626 : Value).ownBlock ∧ some k_ ≠ ((.slice Ao42 t635.length co42) : Value).ownBlock ∧ some k_ ≠ ((.slice Ao43 t638.length co43) : Value).ownBlock ∧ some k_ ≠ (v642 : Value).ownBlock) (.slice Ao38 t631.length co38) t631) ∧ Aside0 (wc.heap[gb612]? = some (.cells #[.int .i64 a0_0,.int .i64 a0_1,(.slice A0_2 l0_2.length c0_2)] 24 (0,0))) ∧ Aside0 (wc.heap[gb634]? = some (.cells #[.int .i64 t629,.int .i64 t630,(.slice Ao38 t631.length co38)] 28 (0,0))) ∧ Aside0 (Below w.heap.size w wc))
    case first =>
     have H:=HC21.out
     clear HC21
     replace H:=Option.bind_eq_some_iff.mp H
     obtain ⟨t645,A450,H⟩:=H
     replace H : (if t645 = true then (laws_FnExactAnswersOf.j0 k l1 l2 t625 t628 t635 t638 t641 t644 (t644 != t628) a0_0 a0_1 l0_2 t629 t630 t631) else (laws_FnExactAnswersOf.j0 k l1 l2 t625 t628 t635 t638 t641 t644 true a0_0 a0_1 l0_2 t629 t630 t631)) = some r:=H
     have A45:=Aside0.mk A450
     clear A450
     by_cases c46 : t645 = true
     ·subst c46
      have H1 : (laws_FnExactAnswersOf.j0 k l1 l2 t625 t628 t635 t638 t641 t644 (t644 != t628) a0_0 a0_1 l0_2 t629 t630 t631) = some r:=by rw [if_pos rfl] at H;exact H
      clear H
      have H:=H1
      clear H1
      have H':=Aside0.mk H
      clear H
      obtain ⟨Ao47,co47,eo47⟩:=Kd.R_slice HO643.out
      subst eo47
      obtain ⟨Ao48,co48,eo48⟩:=Kd.R_slice HO627.out
      subst eo48
      go_wp2_with (first|((with_reducible refine gate_callee (f:=14) rfl ?_);refine goesL_ (some 56) rfl rfl Try.func14 (by kernel_rfl) rfl #[.slice Ao47 t641.length co47,.slice Ao48 t625.length co48] rfl (by (try simp only [List.map_toArray,List.map_cons,List.map_nil]);first|done|rfl|(simp only [List.length_drop,List.length_take];rfl)) ?_;(with_reducible refine (laws_eqInt64S.calls k _ _ t641 _ _ t625 true _ ?side1 ?side2 ?side3 ?side4 A45.out).mono ?_);(case side1=>repeat (first|exact (Kd.R_reads' HO643.out).2.2|(with_reducible refine Kd.C_alloc ?_ _)|(with_reducible refine Kd.C_drewN ?_ _)|(with_reducible refine Kd.C_drew ?_)));(case side2=>exact (Kd.R_reads' HO643.out).2.1);(case side3=>repeat (first|exact (Kd.R_reads' HO627.out).2.2|(with_reducible refine Kd.C_alloc ?_ _)|(with_reducible refine Kd.C_drewN ?_ _)|(with_reducible refine Kd.C_drew ?_)));(case side4=>exact (Kd.R_reads' HO627.out).2.1);rintro e w' ⟨rfl,⟨nd,rfl⟩⟩;refine ⟨_,rfl,?_⟩))
      go_meet
      case rel=>exact ⟨_,((t644 != t628)),(by first|rfl|(simp;done)|(simp [*];done)),H',⟨by first|omega|exact Nat.le_refl _⟩,⟨by (with_reducible repeat (first|apply Kd.R_alloc|apply Kd.R_drewN|apply Kd.R_drew));exact Kd.R_mono HO627.out (fun _ hk=>⟨hk.1.1.2,⟨hk.1.2,⟨hk.2,hk.1.1.1.2⟩⟩⟩)⟩,⟨by (with_reducible repeat (first|apply Kd.R_alloc|apply Kd.R_drewN|apply Kd.R_drew));exact Kd.R_mono HO637.out (fun _ hk=>⟨hk.1.1.1.2,⟨hk.1.2,⟨hk.2,hk.1.1.2⟩⟩⟩)⟩,⟨by (with_reducible repeat (first|apply Kd.R_alloc|apply Kd.R_drewN|apply Kd.R_drew));exact Kd.R_mono HO640.out (fun _ hk=>⟨hk.1.1.1.2,⟨hk.1.2,⟨hk.2,hk.1.1.2⟩⟩⟩)⟩,⟨by (with_reducible repeat (first|apply Kd.R_alloc|apply Kd.R_drewN|apply Kd.R_drew));exact Kd.R_mono HO643.out (fun _ hk=>⟨hk.1.1.1.2,⟨hk.1.2,⟨hk.2,hk.1.1.2⟩⟩⟩)⟩,⟨by (with_reducible repeat (first|apply Kd.R_alloc|apply Kd.R_drewN|apply Kd.R_drew));exact Kd.R_mono HO633.out (fun _ hk=>⟨hk.1.1.1.2,⟨hk.1.1.2,⟨hk.1.2,hk.2⟩⟩⟩)⟩,⟨by (with_reducible repeat (first|refine blk_drewN ?_ _|refine blk_drew ?_|refine blk_alloc ?_ _));exact BK612.out⟩,⟨by (with_reducible repeat (first|refine blk_drewN ?_ _|refine blk_drew ?_|refine blk_alloc ?_ _));exact BK634.out⟩,⟨by repeat (first|(with_reducible first|exact HB.out|apply below_alloc|apply pw_below_drewN|apply below_drew1|refine below_set ?_ GE612.out|refine below_set ?_ GE634.out)|exact HB.out)⟩⟩
     ·replace c46:=Bool.eq_false_iff.mpr c46
      subst c46
      have H1 : (laws_FnExactAnswersOf.j0 k l1 l2 t625 t628 t635 t638 t641 t644 true a0_0 a0_1 l0_2 t629 t630 t631) = some r:=by rw [if_neg (show ¬ (false = true) by decide)] at H;exact H
      clear H
      have H:=H1
      clear H1
      have H':=Aside0.mk H
      clear H
      obtain ⟨Ao49,co49,eo49⟩:=Kd.R_slice HO643.out
      subst eo49
      obtain ⟨Ao50,co50,eo50⟩:=Kd.R_slice HO627.out
      subst eo50
      go_wp2_with (first|((with_reducible refine gate_callee (f:=14) rfl ?_);refine goesL_ (some 56) rfl rfl Try.func14 (by kernel_rfl) rfl #[.slice Ao49 t641.length co49,.slice Ao50 t625.length co50] rfl (by (try simp only [List.map_toArray,List.map_cons,List.map_nil]);first|done|rfl|(simp only [List.length_drop,List.length_take];rfl)) ?_;(with_reducible refine (laws_eqInt64S.calls k _ _ t641 _ _ t625 false _ ?side1 ?side2 ?side3 ?side4 A45.out).mono ?_);(case side1=>repeat (first|exact (Kd.R_reads' HO643.out).2.2|(with_reducible refine Kd.C_alloc ?_ _)|(with_reducible refine Kd.C_drewN ?_ _)|(with_reducible refine Kd.C_drew ?_)));(case side2=>exact (Kd.R_reads' HO643.out).2.1);(case side3=>repeat (first|exact (Kd.R_reads' HO627.out).2.2|(with_reducible refine Kd.C_alloc ?_ _)|(with_reducible refine Kd.C_drewN ?_ _)|(with_reducible refine Kd.C_drew ?_)));(case side4=>exact (Kd.R_reads' HO627.out).2.1);rintro e w' ⟨rfl,⟨nd,rfl⟩⟩;refine ⟨_,rfl,?_⟩))
      go_meet
      case rel=>exact ⟨_,(true),(by first|rfl|(simp;done)|(simp [*];done)),H',⟨by first|omega|exact Nat.le_refl _⟩,⟨by (with_reducible repeat (first|apply Kd.R_alloc|apply Kd.R_drewN|apply Kd.R_drew));exact Kd.R_mono HO627.out (fun _ hk=>⟨hk.1.1.2,⟨hk.1.2,⟨hk.2,hk.1.1.1.2⟩⟩⟩)⟩,⟨by (with_reducible repeat (first|apply Kd.R_alloc|apply Kd.R_drewN|apply Kd.R_drew));exact Kd.R_mono HO637.out (fun _ hk=>⟨hk.1.1.1.2,⟨hk.1.2,⟨hk.2,hk.1.1.2⟩⟩⟩)⟩,⟨by (with_reducible repeat (first|apply Kd.R_alloc|apply Kd.R_drewN|apply Kd.R_drew));exact Kd.R_mono HO640.out (fun _ hk=>⟨hk.1.1.1.2,⟨hk.1.2,⟨hk.2,hk.1.1.2⟩⟩⟩)⟩,⟨by (with_reducible repeat (first|apply Kd.R_alloc|apply Kd.R_drewN|apply Kd.R_drew));exact Kd.R_mono HO643.out (fun _ hk=>⟨hk.1.1.1.2,⟨hk.1.2,⟨hk.2,hk.1.1.2⟩⟩⟩)⟩,⟨by (with_reducible repeat (first|apply Kd.R_alloc|apply Kd.R_drewN|apply Kd.R_drew));exact Kd.R_mono HO633.out (fun _ hk=>⟨hk.1.1.1.2,⟨hk.1.1.2,⟨hk.1.2,hk.2⟩⟩⟩)⟩,⟨by (with_reducible repeat (first|refine blk_drewN ?_ _|refine blk_drew ?_|refine blk_alloc ?_ _));exact BK612.out⟩,⟨by (with_reducible repeat (first|refine blk_drewN ?_ _|refine blk_drew ?_|refine blk_alloc ?_ _));exact BK634.out⟩,⟨by repeat (first|(with_reducible first|exact HB.out|apply below_alloc|apply pw_below_drewN|apply below_drew1|refine below_set ?_ GE612.out|refine below_set ?_ GE634.out)|exact HB.out)⟩⟩
    case rest =>
     clear HC21
     try clear c1
     try clear c2
     try clear p2
     try clear c3
     try clear c4
     try clear c4b0
     try clear c4b1
     try clear c6
     try clear c6b0
     try clear c6b1
     try clear c8
     try clear c9
     try clear c9b0
     try clear c10
     try clear c12
     try clear c14
     try clear c20
     try clear c31
     try clear c32
     try clear c36
     try clear c46
     try clear hcz11_0
     try clear hcz11_1
     try clear hcz11_2
     try clear hcz23_0
     try clear hcz23_1
     try clear hcz23_2
     try clear hcz25_0
     try clear hcz25_1
     try clear hcz25_2
     try clear hcz33_0
     try clear hcz33_1
     try clear hcz33_2
     try clear hcz37_0
     try clear hcz37_1
     try clear hcz37_2
     try clear hcz41_0
     try clear hcz41_1
     try clear hcz41_2
     try clear hfz11_0
     try clear hfz11_1
     try clear hfz11_2
     try clear hfz23_0
     try clear hfz23_1
     try clear hfz23_2
     try clear hfz25_0
     try clear hfz25_1
     try clear hfz25_2
     try clear hfz33_0
     try clear hfz33_1
     try clear hfz33_2
     try clear hfz37_0
     try clear hfz37_1
     try clear hfz37_2
     try clear hfz41_0
     try clear hfz41_1
     try clear hfz41_2
     obtain ⟨kq,x62_20,rfl,HA,HJ20,HO_8,HO_11,HO_12,HO_13,HO_635002,BK612,BK634,HB⟩:=hcut
     cases kq with
     | zero => exact absurd HA.out (by simp [laws_FnExactAnswersOf.j0])
     | succ kj20 =>
      have H:=HA.out
      clear HA
      simp only [laws_FnExactAnswersOf.j0] at H
      by_cases c51 : x62_20 = true
      ·subst c51
       have H1 : (some false) = some r:=by rw [if_pos rfl] at H;exact H
       clear H
       have H:=H1
       clear H1
       obtain rfl:=Option.some.inj H
       go_wp2
       go_ret
       exact ⟨by first|rfl|(simp [errW_none,errW_some] <;> rfl)|(simp [*,errW_none,errW_some] <;> rfl),by repeat (first|(with_reducible first|exact HB.out|apply below_alloc|apply pw_below_drewN|apply below_drew1|refine below_set ?_ GE612.out|refine below_set ?_ GE634.out)|exact HB.out)⟩
      ·replace c51:=Bool.eq_false_iff.mpr c51
       subst c51
       have H1 : ((laws_toSea.f kj20 a0_0 a0_1 l0_2).bind fun bt646=>((laws_eqSea.f kj20 t629 t630 t631 bt646.1 bt646.2.1 bt646.2.2).bind fun t651=>(if t651 = true then ((laws_toInt64S.f kj20 l1).bind fun t652=>((laws_eqInt64S.f kj20 t635 t652).bind fun t655=>(if t655 = true then ((laws_toInt64S.f kj20 l2).bind fun t656=>((laws_eqInt64S.f kj20 t638 t656).bind fun t659=>(if t659 = true then ((laws_markSea.f kj20 t629 t630 t631 1).bind fun bt660=>((laws_markInt64S.f kj20 t635 bt660.1).bind fun bt662=>((laws_markInt64S.f kj20 t638 bt662.1).bind fun bt664=>(if bt664.1 < 0 then (laws_FnExactAnswersOf.j1 kj20 l1 l2 t625 t628 t641 true a0_0 a0_1 l0_2) else ((laws_eqInt64S.f kj20 t641 t625).bind fun t666=>(if t666 = true then (laws_FnExactAnswersOf.j1 kj20 l1 l2 t625 t628 t641 (t644 != t628) a0_0 a0_1 l0_2) else (laws_FnExactAnswersOf.j1 kj20 l1 l2 t625 t628 t641 true a0_0 a0_1 l0_2))))))) else (some false)))) else (some false)))) else (some false)))) = some r:=by rw [if_neg (show ¬ (false = true) by decide)] at H;exact H
       clear H
       have H:=H1
       clear H1
       replace H:=Option.bind_eq_some_iff.mp H
       obtain ⟨⟨t646,t647,t648⟩,A520,H⟩:=H
       replace H : ((laws_eqSea.f kj20 t629 t630 t631 t646 t647 t648).bind fun t651=>(if t651 = true then ((laws_toInt64S.f kj20 l1).bind fun t652=>((laws_eqInt64S.f kj20 t635 t652).bind fun t655=>(if t655 = true then ((laws_toInt64S.f kj20 l2).bind fun t656=>((laws_eqInt64S.f kj20 t638 t656).bind fun t659=>(if t659 = true then ((laws_markSea.f kj20 t629 t630 t631 1).bind fun bt660=>((laws_markInt64S.f kj20 t635 bt660.1).bind fun bt662=>((laws_markInt64S.f kj20 t638 bt662.1).bind fun bt664=>(if bt664.1 < 0 then (laws_FnExactAnswersOf.j1 kj20 l1 l2 t625 t628 t641 true a0_0 a0_1 l0_2) else ((laws_eqInt64S.f kj20 t641 t625).bind fun t666=>(if t666 = true then (laws_FnExactAnswersOf.j1 kj20 l1 l2 t625 t628 t641 (t644 != t628) a0_0 a0_1 l0_2) else (laws_FnExactAnswersOf.j1 kj20 l1 l2 t625 t628 t641 true a0_0 a0_1 l0_2))))))) else (some false)))) else (some false)))) else (some false))) = some r:=H
       have A52:=Aside0.mk A520
       clear A520
       replace H:=Option.bind_eq_some_iff.mp H
       obtain ⟨t651,A530,H⟩:=H
       replace H : (if t651 = true then ((laws_toInt64S.f kj20 l1).bind fun t652=>((laws_eqInt64S.f kj20 t635 t652).bind fun t655=>(if t655 = true then ((laws_toInt64S.f kj20 l2).bind fun t656=>((laws_eqInt64S.f kj20 t638 t656).bind fun t659=>(if t659 = true then ((laws_markSea.f kj20 t629 t630 t631 1).bind fun bt660=>((laws_markInt64S.f kj20 t635 bt660.1).bind fun bt662=>((laws_markInt64S.f kj20 t638 bt662.1).bind fun bt664=>(if bt664.1 < 0 then (laws_FnExactAnswersOf.j1 kj20 l1 l2 t625 t628 t641 true a0_0 a0_1 l0_2) else ((laws_eqInt64S.f kj20 t641 t625).bind fun t666=>(if t666 = true then (laws_FnExactAnswersOf.j1 kj20 l1 l2 t625 t628 t641 (t644 != t628) a0_0 a0_1 l0_2) else (laws_FnExactAnswersOf.j1 kj20 l1 l2 t625 t628 t641 true a0_0 a0_1 l0_2))))))) else (some false)))) else (some false)))) else (some false)) = some r:=H
       have A53:=Aside0.mk A530
       clear A530
       by_cases c54 : t651 = true
       ·subst c54
        have H1 : ((laws_toInt64S.f kj20 l1).bind fun t652=>((laws_eqInt64S.f kj20 t635 t652).bind fun t655=>(if t655 = true then ((laws_toInt64S.f kj20 l2).bind fun t656=>((laws_eqInt64S.f kj20 t638 t656).bind fun t659=>(if t659 = true then ((laws_markSea.f kj20 t629 t630 t631 1).bind fun bt660=>((laws_markInt64S.f kj20 t635 bt660.1).bind fun bt662=>((laws_markInt64S.f kj20 t638 bt662.1).bind fun bt664=>(if bt664.1 < 0 then (laws_FnExactAnswersOf.j1 kj20 l1 l2 t625 t628 t641 true a0_0 a0_1 l0_2) else ((laws_eqInt64S.f kj20 t641 t625).bind fun t666=>(if t666 = true then (laws_FnExactAnswersOf.j1 kj20 l1 l2 t625 t628 t641 (t644 != t628) a0_0 a0_1 l0_2) else (laws_FnExactAnswersOf.j1 kj20 l1 l2 t625 t628 t641 true a0_0 a0_1 l0_2))))))) else (some false)))) else (some false)))) = some r:=by rw [if_pos rfl] at H;exact H
        clear H
        have H:=H1
        clear H1
        replace H:=Option.bind_eq_some_iff.mp H
        obtain ⟨t652,A550,H⟩:=H
        replace H : ((laws_eqInt64S.f kj20 t635 t652).bind fun t655=>(if t655 = true then ((laws_toInt64S.f kj20 l2).bind fun t656=>((laws_eqInt64S.f kj20 t638 t656).bind fun t659=>(if t659 = true then ((laws_markSea.f kj20 t629 t630 t631 1).bind fun bt660=>((laws_markInt64S.f kj20 t635 bt660.1).bind fun bt662=>((laws_markInt64S.f kj20 t638 bt662.1).bind fun bt664=>(if bt664.1 < 0 then (laws_FnExactAnswersOf.j1 kj20 l1 l2 t625 t628 t641 true a0_0 a0_1 l0_2) else ((laws_eqInt64S.f kj20 t641 t625).bind fun t666=>(if t666 = true then (laws_FnExactAnswersOf.j1 kj20 l1 l2 t625 t628 t641 (t644 != t628) a0_0 a0_1 l0_2) else (laws_FnExactAnswersOf.j1 kj20 l1 l2 t625 t628 t641 true a0_0 a0_1 l0_2))))))) else (some false)))) else (some false))) = some r:=H
        have A55:=Aside0.mk A550
        clear A550
        replace H:=Option.bind_eq_some_iff.mp H
        obtain ⟨t655,A560,H⟩:=H
        replace H : (if t655 = true then ((laws_toInt64S.f kj20 l2).bind fun t656=>((laws_eqInt64S.f kj20 t638 t656).bind fun t659=>(if t659 = true then ((laws_markSea.f kj20 t629 t630 t631 1).bind fun bt660=>((laws_markInt64S.f kj20 t635 bt660.1).bind fun bt662=>((laws_markInt64S.f kj20 t638 bt662.1).bind fun bt664=>(if bt664.1 < 0 then (laws_FnExactAnswersOf.j1 kj20 l1 l2 t625 t628 t641 true a0_0 a0_1 l0_2) else ((laws_eqInt64S.f kj20 t641 t625).bind fun t666=>(if t666 = true then (laws_FnExactAnswersOf.j1 kj20 l1 l2 t625 t628 t641 (t644 != t628) a0_0 a0_1 l0_2) else (laws_FnExactAnswersOf.j1 kj20 l1 l2 t625 t628 t641 true a0_0 a0_1 l0_2))))))) else (some false)))) else (some false)) = some r:=H
        have A56:=Aside0.mk A560
        clear A560
        by_cases c57 : t655 = true
        ·subst c57
         have H1 : ((laws_toInt64S.f kj20 l2).bind fun t656=>((laws_eqInt64S.f kj20 t638 t656).bind fun t659=>(if t659 = true then ((laws_markSea.f kj20 t629 t630 t631 1).bind fun bt660=>((laws_markInt64S.f kj20 t635 bt660.1).bind fun bt662=>((laws_markInt64S.f kj20 t638 bt662.1).bind fun bt664=>(if bt664.1 < 0 then (laws_FnExactAnswersOf.j1 kj20 l1 l2 t625 t628 t641 true a0_0 a0_1 l0_2) else ((laws_eqInt64S.f kj20 t641 t625).bind fun t666=>(if t666 = true then (laws_FnExactAnswersOf.j1 kj20 l1 l2 t625 t628 t641 (t644 != t628) a0_0 a0_1 l0_2) else (laws_FnExactAnswersOf.j1 kj20 l1 l2 t625 t628 t641 true a0_0 a0_1 l0_2))))))) else (some false)))) = some r:=by rw [if_pos rfl] at H;exact H
         clear H
         have H:=H1
         clear H1
         replace H:=Option.bind_eq_some_iff.mp H
         obtain ⟨t656,A580,H⟩:=H
         replace H : ((laws_eqInt64S.f kj20 t638 t656).bind fun t659=>(if t659 = true then ((laws_markSea.f kj20 t629 t630 t631 1).bind fun bt660=>((laws_markInt64S.f kj20 t635 bt660.1).bind fun bt662=>((laws_markInt64S.f kj20 t638 bt662.1).bind fun bt664=>(if bt664.1 < 0 then (laws_FnExactAnswersOf.j1 kj20 l1 l2 t625 t628 t641 true a0_0 a0_1 l0_2) else ((laws_eqInt64S.f kj20 t641 t625).bind fun t666=>(if t666 = true then (laws_FnExactAnswersOf.j1 kj20 l1 l2 t625 t628 t641 (t644 != t628) a0_0 a0_1 l0_2) else (laws_FnExactAnswersOf.j1 kj20 l1 l2 t625 t628 t641 true a0_0 a0_1 l0_2))))))) else (some false))) = some r:=H
         have A58:=Aside0.mk A580
         clear A580
         replace H:=Option.bind_eq_some_iff.mp H
         obtain ⟨t659,A590,H⟩:=H
         replace H : (if t659 = true then ((laws_markSea.f kj20 t629 t630 t631 1).bind fun bt660=>((laws_markInt64S.f kj20 t635 bt660.1).bind fun bt662=>((laws_markInt64S.f kj20 t638 bt662.1).bind fun bt664=>(if bt664.1 < 0 then (laws_FnExactAnswersOf.j1 kj20 l1 l2 t625 t628 t641 true a0_0 a0_1 l0_2) else ((laws_eqInt64S.f kj20 t641 t625).bind fun t666=>(if t666 = true then (laws_FnExactAnswersOf.j1 kj20 l1 l2 t625 t628 t641 (t644 != t628) a0_0 a0_1 l0_2) else (laws_FnExactAnswersOf.j1 kj20 l1 l2 t625 t628 t641 true a0_0 a0_1 l0_2))))))) else (some false)) = some r:=H
         have A59:=Aside0.mk A590
         clear A590
         by_cases c60 : t659 = true
         ·subst c60
          have H1 : ((laws_markSea.f kj20 t629 t630 t631 1).bind fun bt660=>((laws_markInt64S.f kj20 t635 bt660.1).bind fun bt662=>((laws_markInt64S.f kj20 t638 bt662.1).bind fun bt664=>(if bt664.1 < 0 then (laws_FnExactAnswersOf.j1 kj20 l1 l2 t625 t628 t641 true a0_0 a0_1 l0_2) else ((laws_eqInt64S.f kj20 t641 t625).bind fun t666=>(if t666 = true then (laws_FnExactAnswersOf.j1 kj20 l1 l2 t625 t628 t641 (t644 != t628) a0_0 a0_1 l0_2) else (laws_FnExactAnswersOf.j1 kj20 l1 l2 t625 t628 t641 true a0_0 a0_1 l0_2))))))) = some r:=by rw [if_pos rfl] at H;exact H
          clear H
          have H:=H1
          clear H1
          replace H:=Option.bind_eq_some_iff.mp H
          obtain ⟨⟨t660,t661⟩,A610,H⟩:=H
          replace H : ((laws_markInt64S.f kj20 t635 t660).bind fun bt662=>((laws_markInt64S.f kj20 t638 bt662.1).bind fun bt664=>(if bt664.1 < 0 then (laws_FnExactAnswersOf.j1 kj20 l1 l2 t625 t628 t641 true a0_0 a0_1 l0_2) else ((laws_eqInt64S.f kj20 t641 t625).bind fun t666=>(if t666 = true then (laws_FnExactAnswersOf.j1 kj20 l1 l2 t625 t628 t641 (t644 != t628) a0_0 a0_1 l0_2) else (laws_FnExactAnswersOf.j1 kj20 l1 l2 t625 t628 t641 true a0_0 a0_1 l0_2)))))) = some r:=H
          have A61:=Aside0.mk A610
          clear A610
          replace H:=Option.bind_eq_some_iff.mp H
          obtain ⟨⟨t662,t663⟩,A620,H⟩:=H
          replace H : ((laws_markInt64S.f kj20 t638 t662).bind fun bt664=>(if bt664.1 < 0 then (laws_FnExactAnswersOf.j1 kj20 l1 l2 t625 t628 t641 true a0_0 a0_1 l0_2) else ((laws_eqInt64S.f kj20 t641 t625).bind fun t666=>(if t666 = true then (laws_FnExactAnswersOf.j1 kj20 l1 l2 t625 t628 t641 (t644 != t628) a0_0 a0_1 l0_2) else (laws_FnExactAnswersOf.j1 kj20 l1 l2 t625 t628 t641 true a0_0 a0_1 l0_2))))) = some r:=H
          have A62:=Aside0.mk A620
          clear A620
          replace H:=Option.bind_eq_some_iff.mp H
          obtain ⟨⟨t664,t665⟩,A630,H⟩:=H
          replace H : (if t664 < 0 then (laws_FnExactAnswersOf.j1 kj20 l1 l2 t625 t628 t641 true a0_0 a0_1 l0_2) else ((laws_eqInt64S.f kj20 t641 t625).bind fun t666=>(if t666 = true then (laws_FnExactAnswersOf.j1 kj20 l1 l2 t625 t628 t641 (t644 != t628) a0_0 a0_1 l0_2) else (laws_FnExactAnswersOf.j1 kj20 l1 l2 t625 t628 t641 true a0_0 a0_1 l0_2)))) = some r:=H
          have A63:=Aside0.mk A630
          clear A630
          have HC64:=Aside0.mk H
          clear H
          try go_wp2
          have n0_:=Aside0.mk (Kd.R_drew HO_8.out)
          have n1_:=Aside0.mk (Kd.R_drew HO_11.out)
          have n2_:=Aside0.mk (Kd.R_drew HO_12.out)
          have n3_:=Aside0.mk (Kd.R_drew HO_13.out)
          have n4_:=Aside0.mk (Kd.R_drew HO_635002.out)
          have n5_:=Aside0.mk (blk_drew BK612.out)
          have n6_:=Aside0.mk (blk_drew BK634.out)
          have n7_:=Aside0.mk (below_drew1 HB.out)
          clear HO_8
          clear HO_11
          clear HO_12
          clear HO_13
          clear HO_635002
          clear BK612
          clear BK634
          clear HB
          have HO_8:=n0_
          have HO_11:=n1_
          have HO_12:=n2_
          have HO_13:=n3_
          have HO_635002:=n4_
          have BK612:=n5_
          have BK634:=n6_
          have HB:=n7_
          clear n0_ n1_ n2_ n3_ n4_ n5_ n6_ n7_
          refine start_ (n:=5) (S:=fun w'=>w'.cell? ⟨gb634,0,none⟩ = some (.int .i64 t629) ∧ w'.cell? ⟨gb634,1,none⟩ = some (.int .i64 t630) ∧ w'.cell? ⟨gb634,2,none⟩ = some (.slice Ao38 t631.length co38) ∧ w'.cell? ⟨gb612,0,none⟩ = some (.int .i64 a0_0) ∧ w'.cell? ⟨gb612,1,none⟩ = some (.int .i64 a0_1) ∧ w'.cell? ⟨gb612,2,none⟩ = some (.slice A0_2 l0_2.length c0_2)) (ds:=[]) #[false,false,false,false,false] (by kernel_rfl) rfl rfl ⟨(blk_cell BK634.out 0).trans rfl,(blk_cell BK634.out 1).trans rfl,(blk_cell BK634.out 2).trans rfl,(blk_cell BK612.out 0).trans rfl,(blk_cell BK612.out 1).trans rfl,(blk_cell BK612.out 2).trans rfl⟩ (fun hHeld=>?_)
          generalize wc.drew = w65 at HO_8 HO_11 HO_12 HO_13 HO_635002 BK612 BK634 HB hHeld ⊢
          refine take_ (i:=0) (N:=some 63) (v:=?_) (a':=?_) #[true,false,false,false,false] rfl rfl (by kernel_rfl) (fun _ _ _ h=>h) (Or.inl ⟨by rfl,?_⟩) hHeld ?_ ?_
          rotate_left
          ·rintro w' ⟨s0,s1,s2,s3,s4,s5⟩
           go_simp
           with_reducible rfl
          rotate_left
          ·simp only [Act.put,List.setIfInBounds_toArray,List.set_cons_zero,List.set_cons_succ,i64_w,i32_w]
           rfl
          refine take_ (i:=1) (N:=some 64) (v:=?_) (a':=?_) #[true,true,false,false,false] rfl rfl (by kernel_rfl) (fun _ _ _ h=>h) (Or.inl ⟨by rfl,?_⟩) hHeld ?_ ?_
          rotate_left
          ·rintro w' ⟨s0,s1,s2,s3,s4,s5⟩
           go_simp
           with_reducible rfl
          rotate_left
          ·simp only [Act.put,List.setIfInBounds_toArray,List.set_cons_zero,List.set_cons_succ,i64_w,i32_w]
           rfl
          refine one_ (i:=2) (N:=some 65) #[true,true,true,false,false] rfl rfl (by kernel_rfl) (by decide) (fun K hK=>?_)
          refine goes_ Try.func12 (by kernel_rfl) rfl #[.agg #[.int .i64 a0_0,.int .i64 a0_1,.slice A0_2 l0_2.length c0_2]] (by rfl) rfl rfl (by (try simp only [List.map_toArray,List.map_cons,List.map_nil]);first|done|rfl|(simp only [List.length_drop,List.length_take];rfl)) ?_
          with_reducible refine (laws_toSea.calls kj20 a0_0 a0_1 _ _ l0_2 t646 t647 t648 _ ?side1 ?side2 A52.out).mono ?_
          (case side1=>repeat (first|exact (Kd.C_below HR0_2.out HB.out)|(with_reducible refine Kd.C_alloc ?_ _)|(with_reducible refine Kd.C_drewN ?_ _)|(with_reducible refine Kd.C_drew ?_)))
          (case side2=>exact HC0_2.out)
          rintro e w66 ⟨v649,rfl,ho0,hb⟩
          refine ⟨_,rfl,?_⟩
          have n0_:=Aside0.mk (Kd.R_elder' (by (with_reducible repeat (first|apply Kd.R_alloc|apply Kd.R_drewN|apply Kd.R_drew));exact HO_8.out) (Kd.R_base ho0) hb)
          have n1_:=Aside0.mk (Kd.R_elder' (by (with_reducible repeat (first|apply Kd.R_alloc|apply Kd.R_drewN|apply Kd.R_drew));exact HO_11.out) (Kd.R_base ho0) hb)
          have n2_:=Aside0.mk (Kd.R_elder' (by (with_reducible repeat (first|apply Kd.R_alloc|apply Kd.R_drewN|apply Kd.R_drew));exact HO_12.out) (Kd.R_base ho0) hb)
          have n3_:=Aside0.mk (Kd.R_elder' (by (with_reducible repeat (first|apply Kd.R_alloc|apply Kd.R_drewN|apply Kd.R_drew));exact HO_13.out) (Kd.R_base ho0) hb)
          have n4_:=Aside0.mk (Kd.R_elder' (by (with_reducible repeat (first|apply Kd.R_alloc|apply Kd.R_drewN|apply Kd.R_drew));exact HO_635002.out) (Kd.R_base ho0) hb)
          have n5_:=Aside0.mk (Kd.R_lower (Kd.R_new' (Kd.R_new' (Kd.R_new' (Kd.R_new' (Kd.R_new' ho0 (Kd.R_lt (by (with_reducible repeat (first|apply Kd.R_alloc|apply Kd.R_drewN|apply Kd.R_drew));exact HO_8.out))) (Kd.R_lt (by (with_reducible repeat (first|apply Kd.R_alloc|apply Kd.R_drewN|apply Kd.R_drew));exact HO_11.out))) (Kd.R_lt (by (with_reducible repeat (first|apply Kd.R_alloc|apply Kd.R_drewN|apply Kd.R_drew));exact HO_12.out))) (Kd.R_lt (by (with_reducible repeat (first|apply Kd.R_alloc|apply Kd.R_drewN|apply Kd.R_drew));exact HO_13.out))) (Kd.R_lt (by (with_reducible repeat (first|apply Kd.R_alloc|apply Kd.R_drewN|apply Kd.R_drew));exact HO_635002.out))) (below_size (by repeat (first|(with_reducible first|exact HB.out|apply below_alloc|apply pw_below_drewN|apply below_drew1|refine below_set ?_ GE612.out|refine below_set ?_ GE634.out)|exact HB.out))))
          have n6_:=Aside0.mk (blk_below (g:=gb612) (o:=.cells #[.int .i64 a0_0,.int .i64 a0_1,.slice A0_2 l0_2.length c0_2] 24 (0,0)) (by (with_reducible repeat (first|refine blk_drewN ?_ _|refine blk_drew ?_|refine blk_alloc ?_ _));exact BK612.out) hb)
          have n7_:=Aside0.mk (blk_below (g:=gb634) (o:=.cells #[.int .i64 t629,.int .i64 t630,.slice Ao38 t631.length co38] 28 (0,0)) (by (with_reducible repeat (first|refine blk_drewN ?_ _|refine blk_drew ?_|refine blk_alloc ?_ _));exact BK634.out) hb)
          have n8_:=Aside0.mk (below_step (by repeat (first|(with_reducible first|exact HB.out|apply below_alloc|apply pw_below_drewN|apply below_drew1|refine below_set ?_ GE612.out|refine below_set ?_ GE634.out)|exact HB.out)) hb)
          clear HO_8
          clear HO_11
          clear HO_12
          clear HO_13
          clear HO_635002
          clear BK612
          clear BK634
          clear HB
          have HO_8:=n0_
          have HO_11:=n1_
          have HO_12:=n2_
          have HO_13:=n3_
          have HO_635002:=n4_
          have HO650:=n5_
          have BK612:=n6_
          have BK634:=n7_
          have HB:=n8_
          clear n0_ n1_ n2_ n3_ n4_ n5_ n6_ n7_ n8_
          (try clear hb)
          (try clear hb2)
          (try clear hk)
          (try clear hi)
          (try clear ho0)
          obtain ⟨Ao67,co67,eo67⟩:=Kd.R_slice HO650.out
          (first|subst eo67|(injection eo67 with f1_ f2_ f3_;have f4_:=f1_.symm;have f5_:=f3_.symm;clear f1_ f2_ f3_;subst f4_;subst f5_))
          refine hK.out _ _ ⟨(blk_cell BK634.out 0).trans rfl,(blk_cell BK634.out 1).trans rfl,(blk_cell BK634.out 2).trans rfl,(blk_cell BK612.out 0).trans rfl,(blk_cell BK612.out 1).trans rfl,(blk_cell BK612.out 2).trans rfl⟩ (fun hHeld=>?_)
          clear hK K
          refine norm_ (a':=?_) ?_ ?_
          rotate_left
          ·show Act.put _ (some 65) _ = _
           simp only [Act.put,List.setIfInBounds_toArray,List.set_cons_zero,List.set_cons_succ,i64_w,i32_w]
           rfl
          refine one_ (i:=3) (N:=some 66) #[true,true,true,true,false] rfl rfl (by kernel_rfl) (by decide) (fun K hK=>?_)
          refine goes_ Try.func15 (by kernel_rfl) rfl #[.agg #[.int .i64 t629,.int .i64 t630,.slice Ao38 t631.length co38],.agg #[.int .i64 t646,.int .i64 t647,.slice Ao67 t648.length co67]] (by rfl) rfl rfl (by (try simp only [List.map_toArray,List.map_cons,List.map_nil]);first|done|rfl|(simp only [List.length_drop,List.length_take];rfl)) ?_
          with_reducible refine (laws_eqSea.calls kj20 t629 t630 _ _ t631 t646 t647 _ _ t648 true _ ?side1 ?side2 ?side3 ?side4 A53.out).mono ?_
          (case side1=>repeat (first|exact (Kd.R_reads' HO_635002.out).2.2|(with_reducible refine Kd.C_alloc ?_ _)|(with_reducible refine Kd.C_drewN ?_ _)|(with_reducible refine Kd.C_drew ?_)))
          (case side2=>exact (Kd.R_reads' HO_635002.out).2.1)
          (case side3=>repeat (first|exact (Kd.R_reads' HO650.out).2.2|(with_reducible refine Kd.C_alloc ?_ _)|(with_reducible refine Kd.C_drewN ?_ _)|(with_reducible refine Kd.C_drew ?_)))
          (case side4=>exact (Kd.R_reads' HO650.out).2.1)
          rintro e w68 ⟨rfl,hb⟩
          refine ⟨_,rfl,?_⟩
          have n0_:=Aside0.mk (Kd.R_below (by (with_reducible repeat (first|apply Kd.R_alloc|apply Kd.R_drewN|apply Kd.R_drew));exact HO_8.out) hb)
          have n1_:=Aside0.mk (Kd.R_below (by (with_reducible repeat (first|apply Kd.R_alloc|apply Kd.R_drewN|apply Kd.R_drew));exact HO_11.out) hb)
          have n2_:=Aside0.mk (Kd.R_below (by (with_reducible repeat (first|apply Kd.R_alloc|apply Kd.R_drewN|apply Kd.R_drew));exact HO_12.out) hb)
          have n3_:=Aside0.mk (Kd.R_below (by (with_reducible repeat (first|apply Kd.R_alloc|apply Kd.R_drewN|apply Kd.R_drew));exact HO_13.out) hb)
          have n4_:=Aside0.mk (Kd.R_below (by (with_reducible repeat (first|apply Kd.R_alloc|apply Kd.R_drewN|apply Kd.R_drew));exact HO_635002.out) hb)
          have n5_:=Aside0.mk (Kd.R_below (by (with_reducible repeat (first|apply Kd.R_alloc|apply Kd.R_drewN|apply Kd.R_drew));exact HO650.out) hb)
          have n6_:=Aside0.mk (blk_below (g:=gb612) (o:=.cells #[.int .i64 a0_0,.int .i64 a0_1,.slice A0_2 l0_2.length c0_2] 24 (0,0)) (by (with_reducible repeat (first|refine blk_drewN ?_ _|refine blk_drew ?_|refine blk_alloc ?_ _));exact BK612.out) hb)
          have n7_:=Aside0.mk (blk_below (g:=gb634) (o:=.cells #[.int .i64 t629,.int .i64 t630,.slice Ao38 t631.length co38] 28 (0,0)) (by (with_reducible repeat (first|refine blk_drewN ?_ _|refine blk_drew ?_|refine blk_alloc ?_ _));exact BK634.out) hb)
          have n8_:=Aside0.mk (below_step (by repeat (first|(with_reducible first|exact HB.out|apply below_alloc|apply pw_below_drewN|apply below_drew1|refine below_set ?_ GE612.out|refine below_set ?_ GE634.out)|exact HB.out)) hb)
          clear HO_8
          clear HO_11
          clear HO_12
          clear HO_13
          clear HO_635002
          clear HO650
          clear BK612
          clear BK634
          clear HB
          have HO_8:=n0_
          have HO_11:=n1_
          have HO_12:=n2_
          have HO_13:=n3_
          have HO_635002:=n4_
          have HO650:=n5_
          have BK612:=n6_
          have BK634:=n7_
          have HB:=n8_
          clear n0_ n1_ n2_ n3_ n4_ n5_ n6_ n7_ n8_
          (try clear hb)
          (try clear hb2)
          (try clear hk)
          (try clear hi)
          refine hK.out _ _ ⟨(blk_cell BK634.out 0).trans rfl,(blk_cell BK634.out 1).trans rfl,(blk_cell BK634.out 2).trans rfl,(blk_cell BK612.out 0).trans rfl,(blk_cell BK612.out 1).trans rfl,(blk_cell BK612.out 2).trans rfl⟩ (fun hHeld=>?_)
          clear hK K
          refine norm_ (a':=?_) ?_ ?_
          rotate_left
          ·show Act.put _ (some 66) _ = _
           simp only [Act.put,List.setIfInBounds_toArray,List.set_cons_zero,List.set_cons_succ,i64_w,i32_w]
           rfl
          refine pure_ (i:=4) (N:=some 67) (v:=?_) (a':=?_) #[true,true,true,true,true] rfl rfl (by kernel_rfl) (fun _ _ _ h=>h) (Or.inl ⟨by rfl,?_⟩) ?_ ?_
          rotate_left
          ·intro w'
           go_simp
           with_reducible rfl
          rotate_left
          ·simp only [Act.put,List.setIfInBounds_toArray,List.set_cons_zero,List.set_cons_succ,i64_w,i32_w]
           rfl
          refine done_ (by kernel_rfl) ?_
          go_upto_region 26 with (first|((with_reducible refine gate_callee (f:=20) rfl ?_);refine goesL_ (some 70) rfl rfl Try.func20 (by kernel_rfl) rfl #[.slice A1 l1.length c1] rfl (by (try simp only [List.map_toArray,List.map_cons,List.map_nil]);first|done|rfl|(simp only [List.length_drop,List.length_take];rfl)) ?_;(with_reducible refine (laws_toInt64S.calls kj20 _ _ l1 t652 _ ?side1 ?side2 A55.out).mono ?_);(case side1=>repeat (first|exact (Kd.C_below HR1.out HB.out)|(with_reducible refine Kd.C_alloc ?_ _)|(with_reducible refine Kd.C_drewN ?_ _)|(with_reducible refine Kd.C_drew ?_)));(case side2=>exact HC1.out);rintro e w69 ⟨v653,rfl,ho0,hb⟩;refine ⟨_,rfl,?_⟩;have n0_:=Aside0.mk (Kd.R_elder' (by (with_reducible repeat (first|apply Kd.R_alloc|apply Kd.R_drewN|apply Kd.R_drew));exact HO_8.out) (Kd.R_base ho0) hb);have n1_:=Aside0.mk (Kd.R_elder' (by (with_reducible repeat (first|apply Kd.R_alloc|apply Kd.R_drewN|apply Kd.R_drew));exact HO_11.out) (Kd.R_base ho0) hb);have n2_:=Aside0.mk (Kd.R_elder' (by (with_reducible repeat (first|apply Kd.R_alloc|apply Kd.R_drewN|apply Kd.R_drew));exact HO_12.out) (Kd.R_base ho0) hb);have n3_:=Aside0.mk (Kd.R_elder' (by (with_reducible repeat (first|apply Kd.R_alloc|apply Kd.R_drewN|apply Kd.R_drew));exact HO_13.out) (Kd.R_base ho0) hb);have n4_:=Aside0.mk (Kd.R_elder' (by (with_reducible repeat (first|apply Kd.R_alloc|apply Kd.R_drewN|apply Kd.R_drew));exact HO_635002.out) (Kd.R_base ho0) hb);have n5_:=Aside0.mk (Kd.R_elder' (by (with_reducible repeat (first|apply Kd.R_alloc|apply Kd.R_drewN|apply Kd.R_drew));exact HO650.out) (Kd.R_base ho0) hb);have n6_:=Aside0.mk (Kd.R_lower (Kd.R_new' (Kd.R_new' (Kd.R_new' (Kd.R_new' (Kd.R_new' (Kd.R_new' ho0 (Kd.R_lt (by (with_reducible repeat (first|apply Kd.R_alloc|apply Kd.R_drewN|apply Kd.R_drew));exact HO_8.out))) (Kd.R_lt (by (with_reducible repeat (first|apply Kd.R_alloc|apply Kd.R_drewN|apply Kd.R_drew));exact HO_11.out))) (Kd.R_lt (by (with_reducible repeat (first|apply Kd.R_alloc|apply Kd.R_drewN|apply Kd.R_drew));exact HO_12.out))) (Kd.R_lt (by (with_reducible repeat (first|apply Kd.R_alloc|apply Kd.R_drewN|apply Kd.R_drew));exact HO_13.out))) (Kd.R_lt (by (with_reducible repeat (first|apply Kd.R_alloc|apply Kd.R_drewN|apply Kd.R_drew));exact HO_635002.out))) (Kd.R_lt (by (with_reducible repeat (first|apply Kd.R_alloc|apply Kd.R_drewN|apply Kd.R_drew));exact HO650.out))) (below_size (by repeat (first|(with_reducible first|exact HB.out|apply below_alloc|apply pw_below_drewN|apply below_drew1|refine below_set ?_ GE612.out|refine below_set ?_ GE634.out)|exact HB.out))));have n7_:=Aside0.mk (blk_below (g:=gb612) (o:=.cells #[.int .i64 a0_0,.int .i64 a0_1,.slice A0_2 l0_2.length c0_2] 24 (0,0)) (by (with_reducible repeat (first|refine blk_drewN ?_ _|refine blk_drew ?_|refine blk_alloc ?_ _));exact BK612.out) hb);have n8_:=Aside0.mk (blk_below (g:=gb634) (o:=.cells #[.int .i64 t629,.int .i64 t630,.slice Ao38 t631.length co38] 28 (0,0)) (by (with_reducible repeat (first|refine blk_drewN ?_ _|refine blk_drew ?_|refine blk_alloc ?_ _));exact BK634.out) hb);have n9_:=Aside0.mk (below_step (by repeat (first|(with_reducible first|exact HB.out|apply below_alloc|apply pw_below_drewN|apply below_drew1|refine below_set ?_ GE612.out|refine below_set ?_ GE634.out)|exact HB.out)) hb);clear HO_8;clear HO_11;clear HO_12;clear HO_13;clear HO_635002;clear HO650;clear BK612;clear BK634;clear HB;have HO_8:=n0_;have HO_11:=n1_;have HO_12:=n2_;have HO_13:=n3_;have HO_635002:=n4_;have HO650:=n5_;have HO654:=n6_;have BK612:=n7_;have BK634:=n8_;have HB:=n9_;clear n0_ n1_ n2_ n3_ n4_ n5_ n6_ n7_ n8_ n9_;(try clear hb);(try clear hb2);(try clear hk);(try clear hi);(try clear ho0);obtain ⟨Ao70,co70,eo70⟩:=Kd.R_slice HO654.out;subst eo70)|((with_reducible refine gate_callee (f:=14) rfl ?_);refine goesL_ (some 71) rfl rfl Try.func14 (by kernel_rfl) rfl #[.slice Ao42 t635.length co42,.slice Ao70 t652.length co70] rfl (by (try simp only [List.map_toArray,List.map_cons,List.map_nil]);first|done|rfl|(simp only [List.length_drop,List.length_take];rfl)) ?_;(with_reducible refine (laws_eqInt64S.calls kj20 _ _ t635 _ _ t652 true _ ?side1 ?side2 ?side3 ?side4 A56.out).mono ?_);(case side1=>repeat (first|exact (Kd.R_reads' HO_11.out).2.2|(with_reducible refine Kd.C_alloc ?_ _)|(with_reducible refine Kd.C_drewN ?_ _)|(with_reducible refine Kd.C_drew ?_)));(case side2=>exact (Kd.R_reads' HO_11.out).2.1);(case side3=>repeat (first|exact (Kd.R_reads' HO654.out).2.2|(with_reducible refine Kd.C_alloc ?_ _)|(with_reducible refine Kd.C_drewN ?_ _)|(with_reducible refine Kd.C_drew ?_)));(case side4=>exact (Kd.R_reads' HO654.out).2.1);rintro e w' ⟨rfl,⟨nd,rfl⟩⟩;refine ⟨_,rfl,?_⟩)|((with_reducible refine gate_callee (f:=20) rfl ?_);refine goesL_ (some 75) rfl rfl Try.func20 (by kernel_rfl) rfl #[.slice A2 l2.length c2] rfl (by (try simp only [List.map_toArray,List.map_cons,List.map_nil]);first|done|rfl|(simp only [List.length_drop,List.length_take];rfl)) ?_;(with_reducible refine (laws_toInt64S.calls kj20 _ _ l2 t656 _ ?side1 ?side2 A58.out).mono ?_);(case side1=>repeat (first|exact (Kd.C_below HR2.out (by repeat (first|(with_reducible first|exact HB.out|apply below_alloc|apply pw_below_drewN|apply below_drew1|refine below_set ?_ GE612.out|refine below_set ?_ GE634.out)|exact HB.out)))|(with_reducible refine Kd.C_alloc ?_ _)|(with_reducible refine Kd.C_drewN ?_ _)|(with_reducible refine Kd.C_drew ?_)));(case side2=>exact HC2.out);rintro e w71 ⟨v657,rfl,ho0,hb⟩;refine ⟨_,rfl,?_⟩;have n0_:=Aside0.mk (Kd.R_elder' (by (with_reducible repeat (first|apply Kd.R_alloc|apply Kd.R_drewN|apply Kd.R_drew));exact HO_8.out) (Kd.R_base ho0) hb);have n1_:=Aside0.mk (Kd.R_elder' (by (with_reducible repeat (first|apply Kd.R_alloc|apply Kd.R_drewN|apply Kd.R_drew));exact HO_11.out) (Kd.R_base ho0) hb);have n2_:=Aside0.mk (Kd.R_elder' (by (with_reducible repeat (first|apply Kd.R_alloc|apply Kd.R_drewN|apply Kd.R_drew));exact HO_12.out) (Kd.R_base ho0) hb);have n3_:=Aside0.mk (Kd.R_elder' (by (with_reducible repeat (first|apply Kd.R_alloc|apply Kd.R_drewN|apply Kd.R_drew));exact HO_13.out) (Kd.R_base ho0) hb);have n4_:=Aside0.mk (Kd.R_elder' (by (with_reducible repeat (first|apply Kd.R_alloc|apply Kd.R_drewN|apply Kd.R_drew));exact HO_635002.out) (Kd.R_base ho0) hb);have n5_:=Aside0.mk (Kd.R_elder' (by (with_reducible repeat (first|apply Kd.R_alloc|apply Kd.R_drewN|apply Kd.R_drew));exact HO650.out) (Kd.R_base ho0) hb);have n6_:=Aside0.mk (Kd.R_elder' (by (with_reducible repeat (first|apply Kd.R_alloc|apply Kd.R_drewN|apply Kd.R_drew));exact HO654.out) (Kd.R_base ho0) hb);have n7_:=Aside0.mk (Kd.R_lower (Kd.R_new' (Kd.R_new' (Kd.R_new' (Kd.R_new' (Kd.R_new' (Kd.R_new' (Kd.R_new' ho0 (Kd.R_lt (by (with_reducible repeat (first|apply Kd.R_alloc|apply Kd.R_drewN|apply Kd.R_drew));exact HO_8.out))) (Kd.R_lt (by (with_reducible repeat (first|apply Kd.R_alloc|apply Kd.R_drewN|apply Kd.R_drew));exact HO_11.out))) (Kd.R_lt (by (with_reducible repeat (first|apply Kd.R_alloc|apply Kd.R_drewN|apply Kd.R_drew));exact HO_12.out))) (Kd.R_lt (by (with_reducible repeat (first|apply Kd.R_alloc|apply Kd.R_drewN|apply Kd.R_drew));exact HO_13.out))) (Kd.R_lt (by (with_reducible repeat (first|apply Kd.R_alloc|apply Kd.R_drewN|apply Kd.R_drew));exact HO_635002.out))) (Kd.R_lt (by (with_reducible repeat (first|apply Kd.R_alloc|apply Kd.R_drewN|apply Kd.R_drew));exact HO650.out))) (Kd.R_lt (by (with_reducible repeat (first|apply Kd.R_alloc|apply Kd.R_drewN|apply Kd.R_drew));exact HO654.out))) (below_size (by repeat (first|(with_reducible first|exact HB.out|apply below_alloc|apply pw_below_drewN|apply below_drew1|refine below_set ?_ GE612.out|refine below_set ?_ GE634.out)|exact HB.out))));have n8_:=Aside0.mk (blk_below (g:=gb612) (o:=.cells #[.int .i64 a0_0,.int .i64 a0_1,.slice A0_2 l0_2.length c0_2] 24 (0,0)) (by (with_reducible repeat (first|refine blk_drewN ?_ _|refine blk_drew ?_|refine blk_alloc ?_ _));exact BK612.out) hb);have n9_:=Aside0.mk (blk_below (g:=gb634) (o:=.cells #[.int .i64 t629,.int .i64 t630,.slice Ao38 t631.length co38] 28 (0,0)) (by (with_reducible repeat (first|refine blk_drewN ?_ _|refine blk_drew ?_|refine blk_alloc ?_ _));exact BK634.out) hb);have n10_:=Aside0.mk (below_step (by repeat (first|(with_reducible first|exact HB.out|apply below_alloc|apply pw_below_drewN|apply below_drew1|refine below_set ?_ GE612.out|refine below_set ?_ GE634.out)|exact HB.out)) hb);clear HO_8;clear HO_11;clear HO_12;clear HO_13;clear HO_635002;clear HO650;clear HO654;clear BK612;clear BK634;clear HB;have HO_8:=n0_;have HO_11:=n1_;have HO_12:=n2_;have HO_13:=n3_;have HO_635002:=n4_;have HO650:=n5_;have HO654:=n6_;have HO658:=n7_;have BK612:=n8_;have BK634:=n9_;have HB:=n10_;clear n0_ n1_ n2_ n3_ n4_ n5_ n6_ n7_ n8_ n9_ n10_;(try clear hb);(try clear hb2);(try clear hk);(try clear hi);(try clear ho0);obtain ⟨Ao72,co72,eo72⟩:=Kd.R_slice HO658.out;subst eo72)|((with_reducible refine gate_callee (f:=14) rfl ?_);refine goesL_ (some 76) rfl rfl Try.func14 (by kernel_rfl) rfl #[.slice Ao43 t638.length co43,.slice Ao72 t656.length co72] rfl (by (try simp only [List.map_toArray,List.map_cons,List.map_nil]);first|done|rfl|(simp only [List.length_drop,List.length_take];rfl)) ?_;(with_reducible refine (laws_eqInt64S.calls kj20 _ _ t638 _ _ t656 true _ ?side1 ?side2 ?side3 ?side4 A59.out).mono ?_);(case side1=>repeat (first|exact (Kd.R_reads' HO_12.out).2.2|(with_reducible refine Kd.C_alloc ?_ _)|(with_reducible refine Kd.C_drewN ?_ _)|(with_reducible refine Kd.C_drew ?_)));(case side2=>exact (Kd.R_reads' HO_12.out).2.1);(case side3=>repeat (first|exact (Kd.R_reads' HO658.out).2.2|(with_reducible refine Kd.C_alloc ?_ _)|(with_reducible refine Kd.C_drewN ?_ _)|(with_reducible refine Kd.C_drew ?_)));(case side4=>exact (Kd.R_reads' HO658.out).2.1);rintro e w' ⟨rfl,⟨nd,rfl⟩⟩;refine ⟨_,rfl,?_⟩;have hnb73:=NB634_612.out;have hnc73:=NB612_634.out;have hcz74_0 : w71.cell? ⟨gb634,0,none⟩ = some (.int .i64 t629):=(blk_cell BK634.out 0).trans rfl;have hcz74_1 : w71.cell? ⟨gb634,1,none⟩ = some (.int .i64 t630):=(blk_cell BK634.out 1).trans rfl;have hcz74_2 : w71.cell? ⟨gb634,2,none⟩ = some (.slice Ao38 t631.length co38):=(blk_cell BK634.out 2).trans rfl;have hfz74_0:=blk_frozen BK634.out 0;have hfz74_1:=blk_frozen BK634.out 1;have hfz74_2:=blk_frozen BK634.out 2)|((with_reducible refine gate_callee (f:=16) rfl ?_);refine goesL_ (some 80) rfl rfl Try.func16 (by kernel_rfl) rfl #[.agg #[.int .i64 t629,.int .i64 t630,.slice Ao38 t631.length co38],.int .i64 1] rfl (by (try simp only [List.map_toArray,List.map_cons,List.map_nil]);first|done|rfl|(simp only [List.length_drop,List.length_take];rfl)) ?_;(with_reducible refine (laws_markSea.calls kj20 t629 t630 (fun k_=>some k_ = (.slice Ao38 t631.length co38 : Value).ownBlock) (.slice Ao38 t631.length co38) t631 1 t660 t661 w _ ?side1 ?side2 A61.out).mono ?_);(case side1=>repeat (first|(with_reducible first|exact HB.out|apply below_alloc|apply pw_below_drewN|apply below_drew1|refine below_set ?_ GE612.out|refine below_set ?_ GE634.out)|exact HB.out));(case side2=>exact Kd.R_tight rfl HO_635002.out);rintro e w75 ⟨rfl,hy0,hb,hkp⟩;refine ⟨_,rfl,?_⟩;have n0_:=Aside0.mk (Kd.R_mono (ok':=fun k_=>some k_ ≠ (.slice Ao42 t635.length co42 : Value).ownBlock ∧ some k_ ≠ (.slice Ao43 t638.length co43 : Value).ownBlock ∧ some k_ ≠ (v642 : Value).ownBlock ∧ some k_ ≠ (.slice Ao38 t631.length co38 : Value).ownBlock ∧ some k_ ≠ (.slice Ao67 t648.length co67 : Value).ownBlock ∧ some k_ ≠ (.slice Ao70 t652.length co70 : Value).ownBlock ∧ some k_ ≠ (.slice Ao72 t656.length co72 : Value).ownBlock) (Kd.R_keptB (HO_8.out) hkp (fun k_ hk_ hs_=>(hk_.1.1.1.2.2.2) hs_)) (fun k_ hk_=>⟨hk_.1.1.1.1.1,hk_.1.1.1.1.2.1,hk_.1.1.1.1.2.2.1,hk_.1.1.1.1.2.2.2,hk_.1.1.1.2,hk_.1.1.2,hk_.1.2⟩));have n1_:=Aside0.mk (Kd.R_mono (ok':=fun k_=>some k_ ≠ (v626 : Value).ownBlock ∧ some k_ ≠ (.slice Ao43 t638.length co43 : Value).ownBlock ∧ some k_ ≠ (v642 : Value).ownBlock ∧ some k_ ≠ (.slice Ao38 t631.length co38 : Value).ownBlock ∧ some k_ ≠ (.slice Ao67 t648.length co67 : Value).ownBlock ∧ some k_ ≠ (.slice Ao70 t652.length co70 : Value).ownBlock ∧ some k_ ≠ (.slice Ao72 t656.length co72 : Value).ownBlock) (Kd.R_keptB (HO_11.out) hkp (fun k_ hk_ hs_=>(hk_.1.1.1.2.2.2) hs_)) (fun k_ hk_=>⟨hk_.1.1.1.1.1,hk_.1.1.1.1.2.1,hk_.1.1.1.1.2.2.1,hk_.1.1.1.1.2.2.2,hk_.1.1.1.2,hk_.1.1.2,hk_.1.2⟩));have n2_:=Aside0.mk (Kd.R_mono (ok':=fun k_=>some k_ ≠ (v626 : Value).ownBlock ∧ some k_ ≠ (.slice Ao42 t635.length co42 : Value).ownBlock ∧ some k_ ≠ (v642 : Value).ownBlock ∧ some k_ ≠ (.slice Ao38 t631.length co38 : Value).ownBlock ∧ some k_ ≠ (.slice Ao67 t648.length co67 : Value).ownBlock ∧ some k_ ≠ (.slice Ao70 t652.length co70 : Value).ownBlock ∧ some k_ ≠ (.slice Ao72 t656.length co72 : Value).ownBlock) (Kd.R_keptB (HO_12.out) hkp (fun k_ hk_ hs_=>(hk_.1.1.1.2.2.2) hs_)) (fun k_ hk_=>⟨hk_.1.1.1.1.1,hk_.1.1.1.1.2.1,hk_.1.1.1.1.2.2.1,hk_.1.1.1.1.2.2.2,hk_.1.1.1.2,hk_.1.1.2,hk_.1.2⟩));have n3_:=Aside0.mk (Kd.R_mono (ok':=fun k_=>some k_ ≠ (v626 : Value).ownBlock ∧ some k_ ≠ (.slice Ao42 t635.length co42 : Value).ownBlock ∧ some k_ ≠ (.slice Ao43 t638.length co43 : Value).ownBlock ∧ some k_ ≠ (.slice Ao38 t631.length co38 : Value).ownBlock ∧ some k_ ≠ (.slice Ao67 t648.length co67 : Value).ownBlock ∧ some k_ ≠ (.slice Ao70 t652.length co70 : Value).ownBlock ∧ some k_ ≠ (.slice Ao72 t656.length co72 : Value).ownBlock) (Kd.R_keptB (HO_13.out) hkp (fun k_ hk_ hs_=>(hk_.1.1.1.2.2.2) hs_)) (fun k_ hk_=>⟨hk_.1.1.1.1.1,hk_.1.1.1.1.2.1,hk_.1.1.1.1.2.2.1,hk_.1.1.1.1.2.2.2,hk_.1.1.1.2,hk_.1.1.2,hk_.1.2⟩));have n4_:=Aside0.mk (Kd.R_reok rfl hy0 (fun k_ e_=>HO_635002.out.1 k_ e_));have n5_:=Aside0.mk (blk_kept (by (with_reducible repeat (first|refine blk_drewN ?_ _|refine blk_drew ?_|refine blk_alloc ?_ _));exact BK612.out) hkp (fun hs_=>(fun e_=>(Kd.R_ne HO_635002.out BK612.out (by decide)) e_) hs_));have n6_:=Aside0.mk (blk_kept (by (with_reducible repeat (first|refine blk_drewN ?_ _|refine blk_drew ?_|refine blk_alloc ?_ _));exact BK634.out) hkp (fun hs_=>(fun e_=>(Kd.R_ne HO_635002.out BK634.out (by decide)) e_) hs_));have n7_:=Aside0.mk (Kd.R_mono (ok':=fun k_=>some k_ ≠ (v626 : Value).ownBlock ∧ some k_ ≠ (.slice Ao42 t635.length co42 : Value).ownBlock ∧ some k_ ≠ (.slice Ao43 t638.length co43 : Value).ownBlock ∧ some k_ ≠ (v642 : Value).ownBlock ∧ some k_ ≠ (.slice Ao38 t631.length co38 : Value).ownBlock ∧ some k_ ≠ (.slice Ao70 t652.length co70 : Value).ownBlock ∧ some k_ ≠ (.slice Ao72 t656.length co72 : Value).ownBlock) (Kd.R_keptB (HO650.out) hkp (fun k_ hk_ hs_=>(hk_.1.1.2) hs_)) (fun k_ hk_=>⟨hk_.1.1.1.1.1.1.1.2,hk_.1.1.1.1.1.1.2,hk_.1.1.1.1.1.2,hk_.1.1.1.1.2,hk_.1.1.1.2,hk_.1.1.2,hk_.1.2⟩));have n8_:=Aside0.mk (Kd.R_mono (ok':=fun k_=>some k_ ≠ (v626 : Value).ownBlock ∧ some k_ ≠ (.slice Ao42 t635.length co42 : Value).ownBlock ∧ some k_ ≠ (.slice Ao43 t638.length co43 : Value).ownBlock ∧ some k_ ≠ (v642 : Value).ownBlock ∧ some k_ ≠ (.slice Ao38 t631.length co38 : Value).ownBlock ∧ some k_ ≠ (.slice Ao67 t648.length co67 : Value).ownBlock ∧ some k_ ≠ (.slice Ao72 t656.length co72 : Value).ownBlock) (Kd.R_keptB (HO654.out) hkp (fun k_ hk_ hs_=>(hk_.1.1.2) hs_)) (fun k_ hk_=>⟨hk_.1.1.1.1.1.1.1.2,hk_.1.1.1.1.1.1.2,hk_.1.1.1.1.1.2,hk_.1.1.1.1.2,hk_.1.1.1.2,hk_.1.1.2,hk_.1.2⟩));have n9_:=Aside0.mk (Kd.R_mono (ok':=fun k_=>some k_ ≠ (v626 : Value).ownBlock ∧ some k_ ≠ (.slice Ao42 t635.length co42 : Value).ownBlock ∧ some k_ ≠ (.slice Ao43 t638.length co43 : Value).ownBlock ∧ some k_ ≠ (v642 : Value).ownBlock ∧ some k_ ≠ (.slice Ao38 t631.length co38 : Value).ownBlock ∧ some k_ ≠ (.slice Ao67 t648.length co67 : Value).ownBlock ∧ some k_ ≠ (.slice Ao70 t652.length co70 : Value).ownBlock) (Kd.R_keptB (HO658.out) hkp (fun k_ hk_ hs_=>(hk_.1.1.2) hs_)) (fun k_ hk_=>⟨hk_.1.1.1.1.1.1.1.2,hk_.1.1.1.1.1.1.2,hk_.1.1.1.1.1.2,hk_.1.1.1.1.2,hk_.1.1.1.2,hk_.1.1.2,hk_.1.2⟩));have n10_:=Aside0.mk (hb);clear HO_8;clear HO_11;clear HO_12;clear HO_13;clear HO_635002;clear BK612;clear BK634;clear HO650;clear HO654;clear HO658;clear HB;have HO_8:=n0_;have HO_11:=n1_;have HO_12:=n2_;have HO_13:=n3_;have HO_635002:=n4_;have BK612:=n5_;have BK634:=n6_;have HO650:=n7_;have HO654:=n8_;have HO658:=n9_;have HB:=n10_;clear n0_ n1_ n2_ n3_ n4_ n5_ n6_ n7_ n8_ n9_ n10_;(try clear hb);(try clear hkp);(try clear hy0))|((with_reducible refine gate_callee (f:=17) rfl ?_);refine goesL_ (some 83) rfl rfl Try.func17 (by kernel_rfl) rfl #[.slice Ao42 t635.length co42,.int .i64 t660] rfl (by (try simp only [List.map_toArray,List.map_cons,List.map_nil]);first|done|rfl|(simp only [List.length_drop,List.length_take];rfl)) ?_;(with_reducible refine (laws_markInt64S.calls kj20 (fun k_=>some k_ = (.slice Ao42 t635.length co42 : Value).ownBlock) (.slice Ao42 t635.length co42) t635 t660 t662 t663 w _ ?side1 ?side2 A62.out).mono ?_);(case side1=>repeat (first|(with_reducible first|exact HB.out|apply below_alloc|apply pw_below_drewN|apply below_drew1|refine below_set ?_ GE612.out|refine below_set ?_ GE634.out)|exact HB.out));(case side2=>exact Kd.R_tight rfl HO_11.out);rintro e w76 ⟨rfl,hy0,hb,hkp⟩;refine ⟨_,rfl,?_⟩;have n0_:=Aside0.mk (Kd.R_mono (ok':=fun k_=>some k_ ≠ (.slice Ao42 t635.length co42 : Value).ownBlock ∧ some k_ ≠ (.slice Ao43 t638.length co43 : Value).ownBlock ∧ some k_ ≠ (v642 : Value).ownBlock ∧ some k_ ≠ (.slice Ao38 t631.length co38 : Value).ownBlock ∧ some k_ ≠ (.slice Ao67 t648.length co67 : Value).ownBlock ∧ some k_ ≠ (.slice Ao70 t652.length co70 : Value).ownBlock ∧ some k_ ≠ (.slice Ao72 t656.length co72 : Value).ownBlock) (Kd.R_keptB (HO_8.out) hkp (fun k_ hk_ hs_=>(hk_.1) hs_)) (fun k_ hk_=>⟨hk_.1.1,hk_.1.2.1,hk_.1.2.2.1,hk_.1.2.2.2.1,hk_.1.2.2.2.2.1,hk_.1.2.2.2.2.2.1,hk_.1.2.2.2.2.2.2⟩));have n1_:=Aside0.mk (Kd.R_reok rfl hy0 (fun k_ e_=>HO_11.out.1 k_ e_));have n2_:=Aside0.mk (Kd.R_mono (ok':=fun k_=>some k_ ≠ (v626 : Value).ownBlock ∧ some k_ ≠ (.slice Ao42 t635.length co42 : Value).ownBlock ∧ some k_ ≠ (v642 : Value).ownBlock ∧ some k_ ≠ (.slice Ao38 t631.length co38 : Value).ownBlock ∧ some k_ ≠ (.slice Ao67 t648.length co67 : Value).ownBlock ∧ some k_ ≠ (.slice Ao70 t652.length co70 : Value).ownBlock ∧ some k_ ≠ (.slice Ao72 t656.length co72 : Value).ownBlock) (Kd.R_keptB (HO_12.out) hkp (fun k_ hk_ hs_=>(hk_.2.1) hs_)) (fun k_ hk_=>⟨hk_.1.1,hk_.1.2.1,hk_.1.2.2.1,hk_.1.2.2.2.1,hk_.1.2.2.2.2.1,hk_.1.2.2.2.2.2.1,hk_.1.2.2.2.2.2.2⟩));have n3_:=Aside0.mk (Kd.R_mono (ok':=fun k_=>some k_ ≠ (v626 : Value).ownBlock ∧ some k_ ≠ (.slice Ao42 t635.length co42 : Value).ownBlock ∧ some k_ ≠ (.slice Ao43 t638.length co43 : Value).ownBlock ∧ some k_ ≠ (.slice Ao38 t631.length co38 : Value).ownBlock ∧ some k_ ≠ (.slice Ao67 t648.length co67 : Value).ownBlock ∧ some k_ ≠ (.slice Ao70 t652.length co70 : Value).ownBlock ∧ some k_ ≠ (.slice Ao72 t656.length co72 : Value).ownBlock) (Kd.R_keptB (HO_13.out) hkp (fun k_ hk_ hs_=>(hk_.2.1) hs_)) (fun k_ hk_=>⟨hk_.1.1,hk_.1.2.1,hk_.1.2.2.1,hk_.1.2.2.2.1,hk_.1.2.2.2.2.1,hk_.1.2.2.2.2.2.1,hk_.1.2.2.2.2.2.2⟩));have n4_:=Aside0.mk (Kd.R_mono (ok':=fun k_=>some k_ ≠ (v626 : Value).ownBlock ∧ some k_ ≠ (.slice Ao42 t635.length co42 : Value).ownBlock ∧ some k_ ≠ (.slice Ao43 t638.length co43 : Value).ownBlock ∧ some k_ ≠ (v642 : Value).ownBlock ∧ some k_ ≠ (.slice Ao67 t648.length co67 : Value).ownBlock ∧ some k_ ≠ (.slice Ao70 t652.length co70 : Value).ownBlock ∧ some k_ ≠ (.slice Ao72 t656.length co72 : Value).ownBlock) (Kd.R_keptB (HO_635002.out) hkp (fun k_ hk_ hs_=>(hk_.1.1.1.2.1) hs_)) (fun k_ hk_=>⟨hk_.1.1.1.1.1,hk_.1.1.1.1.2.1,hk_.1.1.1.1.2.2.1,hk_.1.1.1.1.2.2.2,hk_.1.1.1.2,hk_.1.1.2,hk_.1.2⟩));have n5_:=Aside0.mk (blk_kept (by (with_reducible repeat (first|refine blk_drewN ?_ _|refine blk_drew ?_|refine blk_alloc ?_ _));exact BK612.out) hkp (fun hs_=>(fun e_=>(Kd.R_ne HO_11.out BK612.out (by decide)) e_) hs_));have n6_:=Aside0.mk (blk_kept (by (with_reducible repeat (first|refine blk_drewN ?_ _|refine blk_drew ?_|refine blk_alloc ?_ _));exact BK634.out) hkp (fun hs_=>(fun e_=>(Kd.R_ne HO_11.out BK634.out (by decide)) e_) hs_));have n7_:=Aside0.mk (Kd.R_mono (ok':=fun k_=>some k_ ≠ (v626 : Value).ownBlock ∧ some k_ ≠ (.slice Ao42 t635.length co42 : Value).ownBlock ∧ some k_ ≠ (.slice Ao43 t638.length co43 : Value).ownBlock ∧ some k_ ≠ (v642 : Value).ownBlock ∧ some k_ ≠ (.slice Ao38 t631.length co38 : Value).ownBlock ∧ some k_ ≠ (.slice Ao70 t652.length co70 : Value).ownBlock ∧ some k_ ≠ (.slice Ao72 t656.length co72 : Value).ownBlock) (Kd.R_keptB (HO650.out) hkp (fun k_ hk_ hs_=>(hk_.2.1) hs_)) (fun k_ hk_=>⟨hk_.1.1,hk_.1.2.1,hk_.1.2.2.1,hk_.1.2.2.2.1,hk_.1.2.2.2.2.1,hk_.1.2.2.2.2.2.1,hk_.1.2.2.2.2.2.2⟩));have n8_:=Aside0.mk (Kd.R_mono (ok':=fun k_=>some k_ ≠ (v626 : Value).ownBlock ∧ some k_ ≠ (.slice Ao42 t635.length co42 : Value).ownBlock ∧ some k_ ≠ (.slice Ao43 t638.length co43 : Value).ownBlock ∧ some k_ ≠ (v642 : Value).ownBlock ∧ some k_ ≠ (.slice Ao38 t631.length co38 : Value).ownBlock ∧ some k_ ≠ (.slice Ao67 t648.length co67 : Value).ownBlock ∧ some k_ ≠ (.slice Ao72 t656.length co72 : Value).ownBlock) (Kd.R_keptB (HO654.out) hkp (fun k_ hk_ hs_=>(hk_.2.1) hs_)) (fun k_ hk_=>⟨hk_.1.1,hk_.1.2.1,hk_.1.2.2.1,hk_.1.2.2.2.1,hk_.1.2.2.2.2.1,hk_.1.2.2.2.2.2.1,hk_.1.2.2.2.2.2.2⟩));have n9_:=Aside0.mk (Kd.R_mono (ok':=fun k_=>some k_ ≠ (v626 : Value).ownBlock ∧ some k_ ≠ (.slice Ao42 t635.length co42 : Value).ownBlock ∧ some k_ ≠ (.slice Ao43 t638.length co43 : Value).ownBlock ∧ some k_ ≠ (v642 : Value).ownBlock ∧ some k_ ≠ (.slice Ao38 t631.length co38 : Value).ownBlock ∧ some k_ ≠ (.slice Ao67 t648.length co67 : Value).ownBlock ∧ some k_ ≠ (.slice Ao70 t652.length co70 : Value).ownBlock) (Kd.R_keptB (HO658.out) hkp (fun k_ hk_ hs_=>(hk_.2.1) hs_)) (fun k_ hk_=>⟨hk_.1.1,hk_.1.2.1,hk_.1.2.2.1,hk_.1.2.2.2.1,hk_.1.2.2.2.2.1,hk_.1.2.2.2.2.2.1,hk_.1.2.2.2.2.2.2⟩));have n10_:=Aside0.mk (hb);clear HO_8;clear HO_11;clear HO_12;clear HO_13;clear HO_635002;clear BK612;clear BK634;clear HO650;clear HO654;clear HO658;clear HB;have HO_8:=n0_;have HO_11:=n1_;have HO_12:=n2_;have HO_13:=n3_;have HO_635002:=n4_;have BK612:=n5_;have BK634:=n6_;have HO650:=n7_;have HO654:=n8_;have HO658:=n9_;have HB:=n10_;clear n0_ n1_ n2_ n3_ n4_ n5_ n6_ n7_ n8_ n9_ n10_;(try clear hb);(try clear hkp);(try clear hy0))|((with_reducible refine gate_callee (f:=17) rfl ?_);refine goesL_ (some 86) rfl rfl Try.func17 (by kernel_rfl) rfl #[.slice Ao43 t638.length co43,.int .i64 t662] rfl (by (try simp only [List.map_toArray,List.map_cons,List.map_nil]);first|done|rfl|(simp only [List.length_drop,List.length_take];rfl)) ?_;(with_reducible refine (laws_markInt64S.calls kj20 (fun k_=>some k_ = (.slice Ao43 t638.length co43 : Value).ownBlock) (.slice Ao43 t638.length co43) t638 t662 t664 t665 w _ ?side1 ?side2 A63.out).mono ?_);(case side1=>repeat (first|(with_reducible first|exact HB.out|apply below_alloc|apply pw_below_drewN|apply below_drew1|refine below_set ?_ GE612.out|refine below_set ?_ GE634.out)|exact HB.out));(case side2=>exact Kd.R_tight rfl HO_12.out);rintro e w77 ⟨rfl,hy0,hb,hkp⟩;refine ⟨_,rfl,?_⟩;have n0_:=Aside0.mk (Kd.R_mono (ok':=fun k_=>some k_ ≠ (.slice Ao42 t635.length co42 : Value).ownBlock ∧ some k_ ≠ (.slice Ao43 t638.length co43 : Value).ownBlock ∧ some k_ ≠ (v642 : Value).ownBlock ∧ some k_ ≠ (.slice Ao38 t631.length co38 : Value).ownBlock ∧ some k_ ≠ (.slice Ao67 t648.length co67 : Value).ownBlock ∧ some k_ ≠ (.slice Ao70 t652.length co70 : Value).ownBlock ∧ some k_ ≠ (.slice Ao72 t656.length co72 : Value).ownBlock) (Kd.R_keptB (HO_8.out) hkp (fun k_ hk_ hs_=>(hk_.2.1) hs_)) (fun k_ hk_=>⟨hk_.1.1,hk_.1.2.1,hk_.1.2.2.1,hk_.1.2.2.2.1,hk_.1.2.2.2.2.1,hk_.1.2.2.2.2.2.1,hk_.1.2.2.2.2.2.2⟩));have n1_:=Aside0.mk (Kd.R_mono (ok':=fun k_=>some k_ ≠ (v626 : Value).ownBlock ∧ some k_ ≠ (.slice Ao43 t638.length co43 : Value).ownBlock ∧ some k_ ≠ (v642 : Value).ownBlock ∧ some k_ ≠ (.slice Ao38 t631.length co38 : Value).ownBlock ∧ some k_ ≠ (.slice Ao67 t648.length co67 : Value).ownBlock ∧ some k_ ≠ (.slice Ao70 t652.length co70 : Value).ownBlock ∧ some k_ ≠ (.slice Ao72 t656.length co72 : Value).ownBlock) (Kd.R_keptB (HO_11.out) hkp (fun k_ hk_ hs_=>(hk_.2.1) hs_)) (fun k_ hk_=>⟨hk_.1.1,hk_.1.2.1,hk_.1.2.2.1,hk_.1.2.2.2.1,hk_.1.2.2.2.2.1,hk_.1.2.2.2.2.2.1,hk_.1.2.2.2.2.2.2⟩));have n2_:=Aside0.mk (Kd.R_reok rfl hy0 (fun k_ e_=>HO_12.out.1 k_ e_));have n3_:=Aside0.mk (Kd.R_mono (ok':=fun k_=>some k_ ≠ (v626 : Value).ownBlock ∧ some k_ ≠ (.slice Ao42 t635.length co42 : Value).ownBlock ∧ some k_ ≠ (.slice Ao43 t638.length co43 : Value).ownBlock ∧ some k_ ≠ (.slice Ao38 t631.length co38 : Value).ownBlock ∧ some k_ ≠ (.slice Ao67 t648.length co67 : Value).ownBlock ∧ some k_ ≠ (.slice Ao70 t652.length co70 : Value).ownBlock ∧ some k_ ≠ (.slice Ao72 t656.length co72 : Value).ownBlock) (Kd.R_keptB (HO_13.out) hkp (fun k_ hk_ hs_=>(hk_.2.2.1) hs_)) (fun k_ hk_=>⟨hk_.1.1,hk_.1.2.1,hk_.1.2.2.1,hk_.1.2.2.2.1,hk_.1.2.2.2.2.1,hk_.1.2.2.2.2.2.1,hk_.1.2.2.2.2.2.2⟩));have n4_:=Aside0.mk (Kd.R_mono (ok':=fun k_=>some k_ ≠ (v626 : Value).ownBlock ∧ some k_ ≠ (.slice Ao42 t635.length co42 : Value).ownBlock ∧ some k_ ≠ (.slice Ao43 t638.length co43 : Value).ownBlock ∧ some k_ ≠ (v642 : Value).ownBlock ∧ some k_ ≠ (.slice Ao67 t648.length co67 : Value).ownBlock ∧ some k_ ≠ (.slice Ao70 t652.length co70 : Value).ownBlock ∧ some k_ ≠ (.slice Ao72 t656.length co72 : Value).ownBlock) (Kd.R_keptB (HO_635002.out) hkp (fun k_ hk_ hs_=>(hk_.2.2.1) hs_)) (fun k_ hk_=>⟨hk_.1.1,hk_.1.2.1,hk_.1.2.2.1,hk_.1.2.2.2.1,hk_.1.2.2.2.2.1,hk_.1.2.2.2.2.2.1,hk_.1.2.2.2.2.2.2⟩));have n5_:=Aside0.mk (blk_kept (by (with_reducible repeat (first|refine blk_drewN ?_ _|refine blk_drew ?_|refine blk_alloc ?_ _));exact BK612.out) hkp (fun hs_=>(fun e_=>(Kd.R_ne HO_12.out BK612.out (by decide)) e_) hs_));have n6_:=Aside0.mk (blk_kept (by (with_reducible repeat (first|refine blk_drewN ?_ _|refine blk_drew ?_|refine blk_alloc ?_ _));exact BK634.out) hkp (fun hs_=>(fun e_=>(Kd.R_ne HO_12.out BK634.out (by decide)) e_) hs_));have n7_:=Aside0.mk (Kd.R_mono (ok':=fun k_=>some k_ ≠ (v626 : Value).ownBlock ∧ some k_ ≠ (.slice Ao42 t635.length co42 : Value).ownBlock ∧ some k_ ≠ (.slice Ao43 t638.length co43 : Value).ownBlock ∧ some k_ ≠ (v642 : Value).ownBlock ∧ some k_ ≠ (.slice Ao38 t631.length co38 : Value).ownBlock ∧ some k_ ≠ (.slice Ao70 t652.length co70 : Value).ownBlock ∧ some k_ ≠ (.slice Ao72 t656.length co72 : Value).ownBlock) (Kd.R_keptB (HO650.out) hkp (fun k_ hk_ hs_=>(hk_.2.2.1) hs_)) (fun k_ hk_=>⟨hk_.1.1,hk_.1.2.1,hk_.1.2.2.1,hk_.1.2.2.2.1,hk_.1.2.2.2.2.1,hk_.1.2.2.2.2.2.1,hk_.1.2.2.2.2.2.2⟩));have n8_:=Aside0.mk (Kd.R_mono (ok':=fun k_=>some k_ ≠ (v626 : Value).ownBlock ∧ some k_ ≠ (.slice Ao42 t635.length co42 : Value).ownBlock ∧ some k_ ≠ (.slice Ao43 t638.length co43 : Value).ownBlock ∧ some k_ ≠ (v642 : Value).ownBlock ∧ some k_ ≠ (.slice Ao38 t631.length co38 : Value).ownBlock ∧ some k_ ≠ (.slice Ao67 t648.length co67 : Value).ownBlock ∧ some k_ ≠ (.slice Ao72 t656.length co72 : Value).ownBlock) (Kd.R_keptB (HO654.out) hkp (fun k_ hk_ hs_=>(hk_.2.2.1) hs_)) (fun k_ hk_=>⟨hk_.1.1,hk_.1.2.1,hk_.1.2.2.1,hk_.1.2.2.2.1,hk_.1.2.2.2.2.1,hk_.1.2.2.2.2.2.1,hk_.1.2.2.2.2.2.2⟩));have n9_:=Aside0.mk (Kd.R_mono (ok':=fun k_=>some k_ ≠ (v626 : Value).ownBlock ∧ some k_ ≠ (.slice Ao42 t635.length co42 : Value).ownBlock ∧ some k_ ≠ (.slice Ao43 t638.length co43 : Value).ownBlock ∧ some k_ ≠ (v642 : Value).ownBlock ∧ some k_ ≠ (.slice Ao38 t631.length co38 : Value).ownBlock ∧ some k_ ≠ (.slice Ao67 t648.length co67 : Value).ownBlock ∧ some k_ ≠ (.slice Ao70 t652.length co70 : Value).ownBlock) (Kd.R_keptB (HO658.out) hkp (fun k_ hk_ hs_=>(hk_.2.2.1) hs_)) (fun k_ hk_=>⟨hk_.1.1,hk_.1.2.1,hk_.1.2.2.1,hk_.1.2.2.2.1,hk_.1.2.2.2.2.1,hk_.1.2.2.2.2.2.1,hk_.1.2.2.2.2.2.2⟩));have n10_:=Aside0.mk (hb);clear HO_8;clear HO_11;clear HO_12;clear HO_13;clear HO_635002;clear BK612;clear BK634;clear HO650;clear HO654;clear HO658;clear HB;have HO_8:=n0_;have HO_11:=n1_;have HO_12:=n2_;have HO_13:=n3_;have HO_635002:=n4_;have BK612:=n5_;have BK634:=n6_;have HO650:=n7_;have HO654:=n8_;have HO658:=n9_;have HB:=n10_;clear n0_ n1_ n2_ n3_ n4_ n5_ n6_ n7_ n8_ n9_ n10_;(try clear hb);(try clear hkp);(try clear hy0)))
          (try simp only [Act.put,List.setIfInBounds_toArray,List.set_cons_zero,List.set_cons_succ])
          go_cut [99] (fun v99 wc=>∃ (kq : Nat) (x99_63 : Bool),v99 = .bool x99_63 ∧ Aside0 (laws_FnExactAnswersOf.j1 kq l1 l2 t625 t628 t641 x99_63 a0_0 a0_1 l0_2 = some r) ∧ Aside0 (kq ≤ kj20) ∧ Aside0 (Kd.R (Kd.int .i64) 2 wc w.heap.size (fun k_=>some k_ ≠ (v642 : Value).ownBlock ∧ some k_ ≠ ((.slice Ao38 t631.length co38) : Value).ownBlock) v626 t625) ∧ Aside0 (Kd.R (Kd.int .i64) 2 wc w.heap.size (fun k_=>some k_ ≠ (v626 : Value).ownBlock ∧ some k_ ≠ ((.slice Ao38 t631.length co38) : Value).ownBlock) v642 t641) ∧ Aside0 (Kd.R (Kd.int .i64) 2 wc w.heap.size (fun k_=>some k_ ≠ (v626 : Value).ownBlock ∧ some k_ ≠ (v642 : Value).ownBlock) (.slice Ao38 t631.length co38) t661) ∧ Aside0 (wc.heap[gb612]? = some (.cells #[.int .i64 a0_0,.int .i64 a0_1,(.slice A0_2 l0_2.length c0_2)] 24 (0,0))) ∧ Aside0 (wc.heap[gb634]? = some (.cells #[.int .i64 t629,.int .i64 t630,(.slice Ao38 t631.length co38)] 28 (0,0))) ∧ Aside0 (Below w.heap.size w wc))
          case first =>
           have H:=HC64.out
           clear HC64
           by_cases c78 : t664 < 0
           ·rw [if_pos c78] at H
            have c78b0 : decide (t664 < 0) = true:=decide_eq_true c78
            clear c78
            (first|rw [c78b0]|(simp only [i64_w,i32_w];rw [c78b0])|skip)
            have H':=Aside0.mk H
            clear H
            go_wp2
            go_meet
            case rel=>exact ⟨_,(true),(by first|rfl|(simp;done)|(simp [*];done)),H',⟨by have:=HJ20.out;first|omega|exact Nat.le_refl _⟩,⟨by (with_reducible repeat (first|apply Kd.R_alloc|apply Kd.R_drewN|apply Kd.R_drew));exact Kd.R_mono HO_8.out (fun _ hk=>⟨hk.2.2.1,hk.2.2.2.1⟩)⟩,⟨by (with_reducible repeat (first|apply Kd.R_alloc|apply Kd.R_drewN|apply Kd.R_drew));exact Kd.R_mono HO_13.out (fun _ hk=>⟨hk.1,hk.2.2.2.1⟩)⟩,⟨by (with_reducible repeat (first|apply Kd.R_alloc|apply Kd.R_drewN|apply Kd.R_drew));exact Kd.R_mono HO_635002.out (fun _ hk=>⟨hk.1,hk.2.2.2.1⟩)⟩,⟨by (with_reducible repeat (first|refine blk_drewN ?_ _|refine blk_drew ?_|refine blk_alloc ?_ _));exact BK612.out⟩,⟨by (with_reducible repeat (first|refine blk_drewN ?_ _|refine blk_drew ?_|refine blk_alloc ?_ _));exact BK634.out⟩,⟨by repeat (first|(with_reducible first|exact HB.out|apply below_alloc|apply pw_below_drewN|apply below_drew1|refine below_set ?_ GE612.out|refine below_set ?_ GE634.out)|exact HB.out)⟩⟩
           ·rw [if_neg c78] at H
            have c78b0 : decide (t664 < 0) = false:=decide_eq_false c78
            clear c78
            (first|rw [c78b0]|(simp only [i64_w,i32_w];rw [c78b0])|skip)
            replace H:=Option.bind_eq_some_iff.mp H
            obtain ⟨t666,A790,H⟩:=H
            replace H : (if t666 = true then (laws_FnExactAnswersOf.j1 kj20 l1 l2 t625 t628 t641 (t644 != t628) a0_0 a0_1 l0_2) else (laws_FnExactAnswersOf.j1 kj20 l1 l2 t625 t628 t641 true a0_0 a0_1 l0_2)) = some r:=H
            have A79:=Aside0.mk A790
            clear A790
            by_cases c80 : t666 = true
            ·subst c80
             have H1 : (laws_FnExactAnswersOf.j1 kj20 l1 l2 t625 t628 t641 (t644 != t628) a0_0 a0_1 l0_2) = some r:=by rw [if_pos rfl] at H;exact H
             clear H
             have H:=H1
             clear H1
             have H':=Aside0.mk H
             clear H
             obtain ⟨Ao81,co81,eo81⟩:=Kd.R_slice HO_13.out
             subst eo81
             obtain ⟨Ao82,co82,eo82⟩:=Kd.R_slice HO_8.out
             subst eo82
             go_wp2_with (first|(go_at_call 14;(with_reducible refine (laws_eqInt64S.calls kj20 _ _ t641 _ _ t625 true _ ?side1 ?side2 ?side3 ?side4 A79.out).mono ?_);(case side1=>repeat (first|exact (Kd.R_reads' HO_13.out).2.2|(with_reducible refine Kd.C_alloc ?_ _)|(with_reducible refine Kd.C_drewN ?_ _)|(with_reducible refine Kd.C_drew ?_)));(case side2=>exact (Kd.R_reads' HO_13.out).2.1);(case side3=>repeat (first|exact (Kd.R_reads' HO_8.out).2.2|(with_reducible refine Kd.C_alloc ?_ _)|(with_reducible refine Kd.C_drewN ?_ _)|(with_reducible refine Kd.C_drew ?_)));(case side4=>exact (Kd.R_reads' HO_8.out).2.1);rintro e w' ⟨rfl,⟨nd,rfl⟩⟩))
             go_meet
             case rel=>exact ⟨_,((t644 != t628)),(by first|rfl|(simp;done)|(simp [*];done)),H',⟨by have:=HJ20.out;first|omega|exact Nat.le_refl _⟩,⟨by (with_reducible repeat (first|apply Kd.R_alloc|apply Kd.R_drewN|apply Kd.R_drew));exact Kd.R_mono HO_8.out (fun _ hk=>⟨hk.2.2.1,hk.2.2.2.1⟩)⟩,⟨by (with_reducible repeat (first|apply Kd.R_alloc|apply Kd.R_drewN|apply Kd.R_drew));exact Kd.R_mono HO_13.out (fun _ hk=>⟨hk.1,hk.2.2.2.1⟩)⟩,⟨by (with_reducible repeat (first|apply Kd.R_alloc|apply Kd.R_drewN|apply Kd.R_drew));exact Kd.R_mono HO_635002.out (fun _ hk=>⟨hk.1,hk.2.2.2.1⟩)⟩,⟨by (with_reducible repeat (first|refine blk_drewN ?_ _|refine blk_drew ?_|refine blk_alloc ?_ _));exact BK612.out⟩,⟨by (with_reducible repeat (first|refine blk_drewN ?_ _|refine blk_drew ?_|refine blk_alloc ?_ _));exact BK634.out⟩,⟨by repeat (first|(with_reducible first|exact HB.out|apply below_alloc|apply pw_below_drewN|apply below_drew1|refine below_set ?_ GE612.out|refine below_set ?_ GE634.out)|exact HB.out)⟩⟩
            ·replace c80:=Bool.eq_false_iff.mpr c80
             subst c80
             have H1 : (laws_FnExactAnswersOf.j1 kj20 l1 l2 t625 t628 t641 true a0_0 a0_1 l0_2) = some r:=by rw [if_neg (show ¬ (false = true) by decide)] at H;exact H
             clear H
             have H:=H1
             clear H1
             have H':=Aside0.mk H
             clear H
             obtain ⟨Ao83,co83,eo83⟩:=Kd.R_slice HO_13.out
             subst eo83
             obtain ⟨Ao84,co84,eo84⟩:=Kd.R_slice HO_8.out
             subst eo84
             go_wp2_with (first|(go_at_call 14;(with_reducible refine (laws_eqInt64S.calls kj20 _ _ t641 _ _ t625 false _ ?side1 ?side2 ?side3 ?side4 A79.out).mono ?_);(case side1=>repeat (first|exact (Kd.R_reads' HO_13.out).2.2|(with_reducible refine Kd.C_alloc ?_ _)|(with_reducible refine Kd.C_drewN ?_ _)|(with_reducible refine Kd.C_drew ?_)));(case side2=>exact (Kd.R_reads' HO_13.out).2.1);(case side3=>repeat (first|exact (Kd.R_reads' HO_8.out).2.2|(with_reducible refine Kd.C_alloc ?_ _)|(with_reducible refine Kd.C_drewN ?_ _)|(with_reducible refine Kd.C_drew ?_)));(case side4=>exact (Kd.R_reads' HO_8.out).2.1);rintro e w' ⟨rfl,⟨nd,rfl⟩⟩))
             go_meet
             case rel=>exact ⟨_,(true),(by first|rfl|(simp;done)|(simp [*];done)),H',⟨by have:=HJ20.out;first|omega|exact Nat.le_refl _⟩,⟨by (with_reducible repeat (first|apply Kd.R_alloc|apply Kd.R_drewN|apply Kd.R_drew));exact Kd.R_mono HO_8.out (fun _ hk=>⟨hk.2.2.1,hk.2.2.2.1⟩)⟩,⟨by (with_reducible repeat (first|apply Kd.R_alloc|apply Kd.R_drewN|apply Kd.R_drew));exact Kd.R_mono HO_13.out (fun _ hk=>⟨hk.1,hk.2.2.2.1⟩)⟩,⟨by (with_reducible repeat (first|apply Kd.R_alloc|apply Kd.R_drewN|apply Kd.R_drew));exact Kd.R_mono HO_635002.out (fun _ hk=>⟨hk.1,hk.2.2.2.1⟩)⟩,⟨by (with_reducible repeat (first|refine blk_drewN ?_ _|refine blk_drew ?_|refine blk_alloc ?_ _));exact BK612.out⟩,⟨by (with_reducible repeat (first|refine blk_drewN ?_ _|refine blk_drew ?_|refine blk_alloc ?_ _));exact BK634.out⟩,⟨by repeat (first|(with_reducible first|exact HB.out|apply below_alloc|apply pw_below_drewN|apply below_drew1|refine below_set ?_ GE612.out|refine below_set ?_ GE634.out)|exact HB.out)⟩⟩
          case rest =>
           clear HC64
           try clear c1
           try clear c2
           try clear p2
           try clear c3
           try clear c4
           try clear c4b0
           try clear c4b1
           try clear c5
           try clear c6
           try clear c6b0
           try clear c6b1
           try clear c7
           try clear c8
           try clear c9
           try clear c9b0
           try clear c10
           try clear c12
           try clear c14
           try clear c15
           try clear c16
           try clear c17
           try clear c20
           try clear c31
           try clear c32
           try clear c36
           try clear c46
           try clear c51
           try clear c54
           try clear c57
           try clear c60
           try clear c73
           try clear c78
           try clear c78b0
           try clear c80
           try clear hcz11_0
           try clear hcz11_1
           try clear hcz11_2
           try clear hcz23_0
           try clear hcz23_1
           try clear hcz23_2
           try clear hcz25_0
           try clear hcz25_1
           try clear hcz25_2
           try clear hcz33_0
           try clear hcz33_1
           try clear hcz33_2
           try clear hcz37_0
           try clear hcz37_1
           try clear hcz37_2
           try clear hcz41_0
           try clear hcz41_1
           try clear hcz41_2
           try clear hcz74_0
           try clear hcz74_1
           try clear hcz74_2
           try clear hfz11_0
           try clear hfz11_1
           try clear hfz11_2
           try clear hfz23_0
           try clear hfz23_1
           try clear hfz23_2
           try clear hfz25_0
           try clear hfz25_1
           try clear hfz25_2
           try clear hfz33_0
           try clear hfz33_1
           try clear hfz33_2
           try clear hfz37_0
           try clear hfz37_1
           try clear hfz37_2
           try clear hfz41_0
           try clear hfz41_1
           try clear hfz41_2
           try clear hfz74_0
           try clear hfz74_1
           try clear hfz74_2
           try clear p2
           obtain ⟨kq,x99_63,rfl,HA,HJ63,HO_8,HO_13,HO_635002,BK612,BK634,HB⟩:=hcut
           have hl635002_63:=(Kd.R_reads' HO_635002.out).1
           rw [hl635002_63] at HO_635002
           (try simp only [hl635002_63])
           (try simp only [hl635002_63] at BK612)
           (try simp only [hl635002_63] at BK634)
           (try simp only [hl635002_63] at HO_8)
           (try simp only [hl635002_63] at HO_13)
           cases kq with
           | zero => exact absurd HA.out (by simp [laws_FnExactAnswersOf.j1])
           | succ kj63 =>
            have H:=HA.out
            clear HA
            simp only [laws_FnExactAnswersOf.j1] at H
            by_cases c85 : x99_63 = true
            ·subst c85
             have H1 : (some false) = some r:=by rw [if_pos rfl] at H;exact H
             clear H
             have H:=H1
             clear H1
             obtain rfl:=Option.some.inj H
             go_wp2
             go_ret
             exact ⟨by first|rfl|(simp [errW_none,errW_some] <;> rfl)|(simp [*,errW_none,errW_some] <;> rfl),by repeat (first|(with_reducible first|exact HB.out|apply below_alloc|apply pw_below_drewN|apply below_drew1|refine below_set ?_ GE612.out|refine below_set ?_ GE634.out)|exact HB.out)⟩
            ·replace c85:=Bool.eq_false_iff.mpr c85
             subst c85
             have H1 : ((laws_markInt64S.f kj63 t641 1).bind fun bt667=>((laws_heldInt64S.f kj63 bt667.2 1).bind fun t669=>(if t669 < 0 then (some false) else (if t669 = bt667.1 then ((laws_toSea.f kj63 a0_0 a0_1 l0_2).bind fun bt670=>((laws_toInt64S.f kj63 l1).bind fun t675=>((laws_toInt64S.f kj63 l2).bind fun t678=>((impl_AnswersOf.f kj63 bt670.1 bt670.2.1 bt670.2.2 t675 t678).bind fun bt681=>((laws_eqInt64S.f kj63 bt681.1 t625).bind fun t685=>(if t685 = true then (laws_FnExactAnswersOf.j2 kj63 bt667.2 bt667.1 (bt681.2 != t628)) else (laws_FnExactAnswersOf.j2 kj63 bt667.2 bt667.1 true))))))) else (some false))))) = some r:=by rw [if_neg (show ¬ (false = true) by decide)] at H;exact H
             clear H
             have H:=H1
             clear H1
             replace H:=Option.bind_eq_some_iff.mp H
             obtain ⟨⟨t667,t668⟩,A860,H⟩:=H
             replace H : ((laws_heldInt64S.f kj63 t668 1).bind fun t669=>(if t669 < 0 then (some false) else (if t669 = t667 then ((laws_toSea.f kj63 a0_0 a0_1 l0_2).bind fun bt670=>((laws_toInt64S.f kj63 l1).bind fun t675=>((laws_toInt64S.f kj63 l2).bind fun t678=>((impl_AnswersOf.f kj63 bt670.1 bt670.2.1 bt670.2.2 t675 t678).bind fun bt681=>((laws_eqInt64S.f kj63 bt681.1 t625).bind fun t685=>(if t685 = true then (laws_FnExactAnswersOf.j2 kj63 t668 t667 (bt681.2 != t628)) else (laws_FnExactAnswersOf.j2 kj63 t668 t667 true))))))) else (some false)))) = some r:=H
             have A86:=Aside0.mk A860
             clear A860
             replace H:=Option.bind_eq_some_iff.mp H
             obtain ⟨t669,A870,H⟩:=H
             replace H : (if t669 < 0 then (some false) else (if t669 = t667 then ((laws_toSea.f kj63 a0_0 a0_1 l0_2).bind fun bt670=>((laws_toInt64S.f kj63 l1).bind fun t675=>((laws_toInt64S.f kj63 l2).bind fun t678=>((impl_AnswersOf.f kj63 bt670.1 bt670.2.1 bt670.2.2 t675 t678).bind fun bt681=>((laws_eqInt64S.f kj63 bt681.1 t625).bind fun t685=>(if t685 = true then (laws_FnExactAnswersOf.j2 kj63 t668 t667 (bt681.2 != t628)) else (laws_FnExactAnswersOf.j2 kj63 t668 t667 true))))))) else (some false))) = some r:=H
             have A87:=Aside0.mk A870
             clear A870
             by_cases c88 : t669 < 0
             ·rw [if_pos c88] at H
              have c88b0 : decide (t669 < 0) = true:=decide_eq_true c88
              clear c88
              obtain rfl:=Option.some.inj H
              obtain ⟨Ao89,co89,eo89⟩:=Kd.R_slice HO_13.out
              subst eo89
              go_wp2_with (first|((with_reducible refine gate_callee (f:=17) rfl ?_);refine goesL_ (some 102) rfl rfl Try.func17 (by kernel_rfl) rfl #[.slice Ao89 t641.length co89,.int .i64 1] rfl (by (try simp only [List.map_toArray,List.map_cons,List.map_nil]);first|done|rfl|(simp only [List.length_drop,List.length_take];rfl)) ?_;(with_reducible refine (laws_markInt64S.calls kj63 (fun k_=>some k_ = (.slice Ao89 t641.length co89 : Value).ownBlock) (.slice Ao89 t641.length co89) t641 1 t667 t668 w _ ?side1 ?side2 A86.out).mono ?_);(case side1=>repeat (first|(with_reducible first|exact HB.out|apply below_alloc|apply pw_below_drewN|apply below_drew1|refine below_set ?_ GE612.out|refine below_set ?_ GE634.out)|exact HB.out));(case side2=>exact Kd.R_tight rfl HO_13.out);rintro e w90 ⟨rfl,hy0,hb,hkp⟩;refine ⟨_,rfl,?_⟩;have n0_:=Aside0.mk (Kd.R_mono (ok':=fun k_=>some k_ ≠ (.slice Ao89 t641.length co89 : Value).ownBlock ∧ some k_ ≠ (.slice Ao38 t661.length co38 : Value).ownBlock) (Kd.R_keptB (HO_8.out) hkp (fun k_ hk_ hs_=>(hk_.1) hs_)) (fun k_ hk_=>⟨hk_.1.1,hk_.1.2⟩));have n1_:=Aside0.mk (Kd.R_reok rfl hy0 (fun k_ e_=>HO_13.out.1 k_ e_));have n2_:=Aside0.mk (Kd.R_mono (ok':=fun k_=>some k_ ≠ (v626 : Value).ownBlock ∧ some k_ ≠ (.slice Ao89 t641.length co89 : Value).ownBlock) (Kd.R_keptB (HO_635002.out) hkp (fun k_ hk_ hs_=>(hk_.2) hs_)) (fun k_ hk_=>⟨hk_.1.1,hk_.1.2⟩));have n3_:=Aside0.mk (blk_kept (by (with_reducible repeat (first|refine blk_drewN ?_ _|refine blk_drew ?_|refine blk_alloc ?_ _));exact BK612.out) hkp (fun hs_=>(fun e_=>(Kd.R_ne HO_13.out BK612.out (by decide)) e_) hs_));have n4_:=Aside0.mk (blk_kept (by (with_reducible repeat (first|refine blk_drewN ?_ _|refine blk_drew ?_|refine blk_alloc ?_ _));exact BK634.out) hkp (fun hs_=>(fun e_=>(Kd.R_ne HO_13.out BK634.out (by decide)) e_) hs_));have n5_:=Aside0.mk (hb);clear HO_8;clear HO_13;clear HO_635002;clear BK612;clear BK634;clear HB;have HO_8:=n0_;have HO_13:=n1_;have HO_635002:=n2_;have BK612:=n3_;have BK634:=n4_;have HB:=n5_;clear n0_ n1_ n2_ n3_ n4_ n5_;(try clear hb);(try clear hkp);(try clear hy0))|((with_reducible refine gate_callee (f:=18) rfl ?_);refine goesL_ (some 105) rfl rfl Try.func18 (by kernel_rfl) rfl #[.slice Ao89 t668.length co89,.int .i64 1] rfl (by (try simp only [List.map_toArray,List.map_cons,List.map_nil]);first|done|(rw [show t668.length = t641.length from (Kd.R_reads' HO_13.out).1.symm] <;> rfl)|rfl|(simp only [List.length_drop,List.length_take];rfl)) ?_;(with_reducible refine (laws_heldInt64S.calls kj63 _ _ t668 1 t669 _ ?side1 ?side2 A87.out).mono ?_);(case side1=>repeat (first|exact (Kd.R_reads' HO_13.out).2.2|(with_reducible refine Kd.C_alloc ?_ _)|(with_reducible refine Kd.C_drewN ?_ _)|(with_reducible refine Kd.C_drew ?_)));(case side2=>rw [show t668.length = t641.length from (Kd.R_reads' HO_13.out).1.symm];exact (Kd.R_reads' HO_13.out).2.1);rintro e w' ⟨rfl,⟨nd,rfl⟩⟩;refine ⟨_,rfl,?_⟩))
              go_ret
              exact ⟨by first|rfl|(simp [errW_none,errW_some] <;> rfl)|(simp [*,errW_none,errW_some] <;> rfl),by repeat (first|(with_reducible first|exact HB.out|apply below_alloc|apply pw_below_drewN|apply below_drew1|refine below_set ?_ GE612.out|refine below_set ?_ GE634.out)|exact HB.out)⟩
             ·rw [if_neg c88] at H
              have c88b0 : decide (t669 < 0) = false:=decide_eq_false c88
              clear c88
              by_cases c91 : t669 = t667
              ·rw [if_pos c91] at H
               have c91b0 : (t669 == t667) = true:=beq_iff_eq.mpr c91
               have c91b1 : (t669 != t667) = false:=bne_eq_false_iff_eq.mpr c91
               clear c91
               replace H:=Option.bind_eq_some_iff.mp H
               obtain ⟨⟨t670,t671,t672⟩,A920,H⟩:=H
               replace H : ((laws_toInt64S.f kj63 l1).bind fun t675=>((laws_toInt64S.f kj63 l2).bind fun t678=>((impl_AnswersOf.f kj63 t670 t671 t672 t675 t678).bind fun bt681=>((laws_eqInt64S.f kj63 bt681.1 t625).bind fun t685=>(if t685 = true then (laws_FnExactAnswersOf.j2 kj63 t668 t667 (bt681.2 != t628)) else (laws_FnExactAnswersOf.j2 kj63 t668 t667 true)))))) = some r:=H
               have A92:=Aside0.mk A920
               clear A920
               replace H:=Option.bind_eq_some_iff.mp H
               obtain ⟨t675,A930,H⟩:=H
               replace H : ((laws_toInt64S.f kj63 l2).bind fun t678=>((impl_AnswersOf.f kj63 t670 t671 t672 t675 t678).bind fun bt681=>((laws_eqInt64S.f kj63 bt681.1 t625).bind fun t685=>(if t685 = true then (laws_FnExactAnswersOf.j2 kj63 t668 t667 (bt681.2 != t628)) else (laws_FnExactAnswersOf.j2 kj63 t668 t667 true))))) = some r:=H
               have A93:=Aside0.mk A930
               clear A930
               replace H:=Option.bind_eq_some_iff.mp H
               obtain ⟨t678,A940,H⟩:=H
               replace H : ((impl_AnswersOf.f kj63 t670 t671 t672 t675 t678).bind fun bt681=>((laws_eqInt64S.f kj63 bt681.1 t625).bind fun t685=>(if t685 = true then (laws_FnExactAnswersOf.j2 kj63 t668 t667 (bt681.2 != t628)) else (laws_FnExactAnswersOf.j2 kj63 t668 t667 true)))) = some r:=H
               have A94:=Aside0.mk A940
               clear A940
               replace H:=Option.bind_eq_some_iff.mp H
               obtain ⟨⟨t681,t684⟩,A950,H⟩:=H
               replace H : ((laws_eqInt64S.f kj63 t681 t625).bind fun t685=>(if t685 = true then (laws_FnExactAnswersOf.j2 kj63 t668 t667 (t684 != t628)) else (laws_FnExactAnswersOf.j2 kj63 t668 t667 true))) = some r:=H
               have A95:=Aside0.mk A950
               clear A950
               have HC96:=Aside0.mk H
               clear H
               obtain ⟨Ao97,co97,eo97⟩:=Kd.R_slice HO_13.out
               subst eo97
               go_upto_region 37 with (first|((with_reducible refine gate_callee (f:=17) rfl ?_);refine goesL_ (some 102) rfl rfl Try.func17 (by kernel_rfl) rfl #[.slice Ao97 t641.length co97,.int .i64 1] rfl (by (try simp only [List.map_toArray,List.map_cons,List.map_nil]);first|done|rfl|(simp only [List.length_drop,List.length_take];rfl)) ?_;(with_reducible refine (laws_markInt64S.calls kj63 (fun k_=>some k_ = (.slice Ao97 t641.length co97 : Value).ownBlock) (.slice Ao97 t641.length co97) t641 1 t667 t668 w _ ?side1 ?side2 A86.out).mono ?_);(case side1=>repeat (first|(with_reducible first|exact HB.out|apply below_alloc|apply pw_below_drewN|apply below_drew1|refine below_set ?_ GE612.out|refine below_set ?_ GE634.out)|exact HB.out));(case side2=>exact Kd.R_tight rfl HO_13.out);rintro e w98 ⟨rfl,hy0,hb,hkp⟩;refine ⟨_,rfl,?_⟩;have n0_:=Aside0.mk (Kd.R_mono (ok':=fun k_=>some k_ ≠ (.slice Ao97 t641.length co97 : Value).ownBlock ∧ some k_ ≠ (.slice Ao38 t661.length co38 : Value).ownBlock) (Kd.R_keptB (HO_8.out) hkp (fun k_ hk_ hs_=>(hk_.1) hs_)) (fun k_ hk_=>⟨hk_.1.1,hk_.1.2⟩));have n1_:=Aside0.mk (Kd.R_reok rfl hy0 (fun k_ e_=>HO_13.out.1 k_ e_));have n2_:=Aside0.mk (Kd.R_mono (ok':=fun k_=>some k_ ≠ (v626 : Value).ownBlock ∧ some k_ ≠ (.slice Ao97 t641.length co97 : Value).ownBlock) (Kd.R_keptB (HO_635002.out) hkp (fun k_ hk_ hs_=>(hk_.2) hs_)) (fun k_ hk_=>⟨hk_.1.1,hk_.1.2⟩));have n3_:=Aside0.mk (blk_kept (by (with_reducible repeat (first|refine blk_drewN ?_ _|refine blk_drew ?_|refine blk_alloc ?_ _));exact BK612.out) hkp (fun hs_=>(fun e_=>(Kd.R_ne HO_13.out BK612.out (by decide)) e_) hs_));have n4_:=Aside0.mk (blk_kept (by (with_reducible repeat (first|refine blk_drewN ?_ _|refine blk_drew ?_|refine blk_alloc ?_ _));exact BK634.out) hkp (fun hs_=>(fun e_=>(Kd.R_ne HO_13.out BK634.out (by decide)) e_) hs_));have n5_:=Aside0.mk (hb);clear HO_8;clear HO_13;clear HO_635002;clear BK612;clear BK634;clear HB;have HO_8:=n0_;have HO_13:=n1_;have HO_635002:=n2_;have BK612:=n3_;have BK634:=n4_;have HB:=n5_;clear n0_ n1_ n2_ n3_ n4_ n5_;(try clear hb);(try clear hkp);(try clear hy0))|((with_reducible refine gate_callee (f:=18) rfl ?_);refine goesL_ (some 105) rfl rfl Try.func18 (by kernel_rfl) rfl #[.slice Ao97 t668.length co97,.int .i64 1] rfl (by (try simp only [List.map_toArray,List.map_cons,List.map_nil]);first|done|(rw [show t668.length = t641.length from (Kd.R_reads' HO_13.out).1.symm] <;> rfl)|rfl|(simp only [List.length_drop,List.length_take];rfl)) ?_;(with_reducible refine (laws_heldInt64S.calls kj63 _ _ t668 1 t669 _ ?side1 ?side2 A87.out).mono ?_);(case side1=>repeat (first|exact (Kd.R_reads' HO_13.out).2.2|(with_reducible refine Kd.C_alloc ?_ _)|(with_reducible refine Kd.C_drewN ?_ _)|(with_reducible refine Kd.C_drew ?_)));(case side2=>rw [show t668.length = t641.length from (Kd.R_reads' HO_13.out).1.symm];exact (Kd.R_reads' HO_13.out).2.1);rintro e w' ⟨rfl,⟨nd,rfl⟩⟩;refine ⟨_,rfl,?_⟩;have hnb99:=NB612_634.out;have hnc99:=NB634_612.out;have hcz100_0 : w98.cell? ⟨gb612,0,none⟩ = some (.int .i64 a0_0):=(blk_cell BK612.out 0).trans rfl;have hcz100_1 : w98.cell? ⟨gb612,1,none⟩ = some (.int .i64 a0_1):=(blk_cell BK612.out 1).trans rfl;have hcz100_2 : w98.cell? ⟨gb612,2,none⟩ = some (.slice A0_2 l0_2.length c0_2):=(blk_cell BK612.out 2).trans rfl;have hfz100_0:=blk_frozen BK612.out 0;have hfz100_1:=blk_frozen BK612.out 1;have hfz100_2:=blk_frozen BK612.out 2)|((with_reducible refine gate_callee (f:=12) rfl ?_);refine goesL_ (some 113) rfl rfl Try.func12 (by kernel_rfl) rfl #[.agg #[.int .i64 a0_0,.int .i64 a0_1,.slice A0_2 l0_2.length c0_2]] rfl (by (try simp only [List.map_toArray,List.map_cons,List.map_nil]);first|done|rfl|(simp only [List.length_drop,List.length_take];rfl)) ?_;(with_reducible refine (laws_toSea.calls kj63 a0_0 a0_1 _ _ l0_2 t670 t671 t672 _ ?side1 ?side2 A92.out).mono ?_);(case side1=>repeat (first|exact (Kd.C_below HR0_2.out (by repeat (first|(with_reducible first|exact HB.out|apply below_alloc|apply pw_below_drewN|apply below_drew1|refine below_set ?_ GE612.out|refine below_set ?_ GE634.out)|exact HB.out)))|(with_reducible refine Kd.C_alloc ?_ _)|(with_reducible refine Kd.C_drewN ?_ _)|(with_reducible refine Kd.C_drew ?_)));(case side2=>exact HC0_2.out);rintro e w101 ⟨v673,rfl,ho0,hb⟩;refine ⟨_,rfl,?_⟩;have n0_:=Aside0.mk (Kd.R_elder' (by (with_reducible repeat (first|apply Kd.R_alloc|apply Kd.R_drewN|apply Kd.R_drew));exact HO_8.out) (Kd.R_base ho0) hb);have n1_:=Aside0.mk (Kd.R_elder' (by (with_reducible repeat (first|apply Kd.R_alloc|apply Kd.R_drewN|apply Kd.R_drew));exact HO_13.out) (Kd.R_base ho0) hb);have n2_:=Aside0.mk (Kd.R_elder' (by (with_reducible repeat (first|apply Kd.R_alloc|apply Kd.R_drewN|apply Kd.R_drew));exact HO_635002.out) (Kd.R_base ho0) hb);have n3_:=Aside0.mk (Kd.R_lower (Kd.R_new' (Kd.R_new' (Kd.R_new' ho0 (Kd.R_lt (by (with_reducible repeat (first|apply Kd.R_alloc|apply Kd.R_drewN|apply Kd.R_drew));exact HO_8.out))) (Kd.R_lt (by (with_reducible repeat (first|apply Kd.R_alloc|apply Kd.R_drewN|apply Kd.R_drew));exact HO_13.out))) (Kd.R_lt (by (with_reducible repeat (first|apply Kd.R_alloc|apply Kd.R_drewN|apply Kd.R_drew));exact HO_635002.out))) (below_size (by repeat (first|(with_reducible first|exact HB.out|apply below_alloc|apply pw_below_drewN|apply below_drew1|refine below_set ?_ GE612.out|refine below_set ?_ GE634.out)|exact HB.out))));have n4_:=Aside0.mk (blk_below (g:=gb612) (o:=.cells #[.int .i64 a0_0,.int .i64 a0_1,.slice A0_2 l0_2.length c0_2] 24 (0,0)) (by (with_reducible repeat (first|refine blk_drewN ?_ _|refine blk_drew ?_|refine blk_alloc ?_ _));exact BK612.out) hb);have n5_:=Aside0.mk (blk_below (g:=gb634) (o:=.cells #[.int .i64 t629,.int .i64 t630,.slice Ao38 t661.length co38] 28 (0,0)) (by (with_reducible repeat (first|refine blk_drewN ?_ _|refine blk_drew ?_|refine blk_alloc ?_ _));exact BK634.out) hb);have n6_:=Aside0.mk (below_step (by repeat (first|(with_reducible first|exact HB.out|apply below_alloc|apply pw_below_drewN|apply below_drew1|refine below_set ?_ GE612.out|refine below_set ?_ GE634.out)|exact HB.out)) hb);clear HO_8;clear HO_13;clear HO_635002;clear BK612;clear BK634;clear HB;have HO_8:=n0_;have HO_13:=n1_;have HO_635002:=n2_;have HO674:=n3_;have BK612:=n4_;have BK634:=n5_;have HB:=n6_;clear n0_ n1_ n2_ n3_ n4_ n5_ n6_;(try clear hb);(try clear hb2);(try clear hk);(try clear hi);(try clear ho0))|((with_reducible refine gate_callee (f:=20) rfl ?_);refine goesL_ (some 115) rfl rfl Try.func20 (by kernel_rfl) rfl #[.slice A1 l1.length c1] rfl (by (try simp only [List.map_toArray,List.map_cons,List.map_nil]);first|done|rfl|(simp only [List.length_drop,List.length_take];rfl)) ?_;(with_reducible refine (laws_toInt64S.calls kj63 _ _ l1 t675 _ ?side1 ?side2 A93.out).mono ?_);(case side1=>repeat (first|exact (Kd.C_below HR1.out HB.out)|(with_reducible refine Kd.C_alloc ?_ _)|(with_reducible refine Kd.C_drewN ?_ _)|(with_reducible refine Kd.C_drew ?_)));(case side2=>exact HC1.out);rintro e w102 ⟨v676,rfl,ho0,hb⟩;refine ⟨_,rfl,?_⟩;have n0_:=Aside0.mk (Kd.R_elder' (by (with_reducible repeat (first|apply Kd.R_alloc|apply Kd.R_drewN|apply Kd.R_drew));exact HO_8.out) (Kd.R_base ho0) hb);have n1_:=Aside0.mk (Kd.R_elder' (by (with_reducible repeat (first|apply Kd.R_alloc|apply Kd.R_drewN|apply Kd.R_drew));exact HO_13.out) (Kd.R_base ho0) hb);have n2_:=Aside0.mk (Kd.R_elder' (by (with_reducible repeat (first|apply Kd.R_alloc|apply Kd.R_drewN|apply Kd.R_drew));exact HO_635002.out) (Kd.R_base ho0) hb);have n3_:=Aside0.mk (Kd.R_elder' (by (with_reducible repeat (first|apply Kd.R_alloc|apply Kd.R_drewN|apply Kd.R_drew));exact HO674.out) (Kd.R_base ho0) hb);have n4_:=Aside0.mk (Kd.R_lower (Kd.R_new' (Kd.R_new' (Kd.R_new' (Kd.R_new' ho0 (Kd.R_lt (by (with_reducible repeat (first|apply Kd.R_alloc|apply Kd.R_drewN|apply Kd.R_drew));exact HO_8.out))) (Kd.R_lt (by (with_reducible repeat (first|apply Kd.R_alloc|apply Kd.R_drewN|apply Kd.R_drew));exact HO_13.out))) (Kd.R_lt (by (with_reducible repeat (first|apply Kd.R_alloc|apply Kd.R_drewN|apply Kd.R_drew));exact HO_635002.out))) (Kd.R_lt (by (with_reducible repeat (first|apply Kd.R_alloc|apply Kd.R_drewN|apply Kd.R_drew));exact HO674.out))) (below_size (by repeat (first|(with_reducible first|exact HB.out|apply below_alloc|apply pw_below_drewN|apply below_drew1|refine below_set ?_ GE612.out|refine below_set ?_ GE634.out)|exact HB.out))));have n5_:=Aside0.mk (blk_below (g:=gb612) (o:=.cells #[.int .i64 a0_0,.int .i64 a0_1,.slice A0_2 l0_2.length c0_2] 24 (0,0)) (by (with_reducible repeat (first|refine blk_drewN ?_ _|refine blk_drew ?_|refine blk_alloc ?_ _));exact BK612.out) hb);have n6_:=Aside0.mk (blk_below (g:=gb634) (o:=.cells #[.int .i64 t629,.int .i64 t630,.slice Ao38 t661.length co38] 28 (0,0)) (by (with_reducible repeat (first|refine blk_drewN ?_ _|refine blk_drew ?_|refine blk_alloc ?_ _));exact BK634.out) hb);have n7_:=Aside0.mk (below_step (by repeat (first|(with_reducible first|exact HB.out|apply below_alloc|apply pw_below_drewN|apply below_drew1|refine below_set ?_ GE612.out|refine below_set ?_ GE634.out)|exact HB.out)) hb);clear HO_8;clear HO_13;clear HO_635002;clear HO674;clear BK612;clear BK634;clear HB;have HO_8:=n0_;have HO_13:=n1_;have HO_635002:=n2_;have HO674:=n3_;have HO677:=n4_;have BK612:=n5_;have BK634:=n6_;have HB:=n7_;clear n0_ n1_ n2_ n3_ n4_ n5_ n6_ n7_;(try clear hb);(try clear hb2);(try clear hk);(try clear hi);(try clear ho0))|((with_reducible refine gate_callee (f:=20) rfl ?_);refine goesL_ (some 117) rfl rfl Try.func20 (by kernel_rfl) rfl #[.slice A2 l2.length c2] rfl (by (try simp only [List.map_toArray,List.map_cons,List.map_nil]);first|done|rfl|(simp only [List.length_drop,List.length_take];rfl)) ?_;(with_reducible refine (laws_toInt64S.calls kj63 _ _ l2 t678 _ ?side1 ?side2 A94.out).mono ?_);(case side1=>repeat (first|exact (Kd.C_below HR2.out HB.out)|(with_reducible refine Kd.C_alloc ?_ _)|(with_reducible refine Kd.C_drewN ?_ _)|(with_reducible refine Kd.C_drew ?_)));(case side2=>exact HC2.out);rintro e w103 ⟨v679,rfl,ho0,hb⟩;refine ⟨_,rfl,?_⟩;have n0_:=Aside0.mk (Kd.R_elder' (by (with_reducible repeat (first|apply Kd.R_alloc|apply Kd.R_drewN|apply Kd.R_drew));exact HO_8.out) (Kd.R_base ho0) hb);have n1_:=Aside0.mk (Kd.R_elder' (by (with_reducible repeat (first|apply Kd.R_alloc|apply Kd.R_drewN|apply Kd.R_drew));exact HO_13.out) (Kd.R_base ho0) hb);have n2_:=Aside0.mk (Kd.R_elder' (by (with_reducible repeat (first|apply Kd.R_alloc|apply Kd.R_drewN|apply Kd.R_drew));exact HO_635002.out) (Kd.R_base ho0) hb);have n3_:=Aside0.mk (Kd.R_elder' (by (with_reducible repeat (first|apply Kd.R_alloc|apply Kd.R_drewN|apply Kd.R_drew));exact HO674.out) (Kd.R_base ho0) hb);have n4_:=Aside0.mk (Kd.R_elder' (by (with_reducible repeat (first|apply Kd.R_alloc|apply Kd.R_drewN|apply Kd.R_drew));exact HO677.out) (Kd.R_base ho0) hb);have n5_:=Aside0.mk (Kd.R_lower (Kd.R_new' (Kd.R_new' (Kd.R_new' (Kd.R_new' (Kd.R_new' ho0 (Kd.R_lt (by (with_reducible repeat (first|apply Kd.R_alloc|apply Kd.R_drewN|apply Kd.R_drew));exact HO_8.out))) (Kd.R_lt (by (with_reducible repeat (first|apply Kd.R_alloc|apply Kd.R_drewN|apply Kd.R_drew));exact HO_13.out))) (Kd.R_lt (by (with_reducible repeat (first|apply Kd.R_alloc|apply Kd.R_drewN|apply Kd.R_drew));exact HO_635002.out))) (Kd.R_lt (by (with_reducible repeat (first|apply Kd.R_alloc|apply Kd.R_drewN|apply Kd.R_drew));exact HO674.out))) (Kd.R_lt (by (with_reducible repeat (first|apply Kd.R_alloc|apply Kd.R_drewN|apply Kd.R_drew));exact HO677.out))) (below_size (by repeat (first|(with_reducible first|exact HB.out|apply below_alloc|apply pw_below_drewN|apply below_drew1|refine below_set ?_ GE612.out|refine below_set ?_ GE634.out)|exact HB.out))));have n6_:=Aside0.mk (blk_below (g:=gb612) (o:=.cells #[.int .i64 a0_0,.int .i64 a0_1,.slice A0_2 l0_2.length c0_2] 24 (0,0)) (by (with_reducible repeat (first|refine blk_drewN ?_ _|refine blk_drew ?_|refine blk_alloc ?_ _));exact BK612.out) hb);have n7_:=Aside0.mk (blk_below (g:=gb634) (o:=.cells #[.int .i64 t629,.int .i64 t630,.slice Ao38 t661.length co38] 28 (0,0)) (by (with_reducible repeat (first|refine blk_drewN ?_ _|refine blk_drew ?_|refine blk_alloc ?_ _));exact BK634.out) hb);have n8_:=Aside0.mk (below_step (by repeat (first|(with_reducible first|exact HB.out|apply below_alloc|apply pw_below_drewN|apply below_drew1|refine below_set ?_ GE612.out|refine below_set ?_ GE634.out)|exact HB.out)) hb);clear HO_8;clear HO_13;clear HO_635002;clear HO674;clear HO677;clear BK612;clear BK634;clear HB;have HO_8:=n0_;have HO_13:=n1_;have HO_635002:=n2_;have HO674:=n3_;have HO677:=n4_;have HO680:=n5_;have BK612:=n6_;have BK634:=n7_;have HB:=n8_;clear n0_ n1_ n2_ n3_ n4_ n5_ n6_ n7_ n8_;(try clear hb);(try clear hb2);(try clear hk);(try clear hi);(try clear ho0);obtain ⟨Ao104,co104,eo104⟩:=Kd.R_slice HO674.out;subst eo104;obtain ⟨Ao105,co105,eo105⟩:=Kd.R_slice HO677.out;subst eo105;obtain ⟨Ao106,co106,eo106⟩:=Kd.R_slice HO680.out;subst eo106)|((with_reducible refine gate_callee (f:=32) rfl ?_);refine goesL_ (some 118) rfl rfl Try.func32 (by kernel_rfl) rfl #[.agg #[.int .i64 t670,.int .i64 t671,.slice Ao104 t672.length co104],.slice Ao105 t675.length co105,.slice Ao106 t678.length co106] rfl (by (try simp only [List.map_toArray,List.map_cons,List.map_nil]);first|done|rfl|(simp only [List.length_drop,List.length_take];rfl)) ?_;(with_reducible refine (impl_AnswersOf.calls kj63 t670 t671 _ _ t672 _ _ t675 _ _ t678 t681 t684 _ ?side1 ?side2 ?side3 ?side4 ?side5 ?side6 A95.out).mono ?_);(case side1=>repeat (first|exact (Kd.R_reads' HO674.out).2.2|(with_reducible refine Kd.C_alloc ?_ _)|(with_reducible refine Kd.C_drewN ?_ _)|(with_reducible refine Kd.C_drew ?_)));(case side2=>exact (Kd.R_reads' HO674.out).2.1);(case side3=>repeat (first|exact (Kd.R_reads' HO677.out).2.2|(with_reducible refine Kd.C_alloc ?_ _)|(with_reducible refine Kd.C_drewN ?_ _)|(with_reducible refine Kd.C_drew ?_)));(case side4=>exact (Kd.R_reads' HO677.out).2.1);(case side5=>repeat (first|exact (Kd.R_reads' HO680.out).2.2|(with_reducible refine Kd.C_alloc ?_ _)|(with_reducible refine Kd.C_drewN ?_ _)|(with_reducible refine Kd.C_drew ?_)));(case side6=>exact (Kd.R_reads' HO680.out).2.1);rintro e w107 ⟨v682,rfl,ho0,hb⟩;refine ⟨_,rfl,?_⟩;have n0_:=Aside0.mk (Kd.R_elder' (by (with_reducible repeat (first|apply Kd.R_alloc|apply Kd.R_drewN|apply Kd.R_drew));exact HO_8.out) (Kd.R_base ho0) hb);have n1_:=Aside0.mk (Kd.R_elder' (by (with_reducible repeat (first|apply Kd.R_alloc|apply Kd.R_drewN|apply Kd.R_drew));exact HO_13.out) (Kd.R_base ho0) hb);have n2_:=Aside0.mk (Kd.R_elder' (by (with_reducible repeat (first|apply Kd.R_alloc|apply Kd.R_drewN|apply Kd.R_drew));exact HO_635002.out) (Kd.R_base ho0) hb);have n3_:=Aside0.mk (Kd.R_elder' (by (with_reducible repeat (first|apply Kd.R_alloc|apply Kd.R_drewN|apply Kd.R_drew));exact HO674.out) (Kd.R_base ho0) hb);have n4_:=Aside0.mk (Kd.R_elder' (by (with_reducible repeat (first|apply Kd.R_alloc|apply Kd.R_drewN|apply Kd.R_drew));exact HO677.out) (Kd.R_base ho0) hb);have n5_:=Aside0.mk (Kd.R_elder' (by (with_reducible repeat (first|apply Kd.R_alloc|apply Kd.R_drewN|apply Kd.R_drew));exact HO680.out) (Kd.R_base ho0) hb);have n6_:=Aside0.mk (Kd.R_lower (Kd.R_new' (Kd.R_new' (Kd.R_new' (Kd.R_new' (Kd.R_new' (Kd.R_new' ho0 (Kd.R_lt (by (with_reducible repeat (first|apply Kd.R_alloc|apply Kd.R_drewN|apply Kd.R_drew));exact HO_8.out))) (Kd.R_lt (by (with_reducible repeat (first|apply Kd.R_alloc|apply Kd.R_drewN|apply Kd.R_drew));exact HO_13.out))) (Kd.R_lt (by (with_reducible repeat (first|apply Kd.R_alloc|apply Kd.R_drewN|apply Kd.R_drew));exact HO_635002.out))) (Kd.R_lt (by (with_reducible repeat (first|apply Kd.R_alloc|apply Kd.R_drewN|apply Kd.R_drew));exact HO674.out))) (Kd.R_lt (by (with_reducible repeat (first|apply Kd.R_alloc|apply Kd.R_drewN|apply Kd.R_drew));exact HO677.out))) (Kd.R_lt (by (with_reducible repeat (first|apply Kd.R_alloc|apply Kd.R_drewN|apply Kd.R_drew));exact HO680.out))) (below_size (by repeat (first|(with_reducible first|exact HB.out|apply below_alloc|apply pw_below_drewN|apply below_drew1|refine below_set ?_ GE612.out|refine below_set ?_ GE634.out)|exact HB.out))));have n7_:=Aside0.mk (blk_below (g:=gb612) (o:=.cells #[.int .i64 a0_0,.int .i64 a0_1,.slice A0_2 l0_2.length c0_2] 24 (0,0)) (by (with_reducible repeat (first|refine blk_drewN ?_ _|refine blk_drew ?_|refine blk_alloc ?_ _));exact BK612.out) hb);have n8_:=Aside0.mk (blk_below (g:=gb634) (o:=.cells #[.int .i64 t629,.int .i64 t630,.slice Ao38 t661.length co38] 28 (0,0)) (by (with_reducible repeat (first|refine blk_drewN ?_ _|refine blk_drew ?_|refine blk_alloc ?_ _));exact BK634.out) hb);have n9_:=Aside0.mk (below_step (by repeat (first|(with_reducible first|exact HB.out|apply below_alloc|apply pw_below_drewN|apply below_drew1|refine below_set ?_ GE612.out|refine below_set ?_ GE634.out)|exact HB.out)) hb);clear HO_8;clear HO_13;clear HO_635002;clear HO674;clear HO677;clear HO680;clear BK612;clear BK634;clear HB;have HO_8:=n0_;have HO_13:=n1_;have HO_635002:=n2_;have HO674:=n3_;have HO677:=n4_;have HO680:=n5_;have HO683:=n6_;have BK612:=n7_;have BK634:=n8_;have HB:=n9_;clear n0_ n1_ n2_ n3_ n4_ n5_ n6_ n7_ n8_ n9_;(try clear hb);(try clear hb2);(try clear hk);(try clear hi);(try clear ho0)))
               (try simp only [Act.put,List.setIfInBounds_toArray,List.set_cons_zero,List.set_cons_succ])
               go_cut [129] (fun v129 wc=>∃ (kq : Nat) (x129_95 : Bool),v129 = .bool x129_95 ∧ Aside0 (laws_FnExactAnswersOf.j2 kq t668 t667 x129_95 = some r) ∧ Aside0 (kq ≤ kj63) ∧ Aside0 (Kd.R (Kd.int .i64) 2 wc w.heap.size (fun k_=>some k_ ≠ ((.slice Ao38 t661.length co38) : Value).ownBlock) (.slice Ao97 t641.length co97) t668) ∧ Aside0 (Kd.R (Kd.int .i64) 2 wc w.heap.size (fun k_=>some k_ ≠ ((.slice Ao97 t641.length co97) : Value).ownBlock) (.slice Ao38 t661.length co38) t661) ∧ Aside0 (wc.heap[gb612]? = some (.cells #[.int .i64 a0_0,.int .i64 a0_1,(.slice A0_2 l0_2.length c0_2)] 24 (0,0))) ∧ Aside0 (wc.heap[gb634]? = some (.cells #[.int .i64 t629,.int .i64 t630,(.slice Ao38 t661.length co38)] 28 (0,0))) ∧ Aside0 (Below w.heap.size w wc))
               case first =>
                have H:=HC96.out
                clear HC96
                replace H:=Option.bind_eq_some_iff.mp H
                obtain ⟨t685,A1080,H⟩:=H
                replace H : (if t685 = true then (laws_FnExactAnswersOf.j2 kj63 t668 t667 (t684 != t628)) else (laws_FnExactAnswersOf.j2 kj63 t668 t667 true)) = some r:=H
                have A108:=Aside0.mk A1080
                clear A1080
                by_cases c109 : t685 = true
                ·subst c109
                 have H1 : (laws_FnExactAnswersOf.j2 kj63 t668 t667 (t684 != t628)) = some r:=by rw [if_pos rfl] at H;exact H
                 clear H
                 have H:=H1
                 clear H1
                 have H':=Aside0.mk H
                 clear H
                 obtain ⟨Ao110,co110,eo110⟩:=Kd.R_slice HO683.out
                 subst eo110
                 obtain ⟨Ao111,co111,eo111⟩:=Kd.R_slice HO_8.out
                 subst eo111
                 go_wp2_with (first|((with_reducible refine gate_callee (f:=14) rfl ?_);refine goesL_ (some 123) rfl rfl Try.func14 (by kernel_rfl) rfl #[.slice Ao110 t681.length co110,.slice Ao111 t625.length co111] rfl (by (try simp only [List.map_toArray,List.map_cons,List.map_nil]);first|done|rfl|(simp only [List.length_drop,List.length_take];rfl)) ?_;(with_reducible refine (laws_eqInt64S.calls kj63 _ _ t681 _ _ t625 true _ ?side1 ?side2 ?side3 ?side4 A108.out).mono ?_);(case side1=>repeat (first|exact (Kd.R_reads' HO683.out).2.2|(with_reducible refine Kd.C_alloc ?_ _)|(with_reducible refine Kd.C_drewN ?_ _)|(with_reducible refine Kd.C_drew ?_)));(case side2=>exact (Kd.R_reads' HO683.out).2.1);(case side3=>repeat (first|exact (Kd.R_reads' HO_8.out).2.2|(with_reducible refine Kd.C_alloc ?_ _)|(with_reducible refine Kd.C_drewN ?_ _)|(with_reducible refine Kd.C_drew ?_)));(case side4=>exact (Kd.R_reads' HO_8.out).2.1);rintro e w' ⟨rfl,⟨nd,rfl⟩⟩;refine ⟨_,rfl,?_⟩))
                 go_meet
                 case rel=>exact ⟨_,((t684 != t628)),(by first|rfl|(simp;done)|(simp [*];done)),H',⟨by have:=HJ20.out;have:=HJ63.out;first|omega|exact Nat.le_refl _⟩,⟨by (try simp only [hl635002_63]);(with_reducible repeat (first|apply Kd.R_alloc|apply Kd.R_drewN|apply Kd.R_drew));exact Kd.R_mono HO_13.out (fun _ hk=>hk.1.1.1.1.2)⟩,⟨by (try simp only [hl635002_63]);(with_reducible repeat (first|apply Kd.R_alloc|apply Kd.R_drewN|apply Kd.R_drew));exact Kd.R_mono HO_635002.out (fun _ hk=>hk.1.1.1.1.2)⟩,⟨by (try simp only [hl635002_63]);(with_reducible repeat (first|refine blk_drewN ?_ _|refine blk_drew ?_|refine blk_alloc ?_ _));exact BK612.out⟩,⟨by (try simp only [hl635002_63]);(with_reducible repeat (first|refine blk_drewN ?_ _|refine blk_drew ?_|refine blk_alloc ?_ _));exact BK634.out⟩,⟨by repeat (first|(with_reducible first|exact HB.out|apply below_alloc|apply pw_below_drewN|apply below_drew1|refine below_set ?_ GE612.out|refine below_set ?_ GE634.out)|exact HB.out)⟩⟩
                ·replace c109:=Bool.eq_false_iff.mpr c109
                 subst c109
                 have H1 : (laws_FnExactAnswersOf.j2 kj63 t668 t667 true) = some r:=by rw [if_neg (show ¬ (false = true) by decide)] at H;exact H
                 clear H
                 have H:=H1
                 clear H1
                 have H':=Aside0.mk H
                 clear H
                 obtain ⟨Ao112,co112,eo112⟩:=Kd.R_slice HO683.out
                 subst eo112
                 obtain ⟨Ao113,co113,eo113⟩:=Kd.R_slice HO_8.out
                 subst eo113
                 go_wp2_with (first|((with_reducible refine gate_callee (f:=14) rfl ?_);refine goesL_ (some 123) rfl rfl Try.func14 (by kernel_rfl) rfl #[.slice Ao112 t681.length co112,.slice Ao113 t625.length co113] rfl (by (try simp only [List.map_toArray,List.map_cons,List.map_nil]);first|done|rfl|(simp only [List.length_drop,List.length_take];rfl)) ?_;(with_reducible refine (laws_eqInt64S.calls kj63 _ _ t681 _ _ t625 false _ ?side1 ?side2 ?side3 ?side4 A108.out).mono ?_);(case side1=>repeat (first|exact (Kd.R_reads' HO683.out).2.2|(with_reducible refine Kd.C_alloc ?_ _)|(with_reducible refine Kd.C_drewN ?_ _)|(with_reducible refine Kd.C_drew ?_)));(case side2=>exact (Kd.R_reads' HO683.out).2.1);(case side3=>repeat (first|exact (Kd.R_reads' HO_8.out).2.2|(with_reducible refine Kd.C_alloc ?_ _)|(with_reducible refine Kd.C_drewN ?_ _)|(with_reducible refine Kd.C_drew ?_)));(case side4=>exact (Kd.R_reads' HO_8.out).2.1);rintro e w' ⟨rfl,⟨nd,rfl⟩⟩;refine ⟨_,rfl,?_⟩))
                 go_meet
                 case rel=>exact ⟨_,(true),(by first|rfl|(simp;done)|(simp [*];done)),H',⟨by have:=HJ20.out;have:=HJ63.out;first|omega|exact Nat.le_refl _⟩,⟨by (try simp only [hl635002_63]);(with_reducible repeat (first|apply Kd.R_alloc|apply Kd.R_drewN|apply Kd.R_drew));exact Kd.R_mono HO_13.out (fun _ hk=>hk.1.1.1.1.2)⟩,⟨by (try simp only [hl635002_63]);(with_reducible repeat (first|apply Kd.R_alloc|apply Kd.R_drewN|apply Kd.R_drew));exact Kd.R_mono HO_635002.out (fun _ hk=>hk.1.1.1.1.2)⟩,⟨by (try simp only [hl635002_63]);(with_reducible repeat (first|refine blk_drewN ?_ _|refine blk_drew ?_|refine blk_alloc ?_ _));exact BK612.out⟩,⟨by (try simp only [hl635002_63]);(with_reducible repeat (first|refine blk_drewN ?_ _|refine blk_drew ?_|refine blk_alloc ?_ _));exact BK634.out⟩,⟨by repeat (first|(with_reducible first|exact HB.out|apply below_alloc|apply pw_below_drewN|apply below_drew1|refine below_set ?_ GE612.out|refine below_set ?_ GE634.out)|exact HB.out)⟩⟩
               case rest =>
                clear HC96
                try clear c1
                try clear c2
                try clear p2
                try clear c3
                try clear c4
                try clear c4b0
                try clear c4b1
                try clear c5
                try clear c6
                try clear c6b0
                try clear c6b1
                try clear c7
                try clear c8
                try clear c9
                try clear c9b0
                try clear c10
                try clear c12
                try clear c14
                try clear c15
                try clear c16
                try clear c17
                try clear c18
                try clear c20
                try clear c31
                try clear c32
                try clear c36
                try clear c46
                try clear c51
                try clear c54
                try clear c57
                try clear c60
                try clear c73
                try clear c78
                try clear c78b0
                try clear c80
                try clear c85
                try clear c88
                try clear c88b0
                try clear c91
                try clear c91b0
                try clear c91b1
                try clear c99
                try clear c109
                try clear hcz100_0
                try clear hcz100_1
                try clear hcz100_2
                try clear hcz11_0
                try clear hcz11_1
                try clear hcz11_2
                try clear hcz23_0
                try clear hcz23_1
                try clear hcz23_2
                try clear hcz25_0
                try clear hcz25_1
                try clear hcz25_2
                try clear hcz33_0
                try clear hcz33_1
                try clear hcz33_2
                try clear hcz37_0
                try clear hcz37_1
                try clear hcz37_2
                try clear hcz41_0
                try clear hcz41_1
                try clear hcz41_2
                try clear hcz74_0
                try clear hcz74_1
                try clear hcz74_2
                try clear hfz100_0
                try clear hfz100_1
                try clear hfz100_2
                try clear hfz11_0
                try clear hfz11_1
                try clear hfz11_2
                try clear hfz23_0
                try clear hfz23_1
                try clear hfz23_2
                try clear hfz25_0
                try clear hfz25_1
                try clear hfz25_2
                try clear hfz33_0
                try clear hfz33_1
                try clear hfz33_2
                try clear hfz37_0
                try clear hfz37_1
                try clear hfz37_2
                try clear hfz41_0
                try clear hfz41_1
                try clear hfz41_2
                try clear hfz74_0
                try clear hfz74_1
                try clear hfz74_2
                try clear p2
                obtain ⟨kq,x129_95,rfl,HA,HJ95,HO_13,HO_635002,BK612,BK634,HB⟩:=hcut
                have hl13_95:=(Kd.R_reads' HO_13.out).1
                rw [hl13_95] at HO_13
                (try simp only [hl13_95])
                (try simp only [hl13_95] at BK612)
                (try simp only [hl13_95] at BK634)
                (try simp only [hl13_95] at HO_635002)
                cases kq with
                | zero => exact absurd HA.out (by simp [laws_FnExactAnswersOf.j2])
                | succ kj95 =>
                 have H:=HA.out
                 clear HA
                 simp only [laws_FnExactAnswersOf.j2] at H
                 by_cases c114 : x129_95 = true
                 ·subst c114
                  have H1 : (some false) = some r:=by rw [if_pos rfl] at H;exact H
                  clear H
                  have H:=H1
                  clear H1
                  obtain rfl:=Option.some.inj H
                  go_wp2
                  go_ret
                  exact ⟨by first|rfl|(simp [errW_none,errW_some] <;> rfl)|(simp [*,errW_none,errW_some] <;> rfl),by repeat (first|(with_reducible first|exact HB.out|apply below_alloc|apply pw_below_drewN|apply below_drew1|refine below_set ?_ GE612.out|refine below_set ?_ GE634.out)|exact HB.out)⟩
                 ·replace c114:=Bool.eq_false_iff.mpr c114
                  subst c114
                  have H1 : ((laws_heldInt64S.f kj95 t668 1).bind fun t686=>(if t686 < 0 then (some false) else (if t686 = t667 then (some true) else (some false)))) = some r:=by rw [if_neg (show ¬ (false = true) by decide)] at H;exact H
                  clear H
                  have H:=H1
                  clear H1
                  replace H:=Option.bind_eq_some_iff.mp H
                  obtain ⟨t686,A1150,H⟩:=H
                  replace H : (if t686 < 0 then (some false) else (if t686 = t667 then (some true) else (some false))) = some r:=H
                  have A115:=Aside0.mk A1150
                  clear A1150
                  by_cases c116 : t686 < 0
                  ·rw [if_pos c116] at H
                   have c116b0 : decide (t686 < 0) = true:=decide_eq_true c116
                   clear c116
                   obtain rfl:=Option.some.inj H
                   go_wp2_with (first|((with_reducible refine gate_callee (f:=18) rfl ?_);refine goesL_ (some 132) rfl rfl Try.func18 (by kernel_rfl) rfl #[.slice Ao97 t668.length co97,.int .i64 1] rfl (by (try simp only [List.map_toArray,List.map_cons,List.map_nil]);first|done|rfl|(simp only [List.length_drop,List.length_take];rfl)) ?_;(with_reducible refine (laws_heldInt64S.calls kj95 _ _ t668 1 t686 _ ?side1 ?side2 A115.out).mono ?_);(case side1=>repeat (first|exact (Kd.R_reads' HO_13.out).2.2|(with_reducible refine Kd.C_alloc ?_ _)|(with_reducible refine Kd.C_drewN ?_ _)|(with_reducible refine Kd.C_drew ?_)));(case side2=>exact (Kd.R_reads' HO_13.out).2.1);rintro e w' ⟨rfl,⟨nd,rfl⟩⟩;refine ⟨_,rfl,?_⟩))
                   go_ret
                   exact ⟨by first|rfl|(simp [errW_none,errW_some] <;> rfl)|(simp [*,errW_none,errW_some] <;> rfl),by repeat (first|(with_reducible first|exact HB.out|apply below_alloc|apply pw_below_drewN|apply below_drew1|refine below_set ?_ GE612.out|refine below_set ?_ GE634.out)|exact HB.out)⟩
                  ·rw [if_neg c116] at H
                   have c116b0 : decide (t686 < 0) = false:=decide_eq_false c116
                   clear c116
                   by_cases c117 : t686 = t667
                   ·rw [if_pos c117] at H
                    have c117b0 : (t686 == t667) = true:=beq_iff_eq.mpr c117
                    have c117b1 : (t686 != t667) = false:=bne_eq_false_iff_eq.mpr c117
                    clear c117
                    obtain rfl:=Option.some.inj H
                    go_wp2_with (first|((with_reducible refine gate_callee (f:=18) rfl ?_);refine goesL_ (some 132) rfl rfl Try.func18 (by kernel_rfl) rfl #[.slice Ao97 t668.length co97,.int .i64 1] rfl (by (try simp only [List.map_toArray,List.map_cons,List.map_nil]);first|done|rfl|(simp only [List.length_drop,List.length_take];rfl)) ?_;(with_reducible refine (laws_heldInt64S.calls kj95 _ _ t668 1 t686 _ ?side1 ?side2 A115.out).mono ?_);(case side1=>repeat (first|exact (Kd.R_reads' HO_13.out).2.2|(with_reducible refine Kd.C_alloc ?_ _)|(with_reducible refine Kd.C_drewN ?_ _)|(with_reducible refine Kd.C_drew ?_)));(case side2=>exact (Kd.R_reads' HO_13.out).2.1);rintro e w' ⟨rfl,⟨nd,rfl⟩⟩;refine ⟨_,rfl,?_⟩))
                    go_ret
                    exact ⟨by first|rfl|(simp [errW_none,errW_some] <;> rfl)|(simp [*,errW_none,errW_some] <;> rfl),by repeat (first|(with_reducible first|exact HB.out|apply below_alloc|apply pw_below_drewN|apply below_drew1|refine below_set ?_ GE612.out|refine below_set ?_ GE634.out)|exact HB.out)⟩
                   ·rw [if_neg c117] at H
                    have c117b0 : (t686 == t667) = false:=beq_eq_false_iff_ne.mpr c117
                    have c117b1 : (t686 != t667) = true:=bne_iff_ne.mpr c117
                    obtain rfl:=Option.some.inj H
                    go_wp2_with (first|((with_reducible refine gate_callee (f:=18) rfl ?_);refine goesL_ (some 132) rfl rfl Try.func18 (by kernel_rfl) rfl #[.slice Ao97 t668.length co97,.int .i64 1] rfl (by (try simp only [List.map_toArray,List.map_cons,List.map_nil]);first|done|rfl|(simp only [List.length_drop,List.length_take];rfl)) ?_;(with_reducible refine (laws_heldInt64S.calls kj95 _ _ t668 1 t686 _ ?side1 ?side2 A115.out).mono ?_);(case side1=>repeat (first|exact (Kd.R_reads' HO_13.out).2.2|(with_reducible refine Kd.C_alloc ?_ _)|(with_reducible refine Kd.C_drewN ?_ _)|(with_reducible refine Kd.C_drew ?_)));(case side2=>exact (Kd.R_reads' HO_13.out).2.1);rintro e w' ⟨rfl,⟨nd,rfl⟩⟩;refine ⟨_,rfl,?_⟩))
                    go_ret
                    exact ⟨by first|rfl|(simp [errW_none,errW_some] <;> rfl)|(simp [*,errW_none,errW_some] <;> rfl),by repeat (first|(with_reducible first|exact HB.out|apply below_alloc|apply pw_below_drewN|apply below_drew1|refine below_set ?_ GE612.out|refine below_set ?_ GE634.out)|exact HB.out)⟩
              ·rw [if_neg c91] at H
               have c91b0 : (t669 == t667) = false:=beq_eq_false_iff_ne.mpr c91
               have c91b1 : (t669 != t667) = true:=bne_iff_ne.mpr c91
               obtain rfl:=Option.some.inj H
               obtain ⟨Ao118,co118,eo118⟩:=Kd.R_slice HO_13.out
               subst eo118
               go_wp2_with (first|((with_reducible refine gate_callee (f:=17) rfl ?_);refine goesL_ (some 102) rfl rfl Try.func17 (by kernel_rfl) rfl #[.slice Ao118 t641.length co118,.int .i64 1] rfl (by (try simp only [List.map_toArray,List.map_cons,List.map_nil]);first|done|rfl|(simp only [List.length_drop,List.length_take];rfl)) ?_;(with_reducible refine (laws_markInt64S.calls kj63 (fun k_=>some k_ = (.slice Ao118 t641.length co118 : Value).ownBlock) (.slice Ao118 t641.length co118) t641 1 t667 t668 w _ ?side1 ?side2 A86.out).mono ?_);(case side1=>repeat (first|(with_reducible first|exact HB.out|apply below_alloc|apply pw_below_drewN|apply below_drew1|refine below_set ?_ GE612.out|refine below_set ?_ GE634.out)|exact HB.out));(case side2=>exact Kd.R_tight rfl HO_13.out);rintro e w119 ⟨rfl,hy0,hb,hkp⟩;refine ⟨_,rfl,?_⟩;have n0_:=Aside0.mk (Kd.R_mono (ok':=fun k_=>some k_ ≠ (.slice Ao118 t641.length co118 : Value).ownBlock ∧ some k_ ≠ (.slice Ao38 t661.length co38 : Value).ownBlock) (Kd.R_keptB (HO_8.out) hkp (fun k_ hk_ hs_=>(hk_.1) hs_)) (fun k_ hk_=>⟨hk_.1.1,hk_.1.2⟩));have n1_:=Aside0.mk (Kd.R_reok rfl hy0 (fun k_ e_=>HO_13.out.1 k_ e_));have n2_:=Aside0.mk (Kd.R_mono (ok':=fun k_=>some k_ ≠ (v626 : Value).ownBlock ∧ some k_ ≠ (.slice Ao118 t641.length co118 : Value).ownBlock) (Kd.R_keptB (HO_635002.out) hkp (fun k_ hk_ hs_=>(hk_.2) hs_)) (fun k_ hk_=>⟨hk_.1.1,hk_.1.2⟩));have n3_:=Aside0.mk (blk_kept (by (with_reducible repeat (first|refine blk_drewN ?_ _|refine blk_drew ?_|refine blk_alloc ?_ _));exact BK612.out) hkp (fun hs_=>(fun e_=>(Kd.R_ne HO_13.out BK612.out (by decide)) e_) hs_));have n4_:=Aside0.mk (blk_kept (by (with_reducible repeat (first|refine blk_drewN ?_ _|refine blk_drew ?_|refine blk_alloc ?_ _));exact BK634.out) hkp (fun hs_=>(fun e_=>(Kd.R_ne HO_13.out BK634.out (by decide)) e_) hs_));have n5_:=Aside0.mk (hb);clear HO_8;clear HO_13;clear HO_635002;clear BK612;clear BK634;clear HB;have HO_8:=n0_;have HO_13:=n1_;have HO_635002:=n2_;have BK612:=n3_;have BK634:=n4_;have HB:=n5_;clear n0_ n1_ n2_ n3_ n4_ n5_;(try clear hb);(try clear hkp);(try clear hy0))|((with_reducible refine gate_callee (f:=18) rfl ?_);refine goesL_ (some 105) rfl rfl Try.func18 (by kernel_rfl) rfl #[.slice Ao118 t668.length co118,.int .i64 1] rfl (by (try simp only [List.map_toArray,List.map_cons,List.map_nil]);first|done|(rw [show t668.length = t641.length from (Kd.R_reads' HO_13.out).1.symm] <;> rfl)|rfl|(simp only [List.length_drop,List.length_take];rfl)) ?_;(with_reducible refine (laws_heldInt64S.calls kj63 _ _ t668 1 t669 _ ?side1 ?side2 A87.out).mono ?_);(case side1=>repeat (first|exact (Kd.R_reads' HO_13.out).2.2|(with_reducible refine Kd.C_alloc ?_ _)|(with_reducible refine Kd.C_drewN ?_ _)|(with_reducible refine Kd.C_drew ?_)));(case side2=>rw [show t668.length = t641.length from (Kd.R_reads' HO_13.out).1.symm];exact (Kd.R_reads' HO_13.out).2.1);rintro e w' ⟨rfl,⟨nd,rfl⟩⟩;refine ⟨_,rfl,?_⟩))
               go_ret
               exact ⟨by first|rfl|(simp [errW_none,errW_some] <;> rfl)|(simp [*,errW_none,errW_some] <;> rfl),by repeat (first|(with_reducible first|exact HB.out|apply below_alloc|apply pw_below_drewN|apply below_drew1|refine below_set ?_ GE612.out|refine below_set ?_ GE634.out)|exact HB.out)⟩
         ·replace c60:=Bool.eq_false_iff.mpr c60
          subst c60
          have H1 : (some false) = some r:=by rw [if_neg (show ¬ (false = true) by decide)] at H;exact H
          clear H
          have H:=H1
          clear H1
          obtain rfl:=Option.some.inj H
          try go_wp2
          have n0_:=Aside0.mk (Kd.R_drew HO_8.out)
          have n1_:=Aside0.mk (Kd.R_drew HO_11.out)
          have n2_:=Aside0.mk (Kd.R_drew HO_12.out)
          have n3_:=Aside0.mk (Kd.R_drew HO_13.out)
          have n4_:=Aside0.mk (Kd.R_drew HO_635002.out)
          have n5_:=Aside0.mk (blk_drew BK612.out)
          have n6_:=Aside0.mk (blk_drew BK634.out)
          have n7_:=Aside0.mk (below_drew1 HB.out)
          clear HO_8
          clear HO_11
          clear HO_12
          clear HO_13
          clear HO_635002
          clear BK612
          clear BK634
          clear HB
          have HO_8:=n0_
          have HO_11:=n1_
          have HO_12:=n2_
          have HO_13:=n3_
          have HO_635002:=n4_
          have BK612:=n5_
          have BK634:=n6_
          have HB:=n7_
          clear n0_ n1_ n2_ n3_ n4_ n5_ n6_ n7_
          refine start_ (n:=5) (S:=fun w'=>w'.cell? ⟨gb634,0,none⟩ = some (.int .i64 t629) ∧ w'.cell? ⟨gb634,1,none⟩ = some (.int .i64 t630) ∧ w'.cell? ⟨gb634,2,none⟩ = some (.slice Ao38 t631.length co38) ∧ w'.cell? ⟨gb612,0,none⟩ = some (.int .i64 a0_0) ∧ w'.cell? ⟨gb612,1,none⟩ = some (.int .i64 a0_1) ∧ w'.cell? ⟨gb612,2,none⟩ = some (.slice A0_2 l0_2.length c0_2)) (ds:=[]) #[false,false,false,false,false] (by kernel_rfl) rfl rfl ⟨(blk_cell BK634.out 0).trans rfl,(blk_cell BK634.out 1).trans rfl,(blk_cell BK634.out 2).trans rfl,(blk_cell BK612.out 0).trans rfl,(blk_cell BK612.out 1).trans rfl,(blk_cell BK612.out 2).trans rfl⟩ (fun hHeld=>?_)
          generalize wc.drew = w120 at HO_8 HO_11 HO_12 HO_13 HO_635002 BK612 BK634 HB hHeld ⊢
          refine take_ (i:=0) (N:=some 63) (v:=?_) (a':=?_) #[true,false,false,false,false] rfl rfl (by kernel_rfl) (fun _ _ _ h=>h) (Or.inl ⟨by rfl,?_⟩) hHeld ?_ ?_
          rotate_left
          ·rintro w' ⟨s0,s1,s2,s3,s4,s5⟩
           go_simp
           with_reducible rfl
          rotate_left
          ·simp only [Act.put,List.setIfInBounds_toArray,List.set_cons_zero,List.set_cons_succ,i64_w,i32_w]
           rfl
          refine take_ (i:=1) (N:=some 64) (v:=?_) (a':=?_) #[true,true,false,false,false] rfl rfl (by kernel_rfl) (fun _ _ _ h=>h) (Or.inl ⟨by rfl,?_⟩) hHeld ?_ ?_
          rotate_left
          ·rintro w' ⟨s0,s1,s2,s3,s4,s5⟩
           go_simp
           with_reducible rfl
          rotate_left
          ·simp only [Act.put,List.setIfInBounds_toArray,List.set_cons_zero,List.set_cons_succ,i64_w,i32_w]
           rfl
          refine one_ (i:=2) (N:=some 65) #[true,true,true,false,false] rfl rfl (by kernel_rfl) (by decide) (fun K hK=>?_)
          refine goes_ Try.func12 (by kernel_rfl) rfl #[.agg #[.int .i64 a0_0,.int .i64 a0_1,.slice A0_2 l0_2.length c0_2]] (by rfl) rfl rfl (by (try simp only [List.map_toArray,List.map_cons,List.map_nil]);first|done|rfl|(simp only [List.length_drop,List.length_take];rfl)) ?_
          with_reducible refine (laws_toSea.calls kj20 a0_0 a0_1 _ _ l0_2 t646 t647 t648 _ ?side1 ?side2 A52.out).mono ?_
          (case side1=>repeat (first|exact (Kd.C_below HR0_2.out HB.out)|(with_reducible refine Kd.C_alloc ?_ _)|(with_reducible refine Kd.C_drewN ?_ _)|(with_reducible refine Kd.C_drew ?_)))
          (case side2=>exact HC0_2.out)
          rintro e w121 ⟨v649,rfl,ho0,hb⟩
          refine ⟨_,rfl,?_⟩
          have n0_:=Aside0.mk (Kd.R_elder' (by (with_reducible repeat (first|apply Kd.R_alloc|apply Kd.R_drewN|apply Kd.R_drew));exact HO_8.out) (Kd.R_base ho0) hb)
          have n1_:=Aside0.mk (Kd.R_elder' (by (with_reducible repeat (first|apply Kd.R_alloc|apply Kd.R_drewN|apply Kd.R_drew));exact HO_11.out) (Kd.R_base ho0) hb)
          have n2_:=Aside0.mk (Kd.R_elder' (by (with_reducible repeat (first|apply Kd.R_alloc|apply Kd.R_drewN|apply Kd.R_drew));exact HO_12.out) (Kd.R_base ho0) hb)
          have n3_:=Aside0.mk (Kd.R_elder' (by (with_reducible repeat (first|apply Kd.R_alloc|apply Kd.R_drewN|apply Kd.R_drew));exact HO_13.out) (Kd.R_base ho0) hb)
          have n4_:=Aside0.mk (Kd.R_elder' (by (with_reducible repeat (first|apply Kd.R_alloc|apply Kd.R_drewN|apply Kd.R_drew));exact HO_635002.out) (Kd.R_base ho0) hb)
          have n5_:=Aside0.mk (Kd.R_lower (Kd.R_new' (Kd.R_new' (Kd.R_new' (Kd.R_new' (Kd.R_new' ho0 (Kd.R_lt (by (with_reducible repeat (first|apply Kd.R_alloc|apply Kd.R_drewN|apply Kd.R_drew));exact HO_8.out))) (Kd.R_lt (by (with_reducible repeat (first|apply Kd.R_alloc|apply Kd.R_drewN|apply Kd.R_drew));exact HO_11.out))) (Kd.R_lt (by (with_reducible repeat (first|apply Kd.R_alloc|apply Kd.R_drewN|apply Kd.R_drew));exact HO_12.out))) (Kd.R_lt (by (with_reducible repeat (first|apply Kd.R_alloc|apply Kd.R_drewN|apply Kd.R_drew));exact HO_13.out))) (Kd.R_lt (by (with_reducible repeat (first|apply Kd.R_alloc|apply Kd.R_drewN|apply Kd.R_drew));exact HO_635002.out))) (below_size (by repeat (first|(with_reducible first|exact HB.out|apply below_alloc|apply pw_below_drewN|apply below_drew1|refine below_set ?_ GE612.out|refine below_set ?_ GE634.out)|exact HB.out))))
          have n6_:=Aside0.mk (blk_below (g:=gb612) (o:=.cells #[.int .i64 a0_0,.int .i64 a0_1,.slice A0_2 l0_2.length c0_2] 24 (0,0)) (by (with_reducible repeat (first|refine blk_drewN ?_ _|refine blk_drew ?_|refine blk_alloc ?_ _));exact BK612.out) hb)
          have n7_:=Aside0.mk (blk_below (g:=gb634) (o:=.cells #[.int .i64 t629,.int .i64 t630,.slice Ao38 t631.length co38] 28 (0,0)) (by (with_reducible repeat (first|refine blk_drewN ?_ _|refine blk_drew ?_|refine blk_alloc ?_ _));exact BK634.out) hb)
          have n8_:=Aside0.mk (below_step (by repeat (first|(with_reducible first|exact HB.out|apply below_alloc|apply pw_below_drewN|apply below_drew1|refine below_set ?_ GE612.out|refine below_set ?_ GE634.out)|exact HB.out)) hb)
          clear HO_8
          clear HO_11
          clear HO_12
          clear HO_13
          clear HO_635002
          clear BK612
          clear BK634
          clear HB
          have HO_8:=n0_
          have HO_11:=n1_
          have HO_12:=n2_
          have HO_13:=n3_
          have HO_635002:=n4_
          have HO650:=n5_
          have BK612:=n6_
          have BK634:=n7_
          have HB:=n8_
          clear n0_ n1_ n2_ n3_ n4_ n5_ n6_ n7_ n8_
          (try clear hb)
          (try clear hb2)
          (try clear hk)
          (try clear hi)
          (try clear ho0)
          obtain ⟨Ao122,co122,eo122⟩:=Kd.R_slice HO650.out
          (first|subst eo122|(injection eo122 with f1_ f2_ f3_;have f4_:=f1_.symm;have f5_:=f3_.symm;clear f1_ f2_ f3_;subst f4_;subst f5_))
          refine hK.out _ _ ⟨(blk_cell BK634.out 0).trans rfl,(blk_cell BK634.out 1).trans rfl,(blk_cell BK634.out 2).trans rfl,(blk_cell BK612.out 0).trans rfl,(blk_cell BK612.out 1).trans rfl,(blk_cell BK612.out 2).trans rfl⟩ (fun hHeld=>?_)
          clear hK K
          refine norm_ (a':=?_) ?_ ?_
          rotate_left
          ·show Act.put _ (some 65) _ = _
           simp only [Act.put,List.setIfInBounds_toArray,List.set_cons_zero,List.set_cons_succ,i64_w,i32_w]
           rfl
          refine one_ (i:=3) (N:=some 66) #[true,true,true,true,false] rfl rfl (by kernel_rfl) (by decide) (fun K hK=>?_)
          refine goes_ Try.func15 (by kernel_rfl) rfl #[.agg #[.int .i64 t629,.int .i64 t630,.slice Ao38 t631.length co38],.agg #[.int .i64 t646,.int .i64 t647,.slice Ao122 t648.length co122]] (by rfl) rfl rfl (by (try simp only [List.map_toArray,List.map_cons,List.map_nil]);first|done|rfl|(simp only [List.length_drop,List.length_take];rfl)) ?_
          with_reducible refine (laws_eqSea.calls kj20 t629 t630 _ _ t631 t646 t647 _ _ t648 true _ ?side1 ?side2 ?side3 ?side4 A53.out).mono ?_
          (case side1=>repeat (first|exact (Kd.R_reads' HO_635002.out).2.2|(with_reducible refine Kd.C_alloc ?_ _)|(with_reducible refine Kd.C_drewN ?_ _)|(with_reducible refine Kd.C_drew ?_)))
          (case side2=>exact (Kd.R_reads' HO_635002.out).2.1)
          (case side3=>repeat (first|exact (Kd.R_reads' HO650.out).2.2|(with_reducible refine Kd.C_alloc ?_ _)|(with_reducible refine Kd.C_drewN ?_ _)|(with_reducible refine Kd.C_drew ?_)))
          (case side4=>exact (Kd.R_reads' HO650.out).2.1)
          rintro e w123 ⟨rfl,hb⟩
          refine ⟨_,rfl,?_⟩
          have n0_:=Aside0.mk (Kd.R_below (by (with_reducible repeat (first|apply Kd.R_alloc|apply Kd.R_drewN|apply Kd.R_drew));exact HO_8.out) hb)
          have n1_:=Aside0.mk (Kd.R_below (by (with_reducible repeat (first|apply Kd.R_alloc|apply Kd.R_drewN|apply Kd.R_drew));exact HO_11.out) hb)
          have n2_:=Aside0.mk (Kd.R_below (by (with_reducible repeat (first|apply Kd.R_alloc|apply Kd.R_drewN|apply Kd.R_drew));exact HO_12.out) hb)
          have n3_:=Aside0.mk (Kd.R_below (by (with_reducible repeat (first|apply Kd.R_alloc|apply Kd.R_drewN|apply Kd.R_drew));exact HO_13.out) hb)
          have n4_:=Aside0.mk (Kd.R_below (by (with_reducible repeat (first|apply Kd.R_alloc|apply Kd.R_drewN|apply Kd.R_drew));exact HO_635002.out) hb)
          have n5_:=Aside0.mk (Kd.R_below (by (with_reducible repeat (first|apply Kd.R_alloc|apply Kd.R_drewN|apply Kd.R_drew));exact HO650.out) hb)
          have n6_:=Aside0.mk (blk_below (g:=gb612) (o:=.cells #[.int .i64 a0_0,.int .i64 a0_1,.slice A0_2 l0_2.length c0_2] 24 (0,0)) (by (with_reducible repeat (first|refine blk_drewN ?_ _|refine blk_drew ?_|refine blk_alloc ?_ _));exact BK612.out) hb)
          have n7_:=Aside0.mk (blk_below (g:=gb634) (o:=.cells #[.int .i64 t629,.int .i64 t630,.slice Ao38 t631.length co38] 28 (0,0)) (by (with_reducible repeat (first|refine blk_drewN ?_ _|refine blk_drew ?_|refine blk_alloc ?_ _));exact BK634.out) hb)
          have n8_:=Aside0.mk (below_step (by repeat (first|(with_reducible first|exact HB.out|apply below_alloc|apply pw_below_drewN|apply below_drew1|refine below_set ?_ GE612.out|refine below_set ?_ GE634.out)|exact HB.out)) hb)
          clear HO_8
          clear HO_11
          clear HO_12
          clear HO_13
          clear HO_635002
          clear HO650
          clear BK612
          clear BK634
          clear HB
          have HO_8:=n0_
          have HO_11:=n1_
          have HO_12:=n2_
          have HO_13:=n3_
          have HO_635002:=n4_
          have HO650:=n5_
          have BK612:=n6_
          have BK634:=n7_
          have HB:=n8_
          clear n0_ n1_ n2_ n3_ n4_ n5_ n6_ n7_ n8_
          (try clear hb)
          (try clear hb2)
          (try clear hk)
          (try clear hi)
          refine hK.out _ _ ⟨(blk_cell BK634.out 0).trans rfl,(blk_cell BK634.out 1).trans rfl,(blk_cell BK634.out 2).trans rfl,(blk_cell BK612.out 0).trans rfl,(blk_cell BK612.out 1).trans rfl,(blk_cell BK612.out 2).trans rfl⟩ (fun hHeld=>?_)
          clear hK K
          refine norm_ (a':=?_) ?_ ?_
          rotate_left
          ·show Act.put _ (some 66) _ = _
           simp only [Act.put,List.setIfInBounds_toArray,List.set_cons_zero,List.set_cons_succ,i64_w,i32_w]
           rfl
          refine pure_ (i:=4) (N:=some 67) (v:=?_) (a':=?_) #[true,true,true,true,true] rfl rfl (by kernel_rfl) (fun _ _ _ h=>h) (Or.inl ⟨by rfl,?_⟩) ?_ ?_
          rotate_left
          ·intro w'
           go_simp
           with_reducible rfl
          rotate_left
          ·simp only [Act.put,List.setIfInBounds_toArray,List.set_cons_zero,List.set_cons_succ,i64_w,i32_w]
           rfl
          refine done_ (by kernel_rfl) ?_
          try go_wp2_with (first|((with_reducible refine gate_callee (f:=20) rfl ?_);refine goesL_ (some 70) rfl rfl Try.func20 (by kernel_rfl) rfl #[.slice A1 l1.length c1] rfl (by (try simp only [List.map_toArray,List.map_cons,List.map_nil]);first|done|rfl|(simp only [List.length_drop,List.length_take];rfl)) ?_;(with_reducible refine (laws_toInt64S.calls kj20 _ _ l1 t652 _ ?side1 ?side2 A55.out).mono ?_);(case side1=>repeat (first|exact (Kd.C_below HR1.out HB.out)|(with_reducible refine Kd.C_alloc ?_ _)|(with_reducible refine Kd.C_drewN ?_ _)|(with_reducible refine Kd.C_drew ?_)));(case side2=>exact HC1.out);rintro e w124 ⟨v653,rfl,ho0,hb⟩;refine ⟨_,rfl,?_⟩;have n0_:=Aside0.mk (Kd.R_elder' (by (with_reducible repeat (first|apply Kd.R_alloc|apply Kd.R_drewN|apply Kd.R_drew));exact HO_8.out) (Kd.R_base ho0) hb);have n1_:=Aside0.mk (Kd.R_elder' (by (with_reducible repeat (first|apply Kd.R_alloc|apply Kd.R_drewN|apply Kd.R_drew));exact HO_11.out) (Kd.R_base ho0) hb);have n2_:=Aside0.mk (Kd.R_elder' (by (with_reducible repeat (first|apply Kd.R_alloc|apply Kd.R_drewN|apply Kd.R_drew));exact HO_12.out) (Kd.R_base ho0) hb);have n3_:=Aside0.mk (Kd.R_elder' (by (with_reducible repeat (first|apply Kd.R_alloc|apply Kd.R_drewN|apply Kd.R_drew));exact HO_13.out) (Kd.R_base ho0) hb);have n4_:=Aside0.mk (Kd.R_elder' (by (with_reducible repeat (first|apply Kd.R_alloc|apply Kd.R_drewN|apply Kd.R_drew));exact HO_635002.out) (Kd.R_base ho0) hb);have n5_:=Aside0.mk (Kd.R_elder' (by (with_reducible repeat (first|apply Kd.R_alloc|apply Kd.R_drewN|apply Kd.R_drew));exact HO650.out) (Kd.R_base ho0) hb);have n6_:=Aside0.mk (Kd.R_lower (Kd.R_new' (Kd.R_new' (Kd.R_new' (Kd.R_new' (Kd.R_new' (Kd.R_new' ho0 (Kd.R_lt (by (with_reducible repeat (first|apply Kd.R_alloc|apply Kd.R_drewN|apply Kd.R_drew));exact HO_8.out))) (Kd.R_lt (by (with_reducible repeat (first|apply Kd.R_alloc|apply Kd.R_drewN|apply Kd.R_drew));exact HO_11.out))) (Kd.R_lt (by (with_reducible repeat (first|apply Kd.R_alloc|apply Kd.R_drewN|apply Kd.R_drew));exact HO_12.out))) (Kd.R_lt (by (with_reducible repeat (first|apply Kd.R_alloc|apply Kd.R_drewN|apply Kd.R_drew));exact HO_13.out))) (Kd.R_lt (by (with_reducible repeat (first|apply Kd.R_alloc|apply Kd.R_drewN|apply Kd.R_drew));exact HO_635002.out))) (Kd.R_lt (by (with_reducible repeat (first|apply Kd.R_alloc|apply Kd.R_drewN|apply Kd.R_drew));exact HO650.out))) (below_size (by repeat (first|(with_reducible first|exact HB.out|apply below_alloc|apply pw_below_drewN|apply below_drew1|refine below_set ?_ GE612.out|refine below_set ?_ GE634.out)|exact HB.out))));have n7_:=Aside0.mk (blk_below (g:=gb612) (o:=.cells #[.int .i64 a0_0,.int .i64 a0_1,.slice A0_2 l0_2.length c0_2] 24 (0,0)) (by (with_reducible repeat (first|refine blk_drewN ?_ _|refine blk_drew ?_|refine blk_alloc ?_ _));exact BK612.out) hb);have n8_:=Aside0.mk (blk_below (g:=gb634) (o:=.cells #[.int .i64 t629,.int .i64 t630,.slice Ao38 t631.length co38] 28 (0,0)) (by (with_reducible repeat (first|refine blk_drewN ?_ _|refine blk_drew ?_|refine blk_alloc ?_ _));exact BK634.out) hb);have n9_:=Aside0.mk (below_step (by repeat (first|(with_reducible first|exact HB.out|apply below_alloc|apply pw_below_drewN|apply below_drew1|refine below_set ?_ GE612.out|refine below_set ?_ GE634.out)|exact HB.out)) hb);clear HO_8;clear HO_11;clear HO_12;clear HO_13;clear HO_635002;clear HO650;clear BK612;clear BK634;clear HB;have HO_8:=n0_;have HO_11:=n1_;have HO_12:=n2_;have HO_13:=n3_;have HO_635002:=n4_;have HO650:=n5_;have HO654:=n6_;have BK612:=n7_;have BK634:=n8_;have HB:=n9_;clear n0_ n1_ n2_ n3_ n4_ n5_ n6_ n7_ n8_ n9_;(try clear hb);(try clear hb2);(try clear hk);(try clear hi);(try clear ho0);obtain ⟨Ao125,co125,eo125⟩:=Kd.R_slice HO654.out;subst eo125)|((with_reducible refine gate_callee (f:=14) rfl ?_);refine goesL_ (some 71) rfl rfl Try.func14 (by kernel_rfl) rfl #[.slice Ao42 t635.length co42,.slice Ao125 t652.length co125] rfl (by (try simp only [List.map_toArray,List.map_cons,List.map_nil]);first|done|rfl|(simp only [List.length_drop,List.length_take];rfl)) ?_;(with_reducible refine (laws_eqInt64S.calls kj20 _ _ t635 _ _ t652 true _ ?side1 ?side2 ?side3 ?side4 A56.out).mono ?_);(case side1=>repeat (first|exact (Kd.R_reads' HO_11.out).2.2|(with_reducible refine Kd.C_alloc ?_ _)|(with_reducible refine Kd.C_drewN ?_ _)|(with_reducible refine Kd.C_drew ?_)));(case side2=>exact (Kd.R_reads' HO_11.out).2.1);(case side3=>repeat (first|exact (Kd.R_reads' HO654.out).2.2|(with_reducible refine Kd.C_alloc ?_ _)|(with_reducible refine Kd.C_drewN ?_ _)|(with_reducible refine Kd.C_drew ?_)));(case side4=>exact (Kd.R_reads' HO654.out).2.1);rintro e w' ⟨rfl,⟨nd,rfl⟩⟩;refine ⟨_,rfl,?_⟩)|((with_reducible refine gate_callee (f:=20) rfl ?_);refine goesL_ (some 75) rfl rfl Try.func20 (by kernel_rfl) rfl #[.slice A2 l2.length c2] rfl (by (try simp only [List.map_toArray,List.map_cons,List.map_nil]);first|done|rfl|(simp only [List.length_drop,List.length_take];rfl)) ?_;(with_reducible refine (laws_toInt64S.calls kj20 _ _ l2 t656 _ ?side1 ?side2 A58.out).mono ?_);(case side1=>repeat (first|exact (Kd.C_below HR2.out (by repeat (first|(with_reducible first|exact HB.out|apply below_alloc|apply pw_below_drewN|apply below_drew1|refine below_set ?_ GE612.out|refine below_set ?_ GE634.out)|exact HB.out)))|(with_reducible refine Kd.C_alloc ?_ _)|(with_reducible refine Kd.C_drewN ?_ _)|(with_reducible refine Kd.C_drew ?_)));(case side2=>exact HC2.out);rintro e w126 ⟨v657,rfl,ho0,hb⟩;refine ⟨_,rfl,?_⟩;have n0_:=Aside0.mk (Kd.R_elder' (by (with_reducible repeat (first|apply Kd.R_alloc|apply Kd.R_drewN|apply Kd.R_drew));exact HO_8.out) (Kd.R_base ho0) hb);have n1_:=Aside0.mk (Kd.R_elder' (by (with_reducible repeat (first|apply Kd.R_alloc|apply Kd.R_drewN|apply Kd.R_drew));exact HO_11.out) (Kd.R_base ho0) hb);have n2_:=Aside0.mk (Kd.R_elder' (by (with_reducible repeat (first|apply Kd.R_alloc|apply Kd.R_drewN|apply Kd.R_drew));exact HO_12.out) (Kd.R_base ho0) hb);have n3_:=Aside0.mk (Kd.R_elder' (by (with_reducible repeat (first|apply Kd.R_alloc|apply Kd.R_drewN|apply Kd.R_drew));exact HO_13.out) (Kd.R_base ho0) hb);have n4_:=Aside0.mk (Kd.R_elder' (by (with_reducible repeat (first|apply Kd.R_alloc|apply Kd.R_drewN|apply Kd.R_drew));exact HO_635002.out) (Kd.R_base ho0) hb);have n5_:=Aside0.mk (Kd.R_elder' (by (with_reducible repeat (first|apply Kd.R_alloc|apply Kd.R_drewN|apply Kd.R_drew));exact HO650.out) (Kd.R_base ho0) hb);have n6_:=Aside0.mk (Kd.R_elder' (by (with_reducible repeat (first|apply Kd.R_alloc|apply Kd.R_drewN|apply Kd.R_drew));exact HO654.out) (Kd.R_base ho0) hb);have n7_:=Aside0.mk (Kd.R_lower (Kd.R_new' (Kd.R_new' (Kd.R_new' (Kd.R_new' (Kd.R_new' (Kd.R_new' (Kd.R_new' ho0 (Kd.R_lt (by (with_reducible repeat (first|apply Kd.R_alloc|apply Kd.R_drewN|apply Kd.R_drew));exact HO_8.out))) (Kd.R_lt (by (with_reducible repeat (first|apply Kd.R_alloc|apply Kd.R_drewN|apply Kd.R_drew));exact HO_11.out))) (Kd.R_lt (by (with_reducible repeat (first|apply Kd.R_alloc|apply Kd.R_drewN|apply Kd.R_drew));exact HO_12.out))) (Kd.R_lt (by (with_reducible repeat (first|apply Kd.R_alloc|apply Kd.R_drewN|apply Kd.R_drew));exact HO_13.out))) (Kd.R_lt (by (with_reducible repeat (first|apply Kd.R_alloc|apply Kd.R_drewN|apply Kd.R_drew));exact HO_635002.out))) (Kd.R_lt (by (with_reducible repeat (first|apply Kd.R_alloc|apply Kd.R_drewN|apply Kd.R_drew));exact HO650.out))) (Kd.R_lt (by (with_reducible repeat (first|apply Kd.R_alloc|apply Kd.R_drewN|apply Kd.R_drew));exact HO654.out))) (below_size (by repeat (first|(with_reducible first|exact HB.out|apply below_alloc|apply pw_below_drewN|apply below_drew1|refine below_set ?_ GE612.out|refine below_set ?_ GE634.out)|exact HB.out))));have n8_:=Aside0.mk (blk_below (g:=gb612) (o:=.cells #[.int .i64 a0_0,.int .i64 a0_1,.slice A0_2 l0_2.length c0_2] 24 (0,0)) (by (with_reducible repeat (first|refine blk_drewN ?_ _|refine blk_drew ?_|refine blk_alloc ?_ _));exact BK612.out) hb);have n9_:=Aside0.mk (blk_below (g:=gb634) (o:=.cells #[.int .i64 t629,.int .i64 t630,.slice Ao38 t631.length co38] 28 (0,0)) (by (with_reducible repeat (first|refine blk_drewN ?_ _|refine blk_drew ?_|refine blk_alloc ?_ _));exact BK634.out) hb);have n10_:=Aside0.mk (below_step (by repeat (first|(with_reducible first|exact HB.out|apply below_alloc|apply pw_below_drewN|apply below_drew1|refine below_set ?_ GE612.out|refine below_set ?_ GE634.out)|exact HB.out)) hb);clear HO_8;clear HO_11;clear HO_12;clear HO_13;clear HO_635002;clear HO650;clear HO654;clear BK612;clear BK634;clear HB;have HO_8:=n0_;have HO_11:=n1_;have HO_12:=n2_;have HO_13:=n3_;have HO_635002:=n4_;have HO650:=n5_;have HO654:=n6_;have HO658:=n7_;have BK612:=n8_;have BK634:=n9_;have HB:=n10_;clear n0_ n1_ n2_ n3_ n4_ n5_ n6_ n7_ n8_ n9_ n10_;(try clear hb);(try clear hb2);(try clear hk);(try clear hi);(try clear ho0);obtain ⟨Ao127,co127,eo127⟩:=Kd.R_slice HO658.out;subst eo127)|((with_reducible refine gate_callee (f:=14) rfl ?_);refine goesL_ (some 76) rfl rfl Try.func14 (by kernel_rfl) rfl #[.slice Ao43 t638.length co43,.slice Ao127 t656.length co127] rfl (by (try simp only [List.map_toArray,List.map_cons,List.map_nil]);first|done|rfl|(simp only [List.length_drop,List.length_take];rfl)) ?_;(with_reducible refine (laws_eqInt64S.calls kj20 _ _ t638 _ _ t656 false _ ?side1 ?side2 ?side3 ?side4 A59.out).mono ?_);(case side1=>repeat (first|exact (Kd.R_reads' HO_12.out).2.2|(with_reducible refine Kd.C_alloc ?_ _)|(with_reducible refine Kd.C_drewN ?_ _)|(with_reducible refine Kd.C_drew ?_)));(case side2=>exact (Kd.R_reads' HO_12.out).2.1);(case side3=>repeat (first|exact (Kd.R_reads' HO658.out).2.2|(with_reducible refine Kd.C_alloc ?_ _)|(with_reducible refine Kd.C_drewN ?_ _)|(with_reducible refine Kd.C_drew ?_)));(case side4=>exact (Kd.R_reads' HO658.out).2.1);rintro e w' ⟨rfl,⟨nd,rfl⟩⟩;refine ⟨_,rfl,?_⟩))
          go_ret
          exact ⟨by first|rfl|(simp [errW_none,errW_some] <;> rfl)|(simp [*,errW_none,errW_some] <;> rfl),by repeat (first|(with_reducible first|exact HB.out|apply below_alloc|apply pw_below_drewN|apply below_drew1|refine below_set ?_ GE612.out|refine below_set ?_ GE634.out)|exact HB.out)⟩
        ·replace c57:=Bool.eq_false_iff.mpr c57
         subst c57
         have H1 : (some false) = some r:=by rw [if_neg (show ¬ (false = true) by decide)] at H;exact H
         clear H
         have H:=H1
         clear H1
         obtain rfl:=Option.some.inj H
         try go_wp2
         have n0_:=Aside0.mk (Kd.R_drew HO_8.out)
         have n1_:=Aside0.mk (Kd.R_drew HO_11.out)
         have n2_:=Aside0.mk (Kd.R_drew HO_12.out)
         have n3_:=Aside0.mk (Kd.R_drew HO_13.out)
         have n4_:=Aside0.mk (Kd.R_drew HO_635002.out)
         have n5_:=Aside0.mk (blk_drew BK612.out)
         have n6_:=Aside0.mk (blk_drew BK634.out)
         have n7_:=Aside0.mk (below_drew1 HB.out)
         clear HO_8
         clear HO_11
         clear HO_12
         clear HO_13
         clear HO_635002
         clear BK612
         clear BK634
         clear HB
         have HO_8:=n0_
         have HO_11:=n1_
         have HO_12:=n2_
         have HO_13:=n3_
         have HO_635002:=n4_
         have BK612:=n5_
         have BK634:=n6_
         have HB:=n7_
         clear n0_ n1_ n2_ n3_ n4_ n5_ n6_ n7_
         refine start_ (n:=5) (S:=fun w'=>w'.cell? ⟨gb634,0,none⟩ = some (.int .i64 t629) ∧ w'.cell? ⟨gb634,1,none⟩ = some (.int .i64 t630) ∧ w'.cell? ⟨gb634,2,none⟩ = some (.slice Ao38 t631.length co38) ∧ w'.cell? ⟨gb612,0,none⟩ = some (.int .i64 a0_0) ∧ w'.cell? ⟨gb612,1,none⟩ = some (.int .i64 a0_1) ∧ w'.cell? ⟨gb612,2,none⟩ = some (.slice A0_2 l0_2.length c0_2)) (ds:=[]) #[false,false,false,false,false] (by kernel_rfl) rfl rfl ⟨(blk_cell BK634.out 0).trans rfl,(blk_cell BK634.out 1).trans rfl,(blk_cell BK634.out 2).trans rfl,(blk_cell BK612.out 0).trans rfl,(blk_cell BK612.out 1).trans rfl,(blk_cell BK612.out 2).trans rfl⟩ (fun hHeld=>?_)
         generalize wc.drew = w128 at HO_8 HO_11 HO_12 HO_13 HO_635002 BK612 BK634 HB hHeld ⊢
         refine take_ (i:=0) (N:=some 63) (v:=?_) (a':=?_) #[true,false,false,false,false] rfl rfl (by kernel_rfl) (fun _ _ _ h=>h) (Or.inl ⟨by rfl,?_⟩) hHeld ?_ ?_
         rotate_left
         ·rintro w' ⟨s0,s1,s2,s3,s4,s5⟩
          go_simp
          with_reducible rfl
         rotate_left
         ·simp only [Act.put,List.setIfInBounds_toArray,List.set_cons_zero,List.set_cons_succ,i64_w,i32_w]
          rfl
         refine take_ (i:=1) (N:=some 64) (v:=?_) (a':=?_) #[true,true,false,false,false] rfl rfl (by kernel_rfl) (fun _ _ _ h=>h) (Or.inl ⟨by rfl,?_⟩) hHeld ?_ ?_
         rotate_left
         ·rintro w' ⟨s0,s1,s2,s3,s4,s5⟩
          go_simp
          with_reducible rfl
         rotate_left
         ·simp only [Act.put,List.setIfInBounds_toArray,List.set_cons_zero,List.set_cons_succ,i64_w,i32_w]
          rfl
         refine one_ (i:=2) (N:=some 65) #[true,true,true,false,false] rfl rfl (by kernel_rfl) (by decide) (fun K hK=>?_)
         refine goes_ Try.func12 (by kernel_rfl) rfl #[.agg #[.int .i64 a0_0,.int .i64 a0_1,.slice A0_2 l0_2.length c0_2]] (by rfl) rfl rfl (by (try simp only [List.map_toArray,List.map_cons,List.map_nil]);first|done|rfl|(simp only [List.length_drop,List.length_take];rfl)) ?_
         with_reducible refine (laws_toSea.calls kj20 a0_0 a0_1 _ _ l0_2 t646 t647 t648 _ ?side1 ?side2 A52.out).mono ?_
         (case side1=>repeat (first|exact (Kd.C_below HR0_2.out HB.out)|(with_reducible refine Kd.C_alloc ?_ _)|(with_reducible refine Kd.C_drewN ?_ _)|(with_reducible refine Kd.C_drew ?_)))
         (case side2=>exact HC0_2.out)
         rintro e w129 ⟨v649,rfl,ho0,hb⟩
         refine ⟨_,rfl,?_⟩
         have n0_:=Aside0.mk (Kd.R_elder' (by (with_reducible repeat (first|apply Kd.R_alloc|apply Kd.R_drewN|apply Kd.R_drew));exact HO_8.out) (Kd.R_base ho0) hb)
         have n1_:=Aside0.mk (Kd.R_elder' (by (with_reducible repeat (first|apply Kd.R_alloc|apply Kd.R_drewN|apply Kd.R_drew));exact HO_11.out) (Kd.R_base ho0) hb)
         have n2_:=Aside0.mk (Kd.R_elder' (by (with_reducible repeat (first|apply Kd.R_alloc|apply Kd.R_drewN|apply Kd.R_drew));exact HO_12.out) (Kd.R_base ho0) hb)
         have n3_:=Aside0.mk (Kd.R_elder' (by (with_reducible repeat (first|apply Kd.R_alloc|apply Kd.R_drewN|apply Kd.R_drew));exact HO_13.out) (Kd.R_base ho0) hb)
         have n4_:=Aside0.mk (Kd.R_elder' (by (with_reducible repeat (first|apply Kd.R_alloc|apply Kd.R_drewN|apply Kd.R_drew));exact HO_635002.out) (Kd.R_base ho0) hb)
         have n5_:=Aside0.mk (Kd.R_lower (Kd.R_new' (Kd.R_new' (Kd.R_new' (Kd.R_new' (Kd.R_new' ho0 (Kd.R_lt (by (with_reducible repeat (first|apply Kd.R_alloc|apply Kd.R_drewN|apply Kd.R_drew));exact HO_8.out))) (Kd.R_lt (by (with_reducible repeat (first|apply Kd.R_alloc|apply Kd.R_drewN|apply Kd.R_drew));exact HO_11.out))) (Kd.R_lt (by (with_reducible repeat (first|apply Kd.R_alloc|apply Kd.R_drewN|apply Kd.R_drew));exact HO_12.out))) (Kd.R_lt (by (with_reducible repeat (first|apply Kd.R_alloc|apply Kd.R_drewN|apply Kd.R_drew));exact HO_13.out))) (Kd.R_lt (by (with_reducible repeat (first|apply Kd.R_alloc|apply Kd.R_drewN|apply Kd.R_drew));exact HO_635002.out))) (below_size (by repeat (first|(with_reducible first|exact HB.out|apply below_alloc|apply pw_below_drewN|apply below_drew1|refine below_set ?_ GE612.out|refine below_set ?_ GE634.out)|exact HB.out))))
         have n6_:=Aside0.mk (blk_below (g:=gb612) (o:=.cells #[.int .i64 a0_0,.int .i64 a0_1,.slice A0_2 l0_2.length c0_2] 24 (0,0)) (by (with_reducible repeat (first|refine blk_drewN ?_ _|refine blk_drew ?_|refine blk_alloc ?_ _));exact BK612.out) hb)
         have n7_:=Aside0.mk (blk_below (g:=gb634) (o:=.cells #[.int .i64 t629,.int .i64 t630,.slice Ao38 t631.length co38] 28 (0,0)) (by (with_reducible repeat (first|refine blk_drewN ?_ _|refine blk_drew ?_|refine blk_alloc ?_ _));exact BK634.out) hb)
         have n8_:=Aside0.mk (below_step (by repeat (first|(with_reducible first|exact HB.out|apply below_alloc|apply pw_below_drewN|apply below_drew1|refine below_set ?_ GE612.out|refine below_set ?_ GE634.out)|exact HB.out)) hb)
         clear HO_8
         clear HO_11
         clear HO_12
         clear HO_13
         clear HO_635002
         clear BK612
         clear BK634
         clear HB
         have HO_8:=n0_
         have HO_11:=n1_
         have HO_12:=n2_
         have HO_13:=n3_
         have HO_635002:=n4_
         have HO650:=n5_
         have BK612:=n6_
         have BK634:=n7_
         have HB:=n8_
         clear n0_ n1_ n2_ n3_ n4_ n5_ n6_ n7_ n8_
         (try clear hb)
         (try clear hb2)
         (try clear hk)
         (try clear hi)
         (try clear ho0)
         obtain ⟨Ao130,co130,eo130⟩:=Kd.R_slice HO650.out
         (first|subst eo130|(injection eo130 with f1_ f2_ f3_;have f4_:=f1_.symm;have f5_:=f3_.symm;clear f1_ f2_ f3_;subst f4_;subst f5_))
         refine hK.out _ _ ⟨(blk_cell BK634.out 0).trans rfl,(blk_cell BK634.out 1).trans rfl,(blk_cell BK634.out 2).trans rfl,(blk_cell BK612.out 0).trans rfl,(blk_cell BK612.out 1).trans rfl,(blk_cell BK612.out 2).trans rfl⟩ (fun hHeld=>?_)
         clear hK K
         refine norm_ (a':=?_) ?_ ?_
         rotate_left
         ·show Act.put _ (some 65) _ = _
          simp only [Act.put,List.setIfInBounds_toArray,List.set_cons_zero,List.set_cons_succ,i64_w,i32_w]
          rfl
         refine one_ (i:=3) (N:=some 66) #[true,true,true,true,false] rfl rfl (by kernel_rfl) (by decide) (fun K hK=>?_)
         refine goes_ Try.func15 (by kernel_rfl) rfl #[.agg #[.int .i64 t629,.int .i64 t630,.slice Ao38 t631.length co38],.agg #[.int .i64 t646,.int .i64 t647,.slice Ao130 t648.length co130]] (by rfl) rfl rfl (by (try simp only [List.map_toArray,List.map_cons,List.map_nil]);first|done|rfl|(simp only [List.length_drop,List.length_take];rfl)) ?_
         with_reducible refine (laws_eqSea.calls kj20 t629 t630 _ _ t631 t646 t647 _ _ t648 true _ ?side1 ?side2 ?side3 ?side4 A53.out).mono ?_
         (case side1=>repeat (first|exact (Kd.R_reads' HO_635002.out).2.2|(with_reducible refine Kd.C_alloc ?_ _)|(with_reducible refine Kd.C_drewN ?_ _)|(with_reducible refine Kd.C_drew ?_)))
         (case side2=>exact (Kd.R_reads' HO_635002.out).2.1)
         (case side3=>repeat (first|exact (Kd.R_reads' HO650.out).2.2|(with_reducible refine Kd.C_alloc ?_ _)|(with_reducible refine Kd.C_drewN ?_ _)|(with_reducible refine Kd.C_drew ?_)))
         (case side4=>exact (Kd.R_reads' HO650.out).2.1)
         rintro e w131 ⟨rfl,hb⟩
         refine ⟨_,rfl,?_⟩
         have n0_:=Aside0.mk (Kd.R_below (by (with_reducible repeat (first|apply Kd.R_alloc|apply Kd.R_drewN|apply Kd.R_drew));exact HO_8.out) hb)
         have n1_:=Aside0.mk (Kd.R_below (by (with_reducible repeat (first|apply Kd.R_alloc|apply Kd.R_drewN|apply Kd.R_drew));exact HO_11.out) hb)
         have n2_:=Aside0.mk (Kd.R_below (by (with_reducible repeat (first|apply Kd.R_alloc|apply Kd.R_drewN|apply Kd.R_drew));exact HO_12.out) hb)
         have n3_:=Aside0.mk (Kd.R_below (by (with_reducible repeat (first|apply Kd.R_alloc|apply Kd.R_drewN|apply Kd.R_drew));exact HO_13.out) hb)
         have n4_:=Aside0.mk (Kd.R_below (by (with_reducible repeat (first|apply Kd.R_alloc|apply Kd.R_drewN|apply Kd.R_drew));exact HO_635002.out) hb)
         have n5_:=Aside0.mk (Kd.R_below (by (with_reducible repeat (first|apply Kd.R_alloc|apply Kd.R_drewN|apply Kd.R_drew));exact HO650.out) hb)
         have n6_:=Aside0.mk (blk_below (g:=gb612) (o:=.cells #[.int .i64 a0_0,.int .i64 a0_1,.slice A0_2 l0_2.length c0_2] 24 (0,0)) (by (with_reducible repeat (first|refine blk_drewN ?_ _|refine blk_drew ?_|refine blk_alloc ?_ _));exact BK612.out) hb)
         have n7_:=Aside0.mk (blk_below (g:=gb634) (o:=.cells #[.int .i64 t629,.int .i64 t630,.slice Ao38 t631.length co38] 28 (0,0)) (by (with_reducible repeat (first|refine blk_drewN ?_ _|refine blk_drew ?_|refine blk_alloc ?_ _));exact BK634.out) hb)
         have n8_:=Aside0.mk (below_step (by repeat (first|(with_reducible first|exact HB.out|apply below_alloc|apply pw_below_drewN|apply below_drew1|refine below_set ?_ GE612.out|refine below_set ?_ GE634.out)|exact HB.out)) hb)
         clear HO_8
         clear HO_11
         clear HO_12
         clear HO_13
         clear HO_635002
         clear HO650
         clear BK612
         clear BK634
         clear HB
         have HO_8:=n0_
         have HO_11:=n1_
         have HO_12:=n2_
         have HO_13:=n3_
         have HO_635002:=n4_
         have HO650:=n5_
         have BK612:=n6_
         have BK634:=n7_
         have HB:=n8_
         clear n0_ n1_ n2_ n3_ n4_ n5_ n6_ n7_ n8_
         (try clear hb)
         (try clear hb2)
         (try clear hk)
         (try clear hi)
         refine hK.out _ _ ⟨(blk_cell BK634.out 0).trans rfl,(blk_cell BK634.out 1).trans rfl,(blk_cell BK634.out 2).trans rfl,(blk_cell BK612.out 0).trans rfl,(blk_cell BK612.out 1).trans rfl,(blk_cell BK612.out 2).trans rfl⟩ (fun hHeld=>?_)
         clear hK K
         refine norm_ (a':=?_) ?_ ?_
         rotate_left
         ·show Act.put _ (some 66) _ = _
          simp only [Act.put,List.setIfInBounds_toArray,List.set_cons_zero,List.set_cons_succ,i64_w,i32_w]
          rfl
         refine pure_ (i:=4) (N:=some 67) (v:=?_) (a':=?_) #[true,true,true,true,true] rfl rfl (by kernel_rfl) (fun _ _ _ h=>h) (Or.inl ⟨by rfl,?_⟩) ?_ ?_
         rotate_left
         ·intro w'
          go_simp
          with_reducible rfl
         rotate_left
         ·simp only [Act.put,List.setIfInBounds_toArray,List.set_cons_zero,List.set_cons_succ,i64_w,i32_w]
          rfl
         refine done_ (by kernel_rfl) ?_
         try go_wp2_with (first|((with_reducible refine gate_callee (f:=20) rfl ?_);refine goesL_ (some 70) rfl rfl Try.func20 (by kernel_rfl) rfl #[.slice A1 l1.length c1] rfl (by (try simp only [List.map_toArray,List.map_cons,List.map_nil]);first|done|rfl|(simp only [List.length_drop,List.length_take];rfl)) ?_;(with_reducible refine (laws_toInt64S.calls kj20 _ _ l1 t652 _ ?side1 ?side2 A55.out).mono ?_);(case side1=>repeat (first|exact (Kd.C_below HR1.out HB.out)|(with_reducible refine Kd.C_alloc ?_ _)|(with_reducible refine Kd.C_drewN ?_ _)|(with_reducible refine Kd.C_drew ?_)));(case side2=>exact HC1.out);rintro e w132 ⟨v653,rfl,ho0,hb⟩;refine ⟨_,rfl,?_⟩;have n0_:=Aside0.mk (Kd.R_elder' (by (with_reducible repeat (first|apply Kd.R_alloc|apply Kd.R_drewN|apply Kd.R_drew));exact HO_8.out) (Kd.R_base ho0) hb);have n1_:=Aside0.mk (Kd.R_elder' (by (with_reducible repeat (first|apply Kd.R_alloc|apply Kd.R_drewN|apply Kd.R_drew));exact HO_11.out) (Kd.R_base ho0) hb);have n2_:=Aside0.mk (Kd.R_elder' (by (with_reducible repeat (first|apply Kd.R_alloc|apply Kd.R_drewN|apply Kd.R_drew));exact HO_12.out) (Kd.R_base ho0) hb);have n3_:=Aside0.mk (Kd.R_elder' (by (with_reducible repeat (first|apply Kd.R_alloc|apply Kd.R_drewN|apply Kd.R_drew));exact HO_13.out) (Kd.R_base ho0) hb);have n4_:=Aside0.mk (Kd.R_elder' (by (with_reducible repeat (first|apply Kd.R_alloc|apply Kd.R_drewN|apply Kd.R_drew));exact HO_635002.out) (Kd.R_base ho0) hb);have n5_:=Aside0.mk (Kd.R_elder' (by (with_reducible repeat (first|apply Kd.R_alloc|apply Kd.R_drewN|apply Kd.R_drew));exact HO650.out) (Kd.R_base ho0) hb);have n6_:=Aside0.mk (Kd.R_lower (Kd.R_new' (Kd.R_new' (Kd.R_new' (Kd.R_new' (Kd.R_new' (Kd.R_new' ho0 (Kd.R_lt (by (with_reducible repeat (first|apply Kd.R_alloc|apply Kd.R_drewN|apply Kd.R_drew));exact HO_8.out))) (Kd.R_lt (by (with_reducible repeat (first|apply Kd.R_alloc|apply Kd.R_drewN|apply Kd.R_drew));exact HO_11.out))) (Kd.R_lt (by (with_reducible repeat (first|apply Kd.R_alloc|apply Kd.R_drewN|apply Kd.R_drew));exact HO_12.out))) (Kd.R_lt (by (with_reducible repeat (first|apply Kd.R_alloc|apply Kd.R_drewN|apply Kd.R_drew));exact HO_13.out))) (Kd.R_lt (by (with_reducible repeat (first|apply Kd.R_alloc|apply Kd.R_drewN|apply Kd.R_drew));exact HO_635002.out))) (Kd.R_lt (by (with_reducible repeat (first|apply Kd.R_alloc|apply Kd.R_drewN|apply Kd.R_drew));exact HO650.out))) (below_size (by repeat (first|(with_reducible first|exact HB.out|apply below_alloc|apply pw_below_drewN|apply below_drew1|refine below_set ?_ GE612.out|refine below_set ?_ GE634.out)|exact HB.out))));have n7_:=Aside0.mk (blk_below (g:=gb612) (o:=.cells #[.int .i64 a0_0,.int .i64 a0_1,.slice A0_2 l0_2.length c0_2] 24 (0,0)) (by (with_reducible repeat (first|refine blk_drewN ?_ _|refine blk_drew ?_|refine blk_alloc ?_ _));exact BK612.out) hb);have n8_:=Aside0.mk (blk_below (g:=gb634) (o:=.cells #[.int .i64 t629,.int .i64 t630,.slice Ao38 t631.length co38] 28 (0,0)) (by (with_reducible repeat (first|refine blk_drewN ?_ _|refine blk_drew ?_|refine blk_alloc ?_ _));exact BK634.out) hb);have n9_:=Aside0.mk (below_step (by repeat (first|(with_reducible first|exact HB.out|apply below_alloc|apply pw_below_drewN|apply below_drew1|refine below_set ?_ GE612.out|refine below_set ?_ GE634.out)|exact HB.out)) hb);clear HO_8;clear HO_11;clear HO_12;clear HO_13;clear HO_635002;clear HO650;clear BK612;clear BK634;clear HB;have HO_8:=n0_;have HO_11:=n1_;have HO_12:=n2_;have HO_13:=n3_;have HO_635002:=n4_;have HO650:=n5_;have HO654:=n6_;have BK612:=n7_;have BK634:=n8_;have HB:=n9_;clear n0_ n1_ n2_ n3_ n4_ n5_ n6_ n7_ n8_ n9_;(try clear hb);(try clear hb2);(try clear hk);(try clear hi);(try clear ho0);obtain ⟨Ao133,co133,eo133⟩:=Kd.R_slice HO654.out;subst eo133)|((with_reducible refine gate_callee (f:=14) rfl ?_);refine goesL_ (some 71) rfl rfl Try.func14 (by kernel_rfl) rfl #[.slice Ao42 t635.length co42,.slice Ao133 t652.length co133] rfl (by (try simp only [List.map_toArray,List.map_cons,List.map_nil]);first|done|rfl|(simp only [List.length_drop,List.length_take];rfl)) ?_;(with_reducible refine (laws_eqInt64S.calls kj20 _ _ t635 _ _ t652 false _ ?side1 ?side2 ?side3 ?side4 A56.out).mono ?_);(case side1=>repeat (first|exact (Kd.R_reads' HO_11.out).2.2|(with_reducible refine Kd.C_alloc ?_ _)|(with_reducible refine Kd.C_drewN ?_ _)|(with_reducible refine Kd.C_drew ?_)));(case side2=>exact (Kd.R_reads' HO_11.out).2.1);(case side3=>repeat (first|exact (Kd.R_reads' HO654.out).2.2|(with_reducible refine Kd.C_alloc ?_ _)|(with_reducible refine Kd.C_drewN ?_ _)|(with_reducible refine Kd.C_drew ?_)));(case side4=>exact (Kd.R_reads' HO654.out).2.1);rintro e w' ⟨rfl,⟨nd,rfl⟩⟩;refine ⟨_,rfl,?_⟩))
         go_ret
         exact ⟨by first|rfl|(simp [errW_none,errW_some] <;> rfl)|(simp [*,errW_none,errW_some] <;> rfl),by repeat (first|(with_reducible first|exact HB.out|apply below_alloc|apply pw_below_drewN|apply below_drew1|refine below_set ?_ GE612.out|refine below_set ?_ GE634.out)|exact HB.out)⟩
       ·replace c54:=Bool.eq_false_iff.mpr c54
        subst c54
        have H1 : (some false) = some r:=by rw [if_neg (show ¬ (false = true) by decide)] at H;exact H
        clear H
        have H:=H1
        clear H1
        obtain rfl:=Option.some.inj H
        try go_wp2
        have n0_:=Aside0.mk (Kd.R_drew HO_8.out)
        have n1_:=Aside0.mk (Kd.R_drew HO_11.out)
        have n2_:=Aside0.mk (Kd.R_drew HO_12.out)
        have n3_:=Aside0.mk (Kd.R_drew HO_13.out)
        have n4_:=Aside0.mk (Kd.R_drew HO_635002.out)
        have n5_:=Aside0.mk (blk_drew BK612.out)
        have n6_:=Aside0.mk (blk_drew BK634.out)
        have n7_:=Aside0.mk (below_drew1 HB.out)
        clear HO_8
        clear HO_11
        clear HO_12
        clear HO_13
        clear HO_635002
        clear BK612
        clear BK634
        clear HB
        have HO_8:=n0_
        have HO_11:=n1_
        have HO_12:=n2_
        have HO_13:=n3_
        have HO_635002:=n4_
        have BK612:=n5_
        have BK634:=n6_
        have HB:=n7_
        clear n0_ n1_ n2_ n3_ n4_ n5_ n6_ n7_
        refine start_ (n:=5) (S:=fun w'=>w'.cell? ⟨gb634,0,none⟩ = some (.int .i64 t629) ∧ w'.cell? ⟨gb634,1,none⟩ = some (.int .i64 t630) ∧ w'.cell? ⟨gb634,2,none⟩ = some (.slice Ao38 t631.length co38) ∧ w'.cell? ⟨gb612,0,none⟩ = some (.int .i64 a0_0) ∧ w'.cell? ⟨gb612,1,none⟩ = some (.int .i64 a0_1) ∧ w'.cell? ⟨gb612,2,none⟩ = some (.slice A0_2 l0_2.length c0_2)) (ds:=[]) #[false,false,false,false,false] (by kernel_rfl) rfl rfl ⟨(blk_cell BK634.out 0).trans rfl,(blk_cell BK634.out 1).trans rfl,(blk_cell BK634.out 2).trans rfl,(blk_cell BK612.out 0).trans rfl,(blk_cell BK612.out 1).trans rfl,(blk_cell BK612.out 2).trans rfl⟩ (fun hHeld=>?_)
        generalize wc.drew = w134 at HO_8 HO_11 HO_12 HO_13 HO_635002 BK612 BK634 HB hHeld ⊢
        refine take_ (i:=0) (N:=some 63) (v:=?_) (a':=?_) #[true,false,false,false,false] rfl rfl (by kernel_rfl) (fun _ _ _ h=>h) (Or.inl ⟨by rfl,?_⟩) hHeld ?_ ?_
        rotate_left
        ·rintro w' ⟨s0,s1,s2,s3,s4,s5⟩
         go_simp
         with_reducible rfl
        rotate_left
        ·simp only [Act.put,List.setIfInBounds_toArray,List.set_cons_zero,List.set_cons_succ,i64_w,i32_w]
         rfl
        refine take_ (i:=1) (N:=some 64) (v:=?_) (a':=?_) #[true,true,false,false,false] rfl rfl (by kernel_rfl) (fun _ _ _ h=>h) (Or.inl ⟨by rfl,?_⟩) hHeld ?_ ?_
        rotate_left
        ·rintro w' ⟨s0,s1,s2,s3,s4,s5⟩
         go_simp
         with_reducible rfl
        rotate_left
        ·simp only [Act.put,List.setIfInBounds_toArray,List.set_cons_zero,List.set_cons_succ,i64_w,i32_w]
         rfl
        refine one_ (i:=2) (N:=some 65) #[true,true,true,false,false] rfl rfl (by kernel_rfl) (by decide) (fun K hK=>?_)
        refine goes_ Try.func12 (by kernel_rfl) rfl #[.agg #[.int .i64 a0_0,.int .i64 a0_1,.slice A0_2 l0_2.length c0_2]] (by rfl) rfl rfl (by (try simp only [List.map_toArray,List.map_cons,List.map_nil]);first|done|rfl|(simp only [List.length_drop,List.length_take];rfl)) ?_
        with_reducible refine (laws_toSea.calls kj20 a0_0 a0_1 _ _ l0_2 t646 t647 t648 _ ?side1 ?side2 A52.out).mono ?_
        (case side1=>repeat (first|exact (Kd.C_below HR0_2.out HB.out)|(with_reducible refine Kd.C_alloc ?_ _)|(with_reducible refine Kd.C_drewN ?_ _)|(with_reducible refine Kd.C_drew ?_)))
        (case side2=>exact HC0_2.out)
        rintro e w135 ⟨v649,rfl,ho0,hb⟩
        refine ⟨_,rfl,?_⟩
        have n0_:=Aside0.mk (Kd.R_elder' (by (with_reducible repeat (first|apply Kd.R_alloc|apply Kd.R_drewN|apply Kd.R_drew));exact HO_8.out) (Kd.R_base ho0) hb)
        have n1_:=Aside0.mk (Kd.R_elder' (by (with_reducible repeat (first|apply Kd.R_alloc|apply Kd.R_drewN|apply Kd.R_drew));exact HO_11.out) (Kd.R_base ho0) hb)
        have n2_:=Aside0.mk (Kd.R_elder' (by (with_reducible repeat (first|apply Kd.R_alloc|apply Kd.R_drewN|apply Kd.R_drew));exact HO_12.out) (Kd.R_base ho0) hb)
        have n3_:=Aside0.mk (Kd.R_elder' (by (with_reducible repeat (first|apply Kd.R_alloc|apply Kd.R_drewN|apply Kd.R_drew));exact HO_13.out) (Kd.R_base ho0) hb)
        have n4_:=Aside0.mk (Kd.R_elder' (by (with_reducible repeat (first|apply Kd.R_alloc|apply Kd.R_drewN|apply Kd.R_drew));exact HO_635002.out) (Kd.R_base ho0) hb)
        have n5_:=Aside0.mk (Kd.R_lower (Kd.R_new' (Kd.R_new' (Kd.R_new' (Kd.R_new' (Kd.R_new' ho0 (Kd.R_lt (by (with_reducible repeat (first|apply Kd.R_alloc|apply Kd.R_drewN|apply Kd.R_drew));exact HO_8.out))) (Kd.R_lt (by (with_reducible repeat (first|apply Kd.R_alloc|apply Kd.R_drewN|apply Kd.R_drew));exact HO_11.out))) (Kd.R_lt (by (with_reducible repeat (first|apply Kd.R_alloc|apply Kd.R_drewN|apply Kd.R_drew));exact HO_12.out))) (Kd.R_lt (by (with_reducible repeat (first|apply Kd.R_alloc|apply Kd.R_drewN|apply Kd.R_drew));exact HO_13.out))) (Kd.R_lt (by (with_reducible repeat (first|apply Kd.R_alloc|apply Kd.R_drewN|apply Kd.R_drew));exact HO_635002.out))) (below_size (by repeat (first|(with_reducible first|exact HB.out|apply below_alloc|apply pw_below_drewN|apply below_drew1|refine below_set ?_ GE612.out|refine below_set ?_ GE634.out)|exact HB.out))))
        have n6_:=Aside0.mk (blk_below (g:=gb612) (o:=.cells #[.int .i64 a0_0,.int .i64 a0_1,.slice A0_2 l0_2.length c0_2] 24 (0,0)) (by (with_reducible repeat (first|refine blk_drewN ?_ _|refine blk_drew ?_|refine blk_alloc ?_ _));exact BK612.out) hb)
        have n7_:=Aside0.mk (blk_below (g:=gb634) (o:=.cells #[.int .i64 t629,.int .i64 t630,.slice Ao38 t631.length co38] 28 (0,0)) (by (with_reducible repeat (first|refine blk_drewN ?_ _|refine blk_drew ?_|refine blk_alloc ?_ _));exact BK634.out) hb)
        have n8_:=Aside0.mk (below_step (by repeat (first|(with_reducible first|exact HB.out|apply below_alloc|apply pw_below_drewN|apply below_drew1|refine below_set ?_ GE612.out|refine below_set ?_ GE634.out)|exact HB.out)) hb)
        clear HO_8
        clear HO_11
        clear HO_12
        clear HO_13
        clear HO_635002
        clear BK612
        clear BK634
        clear HB
        have HO_8:=n0_
        have HO_11:=n1_
        have HO_12:=n2_
        have HO_13:=n3_
        have HO_635002:=n4_
        have HO650:=n5_
        have BK612:=n6_
        have BK634:=n7_
        have HB:=n8_
        clear n0_ n1_ n2_ n3_ n4_ n5_ n6_ n7_ n8_
        (try clear hb)
        (try clear hb2)
        (try clear hk)
        (try clear hi)
        (try clear ho0)
        obtain ⟨Ao136,co136,eo136⟩:=Kd.R_slice HO650.out
        (first|subst eo136|(injection eo136 with f1_ f2_ f3_;have f4_:=f1_.symm;have f5_:=f3_.symm;clear f1_ f2_ f3_;subst f4_;subst f5_))
        refine hK.out _ _ ⟨(blk_cell BK634.out 0).trans rfl,(blk_cell BK634.out 1).trans rfl,(blk_cell BK634.out 2).trans rfl,(blk_cell BK612.out 0).trans rfl,(blk_cell BK612.out 1).trans rfl,(blk_cell BK612.out 2).trans rfl⟩ (fun hHeld=>?_)
        clear hK K
        refine norm_ (a':=?_) ?_ ?_
        rotate_left
        ·show Act.put _ (some 65) _ = _
         simp only [Act.put,List.setIfInBounds_toArray,List.set_cons_zero,List.set_cons_succ,i64_w,i32_w]
         rfl
        refine one_ (i:=3) (N:=some 66) #[true,true,true,true,false] rfl rfl (by kernel_rfl) (by decide) (fun K hK=>?_)
        refine goes_ Try.func15 (by kernel_rfl) rfl #[.agg #[.int .i64 t629,.int .i64 t630,.slice Ao38 t631.length co38],.agg #[.int .i64 t646,.int .i64 t647,.slice Ao136 t648.length co136]] (by rfl) rfl rfl (by (try simp only [List.map_toArray,List.map_cons,List.map_nil]);first|done|rfl|(simp only [List.length_drop,List.length_take];rfl)) ?_
        with_reducible refine (laws_eqSea.calls kj20 t629 t630 _ _ t631 t646 t647 _ _ t648 false _ ?side1 ?side2 ?side3 ?side4 A53.out).mono ?_
        (case side1=>repeat (first|exact (Kd.R_reads' HO_635002.out).2.2|(with_reducible refine Kd.C_alloc ?_ _)|(with_reducible refine Kd.C_drewN ?_ _)|(with_reducible refine Kd.C_drew ?_)))
        (case side2=>exact (Kd.R_reads' HO_635002.out).2.1)
        (case side3=>repeat (first|exact (Kd.R_reads' HO650.out).2.2|(with_reducible refine Kd.C_alloc ?_ _)|(with_reducible refine Kd.C_drewN ?_ _)|(with_reducible refine Kd.C_drew ?_)))
        (case side4=>exact (Kd.R_reads' HO650.out).2.1)
        rintro e w137 ⟨rfl,hb⟩
        refine ⟨_,rfl,?_⟩
        have n0_:=Aside0.mk (Kd.R_below (by (with_reducible repeat (first|apply Kd.R_alloc|apply Kd.R_drewN|apply Kd.R_drew));exact HO_8.out) hb)
        have n1_:=Aside0.mk (Kd.R_below (by (with_reducible repeat (first|apply Kd.R_alloc|apply Kd.R_drewN|apply Kd.R_drew));exact HO_11.out) hb)
        have n2_:=Aside0.mk (Kd.R_below (by (with_reducible repeat (first|apply Kd.R_alloc|apply Kd.R_drewN|apply Kd.R_drew));exact HO_12.out) hb)
        have n3_:=Aside0.mk (Kd.R_below (by (with_reducible repeat (first|apply Kd.R_alloc|apply Kd.R_drewN|apply Kd.R_drew));exact HO_13.out) hb)
        have n4_:=Aside0.mk (Kd.R_below (by (with_reducible repeat (first|apply Kd.R_alloc|apply Kd.R_drewN|apply Kd.R_drew));exact HO_635002.out) hb)
        have n5_:=Aside0.mk (Kd.R_below (by (with_reducible repeat (first|apply Kd.R_alloc|apply Kd.R_drewN|apply Kd.R_drew));exact HO650.out) hb)
        have n6_:=Aside0.mk (blk_below (g:=gb612) (o:=.cells #[.int .i64 a0_0,.int .i64 a0_1,.slice A0_2 l0_2.length c0_2] 24 (0,0)) (by (with_reducible repeat (first|refine blk_drewN ?_ _|refine blk_drew ?_|refine blk_alloc ?_ _));exact BK612.out) hb)
        have n7_:=Aside0.mk (blk_below (g:=gb634) (o:=.cells #[.int .i64 t629,.int .i64 t630,.slice Ao38 t631.length co38] 28 (0,0)) (by (with_reducible repeat (first|refine blk_drewN ?_ _|refine blk_drew ?_|refine blk_alloc ?_ _));exact BK634.out) hb)
        have n8_:=Aside0.mk (below_step (by repeat (first|(with_reducible first|exact HB.out|apply below_alloc|apply pw_below_drewN|apply below_drew1|refine below_set ?_ GE612.out|refine below_set ?_ GE634.out)|exact HB.out)) hb)
        clear HO_8
        clear HO_11
        clear HO_12
        clear HO_13
        clear HO_635002
        clear HO650
        clear BK612
        clear BK634
        clear HB
        have HO_8:=n0_
        have HO_11:=n1_
        have HO_12:=n2_
        have HO_13:=n3_
        have HO_635002:=n4_
        have HO650:=n5_
        have BK612:=n6_
        have BK634:=n7_
        have HB:=n8_
        clear n0_ n1_ n2_ n3_ n4_ n5_ n6_ n7_ n8_
        (try clear hb)
        (try clear hb2)
        (try clear hk)
        (try clear hi)
        refine hK.out _ _ ⟨(blk_cell BK634.out 0).trans rfl,(blk_cell BK634.out 1).trans rfl,(blk_cell BK634.out 2).trans rfl,(blk_cell BK612.out 0).trans rfl,(blk_cell BK612.out 1).trans rfl,(blk_cell BK612.out 2).trans rfl⟩ (fun hHeld=>?_)
        clear hK K
        refine norm_ (a':=?_) ?_ ?_
        rotate_left
        ·show Act.put _ (some 66) _ = _
         simp only [Act.put,List.setIfInBounds_toArray,List.set_cons_zero,List.set_cons_succ,i64_w,i32_w]
         rfl
        refine pure_ (i:=4) (N:=some 67) (v:=?_) (a':=?_) #[true,true,true,true,true] rfl rfl (by kernel_rfl) (fun _ _ _ h=>h) (Or.inl ⟨by rfl,?_⟩) ?_ ?_
        rotate_left
        ·intro w'
         go_simp
         with_reducible rfl
        rotate_left
        ·simp only [Act.put,List.setIfInBounds_toArray,List.set_cons_zero,List.set_cons_succ,i64_w,i32_w]
         rfl
        refine done_ (by kernel_rfl) ?_
        try go_wp2
        go_ret
        exact ⟨by first|rfl|(simp [errW_none,errW_some] <;> rfl)|(simp [*,errW_none,errW_some] <;> rfl),by repeat (first|(with_reducible first|exact HB.out|apply below_alloc|apply pw_below_drewN|apply below_drew1|refine below_set ?_ GE612.out|refine below_set ?_ GE634.out)|exact HB.out)⟩

end Go.Proofs.Ytankgbfddgpfmaa.PAll
