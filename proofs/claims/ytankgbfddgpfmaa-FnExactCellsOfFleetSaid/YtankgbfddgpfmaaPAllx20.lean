-- Written by wip/pp.py of this work (a driver around the kit's print), out of the translation; Lean checks it.
import Derived.Test.YtankgbfddgpfmaaPAllx0
import Derived.Test.YtankgbfddgpfmaaPAllx1
import Derived.Test.YtankgbfddgpfmaaPAllx2
import Derived.Test.YtankgbfddgpfmaaPAllx11
import Derived.Test.YtankgbfddgpfmaaPAllx12
import Derived.Test.YtankgbfddgpfmaaPAllx18
import Derived.Test.YtankgbfddgpfmaaPAllx19
namespace Go.Proofs.Ytankgbfddgpfmaa.PAll
open Go.RowKit Go.Proofs.YtankgbfddgpfmaaW.PrintWords Go.Proofs.YtankgbfddgpfmaaW.PrintLast Go.Proofs.YtankgbfddgpfmaaW.PrintMore
attribute [local go_sem] max2_int min2_int max_two min_two max_three min_three max_four min_four   -- for this text's walks alone
set_option linter.unusedVariables false
set_option linter.unusedSimpArgs false

/-! ### laws_FnExactCellsOfFleet: function 7 -/
mutual
def laws_FnExactCellsOfFleet.j0 : Nat → List Int → List Int → Int → List Int → List Int → Int → Bool → Int → Int → List Int → Int → Int → List Int → Option (Bool)
 | 0, _, _, _, _, _, _, _, _, _, _, _, _, _ => none
 | k + 1, x1, x6, x7, x9, x10, x11, x51, x522000, x522001, x522002, x541000, x541001, x541002 => if x51 = true then (some false) else ((laws_toSea.f k x522000 x522001 x522002).bind fun bt549 => ((laws_eqSea.f k x541000 x541001 x541002 bt549.1 bt549.2.1 bt549.2.2).bind fun t554 => (if t554 = true then ((laws_toInt64S.f k x1).bind fun t555 => ((laws_eqInt64S.f k x9 t555).bind fun t558 => (if t558 = true then ((laws_markSea.f k x541000 x541001 x541002 1).bind fun bt559 => ((laws_markInt64S.f k x9 bt559.1).bind fun bt561 => (if bt561.1 < 0 then (laws_FnExactCellsOfFleet.j1 k x1 x6 x7 x10 true x522000 x522001 x522002) else ((laws_eqInt64S.f k x10 x6).bind fun t563 => (if t563 = true then (laws_FnExactCellsOfFleet.j1 k x1 x6 x7 x10 (x11 != x7) x522000 x522001 x522002) else (laws_FnExactCellsOfFleet.j1 k x1 x6 x7 x10 true x522000 x522001 x522002)))))) else (some false)))) else (some false))))
def laws_FnExactCellsOfFleet.j1 : Nat → List Int → List Int → Int → List Int → Bool → Int → Int → List Int → Option (Bool)
 | 0, _, _, _, _, _, _, _, _ => none
 | k + 1, x1, x6, x7, x10, x80, x522000, x522001, x522002 => if x80 = true then (some false) else ((laws_markInt64S.f k x10 1).bind fun bt564 => ((laws_heldInt64S.f k bt564.2 1).bind fun t566 => (if t566 < 0 then (some false) else (if t566 = bt564.1 then ((laws_toSea.f k x522000 x522001 x522002).bind fun bt567 => ((laws_toInt64S.f k x1).bind fun t572 => ((impl_CellsOfFleet.f k bt567.1 bt567.2.1 bt567.2.2 t572).bind fun bt575 => ((laws_eqInt64S.f k bt575.1 x6).bind fun t579 => (if t579 = true then (laws_FnExactCellsOfFleet.j2 k bt564.2 bt564.1 (bt575.2 != x7)) else (laws_FnExactCellsOfFleet.j2 k bt564.2 bt564.1 true)))))) else (some false)))))
def laws_FnExactCellsOfFleet.j2 : Nat → List Int → Int → Bool → Option (Bool)
 | 0, _, _, _ => none
 | k + 1, x10, x13, x108 => if x108 = true then (some false) else ((laws_heldInt64S.f k x10 1).bind fun t580 => (if t580 < 0 then (some false) else (if t580 = x13 then (some true) else (some false))))
end
def laws_FnExactCellsOfFleet.f (k : Nat) (a0_0 : Int) (a0_1 : Int) (l0_2 : List Int) (l1 : List Int) : Option (Bool) := if (l1.length : Int) > 1048576 then (some true) else ((laws_szSea.f a0_0 a0_1 l0_2 1048576).bind fun t522 => (if t522 < 0 then (some true) else ((laws_toSea.f k a0_0 a0_1 l0_2).bind fun bt523 => ((laws_toInt64S.f k l1).bind fun t528 => ((spec_CellsOfFleet.f k bt523.1 bt523.2.1 bt523.2.2 t528).bind fun bt531 => ((laws_toSea.f k a0_0 a0_1 l0_2).bind fun bt535 => ((laws_toInt64S.f k l1).bind fun t541 => ((impl_CellsOfFleet.f k bt535.1 bt535.2.1 bt535.2.2 t541).bind fun bt544 => ((laws_eqInt64S.f k bt544.1 bt531.1).bind fun t548 => (if t548 = true then (laws_FnExactCellsOfFleet.j0 k l1 bt531.1 bt531.2 t541 bt544.1 bt544.2 (bt544.2 != bt531.2) a0_0 a0_1 l0_2 bt535.1 bt535.2.1 bt535.2.2) else (laws_FnExactCellsOfFleet.j0 k l1 bt531.1 bt531.2 t541 bt544.1 bt544.2 true a0_0 a0_1 l0_2 bt535.1 bt535.2.1 bt535.2.2)))))))))))
set_option maxHeartbeats 8000000 in
set_option maxRecDepth 100000 in
theorem laws_FnExactCellsOfFleet.calls (k : Nat) (a0_0 : Int) (a0_1 : Int) (A0_2 : Option Addr) (c0_2 : Nat) (l0_2 : List Int) (A1 : Option Addr) (c1 : Nat) (l1 : List Int) (r : Bool) (w : World) (hr0_2 : Kd.C (Kd.int .i64) w A0_2 l0_2.length l0_2) (hc0_2 : l0_2.length ≤ c0_2) (hr1 : Kd.C (Kd.int .i64) w A1 l1.length l1) (hc1 : l1.length ≤ c1) (h : laws_FnExactCellsOfFleet.f k a0_0 a0_1 l0_2 l1 = some r) :
  Calls Try.prog 7 #[.agg #[.int .i64 a0_0,.int .i64 a0_1,.slice A0_2 l0_2.length c0_2],.slice A1 l1.length c1] w fun e w'=>e = .returned (.bool r) ∧ Below w.heap.size w w':=by
 have hu24:=Try.underlying24
 have hu28:=Try.underlying28
 have HR0_2:=Aside0.mk hr0_2
 have HC0_2:=Aside0.mk hc0_2
 clear hr0_2 hc0_2
 have HR1:=Aside0.mk hr1
 have HC1:=Aside0.mk hc1
 clear hr1 hc1
 have HB:=Aside0.mk (Below.refl w.heap.size w)
 have H : (if (l1.length : Int) > 1048576 then (some true) else ((laws_szSea.f a0_0 a0_1 l0_2 1048576).bind fun t522=>(if t522 < 0 then (some true) else ((laws_toSea.f k a0_0 a0_1 l0_2).bind fun bt523=>((laws_toInt64S.f k l1).bind fun t528=>((spec_CellsOfFleet.f k bt523.1 bt523.2.1 bt523.2.2 t528).bind fun bt531=>((laws_toSea.f k a0_0 a0_1 l0_2).bind fun bt535=>((laws_toInt64S.f k l1).bind fun t541=>((impl_CellsOfFleet.f k bt535.1 bt535.2.1 bt535.2.2 t541).bind fun bt544=>((laws_eqInt64S.f k bt544.1 bt531.1).bind fun t548=>(if t548 = true then (laws_FnExactCellsOfFleet.j0 k l1 bt531.1 bt531.2 t541 bt544.1 bt544.2 (bt544.2 != bt531.2) a0_0 a0_1 l0_2 bt535.1 bt535.2.1 bt535.2.2) else (laws_FnExactCellsOfFleet.j0 k l1 bt531.1 bt531.2 t541 bt544.1 bt544.2 true a0_0 a0_1 l0_2 bt535.1 bt535.2.1 bt535.2.2)))))))))))) = some r:=h
 clear h
 by_cases c3 : (l1.length : Int) > 1048576
 ·rw [if_pos c3] at H
  have c3b0 : decide (1048576 < (l1.length : Int)) = true:=decide_eq_true c3
  have c3b1 : decide (1048576 < l1.length) = true:=decide_eq_true (by omega)
  clear c3
  obtain rfl:=Option.some.inj H
  go_enter Try.func7,Try.ntmps7
  go_wp2_with (first|((with_reducible refine gate_dst (N:=2) rfl ?_);refine box_event ?hg (N:=2) ?hd (cs:=#[.int .i64 a0_0,.int .i64 a0_1,.slice A0_2 l0_2.length c0_2]) (t:=24) ?hr ?_;(case hd=>rfl);(case hg=>rfl);(case hr=>first|(go_simp;done)|(go_simp;rfl));intro gb521 hg w4 hbox hb;have n0_:=Aside0.mk (below_step (by repeat (first|(with_reducible first|exact HB.out|apply below_alloc|apply pw_below_drewN|apply below_drew1)|exact HB.out)) hb);have n1_:=Aside0.mk (hbox);have n2_:=Aside0.mk ((by rw [hg];exact (below_size (by repeat (first|(with_reducible first|exact HB.out|apply below_alloc|apply pw_below_drewN|apply below_drew1)|exact HB.out))) : w.heap.size ≤ gb521));have n3_:=Aside0.mk ((by rw [hg];exact (below_size (by repeat (first|(with_reducible first|exact HB.out|apply below_alloc|apply pw_below_drewN|apply below_drew1)|exact HB.out))) : w.heap.size ≤ gb521));clear HB;have HB:=n0_;have BK521:=n1_;have GW521:=n2_;have GE521:=n3_;clear n0_ n1_ n2_ n3_;clear hb hbox hg))
  go_ret
  exact ⟨by first|rfl|(simp [errW_none,errW_some] <;> rfl)|(simp [*,errW_none,errW_some] <;> rfl),by repeat (first|(with_reducible first|exact HB.out|apply below_alloc|apply pw_below_drewN|apply below_drew1|refine below_set ?_ GE521.out)|exact HB.out)⟩
 ·rw [if_neg c3] at H
  have c3b0 : decide (1048576 < (l1.length : Int)) = false:=decide_eq_false c3
  have c3b1 : decide (1048576 < l1.length) = false:=decide_eq_false (by omega)
  clear c3
  replace H:=Option.bind_eq_some_iff.mp H
  obtain ⟨t522,A50,H⟩:=H
  replace H : (if t522 < 0 then (some true) else ((laws_toSea.f k a0_0 a0_1 l0_2).bind fun bt523=>((laws_toInt64S.f k l1).bind fun t528=>((spec_CellsOfFleet.f k bt523.1 bt523.2.1 bt523.2.2 t528).bind fun bt531=>((laws_toSea.f k a0_0 a0_1 l0_2).bind fun bt535=>((laws_toInt64S.f k l1).bind fun t541=>((impl_CellsOfFleet.f k bt535.1 bt535.2.1 bt535.2.2 t541).bind fun bt544=>((laws_eqInt64S.f k bt544.1 bt531.1).bind fun t548=>(if t548 = true then (laws_FnExactCellsOfFleet.j0 k l1 bt531.1 bt531.2 t541 bt544.1 bt544.2 (bt544.2 != bt531.2) a0_0 a0_1 l0_2 bt535.1 bt535.2.1 bt535.2.2) else (laws_FnExactCellsOfFleet.j0 k l1 bt531.1 bt531.2 t541 bt544.1 bt544.2 true a0_0 a0_1 l0_2 bt535.1 bt535.2.1 bt535.2.2)))))))))) = some r:=H
  have A5:=Aside0.mk A50
  clear A50
  by_cases c6 : t522 < 0
  ·rw [if_pos c6] at H
   have c6b0 : decide (t522 < 0) = true:=decide_eq_true c6
   clear c6
   obtain rfl:=Option.some.inj H
   go_enter Try.func7,Try.ntmps7
   go_wp2_with (first|((with_reducible refine gate_dst (N:=2) rfl ?_);refine box_event ?hg (N:=2) ?hd (cs:=#[.int .i64 a0_0,.int .i64 a0_1,.slice A0_2 l0_2.length c0_2]) (t:=24) ?hr ?_;(case hd=>rfl);(case hg=>rfl);(case hr=>first|(go_simp;done)|(go_simp;rfl));intro gb521 hg w7 hbox hb;have n0_:=Aside0.mk (below_step (by repeat (first|(with_reducible first|exact HB.out|apply below_alloc|apply pw_below_drewN|apply below_drew1)|exact HB.out)) hb);have n1_:=Aside0.mk (hbox);have n2_:=Aside0.mk ((by rw [hg];exact (below_size (by repeat (first|(with_reducible first|exact HB.out|apply below_alloc|apply pw_below_drewN|apply below_drew1)|exact HB.out))) : w.heap.size ≤ gb521));have n3_:=Aside0.mk ((by rw [hg];exact (below_size (by repeat (first|(with_reducible first|exact HB.out|apply below_alloc|apply pw_below_drewN|apply below_drew1)|exact HB.out))) : w.heap.size ≤ gb521));clear HB;have HB:=n0_;have BK521:=n1_;have GW521:=n2_;have GE521:=n3_;clear n0_ n1_ n2_ n3_;clear hb hbox hg;have hcz8_0 : w7.cell? ⟨gb521,0,none⟩ = some (.int .i64 a0_0):=(blk_cell BK521.out 0).trans rfl;have hcz8_1 : w7.cell? ⟨gb521,1,none⟩ = some (.int .i64 a0_1):=(blk_cell BK521.out 1).trans rfl;have hcz8_2 : w7.cell? ⟨gb521,2,none⟩ = some (.slice A0_2 l0_2.length c0_2):=(blk_cell BK521.out 2).trans rfl;have hfz8_0:=blk_frozen BK521.out 0;have hfz8_1:=blk_frozen BK521.out 1;have hfz8_2:=blk_frozen BK521.out 2)|((with_reducible refine gate_callee (f:=10) rfl ?_);refine goesL_ (some 22) rfl rfl Try.func10 (by kernel_rfl) rfl #[.agg #[.int .i64 a0_0,.int .i64 a0_1,.slice A0_2 l0_2.length c0_2],.int .i64 1048576] rfl (by (try simp only [List.map_toArray,List.map_cons,List.map_nil]);first|done|rfl|(simp only [List.length_drop,List.length_take];rfl)) ?_;(with_reducible refine (laws_szSea.calls a0_0 a0_1 _ _ l0_2 1048576 t522 _ ?side1 ?side2 A5.out).mono ?_);(case side1=>repeat (first|exact (Kd.C_below HR0_2.out HB.out)|(with_reducible refine Kd.C_alloc ?_ _)|(with_reducible refine Kd.C_drewN ?_ _)|(with_reducible refine Kd.C_drew ?_)));(case side2=>exact HC0_2.out);rintro e w9 ⟨rfl,hb⟩;refine ⟨_,rfl,?_⟩;have n0_:=Aside0.mk (blk_below (g:=gb521) (o:=.cells #[.int .i64 a0_0,.int .i64 a0_1,.slice A0_2 l0_2.length c0_2] 24 (0,0)) (by (with_reducible repeat (first|refine blk_drewN ?_ _|refine blk_drew ?_|refine blk_alloc ?_ _));exact BK521.out) hb);have n1_:=Aside0.mk (below_step (by repeat (first|(with_reducible first|exact HB.out|apply below_alloc|apply pw_below_drewN|apply below_drew1|refine below_set ?_ GE521.out)|exact HB.out)) hb);clear BK521;clear HB;have BK521:=n0_;have HB:=n1_;clear n0_ n1_;(try clear hb);(try clear hb2);(try clear hk);(try clear hi)))
   go_ret
   exact ⟨by first|rfl|(simp [errW_none,errW_some] <;> rfl)|(simp [*,errW_none,errW_some] <;> rfl),by repeat (first|(with_reducible first|exact HB.out|apply below_alloc|apply pw_below_drewN|apply below_drew1|refine below_set ?_ GE521.out)|exact HB.out)⟩
  ·rw [if_neg c6] at H
   have c6b0 : decide (t522 < 0) = false:=decide_eq_false c6
   clear c6
   replace H:=Option.bind_eq_some_iff.mp H
   obtain ⟨⟨t523,t524,t525⟩,A100,H⟩:=H
   replace H : ((laws_toInt64S.f k l1).bind fun t528=>((spec_CellsOfFleet.f k t523 t524 t525 t528).bind fun bt531=>((laws_toSea.f k a0_0 a0_1 l0_2).bind fun bt535=>((laws_toInt64S.f k l1).bind fun t541=>((impl_CellsOfFleet.f k bt535.1 bt535.2.1 bt535.2.2 t541).bind fun bt544=>((laws_eqInt64S.f k bt544.1 bt531.1).bind fun t548=>(if t548 = true then (laws_FnExactCellsOfFleet.j0 k l1 bt531.1 bt531.2 t541 bt544.1 bt544.2 (bt544.2 != bt531.2) a0_0 a0_1 l0_2 bt535.1 bt535.2.1 bt535.2.2) else (laws_FnExactCellsOfFleet.j0 k l1 bt531.1 bt531.2 t541 bt544.1 bt544.2 true a0_0 a0_1 l0_2 bt535.1 bt535.2.1 bt535.2.2)))))))) = some r:=H
   have A10:=Aside0.mk A100
   clear A100
   replace H:=Option.bind_eq_some_iff.mp H
   obtain ⟨t528,A110,H⟩:=H
   replace H : ((spec_CellsOfFleet.f k t523 t524 t525 t528).bind fun bt531=>((laws_toSea.f k a0_0 a0_1 l0_2).bind fun bt535=>((laws_toInt64S.f k l1).bind fun t541=>((impl_CellsOfFleet.f k bt535.1 bt535.2.1 bt535.2.2 t541).bind fun bt544=>((laws_eqInt64S.f k bt544.1 bt531.1).bind fun t548=>(if t548 = true then (laws_FnExactCellsOfFleet.j0 k l1 bt531.1 bt531.2 t541 bt544.1 bt544.2 (bt544.2 != bt531.2) a0_0 a0_1 l0_2 bt535.1 bt535.2.1 bt535.2.2) else (laws_FnExactCellsOfFleet.j0 k l1 bt531.1 bt531.2 t541 bt544.1 bt544.2 true a0_0 a0_1 l0_2 bt535.1 bt535.2.1 bt535.2.2))))))) = some r:=H
   have A11:=Aside0.mk A110
   clear A110
   replace H:=Option.bind_eq_some_iff.mp H
   obtain ⟨⟨t531,t534⟩,A120,H⟩:=H
   replace H : ((laws_toSea.f k a0_0 a0_1 l0_2).bind fun bt535=>((laws_toInt64S.f k l1).bind fun t541=>((impl_CellsOfFleet.f k bt535.1 bt535.2.1 bt535.2.2 t541).bind fun bt544=>((laws_eqInt64S.f k bt544.1 t531).bind fun t548=>(if t548 = true then (laws_FnExactCellsOfFleet.j0 k l1 t531 t534 t541 bt544.1 bt544.2 (bt544.2 != t534) a0_0 a0_1 l0_2 bt535.1 bt535.2.1 bt535.2.2) else (laws_FnExactCellsOfFleet.j0 k l1 t531 t534 t541 bt544.1 bt544.2 true a0_0 a0_1 l0_2 bt535.1 bt535.2.1 bt535.2.2)))))) = some r:=H
   have A12:=Aside0.mk A120
   clear A120
   replace H:=Option.bind_eq_some_iff.mp H
   obtain ⟨⟨t535,t536,t537⟩,A130,H⟩:=H
   replace H : ((laws_toInt64S.f k l1).bind fun t541=>((impl_CellsOfFleet.f k t535 t536 t537 t541).bind fun bt544=>((laws_eqInt64S.f k bt544.1 t531).bind fun t548=>(if t548 = true then (laws_FnExactCellsOfFleet.j0 k l1 t531 t534 t541 bt544.1 bt544.2 (bt544.2 != t534) a0_0 a0_1 l0_2 t535 t536 t537) else (laws_FnExactCellsOfFleet.j0 k l1 t531 t534 t541 bt544.1 bt544.2 true a0_0 a0_1 l0_2 t535 t536 t537))))) = some r:=H
   have A13:=Aside0.mk A130
   clear A130
   replace H:=Option.bind_eq_some_iff.mp H
   obtain ⟨t541,A140,H⟩:=H
   replace H : ((impl_CellsOfFleet.f k t535 t536 t537 t541).bind fun bt544=>((laws_eqInt64S.f k bt544.1 t531).bind fun t548=>(if t548 = true then (laws_FnExactCellsOfFleet.j0 k l1 t531 t534 t541 bt544.1 bt544.2 (bt544.2 != t534) a0_0 a0_1 l0_2 t535 t536 t537) else (laws_FnExactCellsOfFleet.j0 k l1 t531 t534 t541 bt544.1 bt544.2 true a0_0 a0_1 l0_2 t535 t536 t537)))) = some r:=H
   have A14:=Aside0.mk A140
   clear A140
   replace H:=Option.bind_eq_some_iff.mp H
   obtain ⟨⟨t544,t547⟩,A150,H⟩:=H
   replace H : ((laws_eqInt64S.f k t544 t531).bind fun t548=>(if t548 = true then (laws_FnExactCellsOfFleet.j0 k l1 t531 t534 t541 t544 t547 (t547 != t534) a0_0 a0_1 l0_2 t535 t536 t537) else (laws_FnExactCellsOfFleet.j0 k l1 t531 t534 t541 t544 t547 true a0_0 a0_1 l0_2 t535 t536 t537))) = some r:=H
   have A15:=Aside0.mk A150
   clear A150
   have HC16:=Aside0.mk H
   clear H
   go_enter Try.func7,Try.ntmps7
   go_upto_region 11 with (first|((with_reducible refine gate_dst (N:=2) rfl ?_);refine box_event ?hg (N:=2) ?hd (cs:=#[.int .i64 a0_0,.int .i64 a0_1,.slice A0_2 l0_2.length c0_2]) (t:=24) ?hr ?_;(case hd=>rfl);(case hg=>rfl);(case hr=>first|(go_simp;done)|(go_simp;rfl));intro gb521 hg w17 hbox hb;have n0_:=Aside0.mk (below_step (by repeat (first|(with_reducible first|exact HB.out|apply below_alloc|apply pw_below_drewN|apply below_drew1)|exact HB.out)) hb);have n1_:=Aside0.mk (hbox);have n2_:=Aside0.mk ((by rw [hg];exact (below_size (by repeat (first|(with_reducible first|exact HB.out|apply below_alloc|apply pw_below_drewN|apply below_drew1)|exact HB.out))) : w.heap.size ≤ gb521));have n3_:=Aside0.mk ((by rw [hg];exact (below_size (by repeat (first|(with_reducible first|exact HB.out|apply below_alloc|apply pw_below_drewN|apply below_drew1)|exact HB.out))) : w.heap.size ≤ gb521));clear HB;have HB:=n0_;have BK521:=n1_;have GW521:=n2_;have GE521:=n3_;clear n0_ n1_ n2_ n3_;clear hb hbox hg;have hcz18_0 : w17.cell? ⟨gb521,0,none⟩ = some (.int .i64 a0_0):=(blk_cell BK521.out 0).trans rfl;have hcz18_1 : w17.cell? ⟨gb521,1,none⟩ = some (.int .i64 a0_1):=(blk_cell BK521.out 1).trans rfl;have hcz18_2 : w17.cell? ⟨gb521,2,none⟩ = some (.slice A0_2 l0_2.length c0_2):=(blk_cell BK521.out 2).trans rfl;have hfz18_0:=blk_frozen BK521.out 0;have hfz18_1:=blk_frozen BK521.out 1;have hfz18_2:=blk_frozen BK521.out 2)|((with_reducible refine gate_callee (f:=10) rfl ?_);refine goesL_ (some 22) rfl rfl Try.func10 (by kernel_rfl) rfl #[.agg #[.int .i64 a0_0,.int .i64 a0_1,.slice A0_2 l0_2.length c0_2],.int .i64 1048576] rfl (by (try simp only [List.map_toArray,List.map_cons,List.map_nil]);first|done|rfl|(simp only [List.length_drop,List.length_take];rfl)) ?_;(with_reducible refine (laws_szSea.calls a0_0 a0_1 _ _ l0_2 1048576 t522 _ ?side1 ?side2 A5.out).mono ?_);(case side1=>repeat (first|exact (Kd.C_below HR0_2.out HB.out)|(with_reducible refine Kd.C_alloc ?_ _)|(with_reducible refine Kd.C_drewN ?_ _)|(with_reducible refine Kd.C_drew ?_)));(case side2=>exact HC0_2.out);rintro e w19 ⟨rfl,hb⟩;refine ⟨_,rfl,?_⟩;have n0_:=Aside0.mk (blk_below (g:=gb521) (o:=.cells #[.int .i64 a0_0,.int .i64 a0_1,.slice A0_2 l0_2.length c0_2] 24 (0,0)) (by (with_reducible repeat (first|refine blk_drewN ?_ _|refine blk_drew ?_|refine blk_alloc ?_ _));exact BK521.out) hb);have n1_:=Aside0.mk (below_step (by repeat (first|(with_reducible first|exact HB.out|apply below_alloc|apply pw_below_drewN|apply below_drew1|refine below_set ?_ GE521.out)|exact HB.out)) hb);clear BK521;clear HB;have BK521:=n0_;have HB:=n1_;clear n0_ n1_;(try clear hb);(try clear hb2);(try clear hk);(try clear hi);have hcz20_0 : w19.cell? ⟨gb521,0,none⟩ = some (.int .i64 a0_0):=(blk_cell BK521.out 0).trans rfl;have hcz20_1 : w19.cell? ⟨gb521,1,none⟩ = some (.int .i64 a0_1):=(blk_cell BK521.out 1).trans rfl;have hcz20_2 : w19.cell? ⟨gb521,2,none⟩ = some (.slice A0_2 l0_2.length c0_2):=(blk_cell BK521.out 2).trans rfl;have hfz20_0:=blk_frozen BK521.out 0;have hfz20_1:=blk_frozen BK521.out 1;have hfz20_2:=blk_frozen BK521.out 2)|((with_reducible refine gate_callee (f:=12) rfl ?_);refine goesL_ (some 27) rfl rfl Try.func12 (by kernel_rfl) rfl #[.agg #[.int .i64 a0_0,.int .i64 a0_1,.slice A0_2 l0_2.length c0_2]] rfl (by (try simp only [List.map_toArray,List.map_cons,List.map_nil]);first|done|rfl|(simp only [List.length_drop,List.length_take];rfl)) ?_;(with_reducible refine (laws_toSea.calls k a0_0 a0_1 _ _ l0_2 t523 t524 t525 _ ?side1 ?side2 A10.out).mono ?_);(case side1=>repeat (first|exact (Kd.C_below HR0_2.out HB.out)|(with_reducible refine Kd.C_alloc ?_ _)|(with_reducible refine Kd.C_drewN ?_ _)|(with_reducible refine Kd.C_drew ?_)));(case side2=>exact HC0_2.out);rintro e w21 ⟨v526,rfl,ho0,hb⟩;refine ⟨_,rfl,?_⟩;have n0_:=Aside0.mk (Kd.R_lower ho0 (below_size (by repeat (first|(with_reducible first|exact HB.out|apply below_alloc|apply pw_below_drewN|apply below_drew1|refine below_set ?_ GE521.out)|exact HB.out))));have n1_:=Aside0.mk (blk_below (g:=gb521) (o:=.cells #[.int .i64 a0_0,.int .i64 a0_1,.slice A0_2 l0_2.length c0_2] 24 (0,0)) (by (with_reducible repeat (first|refine blk_drewN ?_ _|refine blk_drew ?_|refine blk_alloc ?_ _));exact BK521.out) hb);have n2_:=Aside0.mk (below_step (by repeat (first|(with_reducible first|exact HB.out|apply below_alloc|apply pw_below_drewN|apply below_drew1|refine below_set ?_ GE521.out)|exact HB.out)) hb);clear BK521;clear HB;have HO527:=n0_;have BK521:=n1_;have HB:=n2_;clear n0_ n1_ n2_;(try clear hb);(try clear hb2);(try clear hk);(try clear hi);(try clear ho0))|((with_reducible refine gate_callee (f:=20) rfl ?_);refine goesL_ (some 29) rfl rfl Try.func20 (by kernel_rfl) rfl #[.slice A1 l1.length c1] rfl (by (try simp only [List.map_toArray,List.map_cons,List.map_nil]);first|done|rfl|(simp only [List.length_drop,List.length_take];rfl)) ?_;(with_reducible refine (laws_toInt64S.calls k _ _ l1 t528 _ ?side1 ?side2 A11.out).mono ?_);(case side1=>repeat (first|exact (Kd.C_below HR1.out HB.out)|(with_reducible refine Kd.C_alloc ?_ _)|(with_reducible refine Kd.C_drewN ?_ _)|(with_reducible refine Kd.C_drew ?_)));(case side2=>exact HC1.out);rintro e w22 ⟨v529,rfl,ho0,hb⟩;refine ⟨_,rfl,?_⟩;have n0_:=Aside0.mk (Kd.R_elder' (by (with_reducible repeat (first|apply Kd.R_alloc|apply Kd.R_drewN|apply Kd.R_drew));exact HO527.out) (Kd.R_base ho0) hb);have n1_:=Aside0.mk (Kd.R_lower (Kd.R_new' ho0 (Kd.R_lt (by (with_reducible repeat (first|apply Kd.R_alloc|apply Kd.R_drewN|apply Kd.R_drew));exact HO527.out))) (below_size (by repeat (first|(with_reducible first|exact HB.out|apply below_alloc|apply pw_below_drewN|apply below_drew1|refine below_set ?_ GE521.out)|exact HB.out))));have n2_:=Aside0.mk (blk_below (g:=gb521) (o:=.cells #[.int .i64 a0_0,.int .i64 a0_1,.slice A0_2 l0_2.length c0_2] 24 (0,0)) (by (with_reducible repeat (first|refine blk_drewN ?_ _|refine blk_drew ?_|refine blk_alloc ?_ _));exact BK521.out) hb);have n3_:=Aside0.mk (below_step (by repeat (first|(with_reducible first|exact HB.out|apply below_alloc|apply pw_below_drewN|apply below_drew1|refine below_set ?_ GE521.out)|exact HB.out)) hb);clear HO527;clear BK521;clear HB;have HO527:=n0_;have HO530:=n1_;have BK521:=n2_;have HB:=n3_;clear n0_ n1_ n2_ n3_;(try clear hb);(try clear hb2);(try clear hk);(try clear hi);(try clear ho0);obtain ⟨Ao23,co23,eo23⟩:=Kd.R_slice HO527.out;subst eo23;obtain ⟨Ao24,co24,eo24⟩:=Kd.R_slice HO530.out;subst eo24)|((with_reducible refine gate_callee (f:=29) rfl ?_);refine goesL_ (some 30) rfl rfl Try.func29 (by kernel_rfl) rfl #[.agg #[.int .i64 t523,.int .i64 t524,.slice Ao23 t525.length co23],.slice Ao24 t528.length co24] rfl (by (try simp only [List.map_toArray,List.map_cons,List.map_nil]);first|done|rfl|(simp only [List.length_drop,List.length_take];rfl)) ?_;(with_reducible refine (spec_CellsOfFleet.calls k t523 t524 _ _ t525 _ _ t528 t531 t534 _ ?side1 ?side2 ?side3 ?side4 A12.out).mono ?_);(case side1=>repeat (first|exact (Kd.R_reads' HO527.out).2.2|(with_reducible refine Kd.C_alloc ?_ _)|(with_reducible refine Kd.C_drewN ?_ _)|(with_reducible refine Kd.C_drew ?_)));(case side2=>exact (Kd.R_reads' HO527.out).2.1);(case side3=>repeat (first|exact (Kd.R_reads' HO530.out).2.2|(with_reducible refine Kd.C_alloc ?_ _)|(with_reducible refine Kd.C_drewN ?_ _)|(with_reducible refine Kd.C_drew ?_)));(case side4=>exact (Kd.R_reads' HO530.out).2.1);rintro e w25 ⟨v532,rfl,ho0,hb⟩;refine ⟨_,rfl,?_⟩;have n0_:=Aside0.mk (Kd.R_elder' (by (with_reducible repeat (first|apply Kd.R_alloc|apply Kd.R_drewN|apply Kd.R_drew));exact HO527.out) (Kd.R_base ho0) hb);have n1_:=Aside0.mk (Kd.R_elder' (by (with_reducible repeat (first|apply Kd.R_alloc|apply Kd.R_drewN|apply Kd.R_drew));exact HO530.out) (Kd.R_base ho0) hb);have n2_:=Aside0.mk (Kd.R_lower (Kd.R_new' (Kd.R_new' ho0 (Kd.R_lt (by (with_reducible repeat (first|apply Kd.R_alloc|apply Kd.R_drewN|apply Kd.R_drew));exact HO527.out))) (Kd.R_lt (by (with_reducible repeat (first|apply Kd.R_alloc|apply Kd.R_drewN|apply Kd.R_drew));exact HO530.out))) (below_size (by repeat (first|(with_reducible first|exact HB.out|apply below_alloc|apply pw_below_drewN|apply below_drew1|refine below_set ?_ GE521.out)|exact HB.out))));have n3_:=Aside0.mk (blk_below (g:=gb521) (o:=.cells #[.int .i64 a0_0,.int .i64 a0_1,.slice A0_2 l0_2.length c0_2] 24 (0,0)) (by (with_reducible repeat (first|refine blk_drewN ?_ _|refine blk_drew ?_|refine blk_alloc ?_ _));exact BK521.out) hb);have n4_:=Aside0.mk (below_step (by repeat (first|(with_reducible first|exact HB.out|apply below_alloc|apply pw_below_drewN|apply below_drew1|refine below_set ?_ GE521.out)|exact HB.out)) hb);clear HO527;clear HO530;clear BK521;clear HB;have HO527:=n0_;have HO530:=n1_;have HO533:=n2_;have BK521:=n3_;have HB:=n4_;clear n0_ n1_ n2_ n3_ n4_;(try clear hb);(try clear hb2);(try clear hk);(try clear hi);(try clear ho0);have hcz26_0 : w25.cell? ⟨gb521,0,none⟩ = some (.int .i64 a0_0):=(blk_cell BK521.out 0).trans rfl;have hcz26_1 : w25.cell? ⟨gb521,1,none⟩ = some (.int .i64 a0_1):=(blk_cell BK521.out 1).trans rfl;have hcz26_2 : w25.cell? ⟨gb521,2,none⟩ = some (.slice A0_2 l0_2.length c0_2):=(blk_cell BK521.out 2).trans rfl;have hfz26_0:=blk_frozen BK521.out 0;have hfz26_1:=blk_frozen BK521.out 1;have hfz26_2:=blk_frozen BK521.out 2)|((with_reducible refine gate_callee (f:=12) rfl ?_);refine goesL_ (some 34) rfl rfl Try.func12 (by kernel_rfl) rfl #[.agg #[.int .i64 a0_0,.int .i64 a0_1,.slice A0_2 l0_2.length c0_2]] rfl (by (try simp only [List.map_toArray,List.map_cons,List.map_nil]);first|done|rfl|(simp only [List.length_drop,List.length_take];rfl)) ?_;(with_reducible refine (laws_toSea.calls k a0_0 a0_1 _ _ l0_2 t535 t536 t537 _ ?side1 ?side2 A13.out).mono ?_);(case side1=>repeat (first|exact (Kd.C_below HR0_2.out HB.out)|(with_reducible refine Kd.C_alloc ?_ _)|(with_reducible refine Kd.C_drewN ?_ _)|(with_reducible refine Kd.C_drew ?_)));(case side2=>exact HC0_2.out);rintro e w27 ⟨v538,rfl,ho0,hb⟩;refine ⟨_,rfl,?_⟩;have n0_:=Aside0.mk (Kd.R_elder' (by (with_reducible repeat (first|apply Kd.R_alloc|apply Kd.R_drewN|apply Kd.R_drew));exact HO527.out) (Kd.R_base ho0) hb);have n1_:=Aside0.mk (Kd.R_elder' (by (with_reducible repeat (first|apply Kd.R_alloc|apply Kd.R_drewN|apply Kd.R_drew));exact HO530.out) (Kd.R_base ho0) hb);have n2_:=Aside0.mk (Kd.R_elder' (by (with_reducible repeat (first|apply Kd.R_alloc|apply Kd.R_drewN|apply Kd.R_drew));exact HO533.out) (Kd.R_base ho0) hb);have n3_:=Aside0.mk (Kd.R_lower (Kd.R_new' (Kd.R_new' (Kd.R_new' ho0 (Kd.R_lt (by (with_reducible repeat (first|apply Kd.R_alloc|apply Kd.R_drewN|apply Kd.R_drew));exact HO527.out))) (Kd.R_lt (by (with_reducible repeat (first|apply Kd.R_alloc|apply Kd.R_drewN|apply Kd.R_drew));exact HO530.out))) (Kd.R_lt (by (with_reducible repeat (first|apply Kd.R_alloc|apply Kd.R_drewN|apply Kd.R_drew));exact HO533.out))) (below_size (by repeat (first|(with_reducible first|exact HB.out|apply below_alloc|apply pw_below_drewN|apply below_drew1|refine below_set ?_ GE521.out)|exact HB.out))));have n4_:=Aside0.mk (blk_below (g:=gb521) (o:=.cells #[.int .i64 a0_0,.int .i64 a0_1,.slice A0_2 l0_2.length c0_2] 24 (0,0)) (by (with_reducible repeat (first|refine blk_drewN ?_ _|refine blk_drew ?_|refine blk_alloc ?_ _));exact BK521.out) hb);have n5_:=Aside0.mk (below_step (by repeat (first|(with_reducible first|exact HB.out|apply below_alloc|apply pw_below_drewN|apply below_drew1|refine below_set ?_ GE521.out)|exact HB.out)) hb);clear HO527;clear HO530;clear HO533;clear BK521;clear HB;have HO527:=n0_;have HO530:=n1_;have HO533:=n2_;have HO539:=n3_;have BK521:=n4_;have HB:=n5_;clear n0_ n1_ n2_ n3_ n4_ n5_;(try clear hb);(try clear hb2);(try clear hk);(try clear hi);(try clear ho0))|((with_reducible refine gate_dst (N:=8) rfl ?_);refine box_event ?hg (N:=8) ?hd (cs:=#[.int .i64 0,.int .i64 0,.slice none 0 0]) (t:=28) ?hr ?_;(case hd=>rfl);(case hg=>rfl);(case hr=>first|(go_simp;done)|(go_simp;rfl));intro gb540 hg w28 hbox hb;have n0_:=Aside0.mk (Kd.R_below (by (with_reducible repeat (first|apply Kd.R_alloc|apply Kd.R_drewN|apply Kd.R_drew));exact HO527.out) hb);have n1_:=Aside0.mk (Kd.R_below (by (with_reducible repeat (first|apply Kd.R_alloc|apply Kd.R_drewN|apply Kd.R_drew));exact HO530.out) hb);have n2_:=Aside0.mk (Kd.R_below (by (with_reducible repeat (first|apply Kd.R_alloc|apply Kd.R_drewN|apply Kd.R_drew));exact HO533.out) hb);have n3_:=Aside0.mk (Kd.R_below (by (with_reducible repeat (first|apply Kd.R_alloc|apply Kd.R_drewN|apply Kd.R_drew));exact HO539.out) hb);have n4_:=Aside0.mk (blk_below (g:=gb521) (o:=.cells #[.int .i64 a0_0,.int .i64 a0_1,.slice A0_2 l0_2.length c0_2] 24 (0,0)) (by (with_reducible repeat (first|refine blk_drewN ?_ _|refine blk_drew ?_|refine blk_alloc ?_ _));exact BK521.out) hb);have n5_:=Aside0.mk (below_step (by repeat (first|(with_reducible first|exact HB.out|apply below_alloc|apply pw_below_drewN|apply below_drew1|refine below_set ?_ GE521.out)|exact HB.out)) hb);have n6_:=Aside0.mk (hbox);have n7_:=Aside0.mk ((by rw [hg];exact (below_size (by repeat (first|(with_reducible first|exact HB.out|apply below_alloc|apply pw_below_drewN|apply below_drew1|refine below_set ?_ GE521.out)|exact HB.out))) : w.heap.size ≤ gb540));have n8_:=Aside0.mk ((by rw [hg];exact (below_size (by repeat (first|(with_reducible first|exact HB.out|apply below_alloc|apply pw_below_drewN|apply below_drew1|refine below_set ?_ GE521.out)|exact HB.out))) : w.heap.size ≤ gb540));have n9_:=Aside0.mk ((by rw [hg];exact Nat.ne_of_lt (blk_lt (g:=gb521) (o:=.cells #[.int .i64 a0_0,.int .i64 a0_1,.slice A0_2 l0_2.length c0_2] 24 (0,0)) (by (with_reducible repeat (first|refine blk_drewN ?_ _|refine blk_drew ?_|refine blk_alloc ?_ _));exact BK521.out)) : gb521 ≠ gb540));have n10_:=Aside0.mk ((by rw [hg];exact Nat.ne_of_gt (blk_lt (g:=gb521) (o:=.cells #[.int .i64 a0_0,.int .i64 a0_1,.slice A0_2 l0_2.length c0_2] 24 (0,0)) (by (with_reducible repeat (first|refine blk_drewN ?_ _|refine blk_drew ?_|refine blk_alloc ?_ _));exact BK521.out)) : gb540 ≠ gb521));clear HO527;clear HO530;clear HO533;clear HO539;clear BK521;clear HB;have HO527:=n0_;have HO530:=n1_;have HO533:=n2_;have HO539:=n3_;have BK521:=n4_;have HB:=n5_;have BK540:=n6_;have GW540:=n7_;have GE540:=n8_;have NB521_540:=n9_;have NB540_521:=n10_;clear n0_ n1_ n2_ n3_ n4_ n5_ n6_ n7_ n8_ n9_ n10_;clear hb hbox hg;have hnb29:=NB540_521.out;have hnc29:=NB521_540.out;have hcz30_0 : w28.cell? ⟨gb540,0,none⟩ = some (.int .i64 0):=(blk_cell BK540.out 0).trans rfl;have hcz30_1 : w28.cell? ⟨gb540,1,none⟩ = some (.int .i64 0):=(blk_cell BK540.out 1).trans rfl;have hcz30_2 : w28.cell? ⟨gb540,2,none⟩ = some (.slice none 0 0):=(blk_cell BK540.out 2).trans rfl;have hfz30_0:=blk_frozen BK540.out 0;have hfz30_1:=blk_frozen BK540.out 1;have hfz30_2:=blk_frozen BK540.out 2;obtain ⟨Ao31,co31,eo31⟩:=Kd.R_slice HO539.out;subst eo31)|((with_reducible refine gate_callee (f:=20) rfl ?_);refine goesL_ (some 36) rfl rfl Try.func20 (by kernel_rfl) rfl #[.slice A1 l1.length c1] rfl (by (try simp only [List.map_toArray,List.map_cons,List.map_nil]);first|done|rfl|(simp only [List.length_drop,List.length_take];rfl)) ?_;(with_reducible refine (laws_toInt64S.calls k _ _ l1 t541 _ ?side1 ?side2 A14.out).mono ?_);(case side1=>exact Kd.C_below HR1.out (by repeat (first|(with_reducible first|exact HB.out|apply below_alloc|apply pw_below_drewN|apply below_drew1|refine below_set ?_ GE521.out|refine below_set ?_ GE540.out)|exact HB.out)));(case side2=>exact HC1.out);rintro e w32 ⟨v542,rfl,ho0,hb⟩;refine ⟨_,rfl,?_⟩;have n0_:=Aside0.mk (Kd.R_elder' (by (with_reducible repeat (first|apply Kd.R_alloc|apply Kd.R_drewN|apply Kd.R_drew));exact (Kd.R_mono (Kd.R_far (p:=⟨gb540,2,none⟩) (Kd.R_far (p:=⟨gb540,1,none⟩) (Kd.R_far (p:=⟨gb540,0,none⟩) (Kd.R_types HO527.out BK540.out (by decide)) (fun _ hk=>hk.2) (.int .i64 t535)) (fun _ hk=>hk.2) (.int .i64 t536)) (fun _ hk=>hk.2) (.slice Ao31 t537.length co31)) (fun _ h_=>h_.1))) (Kd.R_base ho0) hb);have n1_:=Aside0.mk (Kd.R_elder' (by (with_reducible repeat (first|apply Kd.R_alloc|apply Kd.R_drewN|apply Kd.R_drew));exact (Kd.R_mono (Kd.R_far (p:=⟨gb540,2,none⟩) (Kd.R_far (p:=⟨gb540,1,none⟩) (Kd.R_far (p:=⟨gb540,0,none⟩) (Kd.R_types HO530.out BK540.out (by decide)) (fun _ hk=>hk.2) (.int .i64 t535)) (fun _ hk=>hk.2) (.int .i64 t536)) (fun _ hk=>hk.2) (.slice Ao31 t537.length co31)) (fun _ h_=>h_.1))) (Kd.R_base ho0) hb);have n2_:=Aside0.mk (Kd.R_elder' (by (with_reducible repeat (first|apply Kd.R_alloc|apply Kd.R_drewN|apply Kd.R_drew));exact (Kd.R_mono (Kd.R_far (p:=⟨gb540,2,none⟩) (Kd.R_far (p:=⟨gb540,1,none⟩) (Kd.R_far (p:=⟨gb540,0,none⟩) (Kd.R_types HO533.out BK540.out (by decide)) (fun _ hk=>hk.2) (.int .i64 t535)) (fun _ hk=>hk.2) (.int .i64 t536)) (fun _ hk=>hk.2) (.slice Ao31 t537.length co31)) (fun _ h_=>h_.1))) (Kd.R_base ho0) hb);have n3_:=Aside0.mk (Kd.R_elder' (by (with_reducible repeat (first|apply Kd.R_alloc|apply Kd.R_drewN|apply Kd.R_drew));exact (Kd.R_mono (Kd.R_far (p:=⟨gb540,2,none⟩) (Kd.R_far (p:=⟨gb540,1,none⟩) (Kd.R_far (p:=⟨gb540,0,none⟩) (Kd.R_types HO539.out BK540.out (by decide)) (fun _ hk=>hk.2) (.int .i64 t535)) (fun _ hk=>hk.2) (.int .i64 t536)) (fun _ hk=>hk.2) (.slice Ao31 t537.length co31)) (fun _ h_=>h_.1))) (Kd.R_base ho0) hb);have n4_:=Aside0.mk (Kd.R_lower (Kd.R_new' (Kd.R_new' (Kd.R_new' (Kd.R_new' ho0 (Kd.R_lt (by (with_reducible repeat (first|apply Kd.R_alloc|apply Kd.R_drewN|apply Kd.R_drew));exact (Kd.R_mono (Kd.R_far (p:=⟨gb540,2,none⟩) (Kd.R_far (p:=⟨gb540,1,none⟩) (Kd.R_far (p:=⟨gb540,0,none⟩) (Kd.R_types HO527.out BK540.out (by decide)) (fun _ hk=>hk.2) (.int .i64 t535)) (fun _ hk=>hk.2) (.int .i64 t536)) (fun _ hk=>hk.2) (.slice Ao31 t537.length co31)) (fun _ h_=>h_.1))))) (Kd.R_lt (by (with_reducible repeat (first|apply Kd.R_alloc|apply Kd.R_drewN|apply Kd.R_drew));exact (Kd.R_mono (Kd.R_far (p:=⟨gb540,2,none⟩) (Kd.R_far (p:=⟨gb540,1,none⟩) (Kd.R_far (p:=⟨gb540,0,none⟩) (Kd.R_types HO530.out BK540.out (by decide)) (fun _ hk=>hk.2) (.int .i64 t535)) (fun _ hk=>hk.2) (.int .i64 t536)) (fun _ hk=>hk.2) (.slice Ao31 t537.length co31)) (fun _ h_=>h_.1))))) (Kd.R_lt (by (with_reducible repeat (first|apply Kd.R_alloc|apply Kd.R_drewN|apply Kd.R_drew));exact (Kd.R_mono (Kd.R_far (p:=⟨gb540,2,none⟩) (Kd.R_far (p:=⟨gb540,1,none⟩) (Kd.R_far (p:=⟨gb540,0,none⟩) (Kd.R_types HO533.out BK540.out (by decide)) (fun _ hk=>hk.2) (.int .i64 t535)) (fun _ hk=>hk.2) (.int .i64 t536)) (fun _ hk=>hk.2) (.slice Ao31 t537.length co31)) (fun _ h_=>h_.1))))) (Kd.R_lt (by (with_reducible repeat (first|apply Kd.R_alloc|apply Kd.R_drewN|apply Kd.R_drew));exact (Kd.R_mono (Kd.R_far (p:=⟨gb540,2,none⟩) (Kd.R_far (p:=⟨gb540,1,none⟩) (Kd.R_far (p:=⟨gb540,0,none⟩) (Kd.R_types HO539.out BK540.out (by decide)) (fun _ hk=>hk.2) (.int .i64 t535)) (fun _ hk=>hk.2) (.int .i64 t536)) (fun _ hk=>hk.2) (.slice Ao31 t537.length co31)) (fun _ h_=>h_.1))))) (below_size (by repeat (first|(with_reducible first|exact HB.out|apply below_alloc|apply pw_below_drewN|apply below_drew1|refine below_set ?_ GE521.out|refine below_set ?_ GE540.out)|exact HB.out))));have n5_:=Aside0.mk (blk_below (g:=gb521) (o:=.cells #[.int .i64 a0_0,.int .i64 a0_1,.slice A0_2 l0_2.length c0_2] 24 (0,0)) (by (with_reducible repeat (first|refine blk_drewN ?_ _|refine blk_drew ?_|refine blk_alloc ?_ _));refine blk_far ?_ NB521_540.out _;(with_reducible repeat (first|refine blk_drewN ?_ _|refine blk_drew ?_|refine blk_alloc ?_ _));refine blk_far ?_ NB521_540.out _;(with_reducible repeat (first|refine blk_drewN ?_ _|refine blk_drew ?_|refine blk_alloc ?_ _));refine blk_far ?_ NB521_540.out _;(with_reducible repeat (first|refine blk_drewN ?_ _|refine blk_drew ?_|refine blk_alloc ?_ _));exact BK521.out) hb);have n6_:=Aside0.mk (blk_below (g:=gb540) (o:=.cells #[.int .i64 t535,.int .i64 t536,.slice Ao31 t537.length co31] 28 (0,0)) (by (with_reducible repeat (first|refine blk_drewN ?_ _|refine blk_drew ?_|refine blk_alloc ?_ _));refine blk_put (cs:=#[.int .i64 t535,.int .i64 t536,.slice none 0 0]) ?_ 2 _ rfl;(with_reducible repeat (first|refine blk_drewN ?_ _|refine blk_drew ?_|refine blk_alloc ?_ _));refine blk_put (cs:=#[.int .i64 t535,.int .i64 0,.slice none 0 0]) ?_ 1 _ rfl;(with_reducible repeat (first|refine blk_drewN ?_ _|refine blk_drew ?_|refine blk_alloc ?_ _));refine blk_put (cs:=#[.int .i64 0,.int .i64 0,.slice none 0 0]) ?_ 0 _ rfl;(with_reducible repeat (first|refine blk_drewN ?_ _|refine blk_drew ?_|refine blk_alloc ?_ _));exact BK540.out) hb);have n7_:=Aside0.mk (below_step (by repeat (first|(with_reducible first|exact HB.out|apply below_alloc|apply pw_below_drewN|apply below_drew1|refine below_set ?_ GE521.out|refine below_set ?_ GE540.out)|exact HB.out)) hb);clear HO527;clear HO530;clear HO533;clear HO539;clear BK521;clear BK540;clear HB;have HO527:=n0_;have HO530:=n1_;have HO533:=n2_;have HO539:=n3_;have HO543:=n4_;have BK521:=n5_;have BK540:=n6_;have HB:=n7_;clear n0_ n1_ n2_ n3_ n4_ n5_ n6_ n7_;(try clear hb);(try clear hb2);(try clear hk);(try clear hi);(try clear ho0);have hcz33_0 : w32.cell? ⟨gb540,0,none⟩ = some (.int .i64 t535):=(blk_cell BK540.out 0).trans rfl;have hcz33_1 : w32.cell? ⟨gb540,1,none⟩ = some (.int .i64 t536):=(blk_cell BK540.out 1).trans rfl;have hcz33_2 : w32.cell? ⟨gb540,2,none⟩ = some (.slice Ao31 t537.length co31):=(blk_cell BK540.out 2).trans rfl;have hfz33_0:=blk_frozen BK540.out 0;have hfz33_1:=blk_frozen BK540.out 1;have hfz33_2:=blk_frozen BK540.out 2;obtain ⟨Ao34,co34,eo34⟩:=Kd.R_slice HO543.out;subst eo34)|((with_reducible refine gate_callee (f:=30) rfl ?_);refine goesL_ (some 40) rfl rfl Try.func30 (by kernel_rfl) rfl #[.agg #[.int .i64 t535,.int .i64 t536,.slice Ao31 t537.length co31],.slice Ao34 t541.length co34] rfl (by (try simp only [List.map_toArray,List.map_cons,List.map_nil]);first|done|rfl|(simp only [List.length_drop,List.length_take];rfl)) ?_;(with_reducible refine (impl_CellsOfFleet.calls k t535 t536 _ _ t537 _ _ t541 t544 t547 _ ?side1 ?side2 ?side3 ?side4 A15.out).mono ?_);(case side1=>repeat (first|exact (Kd.R_reads' HO539.out).2.2|(with_reducible refine Kd.C_alloc ?_ _)|(with_reducible refine Kd.C_drewN ?_ _)|(with_reducible refine Kd.C_drew ?_)));(case side2=>exact (Kd.R_reads' HO539.out).2.1);(case side3=>repeat (first|exact (Kd.R_reads' HO543.out).2.2|(with_reducible refine Kd.C_alloc ?_ _)|(with_reducible refine Kd.C_drewN ?_ _)|(with_reducible refine Kd.C_drew ?_)));(case side4=>exact (Kd.R_reads' HO543.out).2.1);rintro e w35 ⟨v545,rfl,ho0,hb⟩;refine ⟨_,rfl,?_⟩;have n0_:=Aside0.mk (Kd.R_elder' (by (with_reducible repeat (first|apply Kd.R_alloc|apply Kd.R_drewN|apply Kd.R_drew));exact HO527.out) (Kd.R_base ho0) hb);have n1_:=Aside0.mk (Kd.R_elder' (by (with_reducible repeat (first|apply Kd.R_alloc|apply Kd.R_drewN|apply Kd.R_drew));exact HO530.out) (Kd.R_base ho0) hb);have n2_:=Aside0.mk (Kd.R_elder' (by (with_reducible repeat (first|apply Kd.R_alloc|apply Kd.R_drewN|apply Kd.R_drew));exact HO533.out) (Kd.R_base ho0) hb);have n3_:=Aside0.mk (Kd.R_elder' (by (with_reducible repeat (first|apply Kd.R_alloc|apply Kd.R_drewN|apply Kd.R_drew));exact HO539.out) (Kd.R_base ho0) hb);have n4_:=Aside0.mk (Kd.R_elder' (by (with_reducible repeat (first|apply Kd.R_alloc|apply Kd.R_drewN|apply Kd.R_drew));exact HO543.out) (Kd.R_base ho0) hb);have n5_:=Aside0.mk (Kd.R_lower (Kd.R_new' (Kd.R_new' (Kd.R_new' (Kd.R_new' (Kd.R_new' ho0 (Kd.R_lt (by (with_reducible repeat (first|apply Kd.R_alloc|apply Kd.R_drewN|apply Kd.R_drew));exact HO527.out))) (Kd.R_lt (by (with_reducible repeat (first|apply Kd.R_alloc|apply Kd.R_drewN|apply Kd.R_drew));exact HO530.out))) (Kd.R_lt (by (with_reducible repeat (first|apply Kd.R_alloc|apply Kd.R_drewN|apply Kd.R_drew));exact HO533.out))) (Kd.R_lt (by (with_reducible repeat (first|apply Kd.R_alloc|apply Kd.R_drewN|apply Kd.R_drew));exact HO539.out))) (Kd.R_lt (by (with_reducible repeat (first|apply Kd.R_alloc|apply Kd.R_drewN|apply Kd.R_drew));exact HO543.out))) (below_size (by repeat (first|(with_reducible first|exact HB.out|apply below_alloc|apply pw_below_drewN|apply below_drew1|refine below_set ?_ GE521.out|refine below_set ?_ GE540.out)|exact HB.out))));have n6_:=Aside0.mk (blk_below (g:=gb521) (o:=.cells #[.int .i64 a0_0,.int .i64 a0_1,.slice A0_2 l0_2.length c0_2] 24 (0,0)) (by (with_reducible repeat (first|refine blk_drewN ?_ _|refine blk_drew ?_|refine blk_alloc ?_ _));exact BK521.out) hb);have n7_:=Aside0.mk (blk_below (g:=gb540) (o:=.cells #[.int .i64 t535,.int .i64 t536,.slice Ao31 t537.length co31] 28 (0,0)) (by (with_reducible repeat (first|refine blk_drewN ?_ _|refine blk_drew ?_|refine blk_alloc ?_ _));exact BK540.out) hb);have n8_:=Aside0.mk (below_step (by repeat (first|(with_reducible first|exact HB.out|apply below_alloc|apply pw_below_drewN|apply below_drew1|refine below_set ?_ GE521.out|refine below_set ?_ GE540.out)|exact HB.out)) hb);clear HO527;clear HO530;clear HO533;clear HO539;clear HO543;clear BK521;clear BK540;clear HB;have HO527:=n0_;have HO530:=n1_;have HO533:=n2_;have HO539:=n3_;have HO543:=n4_;have HO546:=n5_;have BK521:=n6_;have BK540:=n7_;have HB:=n8_;clear n0_ n1_ n2_ n3_ n4_ n5_ n6_ n7_ n8_;(try clear hb);(try clear hb2);(try clear hk);(try clear hi);(try clear ho0)))
   (try simp only [Act.put,List.setIfInBounds_toArray,List.set_cons_zero,List.set_cons_succ])
   go_cut [51] (fun v51 wc=>∃ (kq : Nat) (x51_15 : Bool),v51 = .bool x51_15 ∧ Aside0 (laws_FnExactCellsOfFleet.j0 kq l1 t531 t534 t541 t544 t547 x51_15 a0_0 a0_1 l0_2 t535 t536 t537 = some r) ∧ Aside0 (kq ≤ k) ∧ Aside0 (Kd.R (Kd.int .i64) 2 wc w.heap.size (fun k_=>some k_ ≠ ((.slice Ao34 t541.length co34) : Value).ownBlock ∧ some k_ ≠ (v545 : Value).ownBlock ∧ some k_ ≠ ((.slice Ao31 t537.length co31) : Value).ownBlock) v532 t531) ∧ Aside0 (Kd.R (Kd.int .i64) 2 wc w.heap.size (fun k_=>some k_ ≠ (v532 : Value).ownBlock ∧ some k_ ≠ (v545 : Value).ownBlock ∧ some k_ ≠ ((.slice Ao31 t537.length co31) : Value).ownBlock) (.slice Ao34 t541.length co34) t541) ∧ Aside0 (Kd.R (Kd.int .i64) 2 wc w.heap.size (fun k_=>some k_ ≠ (v532 : Value).ownBlock ∧ some k_ ≠ ((.slice Ao34 t541.length co34) : Value).ownBlock ∧ some k_ ≠ ((.slice Ao31 t537.length co31) : Value).ownBlock) v545 t544) ∧ Aside0 (Kd.R (Kd.int .i64) 2 wc w.heap.size (fun k_=>some k_ ≠ (v532 : Value).ownBlock ∧ some k_ ≠ ((.slice Ao34 t541.length co34) : Value).ownBlock ∧ some k_ ≠ (v545 : Value).ownBlock) (.slice Ao31 t537.length co31) t537) ∧ Aside0 (wc.heap[gb521]? = some (.cells #[.int .i64 a0_0,.int .i64 a0_1,(.slice A0_2 l0_2.length c0_2)] 24 (0,0))) ∧ Aside0 (wc.heap[gb540]? = some (.cells #[.int .i64 t535,.int .i64 t536,(.slice Ao31 t537.length co31)] 28 (0,0))) ∧ Aside0 (Below w.heap.size w wc))
   case first =>
    have H:=HC16.out
    clear HC16
    replace H:=Option.bind_eq_some_iff.mp H
    obtain ⟨t548,A360,H⟩:=H
    replace H : (if t548 = true then (laws_FnExactCellsOfFleet.j0 k l1 t531 t534 t541 t544 t547 (t547 != t534) a0_0 a0_1 l0_2 t535 t536 t537) else (laws_FnExactCellsOfFleet.j0 k l1 t531 t534 t541 t544 t547 true a0_0 a0_1 l0_2 t535 t536 t537)) = some r:=H
    have A36:=Aside0.mk A360
    clear A360
    by_cases c37 : t548 = true
    ·subst c37
     have H1 : (laws_FnExactCellsOfFleet.j0 k l1 t531 t534 t541 t544 t547 (t547 != t534) a0_0 a0_1 l0_2 t535 t536 t537) = some r:=by rw [if_pos rfl] at H;exact H
     clear H
     have H:=H1
     clear H1
     have H':=Aside0.mk H
     clear H
     obtain ⟨Ao38,co38,eo38⟩:=Kd.R_slice HO546.out
     subst eo38
     obtain ⟨Ao39,co39,eo39⟩:=Kd.R_slice HO533.out
     subst eo39
     go_wp2_with (first|((with_reducible refine gate_callee (f:=14) rfl ?_);refine goesL_ (some 45) rfl rfl Try.func14 (by kernel_rfl) rfl #[.slice Ao38 t544.length co38,.slice Ao39 t531.length co39] rfl (by (try simp only [List.map_toArray,List.map_cons,List.map_nil]);first|done|rfl|(simp only [List.length_drop,List.length_take];rfl)) ?_;(with_reducible refine (laws_eqInt64S.calls k _ _ t544 _ _ t531 true _ ?side1 ?side2 ?side3 ?side4 A36.out).mono ?_);(case side1=>repeat (first|exact (Kd.R_reads' HO546.out).2.2|(with_reducible refine Kd.C_alloc ?_ _)|(with_reducible refine Kd.C_drewN ?_ _)|(with_reducible refine Kd.C_drew ?_)));(case side2=>exact (Kd.R_reads' HO546.out).2.1);(case side3=>repeat (first|exact (Kd.R_reads' HO533.out).2.2|(with_reducible refine Kd.C_alloc ?_ _)|(with_reducible refine Kd.C_drewN ?_ _)|(with_reducible refine Kd.C_drew ?_)));(case side4=>exact (Kd.R_reads' HO533.out).2.1);rintro e w' ⟨rfl,⟨nd,rfl⟩⟩;refine ⟨_,rfl,?_⟩))
     go_meet
     case rel=>exact ⟨_,((t547 != t534)),(by first|rfl|(simp;done)|(simp [*];done)),H',⟨by first|omega|exact Nat.le_refl _⟩,⟨by (with_reducible repeat (first|apply Kd.R_alloc|apply Kd.R_drewN|apply Kd.R_drew));exact Kd.R_mono HO533.out (fun _ hk=>⟨hk.1.2,⟨hk.2,hk.1.1.2⟩⟩)⟩,⟨by (with_reducible repeat (first|apply Kd.R_alloc|apply Kd.R_drewN|apply Kd.R_drew));exact Kd.R_mono HO543.out (fun _ hk=>⟨hk.1.1.2,⟨hk.2,hk.1.2⟩⟩)⟩,⟨by (with_reducible repeat (first|apply Kd.R_alloc|apply Kd.R_drewN|apply Kd.R_drew));exact Kd.R_mono HO546.out (fun _ hk=>⟨hk.1.1.2,⟨hk.2,hk.1.2⟩⟩)⟩,⟨by (with_reducible repeat (first|apply Kd.R_alloc|apply Kd.R_drewN|apply Kd.R_drew));exact Kd.R_mono HO539.out (fun _ hk=>⟨hk.1.1.2,⟨hk.1.2,hk.2⟩⟩)⟩,⟨by (with_reducible repeat (first|refine blk_drewN ?_ _|refine blk_drew ?_|refine blk_alloc ?_ _));exact BK521.out⟩,⟨by (with_reducible repeat (first|refine blk_drewN ?_ _|refine blk_drew ?_|refine blk_alloc ?_ _));exact BK540.out⟩,⟨by repeat (first|(with_reducible first|exact HB.out|apply below_alloc|apply pw_below_drewN|apply below_drew1|refine below_set ?_ GE521.out|refine below_set ?_ GE540.out)|exact HB.out)⟩⟩
    ·replace c37:=Bool.eq_false_iff.mpr c37
     subst c37
     have H1 : (laws_FnExactCellsOfFleet.j0 k l1 t531 t534 t541 t544 t547 true a0_0 a0_1 l0_2 t535 t536 t537) = some r:=by rw [if_neg (show ¬ (false = true) by decide)] at H;exact H
     clear H
     have H:=H1
     clear H1
     have H':=Aside0.mk H
     clear H
     obtain ⟨Ao40,co40,eo40⟩:=Kd.R_slice HO546.out
     subst eo40
     obtain ⟨Ao41,co41,eo41⟩:=Kd.R_slice HO533.out
     subst eo41
     go_wp2_with (first|((with_reducible refine gate_callee (f:=14) rfl ?_);refine goesL_ (some 45) rfl rfl Try.func14 (by kernel_rfl) rfl #[.slice Ao40 t544.length co40,.slice Ao41 t531.length co41] rfl (by (try simp only [List.map_toArray,List.map_cons,List.map_nil]);first|done|rfl|(simp only [List.length_drop,List.length_take];rfl)) ?_;(with_reducible refine (laws_eqInt64S.calls k _ _ t544 _ _ t531 false _ ?side1 ?side2 ?side3 ?side4 A36.out).mono ?_);(case side1=>repeat (first|exact (Kd.R_reads' HO546.out).2.2|(with_reducible refine Kd.C_alloc ?_ _)|(with_reducible refine Kd.C_drewN ?_ _)|(with_reducible refine Kd.C_drew ?_)));(case side2=>exact (Kd.R_reads' HO546.out).2.1);(case side3=>repeat (first|exact (Kd.R_reads' HO533.out).2.2|(with_reducible refine Kd.C_alloc ?_ _)|(with_reducible refine Kd.C_drewN ?_ _)|(with_reducible refine Kd.C_drew ?_)));(case side4=>exact (Kd.R_reads' HO533.out).2.1);rintro e w' ⟨rfl,⟨nd,rfl⟩⟩;refine ⟨_,rfl,?_⟩))
     go_meet
     case rel=>exact ⟨_,(true),(by first|rfl|(simp;done)|(simp [*];done)),H',⟨by first|omega|exact Nat.le_refl _⟩,⟨by (with_reducible repeat (first|apply Kd.R_alloc|apply Kd.R_drewN|apply Kd.R_drew));exact Kd.R_mono HO533.out (fun _ hk=>⟨hk.1.2,⟨hk.2,hk.1.1.2⟩⟩)⟩,⟨by (with_reducible repeat (first|apply Kd.R_alloc|apply Kd.R_drewN|apply Kd.R_drew));exact Kd.R_mono HO543.out (fun _ hk=>⟨hk.1.1.2,⟨hk.2,hk.1.2⟩⟩)⟩,⟨by (with_reducible repeat (first|apply Kd.R_alloc|apply Kd.R_drewN|apply Kd.R_drew));exact Kd.R_mono HO546.out (fun _ hk=>⟨hk.1.1.2,⟨hk.2,hk.1.2⟩⟩)⟩,⟨by (with_reducible repeat (first|apply Kd.R_alloc|apply Kd.R_drewN|apply Kd.R_drew));exact Kd.R_mono HO539.out (fun _ hk=>⟨hk.1.1.2,⟨hk.1.2,hk.2⟩⟩)⟩,⟨by (with_reducible repeat (first|refine blk_drewN ?_ _|refine blk_drew ?_|refine blk_alloc ?_ _));exact BK521.out⟩,⟨by (with_reducible repeat (first|refine blk_drewN ?_ _|refine blk_drew ?_|refine blk_alloc ?_ _));exact BK540.out⟩,⟨by repeat (first|(with_reducible first|exact HB.out|apply below_alloc|apply pw_below_drewN|apply below_drew1|refine below_set ?_ GE521.out|refine below_set ?_ GE540.out)|exact HB.out)⟩⟩
   case rest =>
    clear HC16
    try clear c1
    try clear c2
    try clear p2
    try clear c3
    try clear c3b0
    try clear c3b1
    try clear c6
    try clear c6b0
    try clear c7
    try clear c10
    try clear c12
    try clear c14
    try clear c20
    try clear c29
    try clear c30
    try clear c37
    try clear hcz18_0
    try clear hcz18_1
    try clear hcz18_2
    try clear hcz20_0
    try clear hcz20_1
    try clear hcz20_2
    try clear hcz26_0
    try clear hcz26_1
    try clear hcz26_2
    try clear hcz30_0
    try clear hcz30_1
    try clear hcz30_2
    try clear hcz33_0
    try clear hcz33_1
    try clear hcz33_2
    try clear hcz8_0
    try clear hcz8_1
    try clear hcz8_2
    try clear hfz18_0
    try clear hfz18_1
    try clear hfz18_2
    try clear hfz20_0
    try clear hfz20_1
    try clear hfz20_2
    try clear hfz26_0
    try clear hfz26_1
    try clear hfz26_2
    try clear hfz30_0
    try clear hfz30_1
    try clear hfz30_2
    try clear hfz33_0
    try clear hfz33_1
    try clear hfz33_2
    try clear hfz8_0
    try clear hfz8_1
    try clear hfz8_2
    obtain ⟨kq,x51_15,rfl,HA,HJ15,HO_6,HO_9,HO_10,HO_541002,BK521,BK540,HB⟩:=hcut
    cases kq with
    | zero => exact absurd HA.out (by simp [laws_FnExactCellsOfFleet.j0])
    | succ kj15 =>
     have H:=HA.out
     clear HA
     simp only [laws_FnExactCellsOfFleet.j0] at H
     by_cases c42 : x51_15 = true
     ·subst c42
      have H1 : (some false) = some r:=by rw [if_pos rfl] at H;exact H
      clear H
      have H:=H1
      clear H1
      obtain rfl:=Option.some.inj H
      go_wp2
      go_ret
      exact ⟨by first|rfl|(simp [errW_none,errW_some] <;> rfl)|(simp [*,errW_none,errW_some] <;> rfl),by repeat (first|(with_reducible first|exact HB.out|apply below_alloc|apply pw_below_drewN|apply below_drew1|refine below_set ?_ GE521.out|refine below_set ?_ GE540.out)|exact HB.out)⟩
     ·replace c42:=Bool.eq_false_iff.mpr c42
      subst c42
      have H1 : ((laws_toSea.f kj15 a0_0 a0_1 l0_2).bind fun bt549=>((laws_eqSea.f kj15 t535 t536 t537 bt549.1 bt549.2.1 bt549.2.2).bind fun t554=>(if t554 = true then ((laws_toInt64S.f kj15 l1).bind fun t555=>((laws_eqInt64S.f kj15 t541 t555).bind fun t558=>(if t558 = true then ((laws_markSea.f kj15 t535 t536 t537 1).bind fun bt559=>((laws_markInt64S.f kj15 t541 bt559.1).bind fun bt561=>(if bt561.1 < 0 then (laws_FnExactCellsOfFleet.j1 kj15 l1 t531 t534 t544 true a0_0 a0_1 l0_2) else ((laws_eqInt64S.f kj15 t544 t531).bind fun t563=>(if t563 = true then (laws_FnExactCellsOfFleet.j1 kj15 l1 t531 t534 t544 (t547 != t534) a0_0 a0_1 l0_2) else (laws_FnExactCellsOfFleet.j1 kj15 l1 t531 t534 t544 true a0_0 a0_1 l0_2)))))) else (some false)))) else (some false)))) = some r:=by rw [if_neg (show ¬ (false = true) by decide)] at H;exact H
      clear H
      have H:=H1
      clear H1
      replace H:=Option.bind_eq_some_iff.mp H
      obtain ⟨⟨t549,t550,t551⟩,A430,H⟩:=H
      replace H : ((laws_eqSea.f kj15 t535 t536 t537 t549 t550 t551).bind fun t554=>(if t554 = true then ((laws_toInt64S.f kj15 l1).bind fun t555=>((laws_eqInt64S.f kj15 t541 t555).bind fun t558=>(if t558 = true then ((laws_markSea.f kj15 t535 t536 t537 1).bind fun bt559=>((laws_markInt64S.f kj15 t541 bt559.1).bind fun bt561=>(if bt561.1 < 0 then (laws_FnExactCellsOfFleet.j1 kj15 l1 t531 t534 t544 true a0_0 a0_1 l0_2) else ((laws_eqInt64S.f kj15 t544 t531).bind fun t563=>(if t563 = true then (laws_FnExactCellsOfFleet.j1 kj15 l1 t531 t534 t544 (t547 != t534) a0_0 a0_1 l0_2) else (laws_FnExactCellsOfFleet.j1 kj15 l1 t531 t534 t544 true a0_0 a0_1 l0_2)))))) else (some false)))) else (some false))) = some r:=H
      have A43:=Aside0.mk A430
      clear A430
      replace H:=Option.bind_eq_some_iff.mp H
      obtain ⟨t554,A440,H⟩:=H
      replace H : (if t554 = true then ((laws_toInt64S.f kj15 l1).bind fun t555=>((laws_eqInt64S.f kj15 t541 t555).bind fun t558=>(if t558 = true then ((laws_markSea.f kj15 t535 t536 t537 1).bind fun bt559=>((laws_markInt64S.f kj15 t541 bt559.1).bind fun bt561=>(if bt561.1 < 0 then (laws_FnExactCellsOfFleet.j1 kj15 l1 t531 t534 t544 true a0_0 a0_1 l0_2) else ((laws_eqInt64S.f kj15 t544 t531).bind fun t563=>(if t563 = true then (laws_FnExactCellsOfFleet.j1 kj15 l1 t531 t534 t544 (t547 != t534) a0_0 a0_1 l0_2) else (laws_FnExactCellsOfFleet.j1 kj15 l1 t531 t534 t544 true a0_0 a0_1 l0_2)))))) else (some false)))) else (some false)) = some r:=H
      have A44:=Aside0.mk A440
      clear A440
      by_cases c45 : t554 = true
      ·subst c45
       have H1 : ((laws_toInt64S.f kj15 l1).bind fun t555=>((laws_eqInt64S.f kj15 t541 t555).bind fun t558=>(if t558 = true then ((laws_markSea.f kj15 t535 t536 t537 1).bind fun bt559=>((laws_markInt64S.f kj15 t541 bt559.1).bind fun bt561=>(if bt561.1 < 0 then (laws_FnExactCellsOfFleet.j1 kj15 l1 t531 t534 t544 true a0_0 a0_1 l0_2) else ((laws_eqInt64S.f kj15 t544 t531).bind fun t563=>(if t563 = true then (laws_FnExactCellsOfFleet.j1 kj15 l1 t531 t534 t544 (t547 != t534) a0_0 a0_1 l0_2) else (laws_FnExactCellsOfFleet.j1 kj15 l1 t531 t534 t544 true a0_0 a0_1 l0_2)))))) else (some false)))) = some r:=by rw [if_pos rfl] at H;exact H
       clear H
       have H:=H1
       clear H1
       replace H:=Option.bind_eq_some_iff.mp H
       obtain ⟨t555,A460,H⟩:=H
       replace H : ((laws_eqInt64S.f kj15 t541 t555).bind fun t558=>(if t558 = true then ((laws_markSea.f kj15 t535 t536 t537 1).bind fun bt559=>((laws_markInt64S.f kj15 t541 bt559.1).bind fun bt561=>(if bt561.1 < 0 then (laws_FnExactCellsOfFleet.j1 kj15 l1 t531 t534 t544 true a0_0 a0_1 l0_2) else ((laws_eqInt64S.f kj15 t544 t531).bind fun t563=>(if t563 = true then (laws_FnExactCellsOfFleet.j1 kj15 l1 t531 t534 t544 (t547 != t534) a0_0 a0_1 l0_2) else (laws_FnExactCellsOfFleet.j1 kj15 l1 t531 t534 t544 true a0_0 a0_1 l0_2)))))) else (some false))) = some r:=H
       have A46:=Aside0.mk A460
       clear A460
       replace H:=Option.bind_eq_some_iff.mp H
       obtain ⟨t558,A470,H⟩:=H
       replace H : (if t558 = true then ((laws_markSea.f kj15 t535 t536 t537 1).bind fun bt559=>((laws_markInt64S.f kj15 t541 bt559.1).bind fun bt561=>(if bt561.1 < 0 then (laws_FnExactCellsOfFleet.j1 kj15 l1 t531 t534 t544 true a0_0 a0_1 l0_2) else ((laws_eqInt64S.f kj15 t544 t531).bind fun t563=>(if t563 = true then (laws_FnExactCellsOfFleet.j1 kj15 l1 t531 t534 t544 (t547 != t534) a0_0 a0_1 l0_2) else (laws_FnExactCellsOfFleet.j1 kj15 l1 t531 t534 t544 true a0_0 a0_1 l0_2)))))) else (some false)) = some r:=H
       have A47:=Aside0.mk A470
       clear A470
       by_cases c48 : t558 = true
       ·subst c48
        have H1 : ((laws_markSea.f kj15 t535 t536 t537 1).bind fun bt559=>((laws_markInt64S.f kj15 t541 bt559.1).bind fun bt561=>(if bt561.1 < 0 then (laws_FnExactCellsOfFleet.j1 kj15 l1 t531 t534 t544 true a0_0 a0_1 l0_2) else ((laws_eqInt64S.f kj15 t544 t531).bind fun t563=>(if t563 = true then (laws_FnExactCellsOfFleet.j1 kj15 l1 t531 t534 t544 (t547 != t534) a0_0 a0_1 l0_2) else (laws_FnExactCellsOfFleet.j1 kj15 l1 t531 t534 t544 true a0_0 a0_1 l0_2)))))) = some r:=by rw [if_pos rfl] at H;exact H
        clear H
        have H:=H1
        clear H1
        replace H:=Option.bind_eq_some_iff.mp H
        obtain ⟨⟨t559,t560⟩,A490,H⟩:=H
        replace H : ((laws_markInt64S.f kj15 t541 t559).bind fun bt561=>(if bt561.1 < 0 then (laws_FnExactCellsOfFleet.j1 kj15 l1 t531 t534 t544 true a0_0 a0_1 l0_2) else ((laws_eqInt64S.f kj15 t544 t531).bind fun t563=>(if t563 = true then (laws_FnExactCellsOfFleet.j1 kj15 l1 t531 t534 t544 (t547 != t534) a0_0 a0_1 l0_2) else (laws_FnExactCellsOfFleet.j1 kj15 l1 t531 t534 t544 true a0_0 a0_1 l0_2))))) = some r:=H
        have A49:=Aside0.mk A490
        clear A490
        replace H:=Option.bind_eq_some_iff.mp H
        obtain ⟨⟨t561,t562⟩,A500,H⟩:=H
        replace H : (if t561 < 0 then (laws_FnExactCellsOfFleet.j1 kj15 l1 t531 t534 t544 true a0_0 a0_1 l0_2) else ((laws_eqInt64S.f kj15 t544 t531).bind fun t563=>(if t563 = true then (laws_FnExactCellsOfFleet.j1 kj15 l1 t531 t534 t544 (t547 != t534) a0_0 a0_1 l0_2) else (laws_FnExactCellsOfFleet.j1 kj15 l1 t531 t534 t544 true a0_0 a0_1 l0_2)))) = some r:=H
        have A50:=Aside0.mk A500
        clear A500
        have HC51:=Aside0.mk H
        clear H
        try go_wp2
        have n0_:=Aside0.mk (Kd.R_drew HO_6.out)
        have n1_:=Aside0.mk (Kd.R_drew HO_9.out)
        have n2_:=Aside0.mk (Kd.R_drew HO_10.out)
        have n3_:=Aside0.mk (Kd.R_drew HO_541002.out)
        have n4_:=Aside0.mk (blk_drew BK521.out)
        have n5_:=Aside0.mk (blk_drew BK540.out)
        have n6_:=Aside0.mk (below_drew1 HB.out)
        clear HO_6
        clear HO_9
        clear HO_10
        clear HO_541002
        clear BK521
        clear BK540
        clear HB
        have HO_6:=n0_
        have HO_9:=n1_
        have HO_10:=n2_
        have HO_541002:=n3_
        have BK521:=n4_
        have BK540:=n5_
        have HB:=n6_
        clear n0_ n1_ n2_ n3_ n4_ n5_ n6_
        refine start_ (n:=5) (S:=fun w'=>w'.cell? ⟨gb540,0,none⟩ = some (.int .i64 t535) ∧ w'.cell? ⟨gb540,1,none⟩ = some (.int .i64 t536) ∧ w'.cell? ⟨gb540,2,none⟩ = some (.slice Ao31 t537.length co31) ∧ w'.cell? ⟨gb521,0,none⟩ = some (.int .i64 a0_0) ∧ w'.cell? ⟨gb521,1,none⟩ = some (.int .i64 a0_1) ∧ w'.cell? ⟨gb521,2,none⟩ = some (.slice A0_2 l0_2.length c0_2)) (ds:=[]) #[false,false,false,false,false] (by kernel_rfl) rfl rfl ⟨(blk_cell BK540.out 0).trans rfl,(blk_cell BK540.out 1).trans rfl,(blk_cell BK540.out 2).trans rfl,(blk_cell BK521.out 0).trans rfl,(blk_cell BK521.out 1).trans rfl,(blk_cell BK521.out 2).trans rfl⟩ (fun hHeld=>?_)
        generalize wc.drew = w52 at HO_6 HO_9 HO_10 HO_541002 BK521 BK540 HB hHeld ⊢
        refine take_ (i:=0) (N:=some 52) (v:=?_) (a':=?_) #[true,false,false,false,false] rfl rfl (by kernel_rfl) (fun _ _ _ h=>h) (Or.inl ⟨by rfl,?_⟩) hHeld ?_ ?_
        rotate_left
        ·rintro w' ⟨s0,s1,s2,s3,s4,s5⟩
         go_simp
         with_reducible rfl
        rotate_left
        ·simp only [Act.put,List.setIfInBounds_toArray,List.set_cons_zero,List.set_cons_succ,i64_w,i32_w]
         rfl
        refine take_ (i:=1) (N:=some 53) (v:=?_) (a':=?_) #[true,true,false,false,false] rfl rfl (by kernel_rfl) (fun _ _ _ h=>h) (Or.inl ⟨by rfl,?_⟩) hHeld ?_ ?_
        rotate_left
        ·rintro w' ⟨s0,s1,s2,s3,s4,s5⟩
         go_simp
         with_reducible rfl
        rotate_left
        ·simp only [Act.put,List.setIfInBounds_toArray,List.set_cons_zero,List.set_cons_succ,i64_w,i32_w]
         rfl
        refine one_ (i:=2) (N:=some 54) #[true,true,true,false,false] rfl rfl (by kernel_rfl) (by decide) (fun K hK=>?_)
        refine goes_ Try.func12 (by kernel_rfl) rfl #[.agg #[.int .i64 a0_0,.int .i64 a0_1,.slice A0_2 l0_2.length c0_2]] (by rfl) rfl rfl (by (try simp only [List.map_toArray,List.map_cons,List.map_nil]);first|done|rfl|(simp only [List.length_drop,List.length_take];rfl)) ?_
        with_reducible refine (laws_toSea.calls kj15 a0_0 a0_1 _ _ l0_2 t549 t550 t551 _ ?side1 ?side2 A43.out).mono ?_
        (case side1=>repeat (first|exact (Kd.C_below HR0_2.out HB.out)|(with_reducible refine Kd.C_alloc ?_ _)|(with_reducible refine Kd.C_drewN ?_ _)|(with_reducible refine Kd.C_drew ?_)))
        (case side2=>exact HC0_2.out)
        rintro e w53 ⟨v552,rfl,ho0,hb⟩
        refine ⟨_,rfl,?_⟩
        have n0_:=Aside0.mk (Kd.R_elder' (by (with_reducible repeat (first|apply Kd.R_alloc|apply Kd.R_drewN|apply Kd.R_drew));exact HO_6.out) (Kd.R_base ho0) hb)
        have n1_:=Aside0.mk (Kd.R_elder' (by (with_reducible repeat (first|apply Kd.R_alloc|apply Kd.R_drewN|apply Kd.R_drew));exact HO_9.out) (Kd.R_base ho0) hb)
        have n2_:=Aside0.mk (Kd.R_elder' (by (with_reducible repeat (first|apply Kd.R_alloc|apply Kd.R_drewN|apply Kd.R_drew));exact HO_10.out) (Kd.R_base ho0) hb)
        have n3_:=Aside0.mk (Kd.R_elder' (by (with_reducible repeat (first|apply Kd.R_alloc|apply Kd.R_drewN|apply Kd.R_drew));exact HO_541002.out) (Kd.R_base ho0) hb)
        have n4_:=Aside0.mk (Kd.R_lower (Kd.R_new' (Kd.R_new' (Kd.R_new' (Kd.R_new' ho0 (Kd.R_lt (by (with_reducible repeat (first|apply Kd.R_alloc|apply Kd.R_drewN|apply Kd.R_drew));exact HO_6.out))) (Kd.R_lt (by (with_reducible repeat (first|apply Kd.R_alloc|apply Kd.R_drewN|apply Kd.R_drew));exact HO_9.out))) (Kd.R_lt (by (with_reducible repeat (first|apply Kd.R_alloc|apply Kd.R_drewN|apply Kd.R_drew));exact HO_10.out))) (Kd.R_lt (by (with_reducible repeat (first|apply Kd.R_alloc|apply Kd.R_drewN|apply Kd.R_drew));exact HO_541002.out))) (below_size (by repeat (first|(with_reducible first|exact HB.out|apply below_alloc|apply pw_below_drewN|apply below_drew1|refine below_set ?_ GE521.out|refine below_set ?_ GE540.out)|exact HB.out))))
        have n5_:=Aside0.mk (blk_below (g:=gb521) (o:=.cells #[.int .i64 a0_0,.int .i64 a0_1,.slice A0_2 l0_2.length c0_2] 24 (0,0)) (by (with_reducible repeat (first|refine blk_drewN ?_ _|refine blk_drew ?_|refine blk_alloc ?_ _));exact BK521.out) hb)
        have n6_:=Aside0.mk (blk_below (g:=gb540) (o:=.cells #[.int .i64 t535,.int .i64 t536,.slice Ao31 t537.length co31] 28 (0,0)) (by (with_reducible repeat (first|refine blk_drewN ?_ _|refine blk_drew ?_|refine blk_alloc ?_ _));exact BK540.out) hb)
        have n7_:=Aside0.mk (below_step (by repeat (first|(with_reducible first|exact HB.out|apply below_alloc|apply pw_below_drewN|apply below_drew1|refine below_set ?_ GE521.out|refine below_set ?_ GE540.out)|exact HB.out)) hb)
        clear HO_6
        clear HO_9
        clear HO_10
        clear HO_541002
        clear BK521
        clear BK540
        clear HB
        have HO_6:=n0_
        have HO_9:=n1_
        have HO_10:=n2_
        have HO_541002:=n3_
        have HO553:=n4_
        have BK521:=n5_
        have BK540:=n6_
        have HB:=n7_
        clear n0_ n1_ n2_ n3_ n4_ n5_ n6_ n7_
        (try clear hb)
        (try clear hb2)
        (try clear hk)
        (try clear hi)
        (try clear ho0)
        obtain ⟨Ao54,co54,eo54⟩:=Kd.R_slice HO553.out
        (first|subst eo54|(injection eo54 with f1_ f2_ f3_;have f4_:=f1_.symm;have f5_:=f3_.symm;clear f1_ f2_ f3_;subst f4_;subst f5_))
        refine hK.out _ _ ⟨(blk_cell BK540.out 0).trans rfl,(blk_cell BK540.out 1).trans rfl,(blk_cell BK540.out 2).trans rfl,(blk_cell BK521.out 0).trans rfl,(blk_cell BK521.out 1).trans rfl,(blk_cell BK521.out 2).trans rfl⟩ (fun hHeld=>?_)
        clear hK K
        refine norm_ (a':=?_) ?_ ?_
        rotate_left
        ·show Act.put _ (some 54) _ = _
         simp only [Act.put,List.setIfInBounds_toArray,List.set_cons_zero,List.set_cons_succ,i64_w,i32_w]
         rfl
        refine one_ (i:=3) (N:=some 55) #[true,true,true,true,false] rfl rfl (by kernel_rfl) (by decide) (fun K hK=>?_)
        refine goes_ Try.func15 (by kernel_rfl) rfl #[.agg #[.int .i64 t535,.int .i64 t536,.slice Ao31 t537.length co31],.agg #[.int .i64 t549,.int .i64 t550,.slice Ao54 t551.length co54]] (by rfl) rfl rfl (by (try simp only [List.map_toArray,List.map_cons,List.map_nil]);first|done|rfl|(simp only [List.length_drop,List.length_take];rfl)) ?_
        with_reducible refine (laws_eqSea.calls kj15 t535 t536 _ _ t537 t549 t550 _ _ t551 true _ ?side1 ?side2 ?side3 ?side4 A44.out).mono ?_
        (case side1=>repeat (first|exact (Kd.R_reads' HO_541002.out).2.2|(with_reducible refine Kd.C_alloc ?_ _)|(with_reducible refine Kd.C_drewN ?_ _)|(with_reducible refine Kd.C_drew ?_)))
        (case side2=>exact (Kd.R_reads' HO_541002.out).2.1)
        (case side3=>repeat (first|exact (Kd.R_reads' HO553.out).2.2|(with_reducible refine Kd.C_alloc ?_ _)|(with_reducible refine Kd.C_drewN ?_ _)|(with_reducible refine Kd.C_drew ?_)))
        (case side4=>exact (Kd.R_reads' HO553.out).2.1)
        rintro e w55 ⟨rfl,hb⟩
        refine ⟨_,rfl,?_⟩
        have n0_:=Aside0.mk (Kd.R_below (by (with_reducible repeat (first|apply Kd.R_alloc|apply Kd.R_drewN|apply Kd.R_drew));exact HO_6.out) hb)
        have n1_:=Aside0.mk (Kd.R_below (by (with_reducible repeat (first|apply Kd.R_alloc|apply Kd.R_drewN|apply Kd.R_drew));exact HO_9.out) hb)
        have n2_:=Aside0.mk (Kd.R_below (by (with_reducible repeat (first|apply Kd.R_alloc|apply Kd.R_drewN|apply Kd.R_drew));exact HO_10.out) hb)
        have n3_:=Aside0.mk (Kd.R_below (by (with_reducible repeat (first|apply Kd.R_alloc|apply Kd.R_drewN|apply Kd.R_drew));exact HO_541002.out) hb)
        have n4_:=Aside0.mk (Kd.R_below (by (with_reducible repeat (first|apply Kd.R_alloc|apply Kd.R_drewN|apply Kd.R_drew));exact HO553.out) hb)
        have n5_:=Aside0.mk (blk_below (g:=gb521) (o:=.cells #[.int .i64 a0_0,.int .i64 a0_1,.slice A0_2 l0_2.length c0_2] 24 (0,0)) (by (with_reducible repeat (first|refine blk_drewN ?_ _|refine blk_drew ?_|refine blk_alloc ?_ _));exact BK521.out) hb)
        have n6_:=Aside0.mk (blk_below (g:=gb540) (o:=.cells #[.int .i64 t535,.int .i64 t536,.slice Ao31 t537.length co31] 28 (0,0)) (by (with_reducible repeat (first|refine blk_drewN ?_ _|refine blk_drew ?_|refine blk_alloc ?_ _));exact BK540.out) hb)
        have n7_:=Aside0.mk (below_step (by repeat (first|(with_reducible first|exact HB.out|apply below_alloc|apply pw_below_drewN|apply below_drew1|refine below_set ?_ GE521.out|refine below_set ?_ GE540.out)|exact HB.out)) hb)
        clear HO_6
        clear HO_9
        clear HO_10
        clear HO_541002
        clear HO553
        clear BK521
        clear BK540
        clear HB
        have HO_6:=n0_
        have HO_9:=n1_
        have HO_10:=n2_
        have HO_541002:=n3_
        have HO553:=n4_
        have BK521:=n5_
        have BK540:=n6_
        have HB:=n7_
        clear n0_ n1_ n2_ n3_ n4_ n5_ n6_ n7_
        (try clear hb)
        (try clear hb2)
        (try clear hk)
        (try clear hi)
        refine hK.out _ _ ⟨(blk_cell BK540.out 0).trans rfl,(blk_cell BK540.out 1).trans rfl,(blk_cell BK540.out 2).trans rfl,(blk_cell BK521.out 0).trans rfl,(blk_cell BK521.out 1).trans rfl,(blk_cell BK521.out 2).trans rfl⟩ (fun hHeld=>?_)
        clear hK K
        refine norm_ (a':=?_) ?_ ?_
        rotate_left
        ·show Act.put _ (some 55) _ = _
         simp only [Act.put,List.setIfInBounds_toArray,List.set_cons_zero,List.set_cons_succ,i64_w,i32_w]
         rfl
        refine pure_ (i:=4) (N:=some 56) (v:=?_) (a':=?_) #[true,true,true,true,true] rfl rfl (by kernel_rfl) (fun _ _ _ h=>h) (Or.inl ⟨by rfl,?_⟩) ?_ ?_
        rotate_left
        ·intro w'
         go_simp
         with_reducible rfl
        rotate_left
        ·simp only [Act.put,List.setIfInBounds_toArray,List.set_cons_zero,List.set_cons_succ,i64_w,i32_w]
         rfl
        refine done_ (by kernel_rfl) ?_
        go_upto_region 20 with (first|((with_reducible refine gate_callee (f:=20) rfl ?_);refine goesL_ (some 59) rfl rfl Try.func20 (by kernel_rfl) rfl #[.slice A1 l1.length c1] rfl (by (try simp only [List.map_toArray,List.map_cons,List.map_nil]);first|done|rfl|(simp only [List.length_drop,List.length_take];rfl)) ?_;(with_reducible refine (laws_toInt64S.calls kj15 _ _ l1 t555 _ ?side1 ?side2 A46.out).mono ?_);(case side1=>repeat (first|exact (Kd.C_below HR1.out HB.out)|(with_reducible refine Kd.C_alloc ?_ _)|(with_reducible refine Kd.C_drewN ?_ _)|(with_reducible refine Kd.C_drew ?_)));(case side2=>exact HC1.out);rintro e w56 ⟨v556,rfl,ho0,hb⟩;refine ⟨_,rfl,?_⟩;have n0_:=Aside0.mk (Kd.R_elder' (by (with_reducible repeat (first|apply Kd.R_alloc|apply Kd.R_drewN|apply Kd.R_drew));exact HO_6.out) (Kd.R_base ho0) hb);have n1_:=Aside0.mk (Kd.R_elder' (by (with_reducible repeat (first|apply Kd.R_alloc|apply Kd.R_drewN|apply Kd.R_drew));exact HO_9.out) (Kd.R_base ho0) hb);have n2_:=Aside0.mk (Kd.R_elder' (by (with_reducible repeat (first|apply Kd.R_alloc|apply Kd.R_drewN|apply Kd.R_drew));exact HO_10.out) (Kd.R_base ho0) hb);have n3_:=Aside0.mk (Kd.R_elder' (by (with_reducible repeat (first|apply Kd.R_alloc|apply Kd.R_drewN|apply Kd.R_drew));exact HO_541002.out) (Kd.R_base ho0) hb);have n4_:=Aside0.mk (Kd.R_elder' (by (with_reducible repeat (first|apply Kd.R_alloc|apply Kd.R_drewN|apply Kd.R_drew));exact HO553.out) (Kd.R_base ho0) hb);have n5_:=Aside0.mk (Kd.R_lower (Kd.R_new' (Kd.R_new' (Kd.R_new' (Kd.R_new' (Kd.R_new' ho0 (Kd.R_lt (by (with_reducible repeat (first|apply Kd.R_alloc|apply Kd.R_drewN|apply Kd.R_drew));exact HO_6.out))) (Kd.R_lt (by (with_reducible repeat (first|apply Kd.R_alloc|apply Kd.R_drewN|apply Kd.R_drew));exact HO_9.out))) (Kd.R_lt (by (with_reducible repeat (first|apply Kd.R_alloc|apply Kd.R_drewN|apply Kd.R_drew));exact HO_10.out))) (Kd.R_lt (by (with_reducible repeat (first|apply Kd.R_alloc|apply Kd.R_drewN|apply Kd.R_drew));exact HO_541002.out))) (Kd.R_lt (by (with_reducible repeat (first|apply Kd.R_alloc|apply Kd.R_drewN|apply Kd.R_drew));exact HO553.out))) (below_size (by repeat (first|(with_reducible first|exact HB.out|apply below_alloc|apply pw_below_drewN|apply below_drew1|refine below_set ?_ GE521.out|refine below_set ?_ GE540.out)|exact HB.out))));have n6_:=Aside0.mk (blk_below (g:=gb521) (o:=.cells #[.int .i64 a0_0,.int .i64 a0_1,.slice A0_2 l0_2.length c0_2] 24 (0,0)) (by (with_reducible repeat (first|refine blk_drewN ?_ _|refine blk_drew ?_|refine blk_alloc ?_ _));exact BK521.out) hb);have n7_:=Aside0.mk (blk_below (g:=gb540) (o:=.cells #[.int .i64 t535,.int .i64 t536,.slice Ao31 t537.length co31] 28 (0,0)) (by (with_reducible repeat (first|refine blk_drewN ?_ _|refine blk_drew ?_|refine blk_alloc ?_ _));exact BK540.out) hb);have n8_:=Aside0.mk (below_step (by repeat (first|(with_reducible first|exact HB.out|apply below_alloc|apply pw_below_drewN|apply below_drew1|refine below_set ?_ GE521.out|refine below_set ?_ GE540.out)|exact HB.out)) hb);clear HO_6;clear HO_9;clear HO_10;clear HO_541002;clear HO553;clear BK521;clear BK540;clear HB;have HO_6:=n0_;have HO_9:=n1_;have HO_10:=n2_;have HO_541002:=n3_;have HO553:=n4_;have HO557:=n5_;have BK521:=n6_;have BK540:=n7_;have HB:=n8_;clear n0_ n1_ n2_ n3_ n4_ n5_ n6_ n7_ n8_;(try clear hb);(try clear hb2);(try clear hk);(try clear hi);(try clear ho0);obtain ⟨Ao57,co57,eo57⟩:=Kd.R_slice HO557.out;subst eo57)|((with_reducible refine gate_callee (f:=14) rfl ?_);refine goesL_ (some 60) rfl rfl Try.func14 (by kernel_rfl) rfl #[.slice Ao34 t541.length co34,.slice Ao57 t555.length co57] rfl (by (try simp only [List.map_toArray,List.map_cons,List.map_nil]);first|done|rfl|(simp only [List.length_drop,List.length_take];rfl)) ?_;(with_reducible refine (laws_eqInt64S.calls kj15 _ _ t541 _ _ t555 true _ ?side1 ?side2 ?side3 ?side4 A47.out).mono ?_);(case side1=>repeat (first|exact (Kd.R_reads' HO_9.out).2.2|(with_reducible refine Kd.C_alloc ?_ _)|(with_reducible refine Kd.C_drewN ?_ _)|(with_reducible refine Kd.C_drew ?_)));(case side2=>exact (Kd.R_reads' HO_9.out).2.1);(case side3=>repeat (first|exact (Kd.R_reads' HO557.out).2.2|(with_reducible refine Kd.C_alloc ?_ _)|(with_reducible refine Kd.C_drewN ?_ _)|(with_reducible refine Kd.C_drew ?_)));(case side4=>exact (Kd.R_reads' HO557.out).2.1);rintro e w' ⟨rfl,⟨nd,rfl⟩⟩;refine ⟨_,rfl,?_⟩;have hnb58:=NB540_521.out;have hnc58:=NB521_540.out;have hcz59_0 : w56.cell? ⟨gb540,0,none⟩ = some (.int .i64 t535):=(blk_cell BK540.out 0).trans rfl;have hcz59_1 : w56.cell? ⟨gb540,1,none⟩ = some (.int .i64 t536):=(blk_cell BK540.out 1).trans rfl;have hcz59_2 : w56.cell? ⟨gb540,2,none⟩ = some (.slice Ao31 t537.length co31):=(blk_cell BK540.out 2).trans rfl;have hfz59_0:=blk_frozen BK540.out 0;have hfz59_1:=blk_frozen BK540.out 1;have hfz59_2:=blk_frozen BK540.out 2)|((with_reducible refine gate_callee (f:=16) rfl ?_);refine goesL_ (some 64) rfl rfl Try.func16 (by kernel_rfl) rfl #[.agg #[.int .i64 t535,.int .i64 t536,.slice Ao31 t537.length co31],.int .i64 1] rfl (by (try simp only [List.map_toArray,List.map_cons,List.map_nil]);first|done|rfl|(simp only [List.length_drop,List.length_take];rfl)) ?_;(with_reducible refine (laws_markSea.calls kj15 t535 t536 (fun k_=>some k_ = (.slice Ao31 t537.length co31 : Value).ownBlock) (.slice Ao31 t537.length co31) t537 1 t559 t560 w _ ?side1 ?side2 A49.out).mono ?_);(case side1=>repeat (first|(with_reducible first|exact HB.out|apply below_alloc|apply pw_below_drewN|apply below_drew1|refine below_set ?_ GE521.out|refine below_set ?_ GE540.out)|exact HB.out));(case side2=>exact Kd.R_tight rfl HO_541002.out);rintro e w60 ⟨rfl,hy0,hb,hkp⟩;refine ⟨_,rfl,?_⟩;have n0_:=Aside0.mk (Kd.R_mono (ok':=fun k_=>some k_ ≠ (.slice Ao34 t541.length co34 : Value).ownBlock ∧ some k_ ≠ (v545 : Value).ownBlock ∧ some k_ ≠ (.slice Ao31 t537.length co31 : Value).ownBlock ∧ some k_ ≠ (.slice Ao54 t551.length co54 : Value).ownBlock ∧ some k_ ≠ (.slice Ao57 t555.length co57 : Value).ownBlock) (Kd.R_keptB (HO_6.out) hkp (fun k_ hk_ hs_=>(hk_.1.1.2.2) hs_)) (fun k_ hk_=>⟨hk_.1.1.1.1,hk_.1.1.1.2.1,hk_.1.1.1.2.2,hk_.1.1.2,hk_.1.2⟩));have n1_:=Aside0.mk (Kd.R_mono (ok':=fun k_=>some k_ ≠ (v532 : Value).ownBlock ∧ some k_ ≠ (v545 : Value).ownBlock ∧ some k_ ≠ (.slice Ao31 t537.length co31 : Value).ownBlock ∧ some k_ ≠ (.slice Ao54 t551.length co54 : Value).ownBlock ∧ some k_ ≠ (.slice Ao57 t555.length co57 : Value).ownBlock) (Kd.R_keptB (HO_9.out) hkp (fun k_ hk_ hs_=>(hk_.1.1.2.2) hs_)) (fun k_ hk_=>⟨hk_.1.1.1.1,hk_.1.1.1.2.1,hk_.1.1.1.2.2,hk_.1.1.2,hk_.1.2⟩));have n2_:=Aside0.mk (Kd.R_mono (ok':=fun k_=>some k_ ≠ (v532 : Value).ownBlock ∧ some k_ ≠ (.slice Ao34 t541.length co34 : Value).ownBlock ∧ some k_ ≠ (.slice Ao31 t537.length co31 : Value).ownBlock ∧ some k_ ≠ (.slice Ao54 t551.length co54 : Value).ownBlock ∧ some k_ ≠ (.slice Ao57 t555.length co57 : Value).ownBlock) (Kd.R_keptB (HO_10.out) hkp (fun k_ hk_ hs_=>(hk_.1.1.2.2) hs_)) (fun k_ hk_=>⟨hk_.1.1.1.1,hk_.1.1.1.2.1,hk_.1.1.1.2.2,hk_.1.1.2,hk_.1.2⟩));have n3_:=Aside0.mk (Kd.R_reok rfl hy0 (fun k_ e_=>HO_541002.out.1 k_ e_));have n4_:=Aside0.mk (blk_kept (by (with_reducible repeat (first|refine blk_drewN ?_ _|refine blk_drew ?_|refine blk_alloc ?_ _));exact BK521.out) hkp (fun hs_=>(fun e_=>(Kd.R_ne HO_541002.out BK521.out (by decide)) e_) hs_));have n5_:=Aside0.mk (blk_kept (by (with_reducible repeat (first|refine blk_drewN ?_ _|refine blk_drew ?_|refine blk_alloc ?_ _));exact BK540.out) hkp (fun hs_=>(fun e_=>(Kd.R_ne HO_541002.out BK540.out (by decide)) e_) hs_));have n6_:=Aside0.mk (Kd.R_mono (ok':=fun k_=>some k_ ≠ (v532 : Value).ownBlock ∧ some k_ ≠ (.slice Ao34 t541.length co34 : Value).ownBlock ∧ some k_ ≠ (v545 : Value).ownBlock ∧ some k_ ≠ (.slice Ao31 t537.length co31 : Value).ownBlock ∧ some k_ ≠ (.slice Ao57 t555.length co57 : Value).ownBlock) (Kd.R_keptB (HO553.out) hkp (fun k_ hk_ hs_=>(hk_.1.2) hs_)) (fun k_ hk_=>⟨hk_.1.1.1.1.1.2,hk_.1.1.1.1.2,hk_.1.1.1.2,hk_.1.1.2,hk_.1.2⟩));have n7_:=Aside0.mk (Kd.R_mono (ok':=fun k_=>some k_ ≠ (v532 : Value).ownBlock ∧ some k_ ≠ (.slice Ao34 t541.length co34 : Value).ownBlock ∧ some k_ ≠ (v545 : Value).ownBlock ∧ some k_ ≠ (.slice Ao31 t537.length co31 : Value).ownBlock ∧ some k_ ≠ (.slice Ao54 t551.length co54 : Value).ownBlock) (Kd.R_keptB (HO557.out) hkp (fun k_ hk_ hs_=>(hk_.1.2) hs_)) (fun k_ hk_=>⟨hk_.1.1.1.1.1.2,hk_.1.1.1.1.2,hk_.1.1.1.2,hk_.1.1.2,hk_.1.2⟩));have n8_:=Aside0.mk (hb);clear HO_6;clear HO_9;clear HO_10;clear HO_541002;clear BK521;clear BK540;clear HO553;clear HO557;clear HB;have HO_6:=n0_;have HO_9:=n1_;have HO_10:=n2_;have HO_541002:=n3_;have BK521:=n4_;have BK540:=n5_;have HO553:=n6_;have HO557:=n7_;have HB:=n8_;clear n0_ n1_ n2_ n3_ n4_ n5_ n6_ n7_ n8_;(try clear hb);(try clear hkp);(try clear hy0))|((with_reducible refine gate_callee (f:=17) rfl ?_);refine goesL_ (some 67) rfl rfl Try.func17 (by kernel_rfl) rfl #[.slice Ao34 t541.length co34,.int .i64 t559] rfl (by (try simp only [List.map_toArray,List.map_cons,List.map_nil]);first|done|rfl|(simp only [List.length_drop,List.length_take];rfl)) ?_;(with_reducible refine (laws_markInt64S.calls kj15 (fun k_=>some k_ = (.slice Ao34 t541.length co34 : Value).ownBlock) (.slice Ao34 t541.length co34) t541 t559 t561 t562 w _ ?side1 ?side2 A50.out).mono ?_);(case side1=>repeat (first|(with_reducible first|exact HB.out|apply below_alloc|apply pw_below_drewN|apply below_drew1|refine below_set ?_ GE521.out|refine below_set ?_ GE540.out)|exact HB.out));(case side2=>exact Kd.R_tight rfl HO_9.out);rintro e w61 ⟨rfl,hy0,hb,hkp⟩;refine ⟨_,rfl,?_⟩;have n0_:=Aside0.mk (Kd.R_mono (ok':=fun k_=>some k_ ≠ (.slice Ao34 t541.length co34 : Value).ownBlock ∧ some k_ ≠ (v545 : Value).ownBlock ∧ some k_ ≠ (.slice Ao31 t537.length co31 : Value).ownBlock ∧ some k_ ≠ (.slice Ao54 t551.length co54 : Value).ownBlock ∧ some k_ ≠ (.slice Ao57 t555.length co57 : Value).ownBlock) (Kd.R_keptB (HO_6.out) hkp (fun k_ hk_ hs_=>(hk_.1) hs_)) (fun k_ hk_=>⟨hk_.1.1,hk_.1.2.1,hk_.1.2.2.1,hk_.1.2.2.2.1,hk_.1.2.2.2.2⟩));have n1_:=Aside0.mk (Kd.R_reok rfl hy0 (fun k_ e_=>HO_9.out.1 k_ e_));have n2_:=Aside0.mk (Kd.R_mono (ok':=fun k_=>some k_ ≠ (v532 : Value).ownBlock ∧ some k_ ≠ (.slice Ao34 t541.length co34 : Value).ownBlock ∧ some k_ ≠ (.slice Ao31 t537.length co31 : Value).ownBlock ∧ some k_ ≠ (.slice Ao54 t551.length co54 : Value).ownBlock ∧ some k_ ≠ (.slice Ao57 t555.length co57 : Value).ownBlock) (Kd.R_keptB (HO_10.out) hkp (fun k_ hk_ hs_=>(hk_.2.1) hs_)) (fun k_ hk_=>⟨hk_.1.1,hk_.1.2.1,hk_.1.2.2.1,hk_.1.2.2.2.1,hk_.1.2.2.2.2⟩));have n3_:=Aside0.mk (Kd.R_mono (ok':=fun k_=>some k_ ≠ (v532 : Value).ownBlock ∧ some k_ ≠ (.slice Ao34 t541.length co34 : Value).ownBlock ∧ some k_ ≠ (v545 : Value).ownBlock ∧ some k_ ≠ (.slice Ao54 t551.length co54 : Value).ownBlock ∧ some k_ ≠ (.slice Ao57 t555.length co57 : Value).ownBlock) (Kd.R_keptB (HO_541002.out) hkp (fun k_ hk_ hs_=>(hk_.1.1.2.1) hs_)) (fun k_ hk_=>⟨hk_.1.1.1.1,hk_.1.1.1.2.1,hk_.1.1.1.2.2,hk_.1.1.2,hk_.1.2⟩));have n4_:=Aside0.mk (blk_kept (by (with_reducible repeat (first|refine blk_drewN ?_ _|refine blk_drew ?_|refine blk_alloc ?_ _));exact BK521.out) hkp (fun hs_=>(fun e_=>(Kd.R_ne HO_9.out BK521.out (by decide)) e_) hs_));have n5_:=Aside0.mk (blk_kept (by (with_reducible repeat (first|refine blk_drewN ?_ _|refine blk_drew ?_|refine blk_alloc ?_ _));exact BK540.out) hkp (fun hs_=>(fun e_=>(Kd.R_ne HO_9.out BK540.out (by decide)) e_) hs_));have n6_:=Aside0.mk (Kd.R_mono (ok':=fun k_=>some k_ ≠ (v532 : Value).ownBlock ∧ some k_ ≠ (.slice Ao34 t541.length co34 : Value).ownBlock ∧ some k_ ≠ (v545 : Value).ownBlock ∧ some k_ ≠ (.slice Ao31 t537.length co31 : Value).ownBlock ∧ some k_ ≠ (.slice Ao57 t555.length co57 : Value).ownBlock) (Kd.R_keptB (HO553.out) hkp (fun k_ hk_ hs_=>(hk_.2.1) hs_)) (fun k_ hk_=>⟨hk_.1.1,hk_.1.2.1,hk_.1.2.2.1,hk_.1.2.2.2.1,hk_.1.2.2.2.2⟩));have n7_:=Aside0.mk (Kd.R_mono (ok':=fun k_=>some k_ ≠ (v532 : Value).ownBlock ∧ some k_ ≠ (.slice Ao34 t541.length co34 : Value).ownBlock ∧ some k_ ≠ (v545 : Value).ownBlock ∧ some k_ ≠ (.slice Ao31 t537.length co31 : Value).ownBlock ∧ some k_ ≠ (.slice Ao54 t551.length co54 : Value).ownBlock) (Kd.R_keptB (HO557.out) hkp (fun k_ hk_ hs_=>(hk_.2.1) hs_)) (fun k_ hk_=>⟨hk_.1.1,hk_.1.2.1,hk_.1.2.2.1,hk_.1.2.2.2.1,hk_.1.2.2.2.2⟩));have n8_:=Aside0.mk (hb);clear HO_6;clear HO_9;clear HO_10;clear HO_541002;clear BK521;clear BK540;clear HO553;clear HO557;clear HB;have HO_6:=n0_;have HO_9:=n1_;have HO_10:=n2_;have HO_541002:=n3_;have BK521:=n4_;have BK540:=n5_;have HO553:=n6_;have HO557:=n7_;have HB:=n8_;clear n0_ n1_ n2_ n3_ n4_ n5_ n6_ n7_ n8_;(try clear hb);(try clear hkp);(try clear hy0)))
        (try simp only [Act.put,List.setIfInBounds_toArray,List.set_cons_zero,List.set_cons_succ])
        go_cut [80] (fun v80 wc=>∃ (kq : Nat) (x80_50 : Bool),v80 = .bool x80_50 ∧ Aside0 (laws_FnExactCellsOfFleet.j1 kq l1 t531 t534 t544 x80_50 a0_0 a0_1 l0_2 = some r) ∧ Aside0 (kq ≤ kj15) ∧ Aside0 (Kd.R (Kd.int .i64) 2 wc w.heap.size (fun k_=>some k_ ≠ (v545 : Value).ownBlock ∧ some k_ ≠ ((.slice Ao31 t537.length co31) : Value).ownBlock) v532 t531) ∧ Aside0 (Kd.R (Kd.int .i64) 2 wc w.heap.size (fun k_=>some k_ ≠ (v532 : Value).ownBlock ∧ some k_ ≠ ((.slice Ao31 t537.length co31) : Value).ownBlock) v545 t544) ∧ Aside0 (Kd.R (Kd.int .i64) 2 wc w.heap.size (fun k_=>some k_ ≠ (v532 : Value).ownBlock ∧ some k_ ≠ (v545 : Value).ownBlock) (.slice Ao31 t537.length co31) t560) ∧ Aside0 (wc.heap[gb521]? = some (.cells #[.int .i64 a0_0,.int .i64 a0_1,(.slice A0_2 l0_2.length c0_2)] 24 (0,0))) ∧ Aside0 (wc.heap[gb540]? = some (.cells #[.int .i64 t535,.int .i64 t536,(.slice Ao31 t537.length co31)] 28 (0,0))) ∧ Aside0 (Below w.heap.size w wc))
        case first =>
         have H:=HC51.out
         clear HC51
         by_cases c62 : t561 < 0
         ·rw [if_pos c62] at H
          have c62b0 : decide (t561 < 0) = true:=decide_eq_true c62
          clear c62
          (first|rw [c62b0]|(simp only [i64_w,i32_w];rw [c62b0])|skip)
          have H':=Aside0.mk H
          clear H
          go_wp2
          go_meet
          case rel=>exact ⟨_,(true),(by first|rfl|(simp;done)|(simp [*];done)),H',⟨by have:=HJ15.out;first|omega|exact Nat.le_refl _⟩,⟨by (with_reducible repeat (first|apply Kd.R_alloc|apply Kd.R_drewN|apply Kd.R_drew));exact Kd.R_mono HO_6.out (fun _ hk=>⟨hk.2.1,hk.2.2.1⟩)⟩,⟨by (with_reducible repeat (first|apply Kd.R_alloc|apply Kd.R_drewN|apply Kd.R_drew));exact Kd.R_mono HO_10.out (fun _ hk=>⟨hk.1,hk.2.2.1⟩)⟩,⟨by (with_reducible repeat (first|apply Kd.R_alloc|apply Kd.R_drewN|apply Kd.R_drew));exact Kd.R_mono HO_541002.out (fun _ hk=>⟨hk.1,hk.2.2.1⟩)⟩,⟨by (with_reducible repeat (first|refine blk_drewN ?_ _|refine blk_drew ?_|refine blk_alloc ?_ _));exact BK521.out⟩,⟨by (with_reducible repeat (first|refine blk_drewN ?_ _|refine blk_drew ?_|refine blk_alloc ?_ _));exact BK540.out⟩,⟨by repeat (first|(with_reducible first|exact HB.out|apply below_alloc|apply pw_below_drewN|apply below_drew1|refine below_set ?_ GE521.out|refine below_set ?_ GE540.out)|exact HB.out)⟩⟩
         ·rw [if_neg c62] at H
          have c62b0 : decide (t561 < 0) = false:=decide_eq_false c62
          clear c62
          (first|rw [c62b0]|(simp only [i64_w,i32_w];rw [c62b0])|skip)
          replace H:=Option.bind_eq_some_iff.mp H
          obtain ⟨t563,A630,H⟩:=H
          replace H : (if t563 = true then (laws_FnExactCellsOfFleet.j1 kj15 l1 t531 t534 t544 (t547 != t534) a0_0 a0_1 l0_2) else (laws_FnExactCellsOfFleet.j1 kj15 l1 t531 t534 t544 true a0_0 a0_1 l0_2)) = some r:=H
          have A63:=Aside0.mk A630
          clear A630
          by_cases c64 : t563 = true
          ·subst c64
           have H1 : (laws_FnExactCellsOfFleet.j1 kj15 l1 t531 t534 t544 (t547 != t534) a0_0 a0_1 l0_2) = some r:=by rw [if_pos rfl] at H;exact H
           clear H
           have H:=H1
           clear H1
           have H':=Aside0.mk H
           clear H
           obtain ⟨Ao65,co65,eo65⟩:=Kd.R_slice HO_10.out
           subst eo65
           obtain ⟨Ao66,co66,eo66⟩:=Kd.R_slice HO_6.out
           subst eo66
           go_wp2_with (first|(go_at_call 14;(with_reducible refine (laws_eqInt64S.calls kj15 _ _ t544 _ _ t531 true _ ?side1 ?side2 ?side3 ?side4 A63.out).mono ?_);(case side1=>repeat (first|exact (Kd.R_reads' HO_10.out).2.2|(with_reducible refine Kd.C_alloc ?_ _)|(with_reducible refine Kd.C_drewN ?_ _)|(with_reducible refine Kd.C_drew ?_)));(case side2=>exact (Kd.R_reads' HO_10.out).2.1);(case side3=>repeat (first|exact (Kd.R_reads' HO_6.out).2.2|(with_reducible refine Kd.C_alloc ?_ _)|(with_reducible refine Kd.C_drewN ?_ _)|(with_reducible refine Kd.C_drew ?_)));(case side4=>exact (Kd.R_reads' HO_6.out).2.1);rintro e w' ⟨rfl,⟨nd,rfl⟩⟩))
           go_meet
           case rel=>exact ⟨_,((t547 != t534)),(by first|rfl|(simp;done)|(simp [*];done)),H',⟨by have:=HJ15.out;first|omega|exact Nat.le_refl _⟩,⟨by (with_reducible repeat (first|apply Kd.R_alloc|apply Kd.R_drewN|apply Kd.R_drew));exact Kd.R_mono HO_6.out (fun _ hk=>⟨hk.2.1,hk.2.2.1⟩)⟩,⟨by (with_reducible repeat (first|apply Kd.R_alloc|apply Kd.R_drewN|apply Kd.R_drew));exact Kd.R_mono HO_10.out (fun _ hk=>⟨hk.1,hk.2.2.1⟩)⟩,⟨by (with_reducible repeat (first|apply Kd.R_alloc|apply Kd.R_drewN|apply Kd.R_drew));exact Kd.R_mono HO_541002.out (fun _ hk=>⟨hk.1,hk.2.2.1⟩)⟩,⟨by (with_reducible repeat (first|refine blk_drewN ?_ _|refine blk_drew ?_|refine blk_alloc ?_ _));exact BK521.out⟩,⟨by (with_reducible repeat (first|refine blk_drewN ?_ _|refine blk_drew ?_|refine blk_alloc ?_ _));exact BK540.out⟩,⟨by repeat (first|(with_reducible first|exact HB.out|apply below_alloc|apply pw_below_drewN|apply below_drew1|refine below_set ?_ GE521.out|refine below_set ?_ GE540.out)|exact HB.out)⟩⟩
          ·replace c64:=Bool.eq_false_iff.mpr c64
           subst c64
           have H1 : (laws_FnExactCellsOfFleet.j1 kj15 l1 t531 t534 t544 true a0_0 a0_1 l0_2) = some r:=by rw [if_neg (show ¬ (false = true) by decide)] at H;exact H
           clear H
           have H:=H1
           clear H1
           have H':=Aside0.mk H
           clear H
           obtain ⟨Ao67,co67,eo67⟩:=Kd.R_slice HO_10.out
           subst eo67
           obtain ⟨Ao68,co68,eo68⟩:=Kd.R_slice HO_6.out
           subst eo68
           go_wp2_with (first|(go_at_call 14;(with_reducible refine (laws_eqInt64S.calls kj15 _ _ t544 _ _ t531 false _ ?side1 ?side2 ?side3 ?side4 A63.out).mono ?_);(case side1=>repeat (first|exact (Kd.R_reads' HO_10.out).2.2|(with_reducible refine Kd.C_alloc ?_ _)|(with_reducible refine Kd.C_drewN ?_ _)|(with_reducible refine Kd.C_drew ?_)));(case side2=>exact (Kd.R_reads' HO_10.out).2.1);(case side3=>repeat (first|exact (Kd.R_reads' HO_6.out).2.2|(with_reducible refine Kd.C_alloc ?_ _)|(with_reducible refine Kd.C_drewN ?_ _)|(with_reducible refine Kd.C_drew ?_)));(case side4=>exact (Kd.R_reads' HO_6.out).2.1);rintro e w' ⟨rfl,⟨nd,rfl⟩⟩))
           go_meet
           case rel=>exact ⟨_,(true),(by first|rfl|(simp;done)|(simp [*];done)),H',⟨by have:=HJ15.out;first|omega|exact Nat.le_refl _⟩,⟨by (with_reducible repeat (first|apply Kd.R_alloc|apply Kd.R_drewN|apply Kd.R_drew));exact Kd.R_mono HO_6.out (fun _ hk=>⟨hk.2.1,hk.2.2.1⟩)⟩,⟨by (with_reducible repeat (first|apply Kd.R_alloc|apply Kd.R_drewN|apply Kd.R_drew));exact Kd.R_mono HO_10.out (fun _ hk=>⟨hk.1,hk.2.2.1⟩)⟩,⟨by (with_reducible repeat (first|apply Kd.R_alloc|apply Kd.R_drewN|apply Kd.R_drew));exact Kd.R_mono HO_541002.out (fun _ hk=>⟨hk.1,hk.2.2.1⟩)⟩,⟨by (with_reducible repeat (first|refine blk_drewN ?_ _|refine blk_drew ?_|refine blk_alloc ?_ _));exact BK521.out⟩,⟨by (with_reducible repeat (first|refine blk_drewN ?_ _|refine blk_drew ?_|refine blk_alloc ?_ _));exact BK540.out⟩,⟨by repeat (first|(with_reducible first|exact HB.out|apply below_alloc|apply pw_below_drewN|apply below_drew1|refine below_set ?_ GE521.out|refine below_set ?_ GE540.out)|exact HB.out)⟩⟩
        case rest =>
         clear HC51
         try clear c1
         try clear c2
         try clear p2
         try clear c3
         try clear c3b0
         try clear c3b1
         try clear c4
         try clear c5
         try clear c6
         try clear c6b0
         try clear c7
         try clear c10
         try clear c12
         try clear c14
         try clear c15
         try clear c16
         try clear c17
         try clear c20
         try clear c29
         try clear c30
         try clear c37
         try clear c42
         try clear c45
         try clear c48
         try clear c58
         try clear c62
         try clear c62b0
         try clear c64
         try clear hcz18_0
         try clear hcz18_1
         try clear hcz18_2
         try clear hcz20_0
         try clear hcz20_1
         try clear hcz20_2
         try clear hcz26_0
         try clear hcz26_1
         try clear hcz26_2
         try clear hcz30_0
         try clear hcz30_1
         try clear hcz30_2
         try clear hcz33_0
         try clear hcz33_1
         try clear hcz33_2
         try clear hcz59_0
         try clear hcz59_1
         try clear hcz59_2
         try clear hcz8_0
         try clear hcz8_1
         try clear hcz8_2
         try clear hfz18_0
         try clear hfz18_1
         try clear hfz18_2
         try clear hfz20_0
         try clear hfz20_1
         try clear hfz20_2
         try clear hfz26_0
         try clear hfz26_1
         try clear hfz26_2
         try clear hfz30_0
         try clear hfz30_1
         try clear hfz30_2
         try clear hfz33_0
         try clear hfz33_1
         try clear hfz33_2
         try clear hfz59_0
         try clear hfz59_1
         try clear hfz59_2
         try clear hfz8_0
         try clear hfz8_1
         try clear hfz8_2
         try clear p2
         obtain ⟨kq,x80_50,rfl,HA,HJ50,HO_6,HO_10,HO_541002,BK521,BK540,HB⟩:=hcut
         have hl541002_50:=(Kd.R_reads' HO_541002.out).1
         rw [hl541002_50] at HO_541002
         (try simp only [hl541002_50])
         (try simp only [hl541002_50] at BK521)
         (try simp only [hl541002_50] at BK540)
         (try simp only [hl541002_50] at HO_6)
         (try simp only [hl541002_50] at HO_10)
         cases kq with
         | zero => exact absurd HA.out (by simp [laws_FnExactCellsOfFleet.j1])
         | succ kj50 =>
          have H:=HA.out
          clear HA
          simp only [laws_FnExactCellsOfFleet.j1] at H
          by_cases c69 : x80_50 = true
          ·subst c69
           have H1 : (some false) = some r:=by rw [if_pos rfl] at H;exact H
           clear H
           have H:=H1
           clear H1
           obtain rfl:=Option.some.inj H
           go_wp2
           go_ret
           exact ⟨by first|rfl|(simp [errW_none,errW_some] <;> rfl)|(simp [*,errW_none,errW_some] <;> rfl),by repeat (first|(with_reducible first|exact HB.out|apply below_alloc|apply pw_below_drewN|apply below_drew1|refine below_set ?_ GE521.out|refine below_set ?_ GE540.out)|exact HB.out)⟩
          ·replace c69:=Bool.eq_false_iff.mpr c69
           subst c69
           have H1 : ((laws_markInt64S.f kj50 t544 1).bind fun bt564=>((laws_heldInt64S.f kj50 bt564.2 1).bind fun t566=>(if t566 < 0 then (some false) else (if t566 = bt564.1 then ((laws_toSea.f kj50 a0_0 a0_1 l0_2).bind fun bt567=>((laws_toInt64S.f kj50 l1).bind fun t572=>((impl_CellsOfFleet.f kj50 bt567.1 bt567.2.1 bt567.2.2 t572).bind fun bt575=>((laws_eqInt64S.f kj50 bt575.1 t531).bind fun t579=>(if t579 = true then (laws_FnExactCellsOfFleet.j2 kj50 bt564.2 bt564.1 (bt575.2 != t534)) else (laws_FnExactCellsOfFleet.j2 kj50 bt564.2 bt564.1 true)))))) else (some false))))) = some r:=by rw [if_neg (show ¬ (false = true) by decide)] at H;exact H
           clear H
           have H:=H1
           clear H1
           replace H:=Option.bind_eq_some_iff.mp H
           obtain ⟨⟨t564,t565⟩,A700,H⟩:=H
           replace H : ((laws_heldInt64S.f kj50 t565 1).bind fun t566=>(if t566 < 0 then (some false) else (if t566 = t564 then ((laws_toSea.f kj50 a0_0 a0_1 l0_2).bind fun bt567=>((laws_toInt64S.f kj50 l1).bind fun t572=>((impl_CellsOfFleet.f kj50 bt567.1 bt567.2.1 bt567.2.2 t572).bind fun bt575=>((laws_eqInt64S.f kj50 bt575.1 t531).bind fun t579=>(if t579 = true then (laws_FnExactCellsOfFleet.j2 kj50 t565 t564 (bt575.2 != t534)) else (laws_FnExactCellsOfFleet.j2 kj50 t565 t564 true)))))) else (some false)))) = some r:=H
           have A70:=Aside0.mk A700
           clear A700
           replace H:=Option.bind_eq_some_iff.mp H
           obtain ⟨t566,A710,H⟩:=H
           replace H : (if t566 < 0 then (some false) else (if t566 = t564 then ((laws_toSea.f kj50 a0_0 a0_1 l0_2).bind fun bt567=>((laws_toInt64S.f kj50 l1).bind fun t572=>((impl_CellsOfFleet.f kj50 bt567.1 bt567.2.1 bt567.2.2 t572).bind fun bt575=>((laws_eqInt64S.f kj50 bt575.1 t531).bind fun t579=>(if t579 = true then (laws_FnExactCellsOfFleet.j2 kj50 t565 t564 (bt575.2 != t534)) else (laws_FnExactCellsOfFleet.j2 kj50 t565 t564 true)))))) else (some false))) = some r:=H
           have A71:=Aside0.mk A710
           clear A710
           by_cases c72 : t566 < 0
           ·rw [if_pos c72] at H
            have c72b0 : decide (t566 < 0) = true:=decide_eq_true c72
            clear c72
            obtain rfl:=Option.some.inj H
            obtain ⟨Ao73,co73,eo73⟩:=Kd.R_slice HO_10.out
            subst eo73
            go_wp2_with (first|((with_reducible refine gate_callee (f:=17) rfl ?_);refine goesL_ (some 83) rfl rfl Try.func17 (by kernel_rfl) rfl #[.slice Ao73 t544.length co73,.int .i64 1] rfl (by (try simp only [List.map_toArray,List.map_cons,List.map_nil]);first|done|rfl|(simp only [List.length_drop,List.length_take];rfl)) ?_;(with_reducible refine (laws_markInt64S.calls kj50 (fun k_=>some k_ = (.slice Ao73 t544.length co73 : Value).ownBlock) (.slice Ao73 t544.length co73) t544 1 t564 t565 w _ ?side1 ?side2 A70.out).mono ?_);(case side1=>repeat (first|(with_reducible first|exact HB.out|apply below_alloc|apply pw_below_drewN|apply below_drew1|refine below_set ?_ GE521.out|refine below_set ?_ GE540.out)|exact HB.out));(case side2=>exact Kd.R_tight rfl HO_10.out);rintro e w74 ⟨rfl,hy0,hb,hkp⟩;refine ⟨_,rfl,?_⟩;have n0_:=Aside0.mk (Kd.R_mono (ok':=fun k_=>some k_ ≠ (.slice Ao73 t544.length co73 : Value).ownBlock ∧ some k_ ≠ (.slice Ao31 t560.length co31 : Value).ownBlock) (Kd.R_keptB (HO_6.out) hkp (fun k_ hk_ hs_=>(hk_.1) hs_)) (fun k_ hk_=>⟨hk_.1.1,hk_.1.2⟩));have n1_:=Aside0.mk (Kd.R_reok rfl hy0 (fun k_ e_=>HO_10.out.1 k_ e_));have n2_:=Aside0.mk (Kd.R_mono (ok':=fun k_=>some k_ ≠ (v532 : Value).ownBlock ∧ some k_ ≠ (.slice Ao73 t544.length co73 : Value).ownBlock) (Kd.R_keptB (HO_541002.out) hkp (fun k_ hk_ hs_=>(hk_.2) hs_)) (fun k_ hk_=>⟨hk_.1.1,hk_.1.2⟩));have n3_:=Aside0.mk (blk_kept (by (with_reducible repeat (first|refine blk_drewN ?_ _|refine blk_drew ?_|refine blk_alloc ?_ _));exact BK521.out) hkp (fun hs_=>(fun e_=>(Kd.R_ne HO_10.out BK521.out (by decide)) e_) hs_));have n4_:=Aside0.mk (blk_kept (by (with_reducible repeat (first|refine blk_drewN ?_ _|refine blk_drew ?_|refine blk_alloc ?_ _));exact BK540.out) hkp (fun hs_=>(fun e_=>(Kd.R_ne HO_10.out BK540.out (by decide)) e_) hs_));have n5_:=Aside0.mk (hb);clear HO_6;clear HO_10;clear HO_541002;clear BK521;clear BK540;clear HB;have HO_6:=n0_;have HO_10:=n1_;have HO_541002:=n2_;have BK521:=n3_;have BK540:=n4_;have HB:=n5_;clear n0_ n1_ n2_ n3_ n4_ n5_;(try clear hb);(try clear hkp);(try clear hy0))|((with_reducible refine gate_callee (f:=18) rfl ?_);refine goesL_ (some 86) rfl rfl Try.func18 (by kernel_rfl) rfl #[.slice Ao73 t565.length co73,.int .i64 1] rfl (by (try simp only [List.map_toArray,List.map_cons,List.map_nil]);first|done|(rw [show t565.length = t544.length from (Kd.R_reads' HO_10.out).1.symm] <;> rfl)|rfl|(simp only [List.length_drop,List.length_take];rfl)) ?_;(with_reducible refine (laws_heldInt64S.calls kj50 _ _ t565 1 t566 _ ?side1 ?side2 A71.out).mono ?_);(case side1=>repeat (first|exact (Kd.R_reads' HO_10.out).2.2|(with_reducible refine Kd.C_alloc ?_ _)|(with_reducible refine Kd.C_drewN ?_ _)|(with_reducible refine Kd.C_drew ?_)));(case side2=>rw [show t565.length = t544.length from (Kd.R_reads' HO_10.out).1.symm];exact (Kd.R_reads' HO_10.out).2.1);rintro e w' ⟨rfl,⟨nd,rfl⟩⟩;refine ⟨_,rfl,?_⟩))
            go_ret
            exact ⟨by first|rfl|(simp [errW_none,errW_some] <;> rfl)|(simp [*,errW_none,errW_some] <;> rfl),by repeat (first|(with_reducible first|exact HB.out|apply below_alloc|apply pw_below_drewN|apply below_drew1|refine below_set ?_ GE521.out|refine below_set ?_ GE540.out)|exact HB.out)⟩
           ·rw [if_neg c72] at H
            have c72b0 : decide (t566 < 0) = false:=decide_eq_false c72
            clear c72
            by_cases c75 : t566 = t564
            ·rw [if_pos c75] at H
             have c75b0 : (t566 == t564) = true:=beq_iff_eq.mpr c75
             have c75b1 : (t566 != t564) = false:=bne_eq_false_iff_eq.mpr c75
             clear c75
             replace H:=Option.bind_eq_some_iff.mp H
             obtain ⟨⟨t567,t568,t569⟩,A760,H⟩:=H
             replace H : ((laws_toInt64S.f kj50 l1).bind fun t572=>((impl_CellsOfFleet.f kj50 t567 t568 t569 t572).bind fun bt575=>((laws_eqInt64S.f kj50 bt575.1 t531).bind fun t579=>(if t579 = true then (laws_FnExactCellsOfFleet.j2 kj50 t565 t564 (bt575.2 != t534)) else (laws_FnExactCellsOfFleet.j2 kj50 t565 t564 true))))) = some r:=H
             have A76:=Aside0.mk A760
             clear A760
             replace H:=Option.bind_eq_some_iff.mp H
             obtain ⟨t572,A770,H⟩:=H
             replace H : ((impl_CellsOfFleet.f kj50 t567 t568 t569 t572).bind fun bt575=>((laws_eqInt64S.f kj50 bt575.1 t531).bind fun t579=>(if t579 = true then (laws_FnExactCellsOfFleet.j2 kj50 t565 t564 (bt575.2 != t534)) else (laws_FnExactCellsOfFleet.j2 kj50 t565 t564 true)))) = some r:=H
             have A77:=Aside0.mk A770
             clear A770
             replace H:=Option.bind_eq_some_iff.mp H
             obtain ⟨⟨t575,t578⟩,A780,H⟩:=H
             replace H : ((laws_eqInt64S.f kj50 t575 t531).bind fun t579=>(if t579 = true then (laws_FnExactCellsOfFleet.j2 kj50 t565 t564 (t578 != t534)) else (laws_FnExactCellsOfFleet.j2 kj50 t565 t564 true))) = some r:=H
             have A78:=Aside0.mk A780
             clear A780
             have HC79:=Aside0.mk H
             clear H
             obtain ⟨Ao80,co80,eo80⟩:=Kd.R_slice HO_10.out
             subst eo80
             go_upto_region 31 with (first|((with_reducible refine gate_callee (f:=17) rfl ?_);refine goesL_ (some 83) rfl rfl Try.func17 (by kernel_rfl) rfl #[.slice Ao80 t544.length co80,.int .i64 1] rfl (by (try simp only [List.map_toArray,List.map_cons,List.map_nil]);first|done|rfl|(simp only [List.length_drop,List.length_take];rfl)) ?_;(with_reducible refine (laws_markInt64S.calls kj50 (fun k_=>some k_ = (.slice Ao80 t544.length co80 : Value).ownBlock) (.slice Ao80 t544.length co80) t544 1 t564 t565 w _ ?side1 ?side2 A70.out).mono ?_);(case side1=>repeat (first|(with_reducible first|exact HB.out|apply below_alloc|apply pw_below_drewN|apply below_drew1|refine below_set ?_ GE521.out|refine below_set ?_ GE540.out)|exact HB.out));(case side2=>exact Kd.R_tight rfl HO_10.out);rintro e w81 ⟨rfl,hy0,hb,hkp⟩;refine ⟨_,rfl,?_⟩;have n0_:=Aside0.mk (Kd.R_mono (ok':=fun k_=>some k_ ≠ (.slice Ao80 t544.length co80 : Value).ownBlock ∧ some k_ ≠ (.slice Ao31 t560.length co31 : Value).ownBlock) (Kd.R_keptB (HO_6.out) hkp (fun k_ hk_ hs_=>(hk_.1) hs_)) (fun k_ hk_=>⟨hk_.1.1,hk_.1.2⟩));have n1_:=Aside0.mk (Kd.R_reok rfl hy0 (fun k_ e_=>HO_10.out.1 k_ e_));have n2_:=Aside0.mk (Kd.R_mono (ok':=fun k_=>some k_ ≠ (v532 : Value).ownBlock ∧ some k_ ≠ (.slice Ao80 t544.length co80 : Value).ownBlock) (Kd.R_keptB (HO_541002.out) hkp (fun k_ hk_ hs_=>(hk_.2) hs_)) (fun k_ hk_=>⟨hk_.1.1,hk_.1.2⟩));have n3_:=Aside0.mk (blk_kept (by (with_reducible repeat (first|refine blk_drewN ?_ _|refine blk_drew ?_|refine blk_alloc ?_ _));exact BK521.out) hkp (fun hs_=>(fun e_=>(Kd.R_ne HO_10.out BK521.out (by decide)) e_) hs_));have n4_:=Aside0.mk (blk_kept (by (with_reducible repeat (first|refine blk_drewN ?_ _|refine blk_drew ?_|refine blk_alloc ?_ _));exact BK540.out) hkp (fun hs_=>(fun e_=>(Kd.R_ne HO_10.out BK540.out (by decide)) e_) hs_));have n5_:=Aside0.mk (hb);clear HO_6;clear HO_10;clear HO_541002;clear BK521;clear BK540;clear HB;have HO_6:=n0_;have HO_10:=n1_;have HO_541002:=n2_;have BK521:=n3_;have BK540:=n4_;have HB:=n5_;clear n0_ n1_ n2_ n3_ n4_ n5_;(try clear hb);(try clear hkp);(try clear hy0))|((with_reducible refine gate_callee (f:=18) rfl ?_);refine goesL_ (some 86) rfl rfl Try.func18 (by kernel_rfl) rfl #[.slice Ao80 t565.length co80,.int .i64 1] rfl (by (try simp only [List.map_toArray,List.map_cons,List.map_nil]);first|done|(rw [show t565.length = t544.length from (Kd.R_reads' HO_10.out).1.symm] <;> rfl)|rfl|(simp only [List.length_drop,List.length_take];rfl)) ?_;(with_reducible refine (laws_heldInt64S.calls kj50 _ _ t565 1 t566 _ ?side1 ?side2 A71.out).mono ?_);(case side1=>repeat (first|exact (Kd.R_reads' HO_10.out).2.2|(with_reducible refine Kd.C_alloc ?_ _)|(with_reducible refine Kd.C_drewN ?_ _)|(with_reducible refine Kd.C_drew ?_)));(case side2=>rw [show t565.length = t544.length from (Kd.R_reads' HO_10.out).1.symm];exact (Kd.R_reads' HO_10.out).2.1);rintro e w' ⟨rfl,⟨nd,rfl⟩⟩;refine ⟨_,rfl,?_⟩;have hnb82:=NB521_540.out;have hnc82:=NB540_521.out;have hcz83_0 : w81.cell? ⟨gb521,0,none⟩ = some (.int .i64 a0_0):=(blk_cell BK521.out 0).trans rfl;have hcz83_1 : w81.cell? ⟨gb521,1,none⟩ = some (.int .i64 a0_1):=(blk_cell BK521.out 1).trans rfl;have hcz83_2 : w81.cell? ⟨gb521,2,none⟩ = some (.slice A0_2 l0_2.length c0_2):=(blk_cell BK521.out 2).trans rfl;have hfz83_0:=blk_frozen BK521.out 0;have hfz83_1:=blk_frozen BK521.out 1;have hfz83_2:=blk_frozen BK521.out 2)|((with_reducible refine gate_callee (f:=12) rfl ?_);refine goesL_ (some 94) rfl rfl Try.func12 (by kernel_rfl) rfl #[.agg #[.int .i64 a0_0,.int .i64 a0_1,.slice A0_2 l0_2.length c0_2]] rfl (by (try simp only [List.map_toArray,List.map_cons,List.map_nil]);first|done|rfl|(simp only [List.length_drop,List.length_take];rfl)) ?_;(with_reducible refine (laws_toSea.calls kj50 a0_0 a0_1 _ _ l0_2 t567 t568 t569 _ ?side1 ?side2 A76.out).mono ?_);(case side1=>repeat (first|exact (Kd.C_below HR0_2.out (by repeat (first|(with_reducible first|exact HB.out|apply below_alloc|apply pw_below_drewN|apply below_drew1|refine below_set ?_ GE521.out|refine below_set ?_ GE540.out)|exact HB.out)))|(with_reducible refine Kd.C_alloc ?_ _)|(with_reducible refine Kd.C_drewN ?_ _)|(with_reducible refine Kd.C_drew ?_)));(case side2=>exact HC0_2.out);rintro e w84 ⟨v570,rfl,ho0,hb⟩;refine ⟨_,rfl,?_⟩;have n0_:=Aside0.mk (Kd.R_elder' (by (with_reducible repeat (first|apply Kd.R_alloc|apply Kd.R_drewN|apply Kd.R_drew));exact HO_6.out) (Kd.R_base ho0) hb);have n1_:=Aside0.mk (Kd.R_elder' (by (with_reducible repeat (first|apply Kd.R_alloc|apply Kd.R_drewN|apply Kd.R_drew));exact HO_10.out) (Kd.R_base ho0) hb);have n2_:=Aside0.mk (Kd.R_elder' (by (with_reducible repeat (first|apply Kd.R_alloc|apply Kd.R_drewN|apply Kd.R_drew));exact HO_541002.out) (Kd.R_base ho0) hb);have n3_:=Aside0.mk (Kd.R_lower (Kd.R_new' (Kd.R_new' (Kd.R_new' ho0 (Kd.R_lt (by (with_reducible repeat (first|apply Kd.R_alloc|apply Kd.R_drewN|apply Kd.R_drew));exact HO_6.out))) (Kd.R_lt (by (with_reducible repeat (first|apply Kd.R_alloc|apply Kd.R_drewN|apply Kd.R_drew));exact HO_10.out))) (Kd.R_lt (by (with_reducible repeat (first|apply Kd.R_alloc|apply Kd.R_drewN|apply Kd.R_drew));exact HO_541002.out))) (below_size (by repeat (first|(with_reducible first|exact HB.out|apply below_alloc|apply pw_below_drewN|apply below_drew1|refine below_set ?_ GE521.out|refine below_set ?_ GE540.out)|exact HB.out))));have n4_:=Aside0.mk (blk_below (g:=gb521) (o:=.cells #[.int .i64 a0_0,.int .i64 a0_1,.slice A0_2 l0_2.length c0_2] 24 (0,0)) (by (with_reducible repeat (first|refine blk_drewN ?_ _|refine blk_drew ?_|refine blk_alloc ?_ _));exact BK521.out) hb);have n5_:=Aside0.mk (blk_below (g:=gb540) (o:=.cells #[.int .i64 t535,.int .i64 t536,.slice Ao31 t560.length co31] 28 (0,0)) (by (with_reducible repeat (first|refine blk_drewN ?_ _|refine blk_drew ?_|refine blk_alloc ?_ _));exact BK540.out) hb);have n6_:=Aside0.mk (below_step (by repeat (first|(with_reducible first|exact HB.out|apply below_alloc|apply pw_below_drewN|apply below_drew1|refine below_set ?_ GE521.out|refine below_set ?_ GE540.out)|exact HB.out)) hb);clear HO_6;clear HO_10;clear HO_541002;clear BK521;clear BK540;clear HB;have HO_6:=n0_;have HO_10:=n1_;have HO_541002:=n2_;have HO571:=n3_;have BK521:=n4_;have BK540:=n5_;have HB:=n6_;clear n0_ n1_ n2_ n3_ n4_ n5_ n6_;(try clear hb);(try clear hb2);(try clear hk);(try clear hi);(try clear ho0))|((with_reducible refine gate_callee (f:=20) rfl ?_);refine goesL_ (some 96) rfl rfl Try.func20 (by kernel_rfl) rfl #[.slice A1 l1.length c1] rfl (by (try simp only [List.map_toArray,List.map_cons,List.map_nil]);first|done|rfl|(simp only [List.length_drop,List.length_take];rfl)) ?_;(with_reducible refine (laws_toInt64S.calls kj50 _ _ l1 t572 _ ?side1 ?side2 A77.out).mono ?_);(case side1=>repeat (first|exact (Kd.C_below HR1.out HB.out)|(with_reducible refine Kd.C_alloc ?_ _)|(with_reducible refine Kd.C_drewN ?_ _)|(with_reducible refine Kd.C_drew ?_)));(case side2=>exact HC1.out);rintro e w85 ⟨v573,rfl,ho0,hb⟩;refine ⟨_,rfl,?_⟩;have n0_:=Aside0.mk (Kd.R_elder' (by (with_reducible repeat (first|apply Kd.R_alloc|apply Kd.R_drewN|apply Kd.R_drew));exact HO_6.out) (Kd.R_base ho0) hb);have n1_:=Aside0.mk (Kd.R_elder' (by (with_reducible repeat (first|apply Kd.R_alloc|apply Kd.R_drewN|apply Kd.R_drew));exact HO_10.out) (Kd.R_base ho0) hb);have n2_:=Aside0.mk (Kd.R_elder' (by (with_reducible repeat (first|apply Kd.R_alloc|apply Kd.R_drewN|apply Kd.R_drew));exact HO_541002.out) (Kd.R_base ho0) hb);have n3_:=Aside0.mk (Kd.R_elder' (by (with_reducible repeat (first|apply Kd.R_alloc|apply Kd.R_drewN|apply Kd.R_drew));exact HO571.out) (Kd.R_base ho0) hb);have n4_:=Aside0.mk (Kd.R_lower (Kd.R_new' (Kd.R_new' (Kd.R_new' (Kd.R_new' ho0 (Kd.R_lt (by (with_reducible repeat (first|apply Kd.R_alloc|apply Kd.R_drewN|apply Kd.R_drew));exact HO_6.out))) (Kd.R_lt (by (with_reducible repeat (first|apply Kd.R_alloc|apply Kd.R_drewN|apply Kd.R_drew));exact HO_10.out))) (Kd.R_lt (by (with_reducible repeat (first|apply Kd.R_alloc|apply Kd.R_drewN|apply Kd.R_drew));exact HO_541002.out))) (Kd.R_lt (by (with_reducible repeat (first|apply Kd.R_alloc|apply Kd.R_drewN|apply Kd.R_drew));exact HO571.out))) (below_size (by repeat (first|(with_reducible first|exact HB.out|apply below_alloc|apply pw_below_drewN|apply below_drew1|refine below_set ?_ GE521.out|refine below_set ?_ GE540.out)|exact HB.out))));have n5_:=Aside0.mk (blk_below (g:=gb521) (o:=.cells #[.int .i64 a0_0,.int .i64 a0_1,.slice A0_2 l0_2.length c0_2] 24 (0,0)) (by (with_reducible repeat (first|refine blk_drewN ?_ _|refine blk_drew ?_|refine blk_alloc ?_ _));exact BK521.out) hb);have n6_:=Aside0.mk (blk_below (g:=gb540) (o:=.cells #[.int .i64 t535,.int .i64 t536,.slice Ao31 t560.length co31] 28 (0,0)) (by (with_reducible repeat (first|refine blk_drewN ?_ _|refine blk_drew ?_|refine blk_alloc ?_ _));exact BK540.out) hb);have n7_:=Aside0.mk (below_step (by repeat (first|(with_reducible first|exact HB.out|apply below_alloc|apply pw_below_drewN|apply below_drew1|refine below_set ?_ GE521.out|refine below_set ?_ GE540.out)|exact HB.out)) hb);clear HO_6;clear HO_10;clear HO_541002;clear HO571;clear BK521;clear BK540;clear HB;have HO_6:=n0_;have HO_10:=n1_;have HO_541002:=n2_;have HO571:=n3_;have HO574:=n4_;have BK521:=n5_;have BK540:=n6_;have HB:=n7_;clear n0_ n1_ n2_ n3_ n4_ n5_ n6_ n7_;(try clear hb);(try clear hb2);(try clear hk);(try clear hi);(try clear ho0);obtain ⟨Ao86,co86,eo86⟩:=Kd.R_slice HO571.out;subst eo86;obtain ⟨Ao87,co87,eo87⟩:=Kd.R_slice HO574.out;subst eo87)|((with_reducible refine gate_callee (f:=30) rfl ?_);refine goesL_ (some 97) rfl rfl Try.func30 (by kernel_rfl) rfl #[.agg #[.int .i64 t567,.int .i64 t568,.slice Ao86 t569.length co86],.slice Ao87 t572.length co87] rfl (by (try simp only [List.map_toArray,List.map_cons,List.map_nil]);first|done|rfl|(simp only [List.length_drop,List.length_take];rfl)) ?_;(with_reducible refine (impl_CellsOfFleet.calls kj50 t567 t568 _ _ t569 _ _ t572 t575 t578 _ ?side1 ?side2 ?side3 ?side4 A78.out).mono ?_);(case side1=>repeat (first|exact (Kd.R_reads' HO571.out).2.2|(with_reducible refine Kd.C_alloc ?_ _)|(with_reducible refine Kd.C_drewN ?_ _)|(with_reducible refine Kd.C_drew ?_)));(case side2=>exact (Kd.R_reads' HO571.out).2.1);(case side3=>repeat (first|exact (Kd.R_reads' HO574.out).2.2|(with_reducible refine Kd.C_alloc ?_ _)|(with_reducible refine Kd.C_drewN ?_ _)|(with_reducible refine Kd.C_drew ?_)));(case side4=>exact (Kd.R_reads' HO574.out).2.1);rintro e w88 ⟨v576,rfl,ho0,hb⟩;refine ⟨_,rfl,?_⟩;have n0_:=Aside0.mk (Kd.R_elder' (by (with_reducible repeat (first|apply Kd.R_alloc|apply Kd.R_drewN|apply Kd.R_drew));exact HO_6.out) (Kd.R_base ho0) hb);have n1_:=Aside0.mk (Kd.R_elder' (by (with_reducible repeat (first|apply Kd.R_alloc|apply Kd.R_drewN|apply Kd.R_drew));exact HO_10.out) (Kd.R_base ho0) hb);have n2_:=Aside0.mk (Kd.R_elder' (by (with_reducible repeat (first|apply Kd.R_alloc|apply Kd.R_drewN|apply Kd.R_drew));exact HO_541002.out) (Kd.R_base ho0) hb);have n3_:=Aside0.mk (Kd.R_elder' (by (with_reducible repeat (first|apply Kd.R_alloc|apply Kd.R_drewN|apply Kd.R_drew));exact HO571.out) (Kd.R_base ho0) hb);have n4_:=Aside0.mk (Kd.R_elder' (by (with_reducible repeat (first|apply Kd.R_alloc|apply Kd.R_drewN|apply Kd.R_drew));exact HO574.out) (Kd.R_base ho0) hb);have n5_:=Aside0.mk (Kd.R_lower (Kd.R_new' (Kd.R_new' (Kd.R_new' (Kd.R_new' (Kd.R_new' ho0 (Kd.R_lt (by (with_reducible repeat (first|apply Kd.R_alloc|apply Kd.R_drewN|apply Kd.R_drew));exact HO_6.out))) (Kd.R_lt (by (with_reducible repeat (first|apply Kd.R_alloc|apply Kd.R_drewN|apply Kd.R_drew));exact HO_10.out))) (Kd.R_lt (by (with_reducible repeat (first|apply Kd.R_alloc|apply Kd.R_drewN|apply Kd.R_drew));exact HO_541002.out))) (Kd.R_lt (by (with_reducible repeat (first|apply Kd.R_alloc|apply Kd.R_drewN|apply Kd.R_drew));exact HO571.out))) (Kd.R_lt (by (with_reducible repeat (first|apply Kd.R_alloc|apply Kd.R_drewN|apply Kd.R_drew));exact HO574.out))) (below_size (by repeat (first|(with_reducible first|exact HB.out|apply below_alloc|apply pw_below_drewN|apply below_drew1|refine below_set ?_ GE521.out|refine below_set ?_ GE540.out)|exact HB.out))));have n6_:=Aside0.mk (blk_below (g:=gb521) (o:=.cells #[.int .i64 a0_0,.int .i64 a0_1,.slice A0_2 l0_2.length c0_2] 24 (0,0)) (by (with_reducible repeat (first|refine blk_drewN ?_ _|refine blk_drew ?_|refine blk_alloc ?_ _));exact BK521.out) hb);have n7_:=Aside0.mk (blk_below (g:=gb540) (o:=.cells #[.int .i64 t535,.int .i64 t536,.slice Ao31 t560.length co31] 28 (0,0)) (by (with_reducible repeat (first|refine blk_drewN ?_ _|refine blk_drew ?_|refine blk_alloc ?_ _));exact BK540.out) hb);have n8_:=Aside0.mk (below_step (by repeat (first|(with_reducible first|exact HB.out|apply below_alloc|apply pw_below_drewN|apply below_drew1|refine below_set ?_ GE521.out|refine below_set ?_ GE540.out)|exact HB.out)) hb);clear HO_6;clear HO_10;clear HO_541002;clear HO571;clear HO574;clear BK521;clear BK540;clear HB;have HO_6:=n0_;have HO_10:=n1_;have HO_541002:=n2_;have HO571:=n3_;have HO574:=n4_;have HO577:=n5_;have BK521:=n6_;have BK540:=n7_;have HB:=n8_;clear n0_ n1_ n2_ n3_ n4_ n5_ n6_ n7_ n8_;(try clear hb);(try clear hb2);(try clear hk);(try clear hi);(try clear ho0)))
             (try simp only [Act.put,List.setIfInBounds_toArray,List.set_cons_zero,List.set_cons_succ])
             go_cut [108] (fun v108 wc=>∃ (kq : Nat) (x108_78 : Bool),v108 = .bool x108_78 ∧ Aside0 (laws_FnExactCellsOfFleet.j2 kq t565 t564 x108_78 = some r) ∧ Aside0 (kq ≤ kj50) ∧ Aside0 (Kd.R (Kd.int .i64) 2 wc w.heap.size (fun k_=>some k_ ≠ ((.slice Ao31 t560.length co31) : Value).ownBlock) (.slice Ao80 t544.length co80) t565) ∧ Aside0 (Kd.R (Kd.int .i64) 2 wc w.heap.size (fun k_=>some k_ ≠ ((.slice Ao80 t544.length co80) : Value).ownBlock) (.slice Ao31 t560.length co31) t560) ∧ Aside0 (wc.heap[gb521]? = some (.cells #[.int .i64 a0_0,.int .i64 a0_1,(.slice A0_2 l0_2.length c0_2)] 24 (0,0))) ∧ Aside0 (wc.heap[gb540]? = some (.cells #[.int .i64 t535,.int .i64 t536,(.slice Ao31 t560.length co31)] 28 (0,0))) ∧ Aside0 (Below w.heap.size w wc))
             case first =>
              have H:=HC79.out
              clear HC79
              replace H:=Option.bind_eq_some_iff.mp H
              obtain ⟨t579,A890,H⟩:=H
              replace H : (if t579 = true then (laws_FnExactCellsOfFleet.j2 kj50 t565 t564 (t578 != t534)) else (laws_FnExactCellsOfFleet.j2 kj50 t565 t564 true)) = some r:=H
              have A89:=Aside0.mk A890
              clear A890
              by_cases c90 : t579 = true
              ·subst c90
               have H1 : (laws_FnExactCellsOfFleet.j2 kj50 t565 t564 (t578 != t534)) = some r:=by rw [if_pos rfl] at H;exact H
               clear H
               have H:=H1
               clear H1
               have H':=Aside0.mk H
               clear H
               obtain ⟨Ao91,co91,eo91⟩:=Kd.R_slice HO577.out
               subst eo91
               obtain ⟨Ao92,co92,eo92⟩:=Kd.R_slice HO_6.out
               subst eo92
               go_wp2_with (first|((with_reducible refine gate_callee (f:=14) rfl ?_);refine goesL_ (some 102) rfl rfl Try.func14 (by kernel_rfl) rfl #[.slice Ao91 t575.length co91,.slice Ao92 t531.length co92] rfl (by (try simp only [List.map_toArray,List.map_cons,List.map_nil]);first|done|rfl|(simp only [List.length_drop,List.length_take];rfl)) ?_;(with_reducible refine (laws_eqInt64S.calls kj50 _ _ t575 _ _ t531 true _ ?side1 ?side2 ?side3 ?side4 A89.out).mono ?_);(case side1=>repeat (first|exact (Kd.R_reads' HO577.out).2.2|(with_reducible refine Kd.C_alloc ?_ _)|(with_reducible refine Kd.C_drewN ?_ _)|(with_reducible refine Kd.C_drew ?_)));(case side2=>exact (Kd.R_reads' HO577.out).2.1);(case side3=>repeat (first|exact (Kd.R_reads' HO_6.out).2.2|(with_reducible refine Kd.C_alloc ?_ _)|(with_reducible refine Kd.C_drewN ?_ _)|(with_reducible refine Kd.C_drew ?_)));(case side4=>exact (Kd.R_reads' HO_6.out).2.1);rintro e w' ⟨rfl,⟨nd,rfl⟩⟩;refine ⟨_,rfl,?_⟩))
               go_meet
               case rel=>exact ⟨_,((t578 != t534)),(by first|rfl|(simp;done)|(simp [*];done)),H',⟨by have:=HJ15.out;have:=HJ50.out;first|omega|exact Nat.le_refl _⟩,⟨by (try simp only [hl541002_50]);(with_reducible repeat (first|apply Kd.R_alloc|apply Kd.R_drewN|apply Kd.R_drew));exact Kd.R_mono HO_10.out (fun _ hk=>hk.1.1.1.2)⟩,⟨by (try simp only [hl541002_50]);(with_reducible repeat (first|apply Kd.R_alloc|apply Kd.R_drewN|apply Kd.R_drew));exact Kd.R_mono HO_541002.out (fun _ hk=>hk.1.1.1.2)⟩,⟨by (try simp only [hl541002_50]);(with_reducible repeat (first|refine blk_drewN ?_ _|refine blk_drew ?_|refine blk_alloc ?_ _));exact BK521.out⟩,⟨by (try simp only [hl541002_50]);(with_reducible repeat (first|refine blk_drewN ?_ _|refine blk_drew ?_|refine blk_alloc ?_ _));exact BK540.out⟩,⟨by repeat (first|(with_reducible first|exact HB.out|apply below_alloc|apply pw_below_drewN|apply below_drew1|refine below_set ?_ GE521.out|refine below_set ?_ GE540.out)|exact HB.out)⟩⟩
              ·replace c90:=Bool.eq_false_iff.mpr c90
               subst c90
               have H1 : (laws_FnExactCellsOfFleet.j2 kj50 t565 t564 true) = some r:=by rw [if_neg (show ¬ (false = true) by decide)] at H;exact H
               clear H
               have H:=H1
               clear H1
               have H':=Aside0.mk H
               clear H
               obtain ⟨Ao93,co93,eo93⟩:=Kd.R_slice HO577.out
               subst eo93
               obtain ⟨Ao94,co94,eo94⟩:=Kd.R_slice HO_6.out
               subst eo94
               go_wp2_with (first|((with_reducible refine gate_callee (f:=14) rfl ?_);refine goesL_ (some 102) rfl rfl Try.func14 (by kernel_rfl) rfl #[.slice Ao93 t575.length co93,.slice Ao94 t531.length co94] rfl (by (try simp only [List.map_toArray,List.map_cons,List.map_nil]);first|done|rfl|(simp only [List.length_drop,List.length_take];rfl)) ?_;(with_reducible refine (laws_eqInt64S.calls kj50 _ _ t575 _ _ t531 false _ ?side1 ?side2 ?side3 ?side4 A89.out).mono ?_);(case side1=>repeat (first|exact (Kd.R_reads' HO577.out).2.2|(with_reducible refine Kd.C_alloc ?_ _)|(with_reducible refine Kd.C_drewN ?_ _)|(with_reducible refine Kd.C_drew ?_)));(case side2=>exact (Kd.R_reads' HO577.out).2.1);(case side3=>repeat (first|exact (Kd.R_reads' HO_6.out).2.2|(with_reducible refine Kd.C_alloc ?_ _)|(with_reducible refine Kd.C_drewN ?_ _)|(with_reducible refine Kd.C_drew ?_)));(case side4=>exact (Kd.R_reads' HO_6.out).2.1);rintro e w' ⟨rfl,⟨nd,rfl⟩⟩;refine ⟨_,rfl,?_⟩))
               go_meet
               case rel=>exact ⟨_,(true),(by first|rfl|(simp;done)|(simp [*];done)),H',⟨by have:=HJ15.out;have:=HJ50.out;first|omega|exact Nat.le_refl _⟩,⟨by (try simp only [hl541002_50]);(with_reducible repeat (first|apply Kd.R_alloc|apply Kd.R_drewN|apply Kd.R_drew));exact Kd.R_mono HO_10.out (fun _ hk=>hk.1.1.1.2)⟩,⟨by (try simp only [hl541002_50]);(with_reducible repeat (first|apply Kd.R_alloc|apply Kd.R_drewN|apply Kd.R_drew));exact Kd.R_mono HO_541002.out (fun _ hk=>hk.1.1.1.2)⟩,⟨by (try simp only [hl541002_50]);(with_reducible repeat (first|refine blk_drewN ?_ _|refine blk_drew ?_|refine blk_alloc ?_ _));exact BK521.out⟩,⟨by (try simp only [hl541002_50]);(with_reducible repeat (first|refine blk_drewN ?_ _|refine blk_drew ?_|refine blk_alloc ?_ _));exact BK540.out⟩,⟨by repeat (first|(with_reducible first|exact HB.out|apply below_alloc|apply pw_below_drewN|apply below_drew1|refine below_set ?_ GE521.out|refine below_set ?_ GE540.out)|exact HB.out)⟩⟩
             case rest =>
              clear HC79
              try clear c1
              try clear c2
              try clear p2
              try clear c3
              try clear c3b0
              try clear c3b1
              try clear c4
              try clear c5
              try clear c6
              try clear c6b0
              try clear c7
              try clear c8
              try clear c9
              try clear c10
              try clear c12
              try clear c14
              try clear c15
              try clear c16
              try clear c17
              try clear c18
              try clear c20
              try clear c29
              try clear c30
              try clear c37
              try clear c42
              try clear c45
              try clear c48
              try clear c58
              try clear c62
              try clear c62b0
              try clear c64
              try clear c69
              try clear c72
              try clear c72b0
              try clear c75
              try clear c75b0
              try clear c75b1
              try clear c82
              try clear c90
              try clear hcz18_0
              try clear hcz18_1
              try clear hcz18_2
              try clear hcz20_0
              try clear hcz20_1
              try clear hcz20_2
              try clear hcz26_0
              try clear hcz26_1
              try clear hcz26_2
              try clear hcz30_0
              try clear hcz30_1
              try clear hcz30_2
              try clear hcz33_0
              try clear hcz33_1
              try clear hcz33_2
              try clear hcz59_0
              try clear hcz59_1
              try clear hcz59_2
              try clear hcz83_0
              try clear hcz83_1
              try clear hcz83_2
              try clear hcz8_0
              try clear hcz8_1
              try clear hcz8_2
              try clear hfz18_0
              try clear hfz18_1
              try clear hfz18_2
              try clear hfz20_0
              try clear hfz20_1
              try clear hfz20_2
              try clear hfz26_0
              try clear hfz26_1
              try clear hfz26_2
              try clear hfz30_0
              try clear hfz30_1
              try clear hfz30_2
              try clear hfz33_0
              try clear hfz33_1
              try clear hfz33_2
              try clear hfz59_0
              try clear hfz59_1
              try clear hfz59_2
              try clear hfz83_0
              try clear hfz83_1
              try clear hfz83_2
              try clear hfz8_0
              try clear hfz8_1
              try clear hfz8_2
              try clear p2
              obtain ⟨kq,x108_78,rfl,HA,HJ78,HO_10,HO_541002,BK521,BK540,HB⟩:=hcut
              have hl10_78:=(Kd.R_reads' HO_10.out).1
              rw [hl10_78] at HO_10
              (try simp only [hl10_78])
              (try simp only [hl10_78] at BK521)
              (try simp only [hl10_78] at BK540)
              (try simp only [hl10_78] at HO_541002)
              cases kq with
              | zero => exact absurd HA.out (by simp [laws_FnExactCellsOfFleet.j2])
              | succ kj78 =>
               have H:=HA.out
               clear HA
               simp only [laws_FnExactCellsOfFleet.j2] at H
               by_cases c95 : x108_78 = true
               ·subst c95
                have H1 : (some false) = some r:=by rw [if_pos rfl] at H;exact H
                clear H
                have H:=H1
                clear H1
                obtain rfl:=Option.some.inj H
                go_wp2
                go_ret
                exact ⟨by first|rfl|(simp [errW_none,errW_some] <;> rfl)|(simp [*,errW_none,errW_some] <;> rfl),by repeat (first|(with_reducible first|exact HB.out|apply below_alloc|apply pw_below_drewN|apply below_drew1|refine below_set ?_ GE521.out|refine below_set ?_ GE540.out)|exact HB.out)⟩
               ·replace c95:=Bool.eq_false_iff.mpr c95
                subst c95
                have H1 : ((laws_heldInt64S.f kj78 t565 1).bind fun t580=>(if t580 < 0 then (some false) else (if t580 = t564 then (some true) else (some false)))) = some r:=by rw [if_neg (show ¬ (false = true) by decide)] at H;exact H
                clear H
                have H:=H1
                clear H1
                replace H:=Option.bind_eq_some_iff.mp H
                obtain ⟨t580,A960,H⟩:=H
                replace H : (if t580 < 0 then (some false) else (if t580 = t564 then (some true) else (some false))) = some r:=H
                have A96:=Aside0.mk A960
                clear A960
                by_cases c97 : t580 < 0
                ·rw [if_pos c97] at H
                 have c97b0 : decide (t580 < 0) = true:=decide_eq_true c97
                 clear c97
                 obtain rfl:=Option.some.inj H
                 go_wp2_with (first|((with_reducible refine gate_callee (f:=18) rfl ?_);refine goesL_ (some 111) rfl rfl Try.func18 (by kernel_rfl) rfl #[.slice Ao80 t565.length co80,.int .i64 1] rfl (by (try simp only [List.map_toArray,List.map_cons,List.map_nil]);first|done|rfl|(simp only [List.length_drop,List.length_take];rfl)) ?_;(with_reducible refine (laws_heldInt64S.calls kj78 _ _ t565 1 t580 _ ?side1 ?side2 A96.out).mono ?_);(case side1=>repeat (first|exact (Kd.R_reads' HO_10.out).2.2|(with_reducible refine Kd.C_alloc ?_ _)|(with_reducible refine Kd.C_drewN ?_ _)|(with_reducible refine Kd.C_drew ?_)));(case side2=>exact (Kd.R_reads' HO_10.out).2.1);rintro e w' ⟨rfl,⟨nd,rfl⟩⟩;refine ⟨_,rfl,?_⟩))
                 go_ret
                 exact ⟨by first|rfl|(simp [errW_none,errW_some] <;> rfl)|(simp [*,errW_none,errW_some] <;> rfl),by repeat (first|(with_reducible first|exact HB.out|apply below_alloc|apply pw_below_drewN|apply below_drew1|refine below_set ?_ GE521.out|refine below_set ?_ GE540.out)|exact HB.out)⟩
                ·rw [if_neg c97] at H
                 have c97b0 : decide (t580 < 0) = false:=decide_eq_false c97
                 clear c97
                 by_cases c98 : t580 = t564
                 ·rw [if_pos c98] at H
                  have c98b0 : (t580 == t564) = true:=beq_iff_eq.mpr c98
                  have c98b1 : (t580 != t564) = false:=bne_eq_false_iff_eq.mpr c98
                  clear c98
                  obtain rfl:=Option.some.inj H
                  go_wp2_with (first|((with_reducible refine gate_callee (f:=18) rfl ?_);refine goesL_ (some 111) rfl rfl Try.func18 (by kernel_rfl) rfl #[.slice Ao80 t565.length co80,.int .i64 1] rfl (by (try simp only [List.map_toArray,List.map_cons,List.map_nil]);first|done|rfl|(simp only [List.length_drop,List.length_take];rfl)) ?_;(with_reducible refine (laws_heldInt64S.calls kj78 _ _ t565 1 t580 _ ?side1 ?side2 A96.out).mono ?_);(case side1=>repeat (first|exact (Kd.R_reads' HO_10.out).2.2|(with_reducible refine Kd.C_alloc ?_ _)|(with_reducible refine Kd.C_drewN ?_ _)|(with_reducible refine Kd.C_drew ?_)));(case side2=>exact (Kd.R_reads' HO_10.out).2.1);rintro e w' ⟨rfl,⟨nd,rfl⟩⟩;refine ⟨_,rfl,?_⟩))
                  go_ret
                  exact ⟨by first|rfl|(simp [errW_none,errW_some] <;> rfl)|(simp [*,errW_none,errW_some] <;> rfl),by repeat (first|(with_reducible first|exact HB.out|apply below_alloc|apply pw_below_drewN|apply below_drew1|refine below_set ?_ GE521.out|refine below_set ?_ GE540.out)|exact HB.out)⟩
                 ·rw [if_neg c98] at H
                  have c98b0 : (t580 == t564) = false:=beq_eq_false_iff_ne.mpr c98
                  have c98b1 : (t580 != t564) = true:=bne_iff_ne.mpr c98
                  obtain rfl:=Option.some.inj H
                  go_wp2_with (first|((with_reducible refine gate_callee (f:=18) rfl ?_);refine goesL_ (some 111) rfl rfl Try.func18 (by kernel_rfl) rfl #[.slice Ao80 t565.length co80,.int .i64 1] rfl (by (try simp only [List.map_toArray,List.map_cons,List.map_nil]);first|done|rfl|(simp only [List.length_drop,List.length_take];rfl)) ?_;(with_reducible refine (laws_heldInt64S.calls kj78 _ _ t565 1 t580 _ ?side1 ?side2 A96.out).mono ?_);(case side1=>repeat (first|exact (Kd.R_reads' HO_10.out).2.2|(with_reducible refine Kd.C_alloc ?_ _)|(with_reducible refine Kd.C_drewN ?_ _)|(with_reducible refine Kd.C_drew ?_)));(case side2=>exact (Kd.R_reads' HO_10.out).2.1);rintro e w' ⟨rfl,⟨nd,rfl⟩⟩;refine ⟨_,rfl,?_⟩))
                  go_ret
                  exact ⟨by first|rfl|(simp [errW_none,errW_some] <;> rfl)|(simp [*,errW_none,errW_some] <;> rfl),by repeat (first|(with_reducible first|exact HB.out|apply below_alloc|apply pw_below_drewN|apply below_drew1|refine below_set ?_ GE521.out|refine below_set ?_ GE540.out)|exact HB.out)⟩
            ·rw [if_neg c75] at H
             have c75b0 : (t566 == t564) = false:=beq_eq_false_iff_ne.mpr c75
             have c75b1 : (t566 != t564) = true:=bne_iff_ne.mpr c75
             obtain rfl:=Option.some.inj H
             obtain ⟨Ao99,co99,eo99⟩:=Kd.R_slice HO_10.out
             subst eo99
             go_wp2_with (first|((with_reducible refine gate_callee (f:=17) rfl ?_);refine goesL_ (some 83) rfl rfl Try.func17 (by kernel_rfl) rfl #[.slice Ao99 t544.length co99,.int .i64 1] rfl (by (try simp only [List.map_toArray,List.map_cons,List.map_nil]);first|done|rfl|(simp only [List.length_drop,List.length_take];rfl)) ?_;(with_reducible refine (laws_markInt64S.calls kj50 (fun k_=>some k_ = (.slice Ao99 t544.length co99 : Value).ownBlock) (.slice Ao99 t544.length co99) t544 1 t564 t565 w _ ?side1 ?side2 A70.out).mono ?_);(case side1=>repeat (first|(with_reducible first|exact HB.out|apply below_alloc|apply pw_below_drewN|apply below_drew1|refine below_set ?_ GE521.out|refine below_set ?_ GE540.out)|exact HB.out));(case side2=>exact Kd.R_tight rfl HO_10.out);rintro e w100 ⟨rfl,hy0,hb,hkp⟩;refine ⟨_,rfl,?_⟩;have n0_:=Aside0.mk (Kd.R_mono (ok':=fun k_=>some k_ ≠ (.slice Ao99 t544.length co99 : Value).ownBlock ∧ some k_ ≠ (.slice Ao31 t560.length co31 : Value).ownBlock) (Kd.R_keptB (HO_6.out) hkp (fun k_ hk_ hs_=>(hk_.1) hs_)) (fun k_ hk_=>⟨hk_.1.1,hk_.1.2⟩));have n1_:=Aside0.mk (Kd.R_reok rfl hy0 (fun k_ e_=>HO_10.out.1 k_ e_));have n2_:=Aside0.mk (Kd.R_mono (ok':=fun k_=>some k_ ≠ (v532 : Value).ownBlock ∧ some k_ ≠ (.slice Ao99 t544.length co99 : Value).ownBlock) (Kd.R_keptB (HO_541002.out) hkp (fun k_ hk_ hs_=>(hk_.2) hs_)) (fun k_ hk_=>⟨hk_.1.1,hk_.1.2⟩));have n3_:=Aside0.mk (blk_kept (by (with_reducible repeat (first|refine blk_drewN ?_ _|refine blk_drew ?_|refine blk_alloc ?_ _));exact BK521.out) hkp (fun hs_=>(fun e_=>(Kd.R_ne HO_10.out BK521.out (by decide)) e_) hs_));have n4_:=Aside0.mk (blk_kept (by (with_reducible repeat (first|refine blk_drewN ?_ _|refine blk_drew ?_|refine blk_alloc ?_ _));exact BK540.out) hkp (fun hs_=>(fun e_=>(Kd.R_ne HO_10.out BK540.out (by decide)) e_) hs_));have n5_:=Aside0.mk (hb);clear HO_6;clear HO_10;clear HO_541002;clear BK521;clear BK540;clear HB;have HO_6:=n0_;have HO_10:=n1_;have HO_541002:=n2_;have BK521:=n3_;have BK540:=n4_;have HB:=n5_;clear n0_ n1_ n2_ n3_ n4_ n5_;(try clear hb);(try clear hkp);(try clear hy0))|((with_reducible refine gate_callee (f:=18) rfl ?_);refine goesL_ (some 86) rfl rfl Try.func18 (by kernel_rfl) rfl #[.slice Ao99 t565.length co99,.int .i64 1] rfl (by (try simp only [List.map_toArray,List.map_cons,List.map_nil]);first|done|(rw [show t565.length = t544.length from (Kd.R_reads' HO_10.out).1.symm] <;> rfl)|rfl|(simp only [List.length_drop,List.length_take];rfl)) ?_;(with_reducible refine (laws_heldInt64S.calls kj50 _ _ t565 1 t566 _ ?side1 ?side2 A71.out).mono ?_);(case side1=>repeat (first|exact (Kd.R_reads' HO_10.out).2.2|(with_reducible refine Kd.C_alloc ?_ _)|(with_reducible refine Kd.C_drewN ?_ _)|(with_reducible refine Kd.C_drew ?_)));(case side2=>rw [show t565.length = t544.length from (Kd.R_reads' HO_10.out).1.symm];exact (Kd.R_reads' HO_10.out).2.1);rintro e w' ⟨rfl,⟨nd,rfl⟩⟩;refine ⟨_,rfl,?_⟩))
             go_ret
             exact ⟨by first|rfl|(simp [errW_none,errW_some] <;> rfl)|(simp [*,errW_none,errW_some] <;> rfl),by repeat (first|(with_reducible first|exact HB.out|apply below_alloc|apply pw_below_drewN|apply below_drew1|refine below_set ?_ GE521.out|refine below_set ?_ GE540.out)|exact HB.out)⟩
       ·replace c48:=Bool.eq_false_iff.mpr c48
        subst c48
        have H1 : (some false) = some r:=by rw [if_neg (show ¬ (false = true) by decide)] at H;exact H
        clear H
        have H:=H1
        clear H1
        obtain rfl:=Option.some.inj H
        try go_wp2
        have n0_:=Aside0.mk (Kd.R_drew HO_6.out)
        have n1_:=Aside0.mk (Kd.R_drew HO_9.out)
        have n2_:=Aside0.mk (Kd.R_drew HO_10.out)
        have n3_:=Aside0.mk (Kd.R_drew HO_541002.out)
        have n4_:=Aside0.mk (blk_drew BK521.out)
        have n5_:=Aside0.mk (blk_drew BK540.out)
        have n6_:=Aside0.mk (below_drew1 HB.out)
        clear HO_6
        clear HO_9
        clear HO_10
        clear HO_541002
        clear BK521
        clear BK540
        clear HB
        have HO_6:=n0_
        have HO_9:=n1_
        have HO_10:=n2_
        have HO_541002:=n3_
        have BK521:=n4_
        have BK540:=n5_
        have HB:=n6_
        clear n0_ n1_ n2_ n3_ n4_ n5_ n6_
        refine start_ (n:=5) (S:=fun w'=>w'.cell? ⟨gb540,0,none⟩ = some (.int .i64 t535) ∧ w'.cell? ⟨gb540,1,none⟩ = some (.int .i64 t536) ∧ w'.cell? ⟨gb540,2,none⟩ = some (.slice Ao31 t537.length co31) ∧ w'.cell? ⟨gb521,0,none⟩ = some (.int .i64 a0_0) ∧ w'.cell? ⟨gb521,1,none⟩ = some (.int .i64 a0_1) ∧ w'.cell? ⟨gb521,2,none⟩ = some (.slice A0_2 l0_2.length c0_2)) (ds:=[]) #[false,false,false,false,false] (by kernel_rfl) rfl rfl ⟨(blk_cell BK540.out 0).trans rfl,(blk_cell BK540.out 1).trans rfl,(blk_cell BK540.out 2).trans rfl,(blk_cell BK521.out 0).trans rfl,(blk_cell BK521.out 1).trans rfl,(blk_cell BK521.out 2).trans rfl⟩ (fun hHeld=>?_)
        generalize wc.drew = w101 at HO_6 HO_9 HO_10 HO_541002 BK521 BK540 HB hHeld ⊢
        refine take_ (i:=0) (N:=some 52) (v:=?_) (a':=?_) #[true,false,false,false,false] rfl rfl (by kernel_rfl) (fun _ _ _ h=>h) (Or.inl ⟨by rfl,?_⟩) hHeld ?_ ?_
        rotate_left
        ·rintro w' ⟨s0,s1,s2,s3,s4,s5⟩
         go_simp
         with_reducible rfl
        rotate_left
        ·simp only [Act.put,List.setIfInBounds_toArray,List.set_cons_zero,List.set_cons_succ,i64_w,i32_w]
         rfl
        refine take_ (i:=1) (N:=some 53) (v:=?_) (a':=?_) #[true,true,false,false,false] rfl rfl (by kernel_rfl) (fun _ _ _ h=>h) (Or.inl ⟨by rfl,?_⟩) hHeld ?_ ?_
        rotate_left
        ·rintro w' ⟨s0,s1,s2,s3,s4,s5⟩
         go_simp
         with_reducible rfl
        rotate_left
        ·simp only [Act.put,List.setIfInBounds_toArray,List.set_cons_zero,List.set_cons_succ,i64_w,i32_w]
         rfl
        refine one_ (i:=2) (N:=some 54) #[true,true,true,false,false] rfl rfl (by kernel_rfl) (by decide) (fun K hK=>?_)
        refine goes_ Try.func12 (by kernel_rfl) rfl #[.agg #[.int .i64 a0_0,.int .i64 a0_1,.slice A0_2 l0_2.length c0_2]] (by rfl) rfl rfl (by (try simp only [List.map_toArray,List.map_cons,List.map_nil]);first|done|rfl|(simp only [List.length_drop,List.length_take];rfl)) ?_
        with_reducible refine (laws_toSea.calls kj15 a0_0 a0_1 _ _ l0_2 t549 t550 t551 _ ?side1 ?side2 A43.out).mono ?_
        (case side1=>repeat (first|exact (Kd.C_below HR0_2.out HB.out)|(with_reducible refine Kd.C_alloc ?_ _)|(with_reducible refine Kd.C_drewN ?_ _)|(with_reducible refine Kd.C_drew ?_)))
        (case side2=>exact HC0_2.out)
        rintro e w102 ⟨v552,rfl,ho0,hb⟩
        refine ⟨_,rfl,?_⟩
        have n0_:=Aside0.mk (Kd.R_elder' (by (with_reducible repeat (first|apply Kd.R_alloc|apply Kd.R_drewN|apply Kd.R_drew));exact HO_6.out) (Kd.R_base ho0) hb)
        have n1_:=Aside0.mk (Kd.R_elder' (by (with_reducible repeat (first|apply Kd.R_alloc|apply Kd.R_drewN|apply Kd.R_drew));exact HO_9.out) (Kd.R_base ho0) hb)
        have n2_:=Aside0.mk (Kd.R_elder' (by (with_reducible repeat (first|apply Kd.R_alloc|apply Kd.R_drewN|apply Kd.R_drew));exact HO_10.out) (Kd.R_base ho0) hb)
        have n3_:=Aside0.mk (Kd.R_elder' (by (with_reducible repeat (first|apply Kd.R_alloc|apply Kd.R_drewN|apply Kd.R_drew));exact HO_541002.out) (Kd.R_base ho0) hb)
        have n4_:=Aside0.mk (Kd.R_lower (Kd.R_new' (Kd.R_new' (Kd.R_new' (Kd.R_new' ho0 (Kd.R_lt (by (with_reducible repeat (first|apply Kd.R_alloc|apply Kd.R_drewN|apply Kd.R_drew));exact HO_6.out))) (Kd.R_lt (by (with_reducible repeat (first|apply Kd.R_alloc|apply Kd.R_drewN|apply Kd.R_drew));exact HO_9.out))) (Kd.R_lt (by (with_reducible repeat (first|apply Kd.R_alloc|apply Kd.R_drewN|apply Kd.R_drew));exact HO_10.out))) (Kd.R_lt (by (with_reducible repeat (first|apply Kd.R_alloc|apply Kd.R_drewN|apply Kd.R_drew));exact HO_541002.out))) (below_size (by repeat (first|(with_reducible first|exact HB.out|apply below_alloc|apply pw_below_drewN|apply below_drew1|refine below_set ?_ GE521.out|refine below_set ?_ GE540.out)|exact HB.out))))
        have n5_:=Aside0.mk (blk_below (g:=gb521) (o:=.cells #[.int .i64 a0_0,.int .i64 a0_1,.slice A0_2 l0_2.length c0_2] 24 (0,0)) (by (with_reducible repeat (first|refine blk_drewN ?_ _|refine blk_drew ?_|refine blk_alloc ?_ _));exact BK521.out) hb)
        have n6_:=Aside0.mk (blk_below (g:=gb540) (o:=.cells #[.int .i64 t535,.int .i64 t536,.slice Ao31 t537.length co31] 28 (0,0)) (by (with_reducible repeat (first|refine blk_drewN ?_ _|refine blk_drew ?_|refine blk_alloc ?_ _));exact BK540.out) hb)
        have n7_:=Aside0.mk (below_step (by repeat (first|(with_reducible first|exact HB.out|apply below_alloc|apply pw_below_drewN|apply below_drew1|refine below_set ?_ GE521.out|refine below_set ?_ GE540.out)|exact HB.out)) hb)
        clear HO_6
        clear HO_9
        clear HO_10
        clear HO_541002
        clear BK521
        clear BK540
        clear HB
        have HO_6:=n0_
        have HO_9:=n1_
        have HO_10:=n2_
        have HO_541002:=n3_
        have HO553:=n4_
        have BK521:=n5_
        have BK540:=n6_
        have HB:=n7_
        clear n0_ n1_ n2_ n3_ n4_ n5_ n6_ n7_
        (try clear hb)
        (try clear hb2)
        (try clear hk)
        (try clear hi)
        (try clear ho0)
        obtain ⟨Ao103,co103,eo103⟩:=Kd.R_slice HO553.out
        (first|subst eo103|(injection eo103 with f1_ f2_ f3_;have f4_:=f1_.symm;have f5_:=f3_.symm;clear f1_ f2_ f3_;subst f4_;subst f5_))
        refine hK.out _ _ ⟨(blk_cell BK540.out 0).trans rfl,(blk_cell BK540.out 1).trans rfl,(blk_cell BK540.out 2).trans rfl,(blk_cell BK521.out 0).trans rfl,(blk_cell BK521.out 1).trans rfl,(blk_cell BK521.out 2).trans rfl⟩ (fun hHeld=>?_)
        clear hK K
        refine norm_ (a':=?_) ?_ ?_
        rotate_left
        ·show Act.put _ (some 54) _ = _
         simp only [Act.put,List.setIfInBounds_toArray,List.set_cons_zero,List.set_cons_succ,i64_w,i32_w]
         rfl
        refine one_ (i:=3) (N:=some 55) #[true,true,true,true,false] rfl rfl (by kernel_rfl) (by decide) (fun K hK=>?_)
        refine goes_ Try.func15 (by kernel_rfl) rfl #[.agg #[.int .i64 t535,.int .i64 t536,.slice Ao31 t537.length co31],.agg #[.int .i64 t549,.int .i64 t550,.slice Ao103 t551.length co103]] (by rfl) rfl rfl (by (try simp only [List.map_toArray,List.map_cons,List.map_nil]);first|done|rfl|(simp only [List.length_drop,List.length_take];rfl)) ?_
        with_reducible refine (laws_eqSea.calls kj15 t535 t536 _ _ t537 t549 t550 _ _ t551 true _ ?side1 ?side2 ?side3 ?side4 A44.out).mono ?_
        (case side1=>repeat (first|exact (Kd.R_reads' HO_541002.out).2.2|(with_reducible refine Kd.C_alloc ?_ _)|(with_reducible refine Kd.C_drewN ?_ _)|(with_reducible refine Kd.C_drew ?_)))
        (case side2=>exact (Kd.R_reads' HO_541002.out).2.1)
        (case side3=>repeat (first|exact (Kd.R_reads' HO553.out).2.2|(with_reducible refine Kd.C_alloc ?_ _)|(with_reducible refine Kd.C_drewN ?_ _)|(with_reducible refine Kd.C_drew ?_)))
        (case side4=>exact (Kd.R_reads' HO553.out).2.1)
        rintro e w104 ⟨rfl,hb⟩
        refine ⟨_,rfl,?_⟩
        have n0_:=Aside0.mk (Kd.R_below (by (with_reducible repeat (first|apply Kd.R_alloc|apply Kd.R_drewN|apply Kd.R_drew));exact HO_6.out) hb)
        have n1_:=Aside0.mk (Kd.R_below (by (with_reducible repeat (first|apply Kd.R_alloc|apply Kd.R_drewN|apply Kd.R_drew));exact HO_9.out) hb)
        have n2_:=Aside0.mk (Kd.R_below (by (with_reducible repeat (first|apply Kd.R_alloc|apply Kd.R_drewN|apply Kd.R_drew));exact HO_10.out) hb)
        have n3_:=Aside0.mk (Kd.R_below (by (with_reducible repeat (first|apply Kd.R_alloc|apply Kd.R_drewN|apply Kd.R_drew));exact HO_541002.out) hb)
        have n4_:=Aside0.mk (Kd.R_below (by (with_reducible repeat (first|apply Kd.R_alloc|apply Kd.R_drewN|apply Kd.R_drew));exact HO553.out) hb)
        have n5_:=Aside0.mk (blk_below (g:=gb521) (o:=.cells #[.int .i64 a0_0,.int .i64 a0_1,.slice A0_2 l0_2.length c0_2] 24 (0,0)) (by (with_reducible repeat (first|refine blk_drewN ?_ _|refine blk_drew ?_|refine blk_alloc ?_ _));exact BK521.out) hb)
        have n6_:=Aside0.mk (blk_below (g:=gb540) (o:=.cells #[.int .i64 t535,.int .i64 t536,.slice Ao31 t537.length co31] 28 (0,0)) (by (with_reducible repeat (first|refine blk_drewN ?_ _|refine blk_drew ?_|refine blk_alloc ?_ _));exact BK540.out) hb)
        have n7_:=Aside0.mk (below_step (by repeat (first|(with_reducible first|exact HB.out|apply below_alloc|apply pw_below_drewN|apply below_drew1|refine below_set ?_ GE521.out|refine below_set ?_ GE540.out)|exact HB.out)) hb)
        clear HO_6
        clear HO_9
        clear HO_10
        clear HO_541002
        clear HO553
        clear BK521
        clear BK540
        clear HB
        have HO_6:=n0_
        have HO_9:=n1_
        have HO_10:=n2_
        have HO_541002:=n3_
        have HO553:=n4_
        have BK521:=n5_
        have BK540:=n6_
        have HB:=n7_
        clear n0_ n1_ n2_ n3_ n4_ n5_ n6_ n7_
        (try clear hb)
        (try clear hb2)
        (try clear hk)
        (try clear hi)
        refine hK.out _ _ ⟨(blk_cell BK540.out 0).trans rfl,(blk_cell BK540.out 1).trans rfl,(blk_cell BK540.out 2).trans rfl,(blk_cell BK521.out 0).trans rfl,(blk_cell BK521.out 1).trans rfl,(blk_cell BK521.out 2).trans rfl⟩ (fun hHeld=>?_)
        clear hK K
        refine norm_ (a':=?_) ?_ ?_
        rotate_left
        ·show Act.put _ (some 55) _ = _
         simp only [Act.put,List.setIfInBounds_toArray,List.set_cons_zero,List.set_cons_succ,i64_w,i32_w]
         rfl
        refine pure_ (i:=4) (N:=some 56) (v:=?_) (a':=?_) #[true,true,true,true,true] rfl rfl (by kernel_rfl) (fun _ _ _ h=>h) (Or.inl ⟨by rfl,?_⟩) ?_ ?_
        rotate_left
        ·intro w'
         go_simp
         with_reducible rfl
        rotate_left
        ·simp only [Act.put,List.setIfInBounds_toArray,List.set_cons_zero,List.set_cons_succ,i64_w,i32_w]
         rfl
        refine done_ (by kernel_rfl) ?_
        try go_wp2_with (first|((with_reducible refine gate_callee (f:=20) rfl ?_);refine goesL_ (some 59) rfl rfl Try.func20 (by kernel_rfl) rfl #[.slice A1 l1.length c1] rfl (by (try simp only [List.map_toArray,List.map_cons,List.map_nil]);first|done|rfl|(simp only [List.length_drop,List.length_take];rfl)) ?_;(with_reducible refine (laws_toInt64S.calls kj15 _ _ l1 t555 _ ?side1 ?side2 A46.out).mono ?_);(case side1=>repeat (first|exact (Kd.C_below HR1.out HB.out)|(with_reducible refine Kd.C_alloc ?_ _)|(with_reducible refine Kd.C_drewN ?_ _)|(with_reducible refine Kd.C_drew ?_)));(case side2=>exact HC1.out);rintro e w105 ⟨v556,rfl,ho0,hb⟩;refine ⟨_,rfl,?_⟩;have n0_:=Aside0.mk (Kd.R_elder' (by (with_reducible repeat (first|apply Kd.R_alloc|apply Kd.R_drewN|apply Kd.R_drew));exact HO_6.out) (Kd.R_base ho0) hb);have n1_:=Aside0.mk (Kd.R_elder' (by (with_reducible repeat (first|apply Kd.R_alloc|apply Kd.R_drewN|apply Kd.R_drew));exact HO_9.out) (Kd.R_base ho0) hb);have n2_:=Aside0.mk (Kd.R_elder' (by (with_reducible repeat (first|apply Kd.R_alloc|apply Kd.R_drewN|apply Kd.R_drew));exact HO_10.out) (Kd.R_base ho0) hb);have n3_:=Aside0.mk (Kd.R_elder' (by (with_reducible repeat (first|apply Kd.R_alloc|apply Kd.R_drewN|apply Kd.R_drew));exact HO_541002.out) (Kd.R_base ho0) hb);have n4_:=Aside0.mk (Kd.R_elder' (by (with_reducible repeat (first|apply Kd.R_alloc|apply Kd.R_drewN|apply Kd.R_drew));exact HO553.out) (Kd.R_base ho0) hb);have n5_:=Aside0.mk (Kd.R_lower (Kd.R_new' (Kd.R_new' (Kd.R_new' (Kd.R_new' (Kd.R_new' ho0 (Kd.R_lt (by (with_reducible repeat (first|apply Kd.R_alloc|apply Kd.R_drewN|apply Kd.R_drew));exact HO_6.out))) (Kd.R_lt (by (with_reducible repeat (first|apply Kd.R_alloc|apply Kd.R_drewN|apply Kd.R_drew));exact HO_9.out))) (Kd.R_lt (by (with_reducible repeat (first|apply Kd.R_alloc|apply Kd.R_drewN|apply Kd.R_drew));exact HO_10.out))) (Kd.R_lt (by (with_reducible repeat (first|apply Kd.R_alloc|apply Kd.R_drewN|apply Kd.R_drew));exact HO_541002.out))) (Kd.R_lt (by (with_reducible repeat (first|apply Kd.R_alloc|apply Kd.R_drewN|apply Kd.R_drew));exact HO553.out))) (below_size (by repeat (first|(with_reducible first|exact HB.out|apply below_alloc|apply pw_below_drewN|apply below_drew1|refine below_set ?_ GE521.out|refine below_set ?_ GE540.out)|exact HB.out))));have n6_:=Aside0.mk (blk_below (g:=gb521) (o:=.cells #[.int .i64 a0_0,.int .i64 a0_1,.slice A0_2 l0_2.length c0_2] 24 (0,0)) (by (with_reducible repeat (first|refine blk_drewN ?_ _|refine blk_drew ?_|refine blk_alloc ?_ _));exact BK521.out) hb);have n7_:=Aside0.mk (blk_below (g:=gb540) (o:=.cells #[.int .i64 t535,.int .i64 t536,.slice Ao31 t537.length co31] 28 (0,0)) (by (with_reducible repeat (first|refine blk_drewN ?_ _|refine blk_drew ?_|refine blk_alloc ?_ _));exact BK540.out) hb);have n8_:=Aside0.mk (below_step (by repeat (first|(with_reducible first|exact HB.out|apply below_alloc|apply pw_below_drewN|apply below_drew1|refine below_set ?_ GE521.out|refine below_set ?_ GE540.out)|exact HB.out)) hb);clear HO_6;clear HO_9;clear HO_10;clear HO_541002;clear HO553;clear BK521;clear BK540;clear HB;have HO_6:=n0_;have HO_9:=n1_;have HO_10:=n2_;have HO_541002:=n3_;have HO553:=n4_;have HO557:=n5_;have BK521:=n6_;have BK540:=n7_;have HB:=n8_;clear n0_ n1_ n2_ n3_ n4_ n5_ n6_ n7_ n8_;(try clear hb);(try clear hb2);(try clear hk);(try clear hi);(try clear ho0);obtain ⟨Ao106,co106,eo106⟩:=Kd.R_slice HO557.out;subst eo106)|((with_reducible refine gate_callee (f:=14) rfl ?_);refine goesL_ (some 60) rfl rfl Try.func14 (by kernel_rfl) rfl #[.slice Ao34 t541.length co34,.slice Ao106 t555.length co106] rfl (by (try simp only [List.map_toArray,List.map_cons,List.map_nil]);first|done|rfl|(simp only [List.length_drop,List.length_take];rfl)) ?_;(with_reducible refine (laws_eqInt64S.calls kj15 _ _ t541 _ _ t555 false _ ?side1 ?side2 ?side3 ?side4 A47.out).mono ?_);(case side1=>repeat (first|exact (Kd.R_reads' HO_9.out).2.2|(with_reducible refine Kd.C_alloc ?_ _)|(with_reducible refine Kd.C_drewN ?_ _)|(with_reducible refine Kd.C_drew ?_)));(case side2=>exact (Kd.R_reads' HO_9.out).2.1);(case side3=>repeat (first|exact (Kd.R_reads' HO557.out).2.2|(with_reducible refine Kd.C_alloc ?_ _)|(with_reducible refine Kd.C_drewN ?_ _)|(with_reducible refine Kd.C_drew ?_)));(case side4=>exact (Kd.R_reads' HO557.out).2.1);rintro e w' ⟨rfl,⟨nd,rfl⟩⟩;refine ⟨_,rfl,?_⟩))
        go_ret
        exact ⟨by first|rfl|(simp [errW_none,errW_some] <;> rfl)|(simp [*,errW_none,errW_some] <;> rfl),by repeat (first|(with_reducible first|exact HB.out|apply below_alloc|apply pw_below_drewN|apply below_drew1|refine below_set ?_ GE521.out|refine below_set ?_ GE540.out)|exact HB.out)⟩
      ·replace c45:=Bool.eq_false_iff.mpr c45
       subst c45
       have H1 : (some false) = some r:=by rw [if_neg (show ¬ (false = true) by decide)] at H;exact H
       clear H
       have H:=H1
       clear H1
       obtain rfl:=Option.some.inj H
       try go_wp2
       have n0_:=Aside0.mk (Kd.R_drew HO_6.out)
       have n1_:=Aside0.mk (Kd.R_drew HO_9.out)
       have n2_:=Aside0.mk (Kd.R_drew HO_10.out)
       have n3_:=Aside0.mk (Kd.R_drew HO_541002.out)
       have n4_:=Aside0.mk (blk_drew BK521.out)
       have n5_:=Aside0.mk (blk_drew BK540.out)
       have n6_:=Aside0.mk (below_drew1 HB.out)
       clear HO_6
       clear HO_9
       clear HO_10
       clear HO_541002
       clear BK521
       clear BK540
       clear HB
       have HO_6:=n0_
       have HO_9:=n1_
       have HO_10:=n2_
       have HO_541002:=n3_
       have BK521:=n4_
       have BK540:=n5_
       have HB:=n6_
       clear n0_ n1_ n2_ n3_ n4_ n5_ n6_
       refine start_ (n:=5) (S:=fun w'=>w'.cell? ⟨gb540,0,none⟩ = some (.int .i64 t535) ∧ w'.cell? ⟨gb540,1,none⟩ = some (.int .i64 t536) ∧ w'.cell? ⟨gb540,2,none⟩ = some (.slice Ao31 t537.length co31) ∧ w'.cell? ⟨gb521,0,none⟩ = some (.int .i64 a0_0) ∧ w'.cell? ⟨gb521,1,none⟩ = some (.int .i64 a0_1) ∧ w'.cell? ⟨gb521,2,none⟩ = some (.slice A0_2 l0_2.length c0_2)) (ds:=[]) #[false,false,false,false,false] (by kernel_rfl) rfl rfl ⟨(blk_cell BK540.out 0).trans rfl,(blk_cell BK540.out 1).trans rfl,(blk_cell BK540.out 2).trans rfl,(blk_cell BK521.out 0).trans rfl,(blk_cell BK521.out 1).trans rfl,(blk_cell BK521.out 2).trans rfl⟩ (fun hHeld=>?_)
       generalize wc.drew = w107 at HO_6 HO_9 HO_10 HO_541002 BK521 BK540 HB hHeld ⊢
       refine take_ (i:=0) (N:=some 52) (v:=?_) (a':=?_) #[true,false,false,false,false] rfl rfl (by kernel_rfl) (fun _ _ _ h=>h) (Or.inl ⟨by rfl,?_⟩) hHeld ?_ ?_
       rotate_left
       ·rintro w' ⟨s0,s1,s2,s3,s4,s5⟩
        go_simp
        with_reducible rfl
       rotate_left
       ·simp only [Act.put,List.setIfInBounds_toArray,List.set_cons_zero,List.set_cons_succ,i64_w,i32_w]
        rfl
       refine take_ (i:=1) (N:=some 53) (v:=?_) (a':=?_) #[true,true,false,false,false] rfl rfl (by kernel_rfl) (fun _ _ _ h=>h) (Or.inl ⟨by rfl,?_⟩) hHeld ?_ ?_
       rotate_left
       ·rintro w' ⟨s0,s1,s2,s3,s4,s5⟩
        go_simp
        with_reducible rfl
       rotate_left
       ·simp only [Act.put,List.setIfInBounds_toArray,List.set_cons_zero,List.set_cons_succ,i64_w,i32_w]
        rfl
       refine one_ (i:=2) (N:=some 54) #[true,true,true,false,false] rfl rfl (by kernel_rfl) (by decide) (fun K hK=>?_)
       refine goes_ Try.func12 (by kernel_rfl) rfl #[.agg #[.int .i64 a0_0,.int .i64 a0_1,.slice A0_2 l0_2.length c0_2]] (by rfl) rfl rfl (by (try simp only [List.map_toArray,List.map_cons,List.map_nil]);first|done|rfl|(simp only [List.length_drop,List.length_take];rfl)) ?_
       with_reducible refine (laws_toSea.calls kj15 a0_0 a0_1 _ _ l0_2 t549 t550 t551 _ ?side1 ?side2 A43.out).mono ?_
       (case side1=>repeat (first|exact (Kd.C_below HR0_2.out HB.out)|(with_reducible refine Kd.C_alloc ?_ _)|(with_reducible refine Kd.C_drewN ?_ _)|(with_reducible refine Kd.C_drew ?_)))
       (case side2=>exact HC0_2.out)
       rintro e w108 ⟨v552,rfl,ho0,hb⟩
       refine ⟨_,rfl,?_⟩
       have n0_:=Aside0.mk (Kd.R_elder' (by (with_reducible repeat (first|apply Kd.R_alloc|apply Kd.R_drewN|apply Kd.R_drew));exact HO_6.out) (Kd.R_base ho0) hb)
       have n1_:=Aside0.mk (Kd.R_elder' (by (with_reducible repeat (first|apply Kd.R_alloc|apply Kd.R_drewN|apply Kd.R_drew));exact HO_9.out) (Kd.R_base ho0) hb)
       have n2_:=Aside0.mk (Kd.R_elder' (by (with_reducible repeat (first|apply Kd.R_alloc|apply Kd.R_drewN|apply Kd.R_drew));exact HO_10.out) (Kd.R_base ho0) hb)
       have n3_:=Aside0.mk (Kd.R_elder' (by (with_reducible repeat (first|apply Kd.R_alloc|apply Kd.R_drewN|apply Kd.R_drew));exact HO_541002.out) (Kd.R_base ho0) hb)
       have n4_:=Aside0.mk (Kd.R_lower (Kd.R_new' (Kd.R_new' (Kd.R_new' (Kd.R_new' ho0 (Kd.R_lt (by (with_reducible repeat (first|apply Kd.R_alloc|apply Kd.R_drewN|apply Kd.R_drew));exact HO_6.out))) (Kd.R_lt (by (with_reducible repeat (first|apply Kd.R_alloc|apply Kd.R_drewN|apply Kd.R_drew));exact HO_9.out))) (Kd.R_lt (by (with_reducible repeat (first|apply Kd.R_alloc|apply Kd.R_drewN|apply Kd.R_drew));exact HO_10.out))) (Kd.R_lt (by (with_reducible repeat (first|apply Kd.R_alloc|apply Kd.R_drewN|apply Kd.R_drew));exact HO_541002.out))) (below_size (by repeat (first|(with_reducible first|exact HB.out|apply below_alloc|apply pw_below_drewN|apply below_drew1|refine below_set ?_ GE521.out|refine below_set ?_ GE540.out)|exact HB.out))))
       have n5_:=Aside0.mk (blk_below (g:=gb521) (o:=.cells #[.int .i64 a0_0,.int .i64 a0_1,.slice A0_2 l0_2.length c0_2] 24 (0,0)) (by (with_reducible repeat (first|refine blk_drewN ?_ _|refine blk_drew ?_|refine blk_alloc ?_ _));exact BK521.out) hb)
       have n6_:=Aside0.mk (blk_below (g:=gb540) (o:=.cells #[.int .i64 t535,.int .i64 t536,.slice Ao31 t537.length co31] 28 (0,0)) (by (with_reducible repeat (first|refine blk_drewN ?_ _|refine blk_drew ?_|refine blk_alloc ?_ _));exact BK540.out) hb)
       have n7_:=Aside0.mk (below_step (by repeat (first|(with_reducible first|exact HB.out|apply below_alloc|apply pw_below_drewN|apply below_drew1|refine below_set ?_ GE521.out|refine below_set ?_ GE540.out)|exact HB.out)) hb)
       clear HO_6
       clear HO_9
       clear HO_10
       clear HO_541002
       clear BK521
       clear BK540
       clear HB
       have HO_6:=n0_
       have HO_9:=n1_
       have HO_10:=n2_
       have HO_541002:=n3_
       have HO553:=n4_
       have BK521:=n5_
       have BK540:=n6_
       have HB:=n7_
       clear n0_ n1_ n2_ n3_ n4_ n5_ n6_ n7_
       (try clear hb)
       (try clear hb2)
       (try clear hk)
       (try clear hi)
       (try clear ho0)
       obtain ⟨Ao109,co109,eo109⟩:=Kd.R_slice HO553.out
       (first|subst eo109|(injection eo109 with f1_ f2_ f3_;have f4_:=f1_.symm;have f5_:=f3_.symm;clear f1_ f2_ f3_;subst f4_;subst f5_))
       refine hK.out _ _ ⟨(blk_cell BK540.out 0).trans rfl,(blk_cell BK540.out 1).trans rfl,(blk_cell BK540.out 2).trans rfl,(blk_cell BK521.out 0).trans rfl,(blk_cell BK521.out 1).trans rfl,(blk_cell BK521.out 2).trans rfl⟩ (fun hHeld=>?_)
       clear hK K
       refine norm_ (a':=?_) ?_ ?_
       rotate_left
       ·show Act.put _ (some 54) _ = _
        simp only [Act.put,List.setIfInBounds_toArray,List.set_cons_zero,List.set_cons_succ,i64_w,i32_w]
        rfl
       refine one_ (i:=3) (N:=some 55) #[true,true,true,true,false] rfl rfl (by kernel_rfl) (by decide) (fun K hK=>?_)
       refine goes_ Try.func15 (by kernel_rfl) rfl #[.agg #[.int .i64 t535,.int .i64 t536,.slice Ao31 t537.length co31],.agg #[.int .i64 t549,.int .i64 t550,.slice Ao109 t551.length co109]] (by rfl) rfl rfl (by (try simp only [List.map_toArray,List.map_cons,List.map_nil]);first|done|rfl|(simp only [List.length_drop,List.length_take];rfl)) ?_
       with_reducible refine (laws_eqSea.calls kj15 t535 t536 _ _ t537 t549 t550 _ _ t551 false _ ?side1 ?side2 ?side3 ?side4 A44.out).mono ?_
       (case side1=>repeat (first|exact (Kd.R_reads' HO_541002.out).2.2|(with_reducible refine Kd.C_alloc ?_ _)|(with_reducible refine Kd.C_drewN ?_ _)|(with_reducible refine Kd.C_drew ?_)))
       (case side2=>exact (Kd.R_reads' HO_541002.out).2.1)
       (case side3=>repeat (first|exact (Kd.R_reads' HO553.out).2.2|(with_reducible refine Kd.C_alloc ?_ _)|(with_reducible refine Kd.C_drewN ?_ _)|(with_reducible refine Kd.C_drew ?_)))
       (case side4=>exact (Kd.R_reads' HO553.out).2.1)
       rintro e w110 ⟨rfl,hb⟩
       refine ⟨_,rfl,?_⟩
       have n0_:=Aside0.mk (Kd.R_below (by (with_reducible repeat (first|apply Kd.R_alloc|apply Kd.R_drewN|apply Kd.R_drew));exact HO_6.out) hb)
       have n1_:=Aside0.mk (Kd.R_below (by (with_reducible repeat (first|apply Kd.R_alloc|apply Kd.R_drewN|apply Kd.R_drew));exact HO_9.out) hb)
       have n2_:=Aside0.mk (Kd.R_below (by (with_reducible repeat (first|apply Kd.R_alloc|apply Kd.R_drewN|apply Kd.R_drew));exact HO_10.out) hb)
       have n3_:=Aside0.mk (Kd.R_below (by (with_reducible repeat (first|apply Kd.R_alloc|apply Kd.R_drewN|apply Kd.R_drew));exact HO_541002.out) hb)
       have n4_:=Aside0.mk (Kd.R_below (by (with_reducible repeat (first|apply Kd.R_alloc|apply Kd.R_drewN|apply Kd.R_drew));exact HO553.out) hb)
       have n5_:=Aside0.mk (blk_below (g:=gb521) (o:=.cells #[.int .i64 a0_0,.int .i64 a0_1,.slice A0_2 l0_2.length c0_2] 24 (0,0)) (by (with_reducible repeat (first|refine blk_drewN ?_ _|refine blk_drew ?_|refine blk_alloc ?_ _));exact BK521.out) hb)
       have n6_:=Aside0.mk (blk_below (g:=gb540) (o:=.cells #[.int .i64 t535,.int .i64 t536,.slice Ao31 t537.length co31] 28 (0,0)) (by (with_reducible repeat (first|refine blk_drewN ?_ _|refine blk_drew ?_|refine blk_alloc ?_ _));exact BK540.out) hb)
       have n7_:=Aside0.mk (below_step (by repeat (first|(with_reducible first|exact HB.out|apply below_alloc|apply pw_below_drewN|apply below_drew1|refine below_set ?_ GE521.out|refine below_set ?_ GE540.out)|exact HB.out)) hb)
       clear HO_6
       clear HO_9
       clear HO_10
       clear HO_541002
       clear HO553
       clear BK521
       clear BK540
       clear HB
       have HO_6:=n0_
       have HO_9:=n1_
       have HO_10:=n2_
       have HO_541002:=n3_
       have HO553:=n4_
       have BK521:=n5_
       have BK540:=n6_
       have HB:=n7_
       clear n0_ n1_ n2_ n3_ n4_ n5_ n6_ n7_
       (try clear hb)
       (try clear hb2)
       (try clear hk)
       (try clear hi)
       refine hK.out _ _ ⟨(blk_cell BK540.out 0).trans rfl,(blk_cell BK540.out 1).trans rfl,(blk_cell BK540.out 2).trans rfl,(blk_cell BK521.out 0).trans rfl,(blk_cell BK521.out 1).trans rfl,(blk_cell BK521.out 2).trans rfl⟩ (fun hHeld=>?_)
       clear hK K
       refine norm_ (a':=?_) ?_ ?_
       rotate_left
       ·show Act.put _ (some 55) _ = _
        simp only [Act.put,List.setIfInBounds_toArray,List.set_cons_zero,List.set_cons_succ,i64_w,i32_w]
        rfl
       refine pure_ (i:=4) (N:=some 56) (v:=?_) (a':=?_) #[true,true,true,true,true] rfl rfl (by kernel_rfl) (fun _ _ _ h=>h) (Or.inl ⟨by rfl,?_⟩) ?_ ?_
       rotate_left
       ·intro w'
        go_simp
        with_reducible rfl
       rotate_left
       ·simp only [Act.put,List.setIfInBounds_toArray,List.set_cons_zero,List.set_cons_succ,i64_w,i32_w]
        rfl
       refine done_ (by kernel_rfl) ?_
       try go_wp2
       go_ret
       exact ⟨by first|rfl|(simp [errW_none,errW_some] <;> rfl)|(simp [*,errW_none,errW_some] <;> rfl),by repeat (first|(with_reducible first|exact HB.out|apply below_alloc|apply pw_below_drewN|apply below_drew1|refine below_set ?_ GE521.out|refine below_set ?_ GE540.out)|exact HB.out)⟩

end Go.Proofs.Ytankgbfddgpfmaa.PAll
