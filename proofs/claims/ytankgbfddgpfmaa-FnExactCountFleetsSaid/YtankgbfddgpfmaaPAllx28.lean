-- Written by wip/pp.py of this work (a driver around the kit's print), out of the translation; Lean checks it.
import Derived.Test.YtankgbfddgpfmaaPAllx0
import Derived.Test.YtankgbfddgpfmaaPAllx1
import Derived.Test.YtankgbfddgpfmaaPAllx2
import Derived.Test.YtankgbfddgpfmaaPAllx11
import Derived.Test.YtankgbfddgpfmaaMerged19
import Derived.Test.YtankgbfddgpfmaaGCountS
namespace Go.Proofs.Ytankgbfddgpfmaa.PAll
open Go.RowKit Go.Proofs.YtankgbfddgpfmaaW.PrintWords Go.Proofs.YtankgbfddgpfmaaW.PrintLast Go.Proofs.YtankgbfddgpfmaaW.PrintMore
attribute [local go_sem] max2_int min2_int max_two min_two max_three min_three max_four min_four   -- for this text's walks alone
set_option linter.unusedVariables false
set_option linter.unusedSimpArgs false

/-! ### laws_FnExactCountFleets: function 5 -/
def laws_FnExactCountFleets.j0 : Nat → Bool → Int → Int → List Int → Int → Int → List Int → Option (Bool)
 | 0, _, _, _, _, _, _, _ => none
 | k + 1, x34, x806000, x806001, x806002, x820000, x820001, x820002 => if x34 = true then (some false) else ((laws_toSea.f k x806000 x806001 x806002).bind fun bt822 => ((laws_eqSea.f k x820000 x820001 x820002 bt822.1 bt822.2.1 bt822.2.2).bind fun t827 => (if t827 = true then (some true) else (some false))))
def laws_FnExactCountFleets.f (k : Nat) (a0_0 : Int) (a0_1 : Int) (l0_2 : List Int) : Option (Bool) := (laws_szSea.f a0_0 a0_1 l0_2 1048576).bind fun t806 => (if t806 < 0 then (some true) else ((laws_toSea.f k a0_0 a0_1 l0_2).bind fun bt807 => ((spec_CountFleets.f k bt807.1 bt807.2.1 bt807.2.2).bind fun bt812 => ((laws_toSea.f k a0_0 a0_1 l0_2).bind fun bt814 => ((impl_CountFleets.f k bt814.1 bt814.2.1 bt814.2.2).bind fun bt820 => (if bt820.1 = bt812.1 then (laws_FnExactCountFleets.j0 k (bt820.2 != bt812.2) a0_0 a0_1 l0_2 bt814.1 bt814.2.1 bt814.2.2) else (laws_FnExactCountFleets.j0 k true a0_0 a0_1 l0_2 bt814.1 bt814.2.1 bt814.2.2)))))))
set_option maxHeartbeats 8000000 in
set_option maxRecDepth 100000 in
theorem laws_FnExactCountFleets.calls (k : Nat) (a0_0 : Int) (a0_1 : Int) (A0_2 : Option Addr) (c0_2 : Nat) (l0_2 : List Int) (r : Bool) (w : World) (hr0_2 : Kd.C (Kd.int .i64) w A0_2 l0_2.length l0_2) (hc0_2 : l0_2.length ≤ c0_2) (h : laws_FnExactCountFleets.f k a0_0 a0_1 l0_2 = some r) :
  Calls Try.prog 5 #[.agg #[.int .i64 a0_0,.int .i64 a0_1,.slice A0_2 l0_2.length c0_2]] w fun e w'=>e = .returned (.bool r) ∧ Below w.heap.size w w':=by
 have hu24:=Try.underlying24
 have hu28:=Try.underlying28
 have HR0_2:=Aside0.mk hr0_2
 have HC0_2:=Aside0.mk hc0_2
 clear hr0_2 hc0_2
 have HB:=Aside0.mk (Below.refl w.heap.size w)
 have H : ((laws_szSea.f a0_0 a0_1 l0_2 1048576).bind fun t806=>(if t806 < 0 then (some true) else ((laws_toSea.f k a0_0 a0_1 l0_2).bind fun bt807=>((spec_CountFleets.f k bt807.1 bt807.2.1 bt807.2.2).bind fun bt812=>((laws_toSea.f k a0_0 a0_1 l0_2).bind fun bt814=>((impl_CountFleets.f k bt814.1 bt814.2.1 bt814.2.2).bind fun bt820=>(if bt820.1 = bt812.1 then (laws_FnExactCountFleets.j0 k (bt820.2 != bt812.2) a0_0 a0_1 l0_2 bt814.1 bt814.2.1 bt814.2.2) else (laws_FnExactCountFleets.j0 k true a0_0 a0_1 l0_2 bt814.1 bt814.2.1 bt814.2.2)))))))) = some r:=h
 clear h
 replace H:=Option.bind_eq_some_iff.mp H
 obtain ⟨t806,A20,H⟩:=H
 replace H : (if t806 < 0 then (some true) else ((laws_toSea.f k a0_0 a0_1 l0_2).bind fun bt807=>((spec_CountFleets.f k bt807.1 bt807.2.1 bt807.2.2).bind fun bt812=>((laws_toSea.f k a0_0 a0_1 l0_2).bind fun bt814=>((impl_CountFleets.f k bt814.1 bt814.2.1 bt814.2.2).bind fun bt820=>(if bt820.1 = bt812.1 then (laws_FnExactCountFleets.j0 k (bt820.2 != bt812.2) a0_0 a0_1 l0_2 bt814.1 bt814.2.1 bt814.2.2) else (laws_FnExactCountFleets.j0 k true a0_0 a0_1 l0_2 bt814.1 bt814.2.1 bt814.2.2))))))) = some r:=H
 have A2:=Aside0.mk A20
 clear A20
 by_cases c3 : t806 < 0
 ·rw [if_pos c3] at H
  have c3b0 : decide (t806 < 0) = true:=decide_eq_true c3
  clear c3
  obtain rfl:=Option.some.inj H
  go_enter Try.func5,Try.ntmps5
  go_wp2_with (first|((with_reducible refine gate_dst (N:=1) rfl ?_);refine box_event ?hg (N:=1) ?hd (cs:=#[.int .i64 a0_0,.int .i64 a0_1,.slice A0_2 l0_2.length c0_2]) (t:=24) ?hr ?_;(case hd=>rfl);(case hg=>rfl);(case hr=>first|(go_simp;done)|(go_simp;rfl));intro gb805 hg w4 hbox hb;have n0_:=Aside0.mk (below_step (by repeat (first|(with_reducible first|exact HB.out|apply below_alloc|apply pw_below_drewN|apply below_drew1)|exact HB.out)) hb);have n1_:=Aside0.mk (hbox);have n2_:=Aside0.mk ((by rw [hg];exact (below_size (by repeat (first|(with_reducible first|exact HB.out|apply below_alloc|apply pw_below_drewN|apply below_drew1)|exact HB.out))) : w.heap.size ≤ gb805));have n3_:=Aside0.mk ((by rw [hg];exact (below_size (by repeat (first|(with_reducible first|exact HB.out|apply below_alloc|apply pw_below_drewN|apply below_drew1)|exact HB.out))) : w.heap.size ≤ gb805));clear HB;have HB:=n0_;have BK805:=n1_;have GW805:=n2_;have GE805:=n3_;clear n0_ n1_ n2_ n3_;clear hb hbox hg;have hcz5_0 : w4.cell? ⟨gb805,0,none⟩ = some (.int .i64 a0_0):=(blk_cell BK805.out 0).trans rfl;have hcz5_1 : w4.cell? ⟨gb805,1,none⟩ = some (.int .i64 a0_1):=(blk_cell BK805.out 1).trans rfl;have hcz5_2 : w4.cell? ⟨gb805,2,none⟩ = some (.slice A0_2 l0_2.length c0_2):=(blk_cell BK805.out 2).trans rfl;have hfz5_0:=blk_frozen BK805.out 0;have hfz5_1:=blk_frozen BK805.out 1;have hfz5_2:=blk_frozen BK805.out 2)|((with_reducible refine gate_callee (f:=10) rfl ?_);refine goesL_ (some 11) rfl rfl Try.func10 (by kernel_rfl) rfl #[.agg #[.int .i64 a0_0,.int .i64 a0_1,.slice A0_2 l0_2.length c0_2],.int .i64 1048576] rfl (by (try simp only [List.map_toArray,List.map_cons,List.map_nil]);first|done|rfl|(simp only [List.length_drop,List.length_take];rfl)) ?_;(with_reducible refine (laws_szSea.calls a0_0 a0_1 _ _ l0_2 1048576 t806 _ ?side1 ?side2 A2.out).mono ?_);(case side1=>repeat (first|exact (Kd.C_below HR0_2.out HB.out)|(with_reducible refine Kd.C_alloc ?_ _)|(with_reducible refine Kd.C_drewN ?_ _)|(with_reducible refine Kd.C_drew ?_)));(case side2=>exact HC0_2.out);rintro e w6 ⟨rfl,hb⟩;refine ⟨_,rfl,?_⟩;have n0_:=Aside0.mk (blk_below (g:=gb805) (o:=.cells #[.int .i64 a0_0,.int .i64 a0_1,.slice A0_2 l0_2.length c0_2] 24 (0,0)) (by (with_reducible repeat (first|refine blk_drewN ?_ _|refine blk_drew ?_|refine blk_alloc ?_ _));exact BK805.out) hb);have n1_:=Aside0.mk (below_step (by repeat (first|(with_reducible first|exact HB.out|apply below_alloc|apply pw_below_drewN|apply below_drew1|refine below_set ?_ GE805.out)|exact HB.out)) hb);clear BK805;clear HB;have BK805:=n0_;have HB:=n1_;clear n0_ n1_;(try clear hb);(try clear hb2);(try clear hk);(try clear hi)))
  go_ret
  exact ⟨by first|rfl|(simp [errW_none,errW_some] <;> rfl)|(simp [*,errW_none,errW_some] <;> rfl),by repeat (first|(with_reducible first|exact HB.out|apply below_alloc|apply pw_below_drewN|apply below_drew1|refine below_set ?_ GE805.out)|exact HB.out)⟩
 ·rw [if_neg c3] at H
  have c3b0 : decide (t806 < 0) = false:=decide_eq_false c3
  clear c3
  replace H:=Option.bind_eq_some_iff.mp H
  obtain ⟨⟨t807,t808,t809⟩,A70,H⟩:=H
  replace H : ((spec_CountFleets.f k t807 t808 t809).bind fun bt812=>((laws_toSea.f k a0_0 a0_1 l0_2).bind fun bt814=>((impl_CountFleets.f k bt814.1 bt814.2.1 bt814.2.2).bind fun bt820=>(if bt820.1 = bt812.1 then (laws_FnExactCountFleets.j0 k (bt820.2 != bt812.2) a0_0 a0_1 l0_2 bt814.1 bt814.2.1 bt814.2.2) else (laws_FnExactCountFleets.j0 k true a0_0 a0_1 l0_2 bt814.1 bt814.2.1 bt814.2.2))))) = some r:=H
  have A7:=Aside0.mk A70
  clear A70
  replace H:=Option.bind_eq_some_iff.mp H
  obtain ⟨⟨t812,t813⟩,A80,H⟩:=H
  replace H : ((laws_toSea.f k a0_0 a0_1 l0_2).bind fun bt814=>((impl_CountFleets.f k bt814.1 bt814.2.1 bt814.2.2).bind fun bt820=>(if bt820.1 = t812 then (laws_FnExactCountFleets.j0 k (bt820.2 != t813) a0_0 a0_1 l0_2 bt814.1 bt814.2.1 bt814.2.2) else (laws_FnExactCountFleets.j0 k true a0_0 a0_1 l0_2 bt814.1 bt814.2.1 bt814.2.2)))) = some r:=H
  have A8:=Aside0.mk A80
  clear A80
  replace H:=Option.bind_eq_some_iff.mp H
  obtain ⟨⟨t814,t815,t816⟩,A90,H⟩:=H
  replace H : ((impl_CountFleets.f k t814 t815 t816).bind fun bt820=>(if bt820.1 = t812 then (laws_FnExactCountFleets.j0 k (bt820.2 != t813) a0_0 a0_1 l0_2 t814 t815 t816) else (laws_FnExactCountFleets.j0 k true a0_0 a0_1 l0_2 t814 t815 t816))) = some r:=H
  have A9:=Aside0.mk A90
  clear A90
  replace H:=Option.bind_eq_some_iff.mp H
  obtain ⟨⟨t820,t821⟩,A100,H⟩:=H
  replace H : (if t820 = t812 then (laws_FnExactCountFleets.j0 k (t821 != t813) a0_0 a0_1 l0_2 t814 t815 t816) else (laws_FnExactCountFleets.j0 k true a0_0 a0_1 l0_2 t814 t815 t816)) = some r:=H
  have A10:=Aside0.mk A100
  clear A100
  have HC11:=Aside0.mk H
  clear H
  go_enter Try.func5,Try.ntmps5
  go_upto_region 8 with (first|((with_reducible refine gate_dst (N:=1) rfl ?_);refine box_event ?hg (N:=1) ?hd (cs:=#[.int .i64 a0_0,.int .i64 a0_1,.slice A0_2 l0_2.length c0_2]) (t:=24) ?hr ?_;(case hd=>rfl);(case hg=>rfl);(case hr=>first|(go_simp;done)|(go_simp;rfl));intro gb805 hg w12 hbox hb;have n0_:=Aside0.mk (below_step (by repeat (first|(with_reducible first|exact HB.out|apply below_alloc|apply pw_below_drewN|apply below_drew1)|exact HB.out)) hb);have n1_:=Aside0.mk (hbox);have n2_:=Aside0.mk ((by rw [hg];exact (below_size (by repeat (first|(with_reducible first|exact HB.out|apply below_alloc|apply pw_below_drewN|apply below_drew1)|exact HB.out))) : w.heap.size ≤ gb805));have n3_:=Aside0.mk ((by rw [hg];exact (below_size (by repeat (first|(with_reducible first|exact HB.out|apply below_alloc|apply pw_below_drewN|apply below_drew1)|exact HB.out))) : w.heap.size ≤ gb805));clear HB;have HB:=n0_;have BK805:=n1_;have GW805:=n2_;have GE805:=n3_;clear n0_ n1_ n2_ n3_;clear hb hbox hg;have hcz13_0 : w12.cell? ⟨gb805,0,none⟩ = some (.int .i64 a0_0):=(blk_cell BK805.out 0).trans rfl;have hcz13_1 : w12.cell? ⟨gb805,1,none⟩ = some (.int .i64 a0_1):=(blk_cell BK805.out 1).trans rfl;have hcz13_2 : w12.cell? ⟨gb805,2,none⟩ = some (.slice A0_2 l0_2.length c0_2):=(blk_cell BK805.out 2).trans rfl;have hfz13_0:=blk_frozen BK805.out 0;have hfz13_1:=blk_frozen BK805.out 1;have hfz13_2:=blk_frozen BK805.out 2)|((with_reducible refine gate_callee (f:=10) rfl ?_);refine goesL_ (some 11) rfl rfl Try.func10 (by kernel_rfl) rfl #[.agg #[.int .i64 a0_0,.int .i64 a0_1,.slice A0_2 l0_2.length c0_2],.int .i64 1048576] rfl (by (try simp only [List.map_toArray,List.map_cons,List.map_nil]);first|done|rfl|(simp only [List.length_drop,List.length_take];rfl)) ?_;(with_reducible refine (laws_szSea.calls a0_0 a0_1 _ _ l0_2 1048576 t806 _ ?side1 ?side2 A2.out).mono ?_);(case side1=>repeat (first|exact (Kd.C_below HR0_2.out HB.out)|(with_reducible refine Kd.C_alloc ?_ _)|(with_reducible refine Kd.C_drewN ?_ _)|(with_reducible refine Kd.C_drew ?_)));(case side2=>exact HC0_2.out);rintro e w14 ⟨rfl,hb⟩;refine ⟨_,rfl,?_⟩;have n0_:=Aside0.mk (blk_below (g:=gb805) (o:=.cells #[.int .i64 a0_0,.int .i64 a0_1,.slice A0_2 l0_2.length c0_2] 24 (0,0)) (by (with_reducible repeat (first|refine blk_drewN ?_ _|refine blk_drew ?_|refine blk_alloc ?_ _));exact BK805.out) hb);have n1_:=Aside0.mk (below_step (by repeat (first|(with_reducible first|exact HB.out|apply below_alloc|apply pw_below_drewN|apply below_drew1|refine below_set ?_ GE805.out)|exact HB.out)) hb);clear BK805;clear HB;have BK805:=n0_;have HB:=n1_;clear n0_ n1_;(try clear hb);(try clear hb2);(try clear hk);(try clear hi);have hcz15_0 : w14.cell? ⟨gb805,0,none⟩ = some (.int .i64 a0_0):=(blk_cell BK805.out 0).trans rfl;have hcz15_1 : w14.cell? ⟨gb805,1,none⟩ = some (.int .i64 a0_1):=(blk_cell BK805.out 1).trans rfl;have hcz15_2 : w14.cell? ⟨gb805,2,none⟩ = some (.slice A0_2 l0_2.length c0_2):=(blk_cell BK805.out 2).trans rfl;have hfz15_0:=blk_frozen BK805.out 0;have hfz15_1:=blk_frozen BK805.out 1;have hfz15_2:=blk_frozen BK805.out 2)|((with_reducible refine gate_callee (f:=12) rfl ?_);refine goesL_ (some 16) rfl rfl Try.func12 (by kernel_rfl) rfl #[.agg #[.int .i64 a0_0,.int .i64 a0_1,.slice A0_2 l0_2.length c0_2]] rfl (by (try simp only [List.map_toArray,List.map_cons,List.map_nil]);first|done|rfl|(simp only [List.length_drop,List.length_take];rfl)) ?_;(with_reducible refine (laws_toSea.calls k a0_0 a0_1 _ _ l0_2 t807 t808 t809 _ ?side1 ?side2 A7.out).mono ?_);(case side1=>repeat (first|exact (Kd.C_below HR0_2.out HB.out)|(with_reducible refine Kd.C_alloc ?_ _)|(with_reducible refine Kd.C_drewN ?_ _)|(with_reducible refine Kd.C_drew ?_)));(case side2=>exact HC0_2.out);rintro e w16 ⟨v810,rfl,ho0,hb⟩;refine ⟨_,rfl,?_⟩;have n0_:=Aside0.mk (Kd.R_lower ho0 (below_size (by repeat (first|(with_reducible first|exact HB.out|apply below_alloc|apply pw_below_drewN|apply below_drew1|refine below_set ?_ GE805.out)|exact HB.out))));have n1_:=Aside0.mk (blk_below (g:=gb805) (o:=.cells #[.int .i64 a0_0,.int .i64 a0_1,.slice A0_2 l0_2.length c0_2] 24 (0,0)) (by (with_reducible repeat (first|refine blk_drewN ?_ _|refine blk_drew ?_|refine blk_alloc ?_ _));exact BK805.out) hb);have n2_:=Aside0.mk (below_step (by repeat (first|(with_reducible first|exact HB.out|apply below_alloc|apply pw_below_drewN|apply below_drew1|refine below_set ?_ GE805.out)|exact HB.out)) hb);clear BK805;clear HB;have HO811:=n0_;have BK805:=n1_;have HB:=n2_;clear n0_ n1_ n2_;(try clear hb);(try clear hb2);(try clear hk);(try clear hi);(try clear ho0);obtain ⟨Ao17,co17,eo17⟩:=Kd.R_slice HO811.out;subst eo17)|((with_reducible refine gate_callee (f:=22) rfl ?_);refine goesL_ (some 17) rfl rfl Try.func22 (by kernel_rfl) rfl #[.agg #[.int .i64 t807,.int .i64 t808,.slice Ao17 t809.length co17]] rfl (by (try simp only [List.map_toArray,List.map_cons,List.map_nil]);first|done|rfl|(simp only [List.length_drop,List.length_take];rfl)) ?_;(with_reducible refine (spec_CountFleets.calls k t807 t808 _ _ t809 t812 t813 _ ?side1 ?side2 A8.out).mono ?_);(case side1=>repeat (first|exact (Kd.R_reads' HO811.out).2.2|(with_reducible refine Kd.C_alloc ?_ _)|(with_reducible refine Kd.C_drewN ?_ _)|(with_reducible refine Kd.C_drew ?_)));(case side2=>exact (Kd.R_reads' HO811.out).2.1);rintro e w18 ⟨rfl,hb⟩;refine ⟨_,rfl,?_⟩;have n0_:=Aside0.mk (Kd.R_below (by (with_reducible repeat (first|apply Kd.R_alloc|apply Kd.R_drewN|apply Kd.R_drew));exact HO811.out) hb);have n1_:=Aside0.mk (blk_below (g:=gb805) (o:=.cells #[.int .i64 a0_0,.int .i64 a0_1,.slice A0_2 l0_2.length c0_2] 24 (0,0)) (by (with_reducible repeat (first|refine blk_drewN ?_ _|refine blk_drew ?_|refine blk_alloc ?_ _));exact BK805.out) hb);have n2_:=Aside0.mk (below_step (by repeat (first|(with_reducible first|exact HB.out|apply below_alloc|apply pw_below_drewN|apply below_drew1|refine below_set ?_ GE805.out)|exact HB.out)) hb);clear HO811;clear BK805;clear HB;have HO811:=n0_;have BK805:=n1_;have HB:=n2_;clear n0_ n1_ n2_;(try clear hb);(try clear hb2);(try clear hk);(try clear hi);have hcz19_0 : w18.cell? ⟨gb805,0,none⟩ = some (.int .i64 a0_0):=(blk_cell BK805.out 0).trans rfl;have hcz19_1 : w18.cell? ⟨gb805,1,none⟩ = some (.int .i64 a0_1):=(blk_cell BK805.out 1).trans rfl;have hcz19_2 : w18.cell? ⟨gb805,2,none⟩ = some (.slice A0_2 l0_2.length c0_2):=(blk_cell BK805.out 2).trans rfl;have hfz19_0:=blk_frozen BK805.out 0;have hfz19_1:=blk_frozen BK805.out 1;have hfz19_2:=blk_frozen BK805.out 2)|((with_reducible refine gate_callee (f:=12) rfl ?_);refine goesL_ (some 21) rfl rfl Try.func12 (by kernel_rfl) rfl #[.agg #[.int .i64 a0_0,.int .i64 a0_1,.slice A0_2 l0_2.length c0_2]] rfl (by (try simp only [List.map_toArray,List.map_cons,List.map_nil]);first|done|rfl|(simp only [List.length_drop,List.length_take];rfl)) ?_;(with_reducible refine (laws_toSea.calls k a0_0 a0_1 _ _ l0_2 t814 t815 t816 _ ?side1 ?side2 A9.out).mono ?_);(case side1=>repeat (first|exact (Kd.C_below HR0_2.out HB.out)|(with_reducible refine Kd.C_alloc ?_ _)|(with_reducible refine Kd.C_drewN ?_ _)|(with_reducible refine Kd.C_drew ?_)));(case side2=>exact HC0_2.out);rintro e w20 ⟨v817,rfl,ho0,hb⟩;refine ⟨_,rfl,?_⟩;have n0_:=Aside0.mk (Kd.R_elder' (by (with_reducible repeat (first|apply Kd.R_alloc|apply Kd.R_drewN|apply Kd.R_drew));exact HO811.out) (Kd.R_base ho0) hb);have n1_:=Aside0.mk (Kd.R_lower (Kd.R_new' ho0 (Kd.R_lt (by (with_reducible repeat (first|apply Kd.R_alloc|apply Kd.R_drewN|apply Kd.R_drew));exact HO811.out))) (below_size (by repeat (first|(with_reducible first|exact HB.out|apply below_alloc|apply pw_below_drewN|apply below_drew1|refine below_set ?_ GE805.out)|exact HB.out))));have n2_:=Aside0.mk (blk_below (g:=gb805) (o:=.cells #[.int .i64 a0_0,.int .i64 a0_1,.slice A0_2 l0_2.length c0_2] 24 (0,0)) (by (with_reducible repeat (first|refine blk_drewN ?_ _|refine blk_drew ?_|refine blk_alloc ?_ _));exact BK805.out) hb);have n3_:=Aside0.mk (below_step (by repeat (first|(with_reducible first|exact HB.out|apply below_alloc|apply pw_below_drewN|apply below_drew1|refine below_set ?_ GE805.out)|exact HB.out)) hb);clear HO811;clear BK805;clear HB;have HO811:=n0_;have HO818:=n1_;have BK805:=n2_;have HB:=n3_;clear n0_ n1_ n2_ n3_;(try clear hb);(try clear hb2);(try clear hk);(try clear hi);(try clear ho0))|((with_reducible refine gate_dst (N:=6) rfl ?_);refine box_event ?hg (N:=6) ?hd (cs:=#[.int .i64 0,.int .i64 0,.slice none 0 0]) (t:=28) ?hr ?_;(case hd=>rfl);(case hg=>rfl);(case hr=>first|(go_simp;done)|(go_simp;rfl));intro gb819 hg w21 hbox hb;have n0_:=Aside0.mk (Kd.R_below (by (with_reducible repeat (first|apply Kd.R_alloc|apply Kd.R_drewN|apply Kd.R_drew));exact HO811.out) hb);have n1_:=Aside0.mk (Kd.R_below (by (with_reducible repeat (first|apply Kd.R_alloc|apply Kd.R_drewN|apply Kd.R_drew));exact HO818.out) hb);have n2_:=Aside0.mk (blk_below (g:=gb805) (o:=.cells #[.int .i64 a0_0,.int .i64 a0_1,.slice A0_2 l0_2.length c0_2] 24 (0,0)) (by (with_reducible repeat (first|refine blk_drewN ?_ _|refine blk_drew ?_|refine blk_alloc ?_ _));exact BK805.out) hb);have n3_:=Aside0.mk (below_step (by repeat (first|(with_reducible first|exact HB.out|apply below_alloc|apply pw_below_drewN|apply below_drew1|refine below_set ?_ GE805.out)|exact HB.out)) hb);have n4_:=Aside0.mk (hbox);have n5_:=Aside0.mk ((by rw [hg];exact (below_size (by repeat (first|(with_reducible first|exact HB.out|apply below_alloc|apply pw_below_drewN|apply below_drew1|refine below_set ?_ GE805.out)|exact HB.out))) : w.heap.size ≤ gb819));have n6_:=Aside0.mk ((by rw [hg];exact (below_size (by repeat (first|(with_reducible first|exact HB.out|apply below_alloc|apply pw_below_drewN|apply below_drew1|refine below_set ?_ GE805.out)|exact HB.out))) : w.heap.size ≤ gb819));have n7_:=Aside0.mk ((by rw [hg];exact Nat.ne_of_lt (blk_lt (g:=gb805) (o:=.cells #[.int .i64 a0_0,.int .i64 a0_1,.slice A0_2 l0_2.length c0_2] 24 (0,0)) (by (with_reducible repeat (first|refine blk_drewN ?_ _|refine blk_drew ?_|refine blk_alloc ?_ _));exact BK805.out)) : gb805 ≠ gb819));have n8_:=Aside0.mk ((by rw [hg];exact Nat.ne_of_gt (blk_lt (g:=gb805) (o:=.cells #[.int .i64 a0_0,.int .i64 a0_1,.slice A0_2 l0_2.length c0_2] 24 (0,0)) (by (with_reducible repeat (first|refine blk_drewN ?_ _|refine blk_drew ?_|refine blk_alloc ?_ _));exact BK805.out)) : gb819 ≠ gb805));clear HO811;clear HO818;clear BK805;clear HB;have HO811:=n0_;have HO818:=n1_;have BK805:=n2_;have HB:=n3_;have BK819:=n4_;have GW819:=n5_;have GE819:=n6_;have NB805_819:=n7_;have NB819_805:=n8_;clear n0_ n1_ n2_ n3_ n4_ n5_ n6_ n7_ n8_;clear hb hbox hg;have hnb22:=NB819_805.out;have hnc22:=NB805_819.out;have hcz23_0 : w21.cell? ⟨gb819,0,none⟩ = some (.int .i64 0):=(blk_cell BK819.out 0).trans rfl;have hcz23_1 : w21.cell? ⟨gb819,1,none⟩ = some (.int .i64 0):=(blk_cell BK819.out 1).trans rfl;have hcz23_2 : w21.cell? ⟨gb819,2,none⟩ = some (.slice none 0 0):=(blk_cell BK819.out 2).trans rfl;have hfz23_0:=blk_frozen BK819.out 0;have hfz23_1:=blk_frozen BK819.out 1;have hfz23_2:=blk_frozen BK819.out 2;obtain ⟨Ao24,co24,eo24⟩:=Kd.R_slice HO818.out;subst eo24)|((with_reducible refine gate_callee (f:=23) rfl ?_);refine goesL_ (some 24) rfl rfl Try.func23 (by kernel_rfl) rfl #[.agg #[.int .i64 t814,.int .i64 t815,.slice Ao24 t816.length co24]] rfl (by (try simp only [List.map_toArray,List.map_cons,List.map_nil]);first|done|rfl|(simp only [List.length_drop,List.length_take];rfl)) ?_;(with_reducible refine (impl_CountFleets.calls k t814 t815 _ _ t816 t820 t821 _ ?side1 ?side2 A10.out).mono ?_);(case side1=>refine (Kd.R_reads' (e:=2) (base:=w.heap.size) (ok:=fun k_=>(True ∧ some k_ ≠ (.slice Ao17 t809.length co17 : Value).ownBlock)) (n:=t816.length) (c:=co24) ?_).2.2;exact (by (with_reducible repeat (first|apply Kd.R_alloc|apply Kd.R_drewN|apply Kd.R_drew));exact (Kd.R_mono (Kd.R_far (p:=⟨gb819,2,none⟩) (Kd.R_far (p:=⟨gb819,1,none⟩) (Kd.R_far (p:=⟨gb819,0,none⟩) (Kd.R_types HO818.out BK819.out (by decide)) (fun _ hk=>hk.2) (.int .i64 t814)) (fun _ hk=>hk.2) (.int .i64 t815)) (fun _ hk=>hk.2) (.slice Ao24 t816.length co24)) (fun _ h_=>h_.1))));(case side2=>exact (Kd.R_reads' HO818.out).2.1);rintro e w25 ⟨rfl,hb⟩;refine ⟨_,rfl,?_⟩;have n0_:=Aside0.mk (Kd.R_below (by (with_reducible repeat (first|apply Kd.R_alloc|apply Kd.R_drewN|apply Kd.R_drew));exact (Kd.R_mono (Kd.R_far (p:=⟨gb819,2,none⟩) (Kd.R_far (p:=⟨gb819,1,none⟩) (Kd.R_far (p:=⟨gb819,0,none⟩) (Kd.R_types HO811.out BK819.out (by decide)) (fun _ hk=>hk.2) (.int .i64 t814)) (fun _ hk=>hk.2) (.int .i64 t815)) (fun _ hk=>hk.2) (.slice Ao24 t816.length co24)) (fun _ h_=>h_.1))) hb);have n1_:=Aside0.mk (Kd.R_below (by (with_reducible repeat (first|apply Kd.R_alloc|apply Kd.R_drewN|apply Kd.R_drew));exact (Kd.R_mono (Kd.R_far (p:=⟨gb819,2,none⟩) (Kd.R_far (p:=⟨gb819,1,none⟩) (Kd.R_far (p:=⟨gb819,0,none⟩) (Kd.R_types HO818.out BK819.out (by decide)) (fun _ hk=>hk.2) (.int .i64 t814)) (fun _ hk=>hk.2) (.int .i64 t815)) (fun _ hk=>hk.2) (.slice Ao24 t816.length co24)) (fun _ h_=>h_.1))) hb);have n2_:=Aside0.mk (blk_below (g:=gb805) (o:=.cells #[.int .i64 a0_0,.int .i64 a0_1,.slice A0_2 l0_2.length c0_2] 24 (0,0)) (by (with_reducible repeat (first|refine blk_drewN ?_ _|refine blk_drew ?_|refine blk_alloc ?_ _));refine blk_far ?_ NB805_819.out _;(with_reducible repeat (first|refine blk_drewN ?_ _|refine blk_drew ?_|refine blk_alloc ?_ _));refine blk_far ?_ NB805_819.out _;(with_reducible repeat (first|refine blk_drewN ?_ _|refine blk_drew ?_|refine blk_alloc ?_ _));refine blk_far ?_ NB805_819.out _;(with_reducible repeat (first|refine blk_drewN ?_ _|refine blk_drew ?_|refine blk_alloc ?_ _));exact BK805.out) hb);have n3_:=Aside0.mk (blk_below (g:=gb819) (o:=.cells #[.int .i64 t814,.int .i64 t815,.slice Ao24 t816.length co24] 28 (0,0)) (by (with_reducible repeat (first|refine blk_drewN ?_ _|refine blk_drew ?_|refine blk_alloc ?_ _));refine blk_put (cs:=#[.int .i64 t814,.int .i64 t815,.slice none 0 0]) ?_ 2 _ rfl;(with_reducible repeat (first|refine blk_drewN ?_ _|refine blk_drew ?_|refine blk_alloc ?_ _));refine blk_put (cs:=#[.int .i64 t814,.int .i64 0,.slice none 0 0]) ?_ 1 _ rfl;(with_reducible repeat (first|refine blk_drewN ?_ _|refine blk_drew ?_|refine blk_alloc ?_ _));refine blk_put (cs:=#[.int .i64 0,.int .i64 0,.slice none 0 0]) ?_ 0 _ rfl;(with_reducible repeat (first|refine blk_drewN ?_ _|refine blk_drew ?_|refine blk_alloc ?_ _));exact BK819.out) hb);have n4_:=Aside0.mk (below_step (by repeat (first|(with_reducible first|exact HB.out|apply below_alloc|apply pw_below_drewN|apply below_drew1|refine below_set ?_ GE805.out|refine below_set ?_ GE819.out)|exact HB.out)) hb);clear HO811;clear HO818;clear BK805;clear BK819;clear HB;have HO811:=n0_;have HO818:=n1_;have BK805:=n2_;have BK819:=n3_;have HB:=n4_;clear n0_ n1_ n2_ n3_ n4_;(try clear hb);(try clear hb2);(try clear hk);(try clear hi)))
  (try simp only [Act.put,List.setIfInBounds_toArray,List.set_cons_zero,List.set_cons_succ])
  go_cut [34] (fun v34 wc=>∃ (kq : Nat) (x34_10 : Bool),v34 = .bool x34_10 ∧ Aside0 (laws_FnExactCountFleets.j0 kq x34_10 a0_0 a0_1 l0_2 t814 t815 t816 = some r) ∧ Aside0 (kq ≤ k) ∧ Aside0 (Kd.R (Kd.int .i64) 2 wc w.heap.size (fun _=>True) (.slice Ao24 t816.length co24) t816) ∧ Aside0 (wc.heap[gb805]? = some (.cells #[.int .i64 a0_0,.int .i64 a0_1,(.slice A0_2 l0_2.length c0_2)] 24 (0,0))) ∧ Aside0 (wc.heap[gb819]? = some (.cells #[.int .i64 t814,.int .i64 t815,(.slice Ao24 t816.length co24)] 28 (0,0))) ∧ Aside0 (Below w.heap.size w wc))
  case first =>
   have H:=HC11.out
   clear HC11
   by_cases c26 : t820 = t812
   ·rw [if_pos c26] at H
    have c26b0 : (t820 == t812) = true:=beq_iff_eq.mpr c26
    have c26b1 : (t820 != t812) = false:=bne_eq_false_iff_eq.mpr c26
    clear c26
    (first|rw [c26b0]|(simp only [i64_w,i32_w];rw [c26b0])|skip)
    have H':=Aside0.mk H
    clear H
    go_wp2
    go_meet
    case rel=>exact ⟨_,((t821 != t813)),(by first|rfl|(simp;done)|(simp [*];done)),H',⟨by first|omega|exact Nat.le_refl _⟩,⟨by (with_reducible repeat (first|apply Kd.R_alloc|apply Kd.R_drewN|apply Kd.R_drew));exact Kd.R_mono HO818.out (fun _ hk=>trivial)⟩,⟨by (with_reducible repeat (first|refine blk_drewN ?_ _|refine blk_drew ?_|refine blk_alloc ?_ _));exact BK805.out⟩,⟨by (with_reducible repeat (first|refine blk_drewN ?_ _|refine blk_drew ?_|refine blk_alloc ?_ _));exact BK819.out⟩,⟨by repeat (first|(with_reducible first|exact HB.out|apply below_alloc|apply pw_below_drewN|apply below_drew1|refine below_set ?_ GE805.out|refine below_set ?_ GE819.out)|exact HB.out)⟩⟩
   ·rw [if_neg c26] at H
    have c26b0 : (t820 == t812) = false:=beq_eq_false_iff_ne.mpr c26
    have c26b1 : (t820 != t812) = true:=bne_iff_ne.mpr c26
    (first|rw [c26b0]|(simp only [i64_w,i32_w];rw [c26b0])|skip)
    have H':=Aside0.mk H
    clear H
    go_wp2
    go_meet
    case rel=>exact ⟨_,(true),(by first|rfl|(simp;done)|(simp [*];done)),H',⟨by first|omega|exact Nat.le_refl _⟩,⟨by (with_reducible repeat (first|apply Kd.R_alloc|apply Kd.R_drewN|apply Kd.R_drew));exact Kd.R_mono HO818.out (fun _ hk=>trivial)⟩,⟨by (with_reducible repeat (first|refine blk_drewN ?_ _|refine blk_drew ?_|refine blk_alloc ?_ _));exact BK805.out⟩,⟨by (with_reducible repeat (first|refine blk_drewN ?_ _|refine blk_drew ?_|refine blk_alloc ?_ _));exact BK819.out⟩,⟨by repeat (first|(with_reducible first|exact HB.out|apply below_alloc|apply pw_below_drewN|apply below_drew1|refine below_set ?_ GE805.out|refine below_set ?_ GE819.out)|exact HB.out)⟩⟩
  case rest =>
   clear HC11
   try clear c1
   try clear c2
   try clear p2
   try clear c3
   try clear c3b0
   try clear c5
   try clear c10
   try clear c12
   try clear c22
   try clear c23
   try clear c26
   try clear c26b0
   try clear c26b1
   try clear hcz13_0
   try clear hcz13_1
   try clear hcz13_2
   try clear hcz15_0
   try clear hcz15_1
   try clear hcz15_2
   try clear hcz19_0
   try clear hcz19_1
   try clear hcz19_2
   try clear hcz23_0
   try clear hcz23_1
   try clear hcz23_2
   try clear hcz5_0
   try clear hcz5_1
   try clear hcz5_2
   try clear hfz13_0
   try clear hfz13_1
   try clear hfz13_2
   try clear hfz15_0
   try clear hfz15_1
   try clear hfz15_2
   try clear hfz19_0
   try clear hfz19_1
   try clear hfz19_2
   try clear hfz23_0
   try clear hfz23_1
   try clear hfz23_2
   try clear hfz5_0
   try clear hfz5_1
   try clear hfz5_2
   obtain ⟨kq,x34_10,rfl,HA,HJ10,HO_820002,BK805,BK819,HB⟩:=hcut
   cases kq with
   | zero => exact absurd HA.out (by simp [laws_FnExactCountFleets.j0])
   | succ kj10 =>
    have H:=HA.out
    clear HA
    simp only [laws_FnExactCountFleets.j0] at H
    by_cases c27 : x34_10 = true
    ·subst c27
     have H1 : (some false) = some r:=by rw [if_pos rfl] at H;exact H
     clear H
     have H:=H1
     clear H1
     obtain rfl:=Option.some.inj H
     go_wp2
     go_ret
     exact ⟨by first|rfl|(simp [errW_none,errW_some] <;> rfl)|(simp [*,errW_none,errW_some] <;> rfl),by repeat (first|(with_reducible first|exact HB.out|apply below_alloc|apply pw_below_drewN|apply below_drew1|refine below_set ?_ GE805.out|refine below_set ?_ GE819.out)|exact HB.out)⟩
    ·replace c27:=Bool.eq_false_iff.mpr c27
     subst c27
     have H1 : ((laws_toSea.f kj10 a0_0 a0_1 l0_2).bind fun bt822=>((laws_eqSea.f kj10 t814 t815 t816 bt822.1 bt822.2.1 bt822.2.2).bind fun t827=>(if t827 = true then (some true) else (some false)))) = some r:=by rw [if_neg (show ¬ (false = true) by decide)] at H;exact H
     clear H
     have H:=H1
     clear H1
     replace H:=Option.bind_eq_some_iff.mp H
     obtain ⟨⟨t822,t823,t824⟩,A280,H⟩:=H
     replace H : ((laws_eqSea.f kj10 t814 t815 t816 t822 t823 t824).bind fun t827=>(if t827 = true then (some true) else (some false))) = some r:=H
     have A28:=Aside0.mk A280
     clear A280
     replace H:=Option.bind_eq_some_iff.mp H
     obtain ⟨t827,A290,H⟩:=H
     replace H : (if t827 = true then (some true) else (some false)) = some r:=H
     have A29:=Aside0.mk A290
     clear A290
     by_cases c30 : t827 = true
     ·subst c30
      have H1 : (some true) = some r:=by rw [if_pos rfl] at H;exact H
      clear H
      have H:=H1
      clear H1
      obtain rfl:=Option.some.inj H
      try go_wp2
      have n0_:=Aside0.mk (Kd.R_drew HO_820002.out)
      have n1_:=Aside0.mk (blk_drew BK805.out)
      have n2_:=Aside0.mk (blk_drew BK819.out)
      have n3_:=Aside0.mk (below_drew1 HB.out)
      clear HO_820002
      clear BK805
      clear BK819
      clear HB
      have HO_820002:=n0_
      have BK805:=n1_
      have BK819:=n2_
      have HB:=n3_
      clear n0_ n1_ n2_ n3_
      refine start_ (n:=5) (S:=fun w'=>w'.cell? ⟨gb819,0,none⟩ = some (.int .i64 t814) ∧ w'.cell? ⟨gb819,1,none⟩ = some (.int .i64 t815) ∧ w'.cell? ⟨gb819,2,none⟩ = some (.slice Ao24 t816.length co24) ∧ w'.cell? ⟨gb805,0,none⟩ = some (.int .i64 a0_0) ∧ w'.cell? ⟨gb805,1,none⟩ = some (.int .i64 a0_1) ∧ w'.cell? ⟨gb805,2,none⟩ = some (.slice A0_2 l0_2.length c0_2)) (ds:=[]) #[false,false,false,false,false] (by kernel_rfl) rfl rfl ⟨(blk_cell BK819.out 0).trans rfl,(blk_cell BK819.out 1).trans rfl,(blk_cell BK819.out 2).trans rfl,(blk_cell BK805.out 0).trans rfl,(blk_cell BK805.out 1).trans rfl,(blk_cell BK805.out 2).trans rfl⟩ (fun hHeld=>?_)
      generalize wc.drew = w31 at HO_820002 BK805 BK819 HB hHeld ⊢
      refine take_ (i:=0) (N:=some 35) (v:=?_) (a':=?_) #[true,false,false,false,false] rfl rfl (by kernel_rfl) (fun _ _ _ h=>h) (Or.inl ⟨by rfl,?_⟩) hHeld ?_ ?_
      rotate_left
      ·rintro w' ⟨s0,s1,s2,s3,s4,s5⟩
       go_simp
       with_reducible rfl
      rotate_left
      ·simp only [Act.put,List.setIfInBounds_toArray,List.set_cons_zero,List.set_cons_succ,i64_w,i32_w]
       rfl
      refine take_ (i:=1) (N:=some 36) (v:=?_) (a':=?_) #[true,true,false,false,false] rfl rfl (by kernel_rfl) (fun _ _ _ h=>h) (Or.inl ⟨by rfl,?_⟩) hHeld ?_ ?_
      rotate_left
      ·rintro w' ⟨s0,s1,s2,s3,s4,s5⟩
       go_simp
       with_reducible rfl
      rotate_left
      ·simp only [Act.put,List.setIfInBounds_toArray,List.set_cons_zero,List.set_cons_succ,i64_w,i32_w]
       rfl
      refine one_ (i:=2) (N:=some 37) #[true,true,true,false,false] rfl rfl (by kernel_rfl) (by decide) (fun K hK=>?_)
      refine goes_ Try.func12 (by kernel_rfl) rfl #[.agg #[.int .i64 a0_0,.int .i64 a0_1,.slice A0_2 l0_2.length c0_2]] (by rfl) rfl rfl (by (try simp only [List.map_toArray,List.map_cons,List.map_nil]);first|done|rfl|(simp only [List.length_drop,List.length_take];rfl)) ?_
      with_reducible refine (laws_toSea.calls kj10 a0_0 a0_1 _ _ l0_2 t822 t823 t824 _ ?side1 ?side2 A28.out).mono ?_
      (case side1=>repeat (first|exact (Kd.C_below HR0_2.out HB.out)|(with_reducible refine Kd.C_alloc ?_ _)|(with_reducible refine Kd.C_drewN ?_ _)|(with_reducible refine Kd.C_drew ?_)))
      (case side2=>exact HC0_2.out)
      rintro e w32 ⟨v825,rfl,ho0,hb⟩
      refine ⟨_,rfl,?_⟩
      have n0_:=Aside0.mk (Kd.R_elder' (by (with_reducible repeat (first|apply Kd.R_alloc|apply Kd.R_drewN|apply Kd.R_drew));exact HO_820002.out) (Kd.R_base ho0) hb)
      have n1_:=Aside0.mk (Kd.R_lower (Kd.R_new' ho0 (Kd.R_lt (by (with_reducible repeat (first|apply Kd.R_alloc|apply Kd.R_drewN|apply Kd.R_drew));exact HO_820002.out))) (below_size (by repeat (first|(with_reducible first|exact HB.out|apply below_alloc|apply pw_below_drewN|apply below_drew1|refine below_set ?_ GE805.out|refine below_set ?_ GE819.out)|exact HB.out))))
      have n2_:=Aside0.mk (blk_below (g:=gb805) (o:=.cells #[.int .i64 a0_0,.int .i64 a0_1,.slice A0_2 l0_2.length c0_2] 24 (0,0)) (by (with_reducible repeat (first|refine blk_drewN ?_ _|refine blk_drew ?_|refine blk_alloc ?_ _));exact BK805.out) hb)
      have n3_:=Aside0.mk (blk_below (g:=gb819) (o:=.cells #[.int .i64 t814,.int .i64 t815,.slice Ao24 t816.length co24] 28 (0,0)) (by (with_reducible repeat (first|refine blk_drewN ?_ _|refine blk_drew ?_|refine blk_alloc ?_ _));exact BK819.out) hb)
      have n4_:=Aside0.mk (below_step (by repeat (first|(with_reducible first|exact HB.out|apply below_alloc|apply pw_below_drewN|apply below_drew1|refine below_set ?_ GE805.out|refine below_set ?_ GE819.out)|exact HB.out)) hb)
      clear HO_820002
      clear BK805
      clear BK819
      clear HB
      have HO_820002:=n0_
      have HO826:=n1_
      have BK805:=n2_
      have BK819:=n3_
      have HB:=n4_
      clear n0_ n1_ n2_ n3_ n4_
      (try clear hb)
      (try clear hb2)
      (try clear hk)
      (try clear hi)
      (try clear ho0)
      obtain ⟨Ao33,co33,eo33⟩:=Kd.R_slice HO826.out
      (first|subst eo33|(injection eo33 with f1_ f2_ f3_;have f4_:=f1_.symm;have f5_:=f3_.symm;clear f1_ f2_ f3_;subst f4_;subst f5_))
      refine hK.out _ _ ⟨(blk_cell BK819.out 0).trans rfl,(blk_cell BK819.out 1).trans rfl,(blk_cell BK819.out 2).trans rfl,(blk_cell BK805.out 0).trans rfl,(blk_cell BK805.out 1).trans rfl,(blk_cell BK805.out 2).trans rfl⟩ (fun hHeld=>?_)
      clear hK K
      refine norm_ (a':=?_) ?_ ?_
      rotate_left
      ·show Act.put _ (some 37) _ = _
       simp only [Act.put,List.setIfInBounds_toArray,List.set_cons_zero,List.set_cons_succ,i64_w,i32_w]
       rfl
      refine one_ (i:=3) (N:=some 38) #[true,true,true,true,false] rfl rfl (by kernel_rfl) (by decide) (fun K hK=>?_)
      refine goes_ Try.func15 (by kernel_rfl) rfl #[.agg #[.int .i64 t814,.int .i64 t815,.slice Ao24 t816.length co24],.agg #[.int .i64 t822,.int .i64 t823,.slice Ao33 t824.length co33]] (by rfl) rfl rfl (by (try simp only [List.map_toArray,List.map_cons,List.map_nil]);first|done|rfl|(simp only [List.length_drop,List.length_take];rfl)) ?_
      with_reducible refine (laws_eqSea.calls kj10 t814 t815 _ _ t816 t822 t823 _ _ t824 true _ ?side1 ?side2 ?side3 ?side4 A29.out).mono ?_
      (case side1=>repeat (first|exact (Kd.R_reads' HO_820002.out).2.2|(with_reducible refine Kd.C_alloc ?_ _)|(with_reducible refine Kd.C_drewN ?_ _)|(with_reducible refine Kd.C_drew ?_)))
      (case side2=>exact (Kd.R_reads' HO_820002.out).2.1)
      (case side3=>repeat (first|exact (Kd.R_reads' HO826.out).2.2|(with_reducible refine Kd.C_alloc ?_ _)|(with_reducible refine Kd.C_drewN ?_ _)|(with_reducible refine Kd.C_drew ?_)))
      (case side4=>exact (Kd.R_reads' HO826.out).2.1)
      rintro e w34 ⟨rfl,hb⟩
      refine ⟨_,rfl,?_⟩
      have n0_:=Aside0.mk (Kd.R_below (by (with_reducible repeat (first|apply Kd.R_alloc|apply Kd.R_drewN|apply Kd.R_drew));exact HO_820002.out) hb)
      have n1_:=Aside0.mk (Kd.R_below (by (with_reducible repeat (first|apply Kd.R_alloc|apply Kd.R_drewN|apply Kd.R_drew));exact HO826.out) hb)
      have n2_:=Aside0.mk (blk_below (g:=gb805) (o:=.cells #[.int .i64 a0_0,.int .i64 a0_1,.slice A0_2 l0_2.length c0_2] 24 (0,0)) (by (with_reducible repeat (first|refine blk_drewN ?_ _|refine blk_drew ?_|refine blk_alloc ?_ _));exact BK805.out) hb)
      have n3_:=Aside0.mk (blk_below (g:=gb819) (o:=.cells #[.int .i64 t814,.int .i64 t815,.slice Ao24 t816.length co24] 28 (0,0)) (by (with_reducible repeat (first|refine blk_drewN ?_ _|refine blk_drew ?_|refine blk_alloc ?_ _));exact BK819.out) hb)
      have n4_:=Aside0.mk (below_step (by repeat (first|(with_reducible first|exact HB.out|apply below_alloc|apply pw_below_drewN|apply below_drew1|refine below_set ?_ GE805.out|refine below_set ?_ GE819.out)|exact HB.out)) hb)
      clear HO_820002
      clear HO826
      clear BK805
      clear BK819
      clear HB
      have HO_820002:=n0_
      have HO826:=n1_
      have BK805:=n2_
      have BK819:=n3_
      have HB:=n4_
      clear n0_ n1_ n2_ n3_ n4_
      (try clear hb)
      (try clear hb2)
      (try clear hk)
      (try clear hi)
      refine hK.out _ _ ⟨(blk_cell BK819.out 0).trans rfl,(blk_cell BK819.out 1).trans rfl,(blk_cell BK819.out 2).trans rfl,(blk_cell BK805.out 0).trans rfl,(blk_cell BK805.out 1).trans rfl,(blk_cell BK805.out 2).trans rfl⟩ (fun hHeld=>?_)
      clear hK K
      refine norm_ (a':=?_) ?_ ?_
      rotate_left
      ·show Act.put _ (some 38) _ = _
       simp only [Act.put,List.setIfInBounds_toArray,List.set_cons_zero,List.set_cons_succ,i64_w,i32_w]
       rfl
      refine pure_ (i:=4) (N:=some 39) (v:=?_) (a':=?_) #[true,true,true,true,true] rfl rfl (by kernel_rfl) (fun _ _ _ h=>h) (Or.inl ⟨by rfl,?_⟩) ?_ ?_
      rotate_left
      ·intro w'
       go_simp
       with_reducible rfl
      rotate_left
      ·simp only [Act.put,List.setIfInBounds_toArray,List.set_cons_zero,List.set_cons_succ,i64_w,i32_w]
       rfl
      refine done_ (by kernel_rfl) ?_
      try go_wp2
      go_ret
      exact ⟨by first|rfl|(simp [errW_none,errW_some] <;> rfl)|(simp [*,errW_none,errW_some] <;> rfl),by repeat (first|(with_reducible first|exact HB.out|apply below_alloc|apply pw_below_drewN|apply below_drew1|refine below_set ?_ GE805.out|refine below_set ?_ GE819.out)|exact HB.out)⟩
     ·replace c30:=Bool.eq_false_iff.mpr c30
      subst c30
      have H1 : (some false) = some r:=by rw [if_neg (show ¬ (false = true) by decide)] at H;exact H
      clear H
      have H:=H1
      clear H1
      obtain rfl:=Option.some.inj H
      try go_wp2
      have n0_:=Aside0.mk (Kd.R_drew HO_820002.out)
      have n1_:=Aside0.mk (blk_drew BK805.out)
      have n2_:=Aside0.mk (blk_drew BK819.out)
      have n3_:=Aside0.mk (below_drew1 HB.out)
      clear HO_820002
      clear BK805
      clear BK819
      clear HB
      have HO_820002:=n0_
      have BK805:=n1_
      have BK819:=n2_
      have HB:=n3_
      clear n0_ n1_ n2_ n3_
      refine start_ (n:=5) (S:=fun w'=>w'.cell? ⟨gb819,0,none⟩ = some (.int .i64 t814) ∧ w'.cell? ⟨gb819,1,none⟩ = some (.int .i64 t815) ∧ w'.cell? ⟨gb819,2,none⟩ = some (.slice Ao24 t816.length co24) ∧ w'.cell? ⟨gb805,0,none⟩ = some (.int .i64 a0_0) ∧ w'.cell? ⟨gb805,1,none⟩ = some (.int .i64 a0_1) ∧ w'.cell? ⟨gb805,2,none⟩ = some (.slice A0_2 l0_2.length c0_2)) (ds:=[]) #[false,false,false,false,false] (by kernel_rfl) rfl rfl ⟨(blk_cell BK819.out 0).trans rfl,(blk_cell BK819.out 1).trans rfl,(blk_cell BK819.out 2).trans rfl,(blk_cell BK805.out 0).trans rfl,(blk_cell BK805.out 1).trans rfl,(blk_cell BK805.out 2).trans rfl⟩ (fun hHeld=>?_)
      generalize wc.drew = w35 at HO_820002 BK805 BK819 HB hHeld ⊢
      refine take_ (i:=0) (N:=some 35) (v:=?_) (a':=?_) #[true,false,false,false,false] rfl rfl (by kernel_rfl) (fun _ _ _ h=>h) (Or.inl ⟨by rfl,?_⟩) hHeld ?_ ?_
      rotate_left
      ·rintro w' ⟨s0,s1,s2,s3,s4,s5⟩
       go_simp
       with_reducible rfl
      rotate_left
      ·simp only [Act.put,List.setIfInBounds_toArray,List.set_cons_zero,List.set_cons_succ,i64_w,i32_w]
       rfl
      refine take_ (i:=1) (N:=some 36) (v:=?_) (a':=?_) #[true,true,false,false,false] rfl rfl (by kernel_rfl) (fun _ _ _ h=>h) (Or.inl ⟨by rfl,?_⟩) hHeld ?_ ?_
      rotate_left
      ·rintro w' ⟨s0,s1,s2,s3,s4,s5⟩
       go_simp
       with_reducible rfl
      rotate_left
      ·simp only [Act.put,List.setIfInBounds_toArray,List.set_cons_zero,List.set_cons_succ,i64_w,i32_w]
       rfl
      refine one_ (i:=2) (N:=some 37) #[true,true,true,false,false] rfl rfl (by kernel_rfl) (by decide) (fun K hK=>?_)
      refine goes_ Try.func12 (by kernel_rfl) rfl #[.agg #[.int .i64 a0_0,.int .i64 a0_1,.slice A0_2 l0_2.length c0_2]] (by rfl) rfl rfl (by (try simp only [List.map_toArray,List.map_cons,List.map_nil]);first|done|rfl|(simp only [List.length_drop,List.length_take];rfl)) ?_
      with_reducible refine (laws_toSea.calls kj10 a0_0 a0_1 _ _ l0_2 t822 t823 t824 _ ?side1 ?side2 A28.out).mono ?_
      (case side1=>repeat (first|exact (Kd.C_below HR0_2.out HB.out)|(with_reducible refine Kd.C_alloc ?_ _)|(with_reducible refine Kd.C_drewN ?_ _)|(with_reducible refine Kd.C_drew ?_)))
      (case side2=>exact HC0_2.out)
      rintro e w36 ⟨v825,rfl,ho0,hb⟩
      refine ⟨_,rfl,?_⟩
      have n0_:=Aside0.mk (Kd.R_elder' (by (with_reducible repeat (first|apply Kd.R_alloc|apply Kd.R_drewN|apply Kd.R_drew));exact HO_820002.out) (Kd.R_base ho0) hb)
      have n1_:=Aside0.mk (Kd.R_lower (Kd.R_new' ho0 (Kd.R_lt (by (with_reducible repeat (first|apply Kd.R_alloc|apply Kd.R_drewN|apply Kd.R_drew));exact HO_820002.out))) (below_size (by repeat (first|(with_reducible first|exact HB.out|apply below_alloc|apply pw_below_drewN|apply below_drew1|refine below_set ?_ GE805.out|refine below_set ?_ GE819.out)|exact HB.out))))
      have n2_:=Aside0.mk (blk_below (g:=gb805) (o:=.cells #[.int .i64 a0_0,.int .i64 a0_1,.slice A0_2 l0_2.length c0_2] 24 (0,0)) (by (with_reducible repeat (first|refine blk_drewN ?_ _|refine blk_drew ?_|refine blk_alloc ?_ _));exact BK805.out) hb)
      have n3_:=Aside0.mk (blk_below (g:=gb819) (o:=.cells #[.int .i64 t814,.int .i64 t815,.slice Ao24 t816.length co24] 28 (0,0)) (by (with_reducible repeat (first|refine blk_drewN ?_ _|refine blk_drew ?_|refine blk_alloc ?_ _));exact BK819.out) hb)
      have n4_:=Aside0.mk (below_step (by repeat (first|(with_reducible first|exact HB.out|apply below_alloc|apply pw_below_drewN|apply below_drew1|refine below_set ?_ GE805.out|refine below_set ?_ GE819.out)|exact HB.out)) hb)
      clear HO_820002
      clear BK805
      clear BK819
      clear HB
      have HO_820002:=n0_
      have HO826:=n1_
      have BK805:=n2_
      have BK819:=n3_
      have HB:=n4_
      clear n0_ n1_ n2_ n3_ n4_
      (try clear hb)
      (try clear hb2)
      (try clear hk)
      (try clear hi)
      (try clear ho0)
      obtain ⟨Ao37,co37,eo37⟩:=Kd.R_slice HO826.out
      (first|subst eo37|(injection eo37 with f1_ f2_ f3_;have f4_:=f1_.symm;have f5_:=f3_.symm;clear f1_ f2_ f3_;subst f4_;subst f5_))
      refine hK.out _ _ ⟨(blk_cell BK819.out 0).trans rfl,(blk_cell BK819.out 1).trans rfl,(blk_cell BK819.out 2).trans rfl,(blk_cell BK805.out 0).trans rfl,(blk_cell BK805.out 1).trans rfl,(blk_cell BK805.out 2).trans rfl⟩ (fun hHeld=>?_)
      clear hK K
      refine norm_ (a':=?_) ?_ ?_
      rotate_left
      ·show Act.put _ (some 37) _ = _
       simp only [Act.put,List.setIfInBounds_toArray,List.set_cons_zero,List.set_cons_succ,i64_w,i32_w]
       rfl
      refine one_ (i:=3) (N:=some 38) #[true,true,true,true,false] rfl rfl (by kernel_rfl) (by decide) (fun K hK=>?_)
      refine goes_ Try.func15 (by kernel_rfl) rfl #[.agg #[.int .i64 t814,.int .i64 t815,.slice Ao24 t816.length co24],.agg #[.int .i64 t822,.int .i64 t823,.slice Ao37 t824.length co37]] (by rfl) rfl rfl (by (try simp only [List.map_toArray,List.map_cons,List.map_nil]);first|done|rfl|(simp only [List.length_drop,List.length_take];rfl)) ?_
      with_reducible refine (laws_eqSea.calls kj10 t814 t815 _ _ t816 t822 t823 _ _ t824 false _ ?side1 ?side2 ?side3 ?side4 A29.out).mono ?_
      (case side1=>repeat (first|exact (Kd.R_reads' HO_820002.out).2.2|(with_reducible refine Kd.C_alloc ?_ _)|(with_reducible refine Kd.C_drewN ?_ _)|(with_reducible refine Kd.C_drew ?_)))
      (case side2=>exact (Kd.R_reads' HO_820002.out).2.1)
      (case side3=>repeat (first|exact (Kd.R_reads' HO826.out).2.2|(with_reducible refine Kd.C_alloc ?_ _)|(with_reducible refine Kd.C_drewN ?_ _)|(with_reducible refine Kd.C_drew ?_)))
      (case side4=>exact (Kd.R_reads' HO826.out).2.1)
      rintro e w38 ⟨rfl,hb⟩
      refine ⟨_,rfl,?_⟩
      have n0_:=Aside0.mk (Kd.R_below (by (with_reducible repeat (first|apply Kd.R_alloc|apply Kd.R_drewN|apply Kd.R_drew));exact HO_820002.out) hb)
      have n1_:=Aside0.mk (Kd.R_below (by (with_reducible repeat (first|apply Kd.R_alloc|apply Kd.R_drewN|apply Kd.R_drew));exact HO826.out) hb)
      have n2_:=Aside0.mk (blk_below (g:=gb805) (o:=.cells #[.int .i64 a0_0,.int .i64 a0_1,.slice A0_2 l0_2.length c0_2] 24 (0,0)) (by (with_reducible repeat (first|refine blk_drewN ?_ _|refine blk_drew ?_|refine blk_alloc ?_ _));exact BK805.out) hb)
      have n3_:=Aside0.mk (blk_below (g:=gb819) (o:=.cells #[.int .i64 t814,.int .i64 t815,.slice Ao24 t816.length co24] 28 (0,0)) (by (with_reducible repeat (first|refine blk_drewN ?_ _|refine blk_drew ?_|refine blk_alloc ?_ _));exact BK819.out) hb)
      have n4_:=Aside0.mk (below_step (by repeat (first|(with_reducible first|exact HB.out|apply below_alloc|apply pw_below_drewN|apply below_drew1|refine below_set ?_ GE805.out|refine below_set ?_ GE819.out)|exact HB.out)) hb)
      clear HO_820002
      clear HO826
      clear BK805
      clear BK819
      clear HB
      have HO_820002:=n0_
      have HO826:=n1_
      have BK805:=n2_
      have BK819:=n3_
      have HB:=n4_
      clear n0_ n1_ n2_ n3_ n4_
      (try clear hb)
      (try clear hb2)
      (try clear hk)
      (try clear hi)
      refine hK.out _ _ ⟨(blk_cell BK819.out 0).trans rfl,(blk_cell BK819.out 1).trans rfl,(blk_cell BK819.out 2).trans rfl,(blk_cell BK805.out 0).trans rfl,(blk_cell BK805.out 1).trans rfl,(blk_cell BK805.out 2).trans rfl⟩ (fun hHeld=>?_)
      clear hK K
      refine norm_ (a':=?_) ?_ ?_
      rotate_left
      ·show Act.put _ (some 38) _ = _
       simp only [Act.put,List.setIfInBounds_toArray,List.set_cons_zero,List.set_cons_succ,i64_w,i32_w]
       rfl
      refine pure_ (i:=4) (N:=some 39) (v:=?_) (a':=?_) #[true,true,true,true,true] rfl rfl (by kernel_rfl) (fun _ _ _ h=>h) (Or.inl ⟨by rfl,?_⟩) ?_ ?_
      rotate_left
      ·intro w'
       go_simp
       with_reducible rfl
      rotate_left
      ·simp only [Act.put,List.setIfInBounds_toArray,List.set_cons_zero,List.set_cons_succ,i64_w,i32_w]
       rfl
      refine done_ (by kernel_rfl) ?_
      try go_wp2
      go_ret
      exact ⟨by first|rfl|(simp [errW_none,errW_some] <;> rfl)|(simp [*,errW_none,errW_some] <;> rfl),by repeat (first|(with_reducible first|exact HB.out|apply below_alloc|apply pw_below_drewN|apply below_drew1|refine below_set ?_ GE805.out|refine below_set ?_ GE819.out)|exact HB.out)⟩

-- NOT PRINTED: function 24 (spec_FleetList)

end Go.Proofs.Ytankgbfddgpfmaa.PAll
