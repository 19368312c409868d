-- Written by wip/pp.py of this work (a driver around the kit's print), out of the translation; Lean checks it.
import Derived.Test.YtcfdlbjngpmcaaaDoorPAllx0
import Derived.Test.YtcfdlbjngpmcaaaDoorPAllx1
import Derived.Test.YtcfdlbjngpmcaaaDoorPAllx4
import Derived.Test.YtcfdlbjngpmcaaaDoorPAllx7
import Derived.Test.YtcfdlbjngpmcaaaDoorPAllx8
import Derived.Test.YtcfdlbjngpmcaaaDoorPAllx9
import Derived.Test.YtcfdlbjngpmcaaaDoorMerged21
namespace Go.Proofs.YtcfdlbjngpmcaaaDoor.PAll
open Go.RowKit Go.Proofs.YtcfdlbjngpmcaaaDoorW.PrintWords Go.Proofs.YtcfdlbjngpmcaaaDoorW.PrintLast Go.Proofs.YtcfdlbjngpmcaaaDoorW.PrintMore
attribute [local go_sem] max2_int min2_int max_two min_two max_three min_three max_four min_four   -- for this text's walks alone
set_option linter.unusedVariables false
set_option linter.unusedSimpArgs false

/-! ### laws_FnExactHexMoves: function 4 -/
mutual
def laws_FnExactHexMoves.j0 : Nat → List Int → Int → List Int → Int → Bool → Int → List Int → Int → List Int → Option (Bool)
 | 0, _, _, _, _, _, _, _, _, _ => none
 | k + 1, x4, x5, x7, x8, x40, x316000, x316001, x330000, x330001 => if x40 = true then (some false) else ((laws_toHex.f k x316000 x316001).bind fun bt335 => ((laws_eqHex.f k x330000 x330001 bt335.1 bt335.2).bind fun t339 => (if t339 = true then ((laws_markHex.f k x330000 x330001 1).bind fun bt340 => (if bt340.1 < 0 then (laws_FnExactHexMoves.j1 k x4 x5 x7 true x316000 x316001) else ((laws_eqInt64S.f k x7 x4).bind fun t342 => (if t342 = true then (laws_FnExactHexMoves.j1 k x4 x5 x7 (x8 != x5) x316000 x316001) else (laws_FnExactHexMoves.j1 k x4 x5 x7 true x316000 x316001))))) else (some false))))
def laws_FnExactHexMoves.j1 : Nat → List Int → Int → List Int → Bool → Int → List Int → Option (Bool)
 | 0, _, _, _, _, _, _ => none
 | k + 1, x4, x5, x7, x61, x316000, x316001 => if x61 = true then (some false) else ((laws_markInt64S.f k x7 1).bind fun bt343 => ((laws_heldInt64S.f k bt343.2 1).bind fun t345 => (if t345 < 0 then (some false) else (if t345 = bt343.1 then ((laws_toHex.f k x316000 x316001).bind fun bt346 => ((impl_HexMoves.f k bt346.1 bt346.2).bind fun bt350 => ((laws_eqInt64S.f k bt350.1 x4).bind fun t354 => (if t354 = true then (laws_FnExactHexMoves.j2 k bt343.2 bt343.1 (bt350.2 != x5)) else (laws_FnExactHexMoves.j2 k bt343.2 bt343.1 true))))) else (some false)))))
def laws_FnExactHexMoves.j2 : Nat → List Int → Int → Bool → Option (Bool)
 | 0, _, _, _ => none
 | k + 1, x7, x10, x87 => if x87 = true then (some false) else ((laws_heldInt64S.f k x7 1).bind fun t355 => (if t355 < 0 then (some false) else (if t355 = x10 then (some true) else (some false))))
end
def laws_FnExactHexMoves.f (k : Nat) (a0_0 : Int) (l0_1 : List Int) : Option (Bool) := (laws_szHex.f a0_0 l0_1 1048576).bind fun t316 => (if t316 < 0 then (some true) else ((laws_toHex.f k a0_0 l0_1).bind fun bt317 => ((spec_HexMoves.f k bt317.1 bt317.2).bind fun bt321 => ((laws_toHex.f k a0_0 l0_1).bind fun bt325 => ((impl_HexMoves.f k bt325.1 bt325.2).bind fun bt330 => ((laws_eqInt64S.f k bt330.1 bt321.1).bind fun t334 => (if t334 = true then (laws_FnExactHexMoves.j0 k bt321.1 bt321.2 bt330.1 bt330.2 (bt330.2 != bt321.2) a0_0 l0_1 bt325.1 bt325.2) else (laws_FnExactHexMoves.j0 k bt321.1 bt321.2 bt330.1 bt330.2 true a0_0 l0_1 bt325.1 bt325.2))))))))
set_option maxHeartbeats 8000000 in
set_option maxRecDepth 100000 in
theorem laws_FnExactHexMoves.calls (k : Nat) (a0_0 : Int) (A0_1 : Option Addr) (c0_1 : Nat) (l0_1 : List Int) (r : Bool) (w : World) (hr0_1 : Kd.C (Kd.int .i64) w A0_1 l0_1.length l0_1) (hc0_1 : l0_1.length ≤ c0_1) (h : laws_FnExactHexMoves.f k a0_0 l0_1 = some r) :
  Calls Tryd.prog 4 #[.agg #[.int .i64 a0_0,.slice A0_1 l0_1.length c0_1]] w fun e w'=>e = .returned (.bool r) ∧ Below w.heap.size w w':=by
 have hu24:=Tryd.underlying24
 have hu28:=Tryd.underlying28
 have HR0_1:=Aside0.mk hr0_1
 have HC0_1:=Aside0.mk hc0_1
 clear hr0_1 hc0_1
 have HB:=Aside0.mk (Below.refl w.heap.size w)
 have H : ((laws_szHex.f a0_0 l0_1 1048576).bind fun t316=>(if t316 < 0 then (some true) else ((laws_toHex.f k a0_0 l0_1).bind fun bt317=>((spec_HexMoves.f k bt317.1 bt317.2).bind fun bt321=>((laws_toHex.f k a0_0 l0_1).bind fun bt325=>((impl_HexMoves.f k bt325.1 bt325.2).bind fun bt330=>((laws_eqInt64S.f k bt330.1 bt321.1).bind fun t334=>(if t334 = true then (laws_FnExactHexMoves.j0 k bt321.1 bt321.2 bt330.1 bt330.2 (bt330.2 != bt321.2) a0_0 l0_1 bt325.1 bt325.2) else (laws_FnExactHexMoves.j0 k bt321.1 bt321.2 bt330.1 bt330.2 true a0_0 l0_1 bt325.1 bt325.2))))))))) = some r:=h
 clear h
 replace H:=Option.bind_eq_some_iff.mp H
 obtain ⟨t316,A20,H⟩:=H
 replace H : (if t316 < 0 then (some true) else ((laws_toHex.f k a0_0 l0_1).bind fun bt317=>((spec_HexMoves.f k bt317.1 bt317.2).bind fun bt321=>((laws_toHex.f k a0_0 l0_1).bind fun bt325=>((impl_HexMoves.f k bt325.1 bt325.2).bind fun bt330=>((laws_eqInt64S.f k bt330.1 bt321.1).bind fun t334=>(if t334 = true then (laws_FnExactHexMoves.j0 k bt321.1 bt321.2 bt330.1 bt330.2 (bt330.2 != bt321.2) a0_0 l0_1 bt325.1 bt325.2) else (laws_FnExactHexMoves.j0 k bt321.1 bt321.2 bt330.1 bt330.2 true a0_0 l0_1 bt325.1 bt325.2)))))))) = some r:=H
 have A2:=Aside0.mk A20
 clear A20
 by_cases c3 : t316 < 0
 ·rw [if_pos c3] at H
  have c3b0 : decide (t316 < 0) = true:=decide_eq_true c3
  clear c3
  obtain rfl:=Option.some.inj H
  go_enter Tryd.func4,Tryd.ntmps4
  go_wp2_with (first|((with_reducible refine gate_dst (N:=1) rfl ?_);refine box_event ?hg (N:=1) ?hd (cs:=#[.int .i64 a0_0,.slice A0_1 l0_1.length c0_1]) (t:=24) ?hr ?_;(case hd=>rfl);(case hg=>rfl);(case hr=>first|(go_simp;done)|(go_simp;rfl));intro gb315 hg w4 hbox hb;have n0_:=Aside0.mk (below_step (by repeat (first|(with_reducible first|exact HB.out|apply below_alloc|apply pw_below_drewN|apply below_drew1)|exact HB.out)) hb);have n1_:=Aside0.mk (hbox);have n2_:=Aside0.mk ((by rw [hg];exact (below_size (by repeat (first|(with_reducible first|exact HB.out|apply below_alloc|apply pw_below_drewN|apply below_drew1)|exact HB.out))) : w.heap.size ≤ gb315));have n3_:=Aside0.mk ((by rw [hg];exact (below_size (by repeat (first|(with_reducible first|exact HB.out|apply below_alloc|apply pw_below_drewN|apply below_drew1)|exact HB.out))) : w.heap.size ≤ gb315));clear HB;have HB:=n0_;have BK315:=n1_;have GW315:=n2_;have GE315:=n3_;clear n0_ n1_ n2_ n3_;clear hb hbox hg;have hcz5_0 : w4.cell? ⟨gb315,0,none⟩ = some (.int .i64 a0_0):=(blk_cell BK315.out 0).trans rfl;have hcz5_1 : w4.cell? ⟨gb315,1,none⟩ = some (.slice A0_1 l0_1.length c0_1):=(blk_cell BK315.out 1).trans rfl;have hfz5_0:=blk_frozen BK315.out 0;have hfz5_1:=blk_frozen BK315.out 1)|((with_reducible refine gate_callee (f:=5) rfl ?_);refine goesL_ (some 16) rfl rfl Tryd.func5 (by kernel_rfl) rfl #[.agg #[.int .i64 a0_0,.slice A0_1 l0_1.length c0_1],.int .i64 1048576] rfl (by (try simp only [List.map_toArray,List.map_cons,List.map_nil]);first|done|rfl|(simp only [List.length_drop,List.length_take];rfl)) ?_;(with_reducible refine (laws_szHex.calls a0_0 _ _ l0_1 1048576 t316 _ ?side1 ?side2 A2.out).mono ?_);(case side1=>repeat (first|exact (Kd.C_below HR0_1.out HB.out)|(with_reducible refine Kd.C_alloc ?_ _)|(with_reducible refine Kd.C_drewN ?_ _)|(with_reducible refine Kd.C_drew ?_)));(case side2=>exact HC0_1.out);rintro e w6 ⟨rfl,hb⟩;refine ⟨_,rfl,?_⟩;have n0_:=Aside0.mk (blk_below (g:=gb315) (o:=.cells #[.int .i64 a0_0,.slice A0_1 l0_1.length c0_1] 24 (0,0)) (by (with_reducible repeat (first|refine blk_drewN ?_ _|refine blk_drew ?_|refine blk_alloc ?_ _));exact BK315.out) hb);have n1_:=Aside0.mk (below_step (by repeat (first|(with_reducible first|exact HB.out|apply below_alloc|apply pw_below_drewN|apply below_drew1|refine below_set ?_ GE315.out)|exact HB.out)) hb);clear BK315;clear HB;have BK315:=n0_;have HB:=n1_;clear n0_ n1_;(try clear hb);(try clear hb2);(try clear hk);(try clear hi)))
  go_ret
  exact ⟨by first|rfl|(simp [errW_none,errW_some] <;> rfl)|(simp [*,errW_none,errW_some] <;> rfl),by repeat (first|(with_reducible first|exact HB.out|apply below_alloc|apply pw_below_drewN|apply below_drew1|refine below_set ?_ GE315.out)|exact HB.out)⟩
 ·rw [if_neg c3] at H
  have c3b0 : decide (t316 < 0) = false:=decide_eq_false c3
  clear c3
  replace H:=Option.bind_eq_some_iff.mp H
  obtain ⟨⟨t317,t318⟩,A70,H⟩:=H
  replace H : ((spec_HexMoves.f k t317 t318).bind fun bt321=>((laws_toHex.f k a0_0 l0_1).bind fun bt325=>((impl_HexMoves.f k bt325.1 bt325.2).bind fun bt330=>((laws_eqInt64S.f k bt330.1 bt321.1).bind fun t334=>(if t334 = true then (laws_FnExactHexMoves.j0 k bt321.1 bt321.2 bt330.1 bt330.2 (bt330.2 != bt321.2) a0_0 l0_1 bt325.1 bt325.2) else (laws_FnExactHexMoves.j0 k bt321.1 bt321.2 bt330.1 bt330.2 true a0_0 l0_1 bt325.1 bt325.2)))))) = some r:=H
  have A7:=Aside0.mk A70
  clear A70
  replace H:=Option.bind_eq_some_iff.mp H
  obtain ⟨⟨t321,t324⟩,A80,H⟩:=H
  replace H : ((laws_toHex.f k a0_0 l0_1).bind fun bt325=>((impl_HexMoves.f k bt325.1 bt325.2).bind fun bt330=>((laws_eqInt64S.f k bt330.1 t321).bind fun t334=>(if t334 = true then (laws_FnExactHexMoves.j0 k t321 t324 bt330.1 bt330.2 (bt330.2 != t324) a0_0 l0_1 bt325.1 bt325.2) else (laws_FnExactHexMoves.j0 k t321 t324 bt330.1 bt330.2 true a0_0 l0_1 bt325.1 bt325.2))))) = some r:=H
  have A8:=Aside0.mk A80
  clear A80
  replace H:=Option.bind_eq_some_iff.mp H
  obtain ⟨⟨t325,t326⟩,A90,H⟩:=H
  replace H : ((impl_HexMoves.f k t325 t326).bind fun bt330=>((laws_eqInt64S.f k bt330.1 t321).bind fun t334=>(if t334 = true then (laws_FnExactHexMoves.j0 k t321 t324 bt330.1 bt330.2 (bt330.2 != t324) a0_0 l0_1 t325 t326) else (laws_FnExactHexMoves.j0 k t321 t324 bt330.1 bt330.2 true a0_0 l0_1 t325 t326)))) = some r:=H
  have A9:=Aside0.mk A90
  clear A90
  replace H:=Option.bind_eq_some_iff.mp H
  obtain ⟨⟨t330,t333⟩,A100,H⟩:=H
  replace H : ((laws_eqInt64S.f k t330 t321).bind fun t334=>(if t334 = true then (laws_FnExactHexMoves.j0 k t321 t324 t330 t333 (t333 != t324) a0_0 l0_1 t325 t326) else (laws_FnExactHexMoves.j0 k t321 t324 t330 t333 true a0_0 l0_1 t325 t326))) = some r:=H
  have A10:=Aside0.mk A100
  clear A100
  have HC11:=Aside0.mk H
  clear H
  go_enter Tryd.func4,Tryd.ntmps4
  go_upto_region 8 with (first|((with_reducible refine gate_dst (N:=1) rfl ?_);refine box_event ?hg (N:=1) ?hd (cs:=#[.int .i64 a0_0,.slice A0_1 l0_1.length c0_1]) (t:=24) ?hr ?_;(case hd=>rfl);(case hg=>rfl);(case hr=>first|(go_simp;done)|(go_simp;rfl));intro gb315 hg w12 hbox hb;have n0_:=Aside0.mk (below_step (by repeat (first|(with_reducible first|exact HB.out|apply below_alloc|apply pw_below_drewN|apply below_drew1)|exact HB.out)) hb);have n1_:=Aside0.mk (hbox);have n2_:=Aside0.mk ((by rw [hg];exact (below_size (by repeat (first|(with_reducible first|exact HB.out|apply below_alloc|apply pw_below_drewN|apply below_drew1)|exact HB.out))) : w.heap.size ≤ gb315));have n3_:=Aside0.mk ((by rw [hg];exact (below_size (by repeat (first|(with_reducible first|exact HB.out|apply below_alloc|apply pw_below_drewN|apply below_drew1)|exact HB.out))) : w.heap.size ≤ gb315));clear HB;have HB:=n0_;have BK315:=n1_;have GW315:=n2_;have GE315:=n3_;clear n0_ n1_ n2_ n3_;clear hb hbox hg;have hcz13_0 : w12.cell? ⟨gb315,0,none⟩ = some (.int .i64 a0_0):=(blk_cell BK315.out 0).trans rfl;have hcz13_1 : w12.cell? ⟨gb315,1,none⟩ = some (.slice A0_1 l0_1.length c0_1):=(blk_cell BK315.out 1).trans rfl;have hfz13_0:=blk_frozen BK315.out 0;have hfz13_1:=blk_frozen BK315.out 1)|((with_reducible refine gate_callee (f:=5) rfl ?_);refine goesL_ (some 16) rfl rfl Tryd.func5 (by kernel_rfl) rfl #[.agg #[.int .i64 a0_0,.slice A0_1 l0_1.length c0_1],.int .i64 1048576] rfl (by (try simp only [List.map_toArray,List.map_cons,List.map_nil]);first|done|rfl|(simp only [List.length_drop,List.length_take];rfl)) ?_;(with_reducible refine (laws_szHex.calls a0_0 _ _ l0_1 1048576 t316 _ ?side1 ?side2 A2.out).mono ?_);(case side1=>repeat (first|exact (Kd.C_below HR0_1.out HB.out)|(with_reducible refine Kd.C_alloc ?_ _)|(with_reducible refine Kd.C_drewN ?_ _)|(with_reducible refine Kd.C_drew ?_)));(case side2=>exact HC0_1.out);rintro e w14 ⟨rfl,hb⟩;refine ⟨_,rfl,?_⟩;have n0_:=Aside0.mk (blk_below (g:=gb315) (o:=.cells #[.int .i64 a0_0,.slice A0_1 l0_1.length c0_1] 24 (0,0)) (by (with_reducible repeat (first|refine blk_drewN ?_ _|refine blk_drew ?_|refine blk_alloc ?_ _));exact BK315.out) hb);have n1_:=Aside0.mk (below_step (by repeat (first|(with_reducible first|exact HB.out|apply below_alloc|apply pw_below_drewN|apply below_drew1|refine below_set ?_ GE315.out)|exact HB.out)) hb);clear BK315;clear HB;have BK315:=n0_;have HB:=n1_;clear n0_ n1_;(try clear hb);(try clear hb2);(try clear hk);(try clear hi);have hcz15_0 : w14.cell? ⟨gb315,0,none⟩ = some (.int .i64 a0_0):=(blk_cell BK315.out 0).trans rfl;have hcz15_1 : w14.cell? ⟨gb315,1,none⟩ = some (.slice A0_1 l0_1.length c0_1):=(blk_cell BK315.out 1).trans rfl;have hfz15_0:=blk_frozen BK315.out 0;have hfz15_1:=blk_frozen BK315.out 1)|((with_reducible refine gate_callee (f:=7) rfl ?_);refine goesL_ (some 21) rfl rfl Tryd.func7 (by kernel_rfl) rfl #[.agg #[.int .i64 a0_0,.slice A0_1 l0_1.length c0_1]] rfl (by (try simp only [List.map_toArray,List.map_cons,List.map_nil]);first|done|rfl|(simp only [List.length_drop,List.length_take];rfl)) ?_;(with_reducible refine (laws_toHex.calls k a0_0 _ _ l0_1 t317 t318 _ ?side1 ?side2 A7.out).mono ?_);(case side1=>repeat (first|exact (Kd.C_below HR0_1.out HB.out)|(with_reducible refine Kd.C_alloc ?_ _)|(with_reducible refine Kd.C_drewN ?_ _)|(with_reducible refine Kd.C_drew ?_)));(case side2=>exact HC0_1.out);rintro e w16 ⟨v319,rfl,ho0,hb⟩;refine ⟨_,rfl,?_⟩;have n0_:=Aside0.mk (Kd.R_lower ho0 (below_size (by repeat (first|(with_reducible first|exact HB.out|apply below_alloc|apply pw_below_drewN|apply below_drew1|refine below_set ?_ GE315.out)|exact HB.out))));have n1_:=Aside0.mk (blk_below (g:=gb315) (o:=.cells #[.int .i64 a0_0,.slice A0_1 l0_1.length c0_1] 24 (0,0)) (by (with_reducible repeat (first|refine blk_drewN ?_ _|refine blk_drew ?_|refine blk_alloc ?_ _));exact BK315.out) hb);have n2_:=Aside0.mk (below_step (by repeat (first|(with_reducible first|exact HB.out|apply below_alloc|apply pw_below_drewN|apply below_drew1|refine below_set ?_ GE315.out)|exact HB.out)) hb);clear BK315;clear HB;have HO320:=n0_;have BK315:=n1_;have HB:=n2_;clear n0_ n1_ n2_;(try clear hb);(try clear hb2);(try clear hk);(try clear hi);(try clear ho0);obtain ⟨Ao17,co17,eo17⟩:=Kd.R_slice HO320.out;subst eo17)|((with_reducible refine gate_callee (f:=10) rfl ?_);refine goesL_ (some 22) rfl rfl Tryd.func10 (by kernel_rfl) rfl #[.agg #[.int .i64 t317,.slice Ao17 t318.length co17]] rfl (by (try simp only [List.map_toArray,List.map_cons,List.map_nil]);first|done|rfl|(simp only [List.length_drop,List.length_take];rfl)) ?_;(with_reducible refine (spec_HexMoves.calls k t317 _ _ t318 t321 t324 _ ?side1 ?side2 A8.out).mono ?_);(case side1=>repeat (first|exact (Kd.R_reads' HO320.out).2.2|(with_reducible refine Kd.C_alloc ?_ _)|(with_reducible refine Kd.C_drewN ?_ _)|(with_reducible refine Kd.C_drew ?_)));(case side2=>exact (Kd.R_reads' HO320.out).2.1);rintro e w18 ⟨v322,rfl,ho0,hb⟩;refine ⟨_,rfl,?_⟩;have n0_:=Aside0.mk (Kd.R_elder' (by (with_reducible repeat (first|apply Kd.R_alloc|apply Kd.R_drewN|apply Kd.R_drew));exact HO320.out) (Kd.R_base ho0) hb);have n1_:=Aside0.mk (Kd.R_lower (Kd.R_new' ho0 (Kd.R_lt (by (with_reducible repeat (first|apply Kd.R_alloc|apply Kd.R_drewN|apply Kd.R_drew));exact HO320.out))) (below_size (by repeat (first|(with_reducible first|exact HB.out|apply below_alloc|apply pw_below_drewN|apply below_drew1|refine below_set ?_ GE315.out)|exact HB.out))));have n2_:=Aside0.mk (blk_below (g:=gb315) (o:=.cells #[.int .i64 a0_0,.slice A0_1 l0_1.length c0_1] 24 (0,0)) (by (with_reducible repeat (first|refine blk_drewN ?_ _|refine blk_drew ?_|refine blk_alloc ?_ _));exact BK315.out) hb);have n3_:=Aside0.mk (below_step (by repeat (first|(with_reducible first|exact HB.out|apply below_alloc|apply pw_below_drewN|apply below_drew1|refine below_set ?_ GE315.out)|exact HB.out)) hb);clear HO320;clear BK315;clear HB;have HO320:=n0_;have HO323:=n1_;have BK315:=n2_;have HB:=n3_;clear n0_ n1_ n2_ n3_;(try clear hb);(try clear hb2);(try clear hk);(try clear hi);(try clear ho0);have hcz19_0 : w18.cell? ⟨gb315,0,none⟩ = some (.int .i64 a0_0):=(blk_cell BK315.out 0).trans rfl;have hcz19_1 : w18.cell? ⟨gb315,1,none⟩ = some (.slice A0_1 l0_1.length c0_1):=(blk_cell BK315.out 1).trans rfl;have hfz19_0:=blk_frozen BK315.out 0;have hfz19_1:=blk_frozen BK315.out 1)|((with_reducible refine gate_callee (f:=7) rfl ?_);refine goesL_ (some 26) rfl rfl Tryd.func7 (by kernel_rfl) rfl #[.agg #[.int .i64 a0_0,.slice A0_1 l0_1.length c0_1]] rfl (by (try simp only [List.map_toArray,List.map_cons,List.map_nil]);first|done|rfl|(simp only [List.length_drop,List.length_take];rfl)) ?_;(with_reducible refine (laws_toHex.calls k a0_0 _ _ l0_1 t325 t326 _ ?side1 ?side2 A9.out).mono ?_);(case side1=>repeat (first|exact (Kd.C_below HR0_1.out HB.out)|(with_reducible refine Kd.C_alloc ?_ _)|(with_reducible refine Kd.C_drewN ?_ _)|(with_reducible refine Kd.C_drew ?_)));(case side2=>exact HC0_1.out);rintro e w20 ⟨v327,rfl,ho0,hb⟩;refine ⟨_,rfl,?_⟩;have n0_:=Aside0.mk (Kd.R_elder' (by (with_reducible repeat (first|apply Kd.R_alloc|apply Kd.R_drewN|apply Kd.R_drew));exact HO320.out) (Kd.R_base ho0) hb);have n1_:=Aside0.mk (Kd.R_elder' (by (with_reducible repeat (first|apply Kd.R_alloc|apply Kd.R_drewN|apply Kd.R_drew));exact HO323.out) (Kd.R_base ho0) hb);have n2_:=Aside0.mk (Kd.R_lower (Kd.R_new' (Kd.R_new' ho0 (Kd.R_lt (by (with_reducible repeat (first|apply Kd.R_alloc|apply Kd.R_drewN|apply Kd.R_drew));exact HO320.out))) (Kd.R_lt (by (with_reducible repeat (first|apply Kd.R_alloc|apply Kd.R_drewN|apply Kd.R_drew));exact HO323.out))) (below_size (by repeat (first|(with_reducible first|exact HB.out|apply below_alloc|apply pw_below_drewN|apply below_drew1|refine below_set ?_ GE315.out)|exact HB.out))));have n3_:=Aside0.mk (blk_below (g:=gb315) (o:=.cells #[.int .i64 a0_0,.slice A0_1 l0_1.length c0_1] 24 (0,0)) (by (with_reducible repeat (first|refine blk_drewN ?_ _|refine blk_drew ?_|refine blk_alloc ?_ _));exact BK315.out) hb);have n4_:=Aside0.mk (below_step (by repeat (first|(with_reducible first|exact HB.out|apply below_alloc|apply pw_below_drewN|apply below_drew1|refine below_set ?_ GE315.out)|exact HB.out)) hb);clear HO320;clear HO323;clear BK315;clear HB;have HO320:=n0_;have HO323:=n1_;have HO328:=n2_;have BK315:=n3_;have HB:=n4_;clear n0_ n1_ n2_ n3_ n4_;(try clear hb);(try clear hb2);(try clear hk);(try clear hi);(try clear ho0))|((with_reducible refine gate_dst (N:=6) rfl ?_);refine box_event ?hg (N:=6) ?hd (cs:=#[.int .i64 0,.slice none 0 0]) (t:=28) ?hr ?_;(case hd=>rfl);(case hg=>rfl);(case hr=>first|(go_simp;done)|(go_simp;rfl));intro gb329 hg w21 hbox hb;have n0_:=Aside0.mk (Kd.R_below (by (with_reducible repeat (first|apply Kd.R_alloc|apply Kd.R_drewN|apply Kd.R_drew));exact HO320.out) hb);have n1_:=Aside0.mk (Kd.R_below (by (with_reducible repeat (first|apply Kd.R_alloc|apply Kd.R_drewN|apply Kd.R_drew));exact HO323.out) hb);have n2_:=Aside0.mk (Kd.R_below (by (with_reducible repeat (first|apply Kd.R_alloc|apply Kd.R_drewN|apply Kd.R_drew));exact HO328.out) hb);have n3_:=Aside0.mk (blk_below (g:=gb315) (o:=.cells #[.int .i64 a0_0,.slice A0_1 l0_1.length c0_1] 24 (0,0)) (by (with_reducible repeat (first|refine blk_drewN ?_ _|refine blk_drew ?_|refine blk_alloc ?_ _));exact BK315.out) hb);have n4_:=Aside0.mk (below_step (by repeat (first|(with_reducible first|exact HB.out|apply below_alloc|apply pw_below_drewN|apply below_drew1|refine below_set ?_ GE315.out)|exact HB.out)) hb);have n5_:=Aside0.mk (hbox);have n6_:=Aside0.mk ((by rw [hg];exact (below_size (by repeat (first|(with_reducible first|exact HB.out|apply below_alloc|apply pw_below_drewN|apply below_drew1|refine below_set ?_ GE315.out)|exact HB.out))) : w.heap.size ≤ gb329));have n7_:=Aside0.mk ((by rw [hg];exact (below_size (by repeat (first|(with_reducible first|exact HB.out|apply below_alloc|apply pw_below_drewN|apply below_drew1|refine below_set ?_ GE315.out)|exact HB.out))) : w.heap.size ≤ gb329));have n8_:=Aside0.mk ((by rw [hg];exact Nat.ne_of_lt (blk_lt (g:=gb315) (o:=.cells #[.int .i64 a0_0,.slice A0_1 l0_1.length c0_1] 24 (0,0)) (by (with_reducible repeat (first|refine blk_drewN ?_ _|refine blk_drew ?_|refine blk_alloc ?_ _));exact BK315.out)) : gb315 ≠ gb329));have n9_:=Aside0.mk ((by rw [hg];exact Nat.ne_of_gt (blk_lt (g:=gb315) (o:=.cells #[.int .i64 a0_0,.slice A0_1 l0_1.length c0_1] 24 (0,0)) (by (with_reducible repeat (first|refine blk_drewN ?_ _|refine blk_drew ?_|refine blk_alloc ?_ _));exact BK315.out)) : gb329 ≠ gb315));clear HO320;clear HO323;clear HO328;clear BK315;clear HB;have HO320:=n0_;have HO323:=n1_;have HO328:=n2_;have BK315:=n3_;have HB:=n4_;have BK329:=n5_;have GW329:=n6_;have GE329:=n7_;have NB315_329:=n8_;have NB329_315:=n9_;clear n0_ n1_ n2_ n3_ n4_ n5_ n6_ n7_ n8_ n9_;clear hb hbox hg;have hnb22:=NB329_315.out;have hnc22:=NB315_329.out;have hcz23_0 : w21.cell? ⟨gb329,0,none⟩ = some (.int .i64 0):=(blk_cell BK329.out 0).trans rfl;have hcz23_1 : w21.cell? ⟨gb329,1,none⟩ = some (.slice none 0 0):=(blk_cell BK329.out 1).trans rfl;have hfz23_0:=blk_frozen BK329.out 0;have hfz23_1:=blk_frozen BK329.out 1;obtain ⟨Ao24,co24,eo24⟩:=Kd.R_slice HO328.out;subst eo24)|((with_reducible refine gate_callee (f:=11) rfl ?_);refine goesL_ (some 29) rfl rfl Tryd.func11 (by kernel_rfl) rfl #[.agg #[.int .i64 t325,.slice Ao24 t326.length co24]] rfl (by (try simp only [List.map_toArray,List.map_cons,List.map_nil]);first|done|rfl|(simp only [List.length_drop,List.length_take];rfl)) ?_;(with_reducible refine (impl_HexMoves.calls k t325 _ _ t326 t330 t333 _ ?side1 ?side2 A10.out).mono ?_);(case side1=>refine (Kd.R_reads' (e:=2) (base:=w.heap.size) (ok:=fun k_=>((True ∧ some k_ ≠ (.slice Ao17 t318.length co17 : Value).ownBlock) ∧ some k_ ≠ (v322 : Value).ownBlock)) (n:=t326.length) (c:=co24) ?_).2.2;exact (by (with_reducible repeat (first|apply Kd.R_alloc|apply Kd.R_drewN|apply Kd.R_drew));exact (Kd.R_mono (Kd.R_far (p:=⟨gb329,1,none⟩) (Kd.R_far (p:=⟨gb329,0,none⟩) (Kd.R_types HO328.out BK329.out (by decide)) (fun _ hk=>hk.2) (.int .i64 t325)) (fun _ hk=>hk.2) (.slice Ao24 t326.length co24)) (fun _ h_=>h_.1))));(case side2=>exact (Kd.R_reads' HO328.out).2.1);rintro e w25 ⟨v331,rfl,ho0,hb⟩;refine ⟨_,rfl,?_⟩;have n0_:=Aside0.mk (Kd.R_elder' (by (with_reducible repeat (first|apply Kd.R_alloc|apply Kd.R_drewN|apply Kd.R_drew));exact (Kd.R_mono (Kd.R_far (p:=⟨gb329,1,none⟩) (Kd.R_far (p:=⟨gb329,0,none⟩) (Kd.R_types HO320.out BK329.out (by decide)) (fun _ hk=>hk.2) (.int .i64 t325)) (fun _ hk=>hk.2) (.slice Ao24 t326.length co24)) (fun _ h_=>h_.1))) (Kd.R_base ho0) hb);have n1_:=Aside0.mk (Kd.R_elder' (by (with_reducible repeat (first|apply Kd.R_alloc|apply Kd.R_drewN|apply Kd.R_drew));exact (Kd.R_mono (Kd.R_far (p:=⟨gb329,1,none⟩) (Kd.R_far (p:=⟨gb329,0,none⟩) (Kd.R_types HO323.out BK329.out (by decide)) (fun _ hk=>hk.2) (.int .i64 t325)) (fun _ hk=>hk.2) (.slice Ao24 t326.length co24)) (fun _ h_=>h_.1))) (Kd.R_base ho0) hb);have n2_:=Aside0.mk (Kd.R_elder' (by (with_reducible repeat (first|apply Kd.R_alloc|apply Kd.R_drewN|apply Kd.R_drew));exact (Kd.R_mono (Kd.R_far (p:=⟨gb329,1,none⟩) (Kd.R_far (p:=⟨gb329,0,none⟩) (Kd.R_types HO328.out BK329.out (by decide)) (fun _ hk=>hk.2) (.int .i64 t325)) (fun _ hk=>hk.2) (.slice Ao24 t326.length co24)) (fun _ h_=>h_.1))) (Kd.R_base ho0) hb);have n3_:=Aside0.mk (Kd.R_lower (Kd.R_new' (Kd.R_new' (Kd.R_new' ho0 (Kd.R_lt (by (with_reducible repeat (first|apply Kd.R_alloc|apply Kd.R_drewN|apply Kd.R_drew));exact (Kd.R_mono (Kd.R_far (p:=⟨gb329,1,none⟩) (Kd.R_far (p:=⟨gb329,0,none⟩) (Kd.R_types HO320.out BK329.out (by decide)) (fun _ hk=>hk.2) (.int .i64 t325)) (fun _ hk=>hk.2) (.slice Ao24 t326.length co24)) (fun _ h_=>h_.1))))) (Kd.R_lt (by (with_reducible repeat (first|apply Kd.R_alloc|apply Kd.R_drewN|apply Kd.R_drew));exact (Kd.R_mono (Kd.R_far (p:=⟨gb329,1,none⟩) (Kd.R_far (p:=⟨gb329,0,none⟩) (Kd.R_types HO323.out BK329.out (by decide)) (fun _ hk=>hk.2) (.int .i64 t325)) (fun _ hk=>hk.2) (.slice Ao24 t326.length co24)) (fun _ h_=>h_.1))))) (Kd.R_lt (by (with_reducible repeat (first|apply Kd.R_alloc|apply Kd.R_drewN|apply Kd.R_drew));exact (Kd.R_mono (Kd.R_far (p:=⟨gb329,1,none⟩) (Kd.R_far (p:=⟨gb329,0,none⟩) (Kd.R_types HO328.out BK329.out (by decide)) (fun _ hk=>hk.2) (.int .i64 t325)) (fun _ hk=>hk.2) (.slice Ao24 t326.length co24)) (fun _ h_=>h_.1))))) (below_size (by repeat (first|(with_reducible first|exact HB.out|apply below_alloc|apply pw_below_drewN|apply below_drew1|refine below_set ?_ GE315.out|refine below_set ?_ GE329.out)|exact HB.out))));have n4_:=Aside0.mk (blk_below (g:=gb315) (o:=.cells #[.int .i64 a0_0,.slice A0_1 l0_1.length c0_1] 24 (0,0)) (by (with_reducible repeat (first|refine blk_drewN ?_ _|refine blk_drew ?_|refine blk_alloc ?_ _));refine blk_far ?_ NB315_329.out _;(with_reducible repeat (first|refine blk_drewN ?_ _|refine blk_drew ?_|refine blk_alloc ?_ _));refine blk_far ?_ NB315_329.out _;(with_reducible repeat (first|refine blk_drewN ?_ _|refine blk_drew ?_|refine blk_alloc ?_ _));exact BK315.out) hb);have n5_:=Aside0.mk (blk_below (g:=gb329) (o:=.cells #[.int .i64 t325,.slice Ao24 t326.length co24] 28 (0,0)) (by (with_reducible repeat (first|refine blk_drewN ?_ _|refine blk_drew ?_|refine blk_alloc ?_ _));refine blk_put (cs:=#[.int .i64 t325,.slice none 0 0]) ?_ 1 _ rfl;(with_reducible repeat (first|refine blk_drewN ?_ _|refine blk_drew ?_|refine blk_alloc ?_ _));refine blk_put (cs:=#[.int .i64 0,.slice none 0 0]) ?_ 0 _ rfl;(with_reducible repeat (first|refine blk_drewN ?_ _|refine blk_drew ?_|refine blk_alloc ?_ _));exact BK329.out) hb);have n6_:=Aside0.mk (below_step (by repeat (first|(with_reducible first|exact HB.out|apply below_alloc|apply pw_below_drewN|apply below_drew1|refine below_set ?_ GE315.out|refine below_set ?_ GE329.out)|exact HB.out)) hb);clear HO320;clear HO323;clear HO328;clear BK315;clear BK329;clear HB;have HO320:=n0_;have HO323:=n1_;have HO328:=n2_;have HO332:=n3_;have BK315:=n4_;have BK329:=n5_;have HB:=n6_;clear n0_ n1_ n2_ n3_ n4_ n5_ n6_;(try clear hb);(try clear hb2);(try clear hk);(try clear hi);(try clear ho0)))
  (try simp only [Act.put,List.setIfInBounds_toArray,List.set_cons_zero,List.set_cons_succ])
  go_cut [40] (fun v40 wc=>∃ (kq : Nat) (x40_10 : Bool),v40 = .bool x40_10 ∧ Aside0 (laws_FnExactHexMoves.j0 kq t321 t324 t330 t333 x40_10 a0_0 l0_1 t325 t326 = some r) ∧ Aside0 (kq ≤ k) ∧ Aside0 (Kd.R (Kd.int .i64) 2 wc w.heap.size (fun k_=>some k_ ≠ (v331 : Value).ownBlock ∧ some k_ ≠ ((.slice Ao24 t326.length co24) : Value).ownBlock) v322 t321) ∧ Aside0 (Kd.R (Kd.int .i64) 2 wc w.heap.size (fun k_=>some k_ ≠ (v322 : Value).ownBlock ∧ some k_ ≠ ((.slice Ao24 t326.length co24) : Value).ownBlock) v331 t330) ∧ Aside0 (Kd.R (Kd.int .i64) 2 wc w.heap.size (fun k_=>some k_ ≠ (v322 : Value).ownBlock ∧ some k_ ≠ (v331 : Value).ownBlock) (.slice Ao24 t326.length co24) t326) ∧ Aside0 (wc.heap[gb315]? = some (.cells #[.int .i64 a0_0,(.slice A0_1 l0_1.length c0_1)] 24 (0,0))) ∧ Aside0 (wc.heap[gb329]? = some (.cells #[.int .i64 t325,(.slice Ao24 t326.length co24)] 28 (0,0))) ∧ Aside0 (Below w.heap.size w wc))
  case first =>
   have H:=HC11.out
   clear HC11
   replace H:=Option.bind_eq_some_iff.mp H
   obtain ⟨t334,A260,H⟩:=H
   replace H : (if t334 = true then (laws_FnExactHexMoves.j0 k t321 t324 t330 t333 (t333 != t324) a0_0 l0_1 t325 t326) else (laws_FnExactHexMoves.j0 k t321 t324 t330 t333 true a0_0 l0_1 t325 t326)) = some r:=H
   have A26:=Aside0.mk A260
   clear A260
   by_cases c27 : t334 = true
   ·subst c27
    have H1 : (laws_FnExactHexMoves.j0 k t321 t324 t330 t333 (t333 != t324) a0_0 l0_1 t325 t326) = some r:=by rw [if_pos rfl] at H;exact H
    clear H
    have H:=H1
    clear H1
    have H':=Aside0.mk H
    clear H
    obtain ⟨Ao28,co28,eo28⟩:=Kd.R_slice HO332.out
    subst eo28
    obtain ⟨Ao29,co29,eo29⟩:=Kd.R_slice HO323.out
    subst eo29
    go_wp2_with (first|((with_reducible refine gate_callee (f:=12) rfl ?_);refine goesL_ (some 34) rfl rfl Tryd.func12 (by kernel_rfl) rfl #[.slice Ao28 t330.length co28,.slice Ao29 t321.length co29] rfl (by (try simp only [List.map_toArray,List.map_cons,List.map_nil]);first|done|rfl|(simp only [List.length_drop,List.length_take];rfl)) ?_;(with_reducible refine (laws_eqInt64S.calls k _ _ t330 _ _ t321 true _ ?side1 ?side2 ?side3 ?side4 A26.out).mono ?_);(case side1=>repeat (first|exact (Kd.R_reads' HO332.out).2.2|(with_reducible refine Kd.C_alloc ?_ _)|(with_reducible refine Kd.C_drewN ?_ _)|(with_reducible refine Kd.C_drew ?_)));(case side2=>exact (Kd.R_reads' HO332.out).2.1);(case side3=>repeat (first|exact (Kd.R_reads' HO323.out).2.2|(with_reducible refine Kd.C_alloc ?_ _)|(with_reducible refine Kd.C_drewN ?_ _)|(with_reducible refine Kd.C_drew ?_)));(case side4=>exact (Kd.R_reads' HO323.out).2.1);rintro e w' ⟨rfl,⟨nd,rfl⟩⟩;refine ⟨_,rfl,?_⟩))
    go_meet
    case rel=>exact ⟨_,((t333 != t324)),(by first|rfl|(simp;done)|(simp [*];done)),H',⟨by first|omega|exact Nat.le_refl _⟩,⟨by (with_reducible repeat (first|apply Kd.R_alloc|apply Kd.R_drewN|apply Kd.R_drew));exact Kd.R_mono HO323.out (fun _ hk=>⟨hk.2,hk.1.2⟩)⟩,⟨by (with_reducible repeat (first|apply Kd.R_alloc|apply Kd.R_drewN|apply Kd.R_drew));exact Kd.R_mono HO332.out (fun _ hk=>⟨hk.1.2,hk.2⟩)⟩,⟨by (with_reducible repeat (first|apply Kd.R_alloc|apply Kd.R_drewN|apply Kd.R_drew));exact Kd.R_mono HO328.out (fun _ hk=>⟨hk.1.2,hk.2⟩)⟩,⟨by (with_reducible repeat (first|refine blk_drewN ?_ _|refine blk_drew ?_|refine blk_alloc ?_ _));exact BK315.out⟩,⟨by (with_reducible repeat (first|refine blk_drewN ?_ _|refine blk_drew ?_|refine blk_alloc ?_ _));exact BK329.out⟩,⟨by repeat (first|(with_reducible first|exact HB.out|apply below_alloc|apply pw_below_drewN|apply below_drew1|refine below_set ?_ GE315.out|refine below_set ?_ GE329.out)|exact HB.out)⟩⟩
   ·replace c27:=Bool.eq_false_iff.mpr c27
    subst c27
    have H1 : (laws_FnExactHexMoves.j0 k t321 t324 t330 t333 true a0_0 l0_1 t325 t326) = some r:=by rw [if_neg (show ¬ (false = true) by decide)] at H;exact H
    clear H
    have H:=H1
    clear H1
    have H':=Aside0.mk H
    clear H
    obtain ⟨Ao30,co30,eo30⟩:=Kd.R_slice HO332.out
    subst eo30
    obtain ⟨Ao31,co31,eo31⟩:=Kd.R_slice HO323.out
    subst eo31
    go_wp2_with (first|((with_reducible refine gate_callee (f:=12) rfl ?_);refine goesL_ (some 34) rfl rfl Tryd.func12 (by kernel_rfl) rfl #[.slice Ao30 t330.length co30,.slice Ao31 t321.length co31] rfl (by (try simp only [List.map_toArray,List.map_cons,List.map_nil]);first|done|rfl|(simp only [List.length_drop,List.length_take];rfl)) ?_;(with_reducible refine (laws_eqInt64S.calls k _ _ t330 _ _ t321 false _ ?side1 ?side2 ?side3 ?side4 A26.out).mono ?_);(case side1=>repeat (first|exact (Kd.R_reads' HO332.out).2.2|(with_reducible refine Kd.C_alloc ?_ _)|(with_reducible refine Kd.C_drewN ?_ _)|(with_reducible refine Kd.C_drew ?_)));(case side2=>exact (Kd.R_reads' HO332.out).2.1);(case side3=>repeat (first|exact (Kd.R_reads' HO323.out).2.2|(with_reducible refine Kd.C_alloc ?_ _)|(with_reducible refine Kd.C_drewN ?_ _)|(with_reducible refine Kd.C_drew ?_)));(case side4=>exact (Kd.R_reads' HO323.out).2.1);rintro e w' ⟨rfl,⟨nd,rfl⟩⟩;refine ⟨_,rfl,?_⟩))
    go_meet
    case rel=>exact ⟨_,(true),(by first|rfl|(simp;done)|(simp [*];done)),H',⟨by first|omega|exact Nat.le_refl _⟩,⟨by (with_reducible repeat (first|apply Kd.R_alloc|apply Kd.R_drewN|apply Kd.R_drew));exact Kd.R_mono HO323.out (fun _ hk=>⟨hk.2,hk.1.2⟩)⟩,⟨by (with_reducible repeat (first|apply Kd.R_alloc|apply Kd.R_drewN|apply Kd.R_drew));exact Kd.R_mono HO332.out (fun _ hk=>⟨hk.1.2,hk.2⟩)⟩,⟨by (with_reducible repeat (first|apply Kd.R_alloc|apply Kd.R_drewN|apply Kd.R_drew));exact Kd.R_mono HO328.out (fun _ hk=>⟨hk.1.2,hk.2⟩)⟩,⟨by (with_reducible repeat (first|refine blk_drewN ?_ _|refine blk_drew ?_|refine blk_alloc ?_ _));exact BK315.out⟩,⟨by (with_reducible repeat (first|refine blk_drewN ?_ _|refine blk_drew ?_|refine blk_alloc ?_ _));exact BK329.out⟩,⟨by repeat (first|(with_reducible first|exact HB.out|apply below_alloc|apply pw_below_drewN|apply below_drew1|refine below_set ?_ GE315.out|refine below_set ?_ GE329.out)|exact HB.out)⟩⟩
  case rest =>
   clear HC11
   try clear c1
   try clear c2
   try clear p2
   try clear c3
   try clear c3b0
   try clear c4
   try clear c5
   try clear c7
   try clear c10
   try clear c11
   try clear c12
   try clear c22
   try clear c27
   try clear hcz13_0
   try clear hcz13_1
   try clear hcz15_0
   try clear hcz15_1
   try clear hcz19_0
   try clear hcz19_1
   try clear hcz23_0
   try clear hcz23_1
   try clear hcz5_0
   try clear hcz5_1
   try clear hfz13_0
   try clear hfz13_1
   try clear hfz15_0
   try clear hfz15_1
   try clear hfz19_0
   try clear hfz19_1
   try clear hfz23_0
   try clear hfz23_1
   try clear hfz5_0
   try clear hfz5_1
   obtain ⟨kq,x40_10,rfl,HA,HJ10,HO_4,HO_7,HO_330001,BK315,BK329,HB⟩:=hcut
   cases kq with
   | zero => exact absurd HA.out (by simp [laws_FnExactHexMoves.j0])
   | succ kj10 =>
    have H:=HA.out
    clear HA
    simp only [laws_FnExactHexMoves.j0] at H
    by_cases c32 : x40_10 = true
    ·subst c32
     have H1 : (some false) = some r:=by rw [if_pos rfl] at H;exact H
     clear H
     have H:=H1
     clear H1
     obtain rfl:=Option.some.inj H
     go_wp2
     go_ret
     exact ⟨by first|rfl|(simp [errW_none,errW_some] <;> rfl)|(simp [*,errW_none,errW_some] <;> rfl),by repeat (first|(with_reducible first|exact HB.out|apply below_alloc|apply pw_below_drewN|apply below_drew1|refine below_set ?_ GE315.out|refine below_set ?_ GE329.out)|exact HB.out)⟩
    ·replace c32:=Bool.eq_false_iff.mpr c32
     subst c32
     have H1 : ((laws_toHex.f kj10 a0_0 l0_1).bind fun bt335=>((laws_eqHex.f kj10 t325 t326 bt335.1 bt335.2).bind fun t339=>(if t339 = true then ((laws_markHex.f kj10 t325 t326 1).bind fun bt340=>(if bt340.1 < 0 then (laws_FnExactHexMoves.j1 kj10 t321 t324 t330 true a0_0 l0_1) else ((laws_eqInt64S.f kj10 t330 t321).bind fun t342=>(if t342 = true then (laws_FnExactHexMoves.j1 kj10 t321 t324 t330 (t333 != t324) a0_0 l0_1) else (laws_FnExactHexMoves.j1 kj10 t321 t324 t330 true a0_0 l0_1))))) else (some false)))) = some r:=by rw [if_neg (show ¬ (false = true) by decide)] at H;exact H
     clear H
     have H:=H1
     clear H1
     replace H:=Option.bind_eq_some_iff.mp H
     obtain ⟨⟨t335,t336⟩,A330,H⟩:=H
     replace H : ((laws_eqHex.f kj10 t325 t326 t335 t336).bind fun t339=>(if t339 = true then ((laws_markHex.f kj10 t325 t326 1).bind fun bt340=>(if bt340.1 < 0 then (laws_FnExactHexMoves.j1 kj10 t321 t324 t330 true a0_0 l0_1) else ((laws_eqInt64S.f kj10 t330 t321).bind fun t342=>(if t342 = true then (laws_FnExactHexMoves.j1 kj10 t321 t324 t330 (t333 != t324) a0_0 l0_1) else (laws_FnExactHexMoves.j1 kj10 t321 t324 t330 true a0_0 l0_1))))) else (some false))) = some r:=H
     have A33:=Aside0.mk A330
     clear A330
     replace H:=Option.bind_eq_some_iff.mp H
     obtain ⟨t339,A340,H⟩:=H
     replace H : (if t339 = true then ((laws_markHex.f kj10 t325 t326 1).bind fun bt340=>(if bt340.1 < 0 then (laws_FnExactHexMoves.j1 kj10 t321 t324 t330 true a0_0 l0_1) else ((laws_eqInt64S.f kj10 t330 t321).bind fun t342=>(if t342 = true then (laws_FnExactHexMoves.j1 kj10 t321 t324 t330 (t333 != t324) a0_0 l0_1) else (laws_FnExactHexMoves.j1 kj10 t321 t324 t330 true a0_0 l0_1))))) else (some false)) = some r:=H
     have A34:=Aside0.mk A340
     clear A340
     by_cases c35 : t339 = true
     ·subst c35
      have H1 : ((laws_markHex.f kj10 t325 t326 1).bind fun bt340=>(if bt340.1 < 0 then (laws_FnExactHexMoves.j1 kj10 t321 t324 t330 true a0_0 l0_1) else ((laws_eqInt64S.f kj10 t330 t321).bind fun t342=>(if t342 = true then (laws_FnExactHexMoves.j1 kj10 t321 t324 t330 (t333 != t324) a0_0 l0_1) else (laws_FnExactHexMoves.j1 kj10 t321 t324 t330 true a0_0 l0_1))))) = some r:=by rw [if_pos rfl] at H;exact H
      clear H
      have H:=H1
      clear H1
      replace H:=Option.bind_eq_some_iff.mp H
      obtain ⟨⟨t340,t341⟩,A360,H⟩:=H
      replace H : (if t340 < 0 then (laws_FnExactHexMoves.j1 kj10 t321 t324 t330 true a0_0 l0_1) else ((laws_eqInt64S.f kj10 t330 t321).bind fun t342=>(if t342 = true then (laws_FnExactHexMoves.j1 kj10 t321 t324 t330 (t333 != t324) a0_0 l0_1) else (laws_FnExactHexMoves.j1 kj10 t321 t324 t330 true a0_0 l0_1)))) = some r:=H
      have A36:=Aside0.mk A360
      clear A360
      have HC37:=Aside0.mk H
      clear H
      try go_wp2
      have n0_:=Aside0.mk (Kd.R_drew HO_4.out)
      have n1_:=Aside0.mk (Kd.R_drew HO_7.out)
      have n2_:=Aside0.mk (Kd.R_drew HO_330001.out)
      have n3_:=Aside0.mk (blk_drew BK315.out)
      have n4_:=Aside0.mk (blk_drew BK329.out)
      have n5_:=Aside0.mk (below_drew1 HB.out)
      clear HO_4
      clear HO_7
      clear HO_330001
      clear BK315
      clear BK329
      clear HB
      have HO_4:=n0_
      have HO_7:=n1_
      have HO_330001:=n2_
      have BK315:=n3_
      have BK329:=n4_
      have HB:=n5_
      clear n0_ n1_ n2_ n3_ n4_ n5_
      refine start_ (n:=5) (S:=fun w'=>w'.cell? ⟨gb329,0,none⟩ = some (.int .i64 t325) ∧ w'.cell? ⟨gb329,1,none⟩ = some (.slice Ao24 t326.length co24) ∧ w'.cell? ⟨gb315,0,none⟩ = some (.int .i64 a0_0) ∧ w'.cell? ⟨gb315,1,none⟩ = some (.slice A0_1 l0_1.length c0_1)) (ds:=[]) #[false,false,false,false,false] (by kernel_rfl) rfl rfl ⟨(blk_cell BK329.out 0).trans rfl,(blk_cell BK329.out 1).trans rfl,(blk_cell BK315.out 0).trans rfl,(blk_cell BK315.out 1).trans rfl⟩ (fun hHeld=>?_)
      generalize wc.drew = w38 at HO_4 HO_7 HO_330001 BK315 BK329 HB hHeld ⊢
      refine take_ (i:=0) (N:=some 41) (v:=?_) (a':=?_) #[true,false,false,false,false] rfl rfl (by kernel_rfl) (fun _ _ _ h=>h) (Or.inl ⟨by rfl,?_⟩) hHeld ?_ ?_
      rotate_left
      ·rintro w' ⟨s0,s1,s2,s3⟩
       go_simp
       with_reducible rfl
      rotate_left
      ·simp only [Act.put,List.setIfInBounds_toArray,List.set_cons_zero,List.set_cons_succ,i64_w,i32_w]
       rfl
      refine take_ (i:=1) (N:=some 42) (v:=?_) (a':=?_) #[true,true,false,false,false] rfl rfl (by kernel_rfl) (fun _ _ _ h=>h) (Or.inl ⟨by rfl,?_⟩) hHeld ?_ ?_
      rotate_left
      ·rintro w' ⟨s0,s1,s2,s3⟩
       go_simp
       with_reducible rfl
      rotate_left
      ·simp only [Act.put,List.setIfInBounds_toArray,List.set_cons_zero,List.set_cons_succ,i64_w,i32_w]
       rfl
      refine one_ (i:=2) (N:=some 43) #[true,true,true,false,false] rfl rfl (by kernel_rfl) (by decide) (fun K hK=>?_)
      refine goes_ Tryd.func7 (by kernel_rfl) rfl #[.agg #[.int .i64 a0_0,.slice A0_1 l0_1.length c0_1]] (by rfl) rfl rfl (by (try simp only [List.map_toArray,List.map_cons,List.map_nil]);first|done|rfl|(simp only [List.length_drop,List.length_take];rfl)) ?_
      with_reducible refine (laws_toHex.calls kj10 a0_0 _ _ l0_1 t335 t336 _ ?side1 ?side2 A33.out).mono ?_
      (case side1=>repeat (first|exact (Kd.C_below HR0_1.out HB.out)|(with_reducible refine Kd.C_alloc ?_ _)|(with_reducible refine Kd.C_drewN ?_ _)|(with_reducible refine Kd.C_drew ?_)))
      (case side2=>exact HC0_1.out)
      rintro e w39 ⟨v337,rfl,ho0,hb⟩
      refine ⟨_,rfl,?_⟩
      have n0_:=Aside0.mk (Kd.R_elder' (by (with_reducible repeat (first|apply Kd.R_alloc|apply Kd.R_drewN|apply Kd.R_drew));exact HO_4.out) (Kd.R_base ho0) hb)
      have n1_:=Aside0.mk (Kd.R_elder' (by (with_reducible repeat (first|apply Kd.R_alloc|apply Kd.R_drewN|apply Kd.R_drew));exact HO_7.out) (Kd.R_base ho0) hb)
      have n2_:=Aside0.mk (Kd.R_elder' (by (with_reducible repeat (first|apply Kd.R_alloc|apply Kd.R_drewN|apply Kd.R_drew));exact HO_330001.out) (Kd.R_base ho0) hb)
      have n3_:=Aside0.mk (Kd.R_lower (Kd.R_new' (Kd.R_new' (Kd.R_new' ho0 (Kd.R_lt (by (with_reducible repeat (first|apply Kd.R_alloc|apply Kd.R_drewN|apply Kd.R_drew));exact HO_4.out))) (Kd.R_lt (by (with_reducible repeat (first|apply Kd.R_alloc|apply Kd.R_drewN|apply Kd.R_drew));exact HO_7.out))) (Kd.R_lt (by (with_reducible repeat (first|apply Kd.R_alloc|apply Kd.R_drewN|apply Kd.R_drew));exact HO_330001.out))) (below_size (by repeat (first|(with_reducible first|exact HB.out|apply below_alloc|apply pw_below_drewN|apply below_drew1|refine below_set ?_ GE315.out|refine below_set ?_ GE329.out)|exact HB.out))))
      have n4_:=Aside0.mk (blk_below (g:=gb315) (o:=.cells #[.int .i64 a0_0,.slice A0_1 l0_1.length c0_1] 24 (0,0)) (by (with_reducible repeat (first|refine blk_drewN ?_ _|refine blk_drew ?_|refine blk_alloc ?_ _));exact BK315.out) hb)
      have n5_:=Aside0.mk (blk_below (g:=gb329) (o:=.cells #[.int .i64 t325,.slice Ao24 t326.length co24] 28 (0,0)) (by (with_reducible repeat (first|refine blk_drewN ?_ _|refine blk_drew ?_|refine blk_alloc ?_ _));exact BK329.out) hb)
      have n6_:=Aside0.mk (below_step (by repeat (first|(with_reducible first|exact HB.out|apply below_alloc|apply pw_below_drewN|apply below_drew1|refine below_set ?_ GE315.out|refine below_set ?_ GE329.out)|exact HB.out)) hb)
      clear HO_4
      clear HO_7
      clear HO_330001
      clear BK315
      clear BK329
      clear HB
      have HO_4:=n0_
      have HO_7:=n1_
      have HO_330001:=n2_
      have HO338:=n3_
      have BK315:=n4_
      have BK329:=n5_
      have HB:=n6_
      clear n0_ n1_ n2_ n3_ n4_ n5_ n6_
      (try clear hb)
      (try clear hb2)
      (try clear hk)
      (try clear hi)
      (try clear ho0)
      obtain ⟨Ao40,co40,eo40⟩:=Kd.R_slice HO338.out
      (first|subst eo40|(injection eo40 with f1_ f2_ f3_;have f4_:=f1_.symm;have f5_:=f3_.symm;clear f1_ f2_ f3_;subst f4_;subst f5_))
      refine hK.out _ _ ⟨(blk_cell BK329.out 0).trans rfl,(blk_cell BK329.out 1).trans rfl,(blk_cell BK315.out 0).trans rfl,(blk_cell BK315.out 1).trans rfl⟩ (fun hHeld=>?_)
      clear hK K
      refine norm_ (a':=?_) ?_ ?_
      rotate_left
      ·show Act.put _ (some 43) _ = _
       simp only [Act.put,List.setIfInBounds_toArray,List.set_cons_zero,List.set_cons_succ,i64_w,i32_w]
       rfl
      refine one_ (i:=3) (N:=some 44) #[true,true,true,true,false] rfl rfl (by kernel_rfl) (by decide) (fun K hK=>?_)
      refine goes_ Tryd.func9 (by kernel_rfl) rfl #[.agg #[.int .i64 t325,.slice Ao24 t326.length co24],.agg #[.int .i64 t335,.slice Ao40 t336.length co40]] (by rfl) rfl rfl (by (try simp only [List.map_toArray,List.map_cons,List.map_nil]);first|done|rfl|(simp only [List.length_drop,List.length_take];rfl)) ?_
      with_reducible refine (laws_eqHex.calls kj10 t325 _ _ t326 t335 _ _ t336 true _ ?side1 ?side2 ?side3 ?side4 A34.out).mono ?_
      (case side1=>repeat (first|exact (Kd.R_reads' HO_330001.out).2.2|(with_reducible refine Kd.C_alloc ?_ _)|(with_reducible refine Kd.C_drewN ?_ _)|(with_reducible refine Kd.C_drew ?_)))
      (case side2=>exact (Kd.R_reads' HO_330001.out).2.1)
      (case side3=>repeat (first|exact (Kd.R_reads' HO338.out).2.2|(with_reducible refine Kd.C_alloc ?_ _)|(with_reducible refine Kd.C_drewN ?_ _)|(with_reducible refine Kd.C_drew ?_)))
      (case side4=>exact (Kd.R_reads' HO338.out).2.1)
      rintro e w41 ⟨rfl,hb⟩
      refine ⟨_,rfl,?_⟩
      have n0_:=Aside0.mk (Kd.R_below (by (with_reducible repeat (first|apply Kd.R_alloc|apply Kd.R_drewN|apply Kd.R_drew));exact HO_4.out) hb)
      have n1_:=Aside0.mk (Kd.R_below (by (with_reducible repeat (first|apply Kd.R_alloc|apply Kd.R_drewN|apply Kd.R_drew));exact HO_7.out) hb)
      have n2_:=Aside0.mk (Kd.R_below (by (with_reducible repeat (first|apply Kd.R_alloc|apply Kd.R_drewN|apply Kd.R_drew));exact HO_330001.out) hb)
      have n3_:=Aside0.mk (Kd.R_below (by (with_reducible repeat (first|apply Kd.R_alloc|apply Kd.R_drewN|apply Kd.R_drew));exact HO338.out) hb)
      have n4_:=Aside0.mk (blk_below (g:=gb315) (o:=.cells #[.int .i64 a0_0,.slice A0_1 l0_1.length c0_1] 24 (0,0)) (by (with_reducible repeat (first|refine blk_drewN ?_ _|refine blk_drew ?_|refine blk_alloc ?_ _));exact BK315.out) hb)
      have n5_:=Aside0.mk (blk_below (g:=gb329) (o:=.cells #[.int .i64 t325,.slice Ao24 t326.length co24] 28 (0,0)) (by (with_reducible repeat (first|refine blk_drewN ?_ _|refine blk_drew ?_|refine blk_alloc ?_ _));exact BK329.out) hb)
      have n6_:=Aside0.mk (below_step (by repeat (first|(with_reducible first|exact HB.out|apply below_alloc|apply pw_below_drewN|apply below_drew1|refine below_set ?_ GE315.out|refine below_set ?_ GE329.out)|exact HB.out)) hb)
      clear HO_4
      clear HO_7
      clear HO_330001
      clear HO338
      clear BK315
      clear BK329
      clear HB
      have HO_4:=n0_
      have HO_7:=n1_
      have HO_330001:=n2_
      have HO338:=n3_
      have BK315:=n4_
      have BK329:=n5_
      have HB:=n6_
      clear n0_ n1_ n2_ n3_ n4_ n5_ n6_
      (try clear hb)
      (try clear hb2)
      (try clear hk)
      (try clear hi)
      refine hK.out _ _ ⟨(blk_cell BK329.out 0).trans rfl,(blk_cell BK329.out 1).trans rfl,(blk_cell BK315.out 0).trans rfl,(blk_cell BK315.out 1).trans rfl⟩ (fun hHeld=>?_)
      clear hK K
      refine norm_ (a':=?_) ?_ ?_
      rotate_left
      ·show Act.put _ (some 44) _ = _
       simp only [Act.put,List.setIfInBounds_toArray,List.set_cons_zero,List.set_cons_succ,i64_w,i32_w]
       rfl
      refine pure_ (i:=4) (N:=some 45) (v:=?_) (a':=?_) #[true,true,true,true,true] rfl rfl (by kernel_rfl) (fun _ _ _ h=>h) (Or.inl ⟨by rfl,?_⟩) ?_ ?_
      rotate_left
      ·intro w'
       go_simp
       with_reducible rfl
      rotate_left
      ·simp only [Act.put,List.setIfInBounds_toArray,List.set_cons_zero,List.set_cons_succ,i64_w,i32_w]
       rfl
      refine done_ (by kernel_rfl) ?_
      have hnb42:=NB329_315.out
      have hnc42:=NB315_329.out
      have hcz43_0 : w41.cell? ⟨gb329,0,none⟩ = some (.int .i64 t325):=(blk_cell BK329.out 0).trans rfl
      have hcz43_1 : w41.cell? ⟨gb329,1,none⟩ = some (.slice Ao24 t326.length co24):=(blk_cell BK329.out 1).trans rfl
      have hfz43_0:=blk_frozen BK329.out 0
      have hfz43_1:=blk_frozen BK329.out 1
      go_upto_region 14 with (first|((with_reducible refine gate_callee (f:=13) rfl ?_);refine goesL_ (some 48) rfl rfl Tryd.func13 (by kernel_rfl) rfl #[.agg #[.int .i64 t325,.slice Ao24 t326.length co24],.int .i64 1] rfl (by (try simp only [List.map_toArray,List.map_cons,List.map_nil]);first|done|rfl|(simp only [List.length_drop,List.length_take];rfl)) ?_;(with_reducible refine (laws_markHex.calls kj10 t325 (fun k_=>some k_ = (.slice Ao24 t326.length co24 : Value).ownBlock) (.slice Ao24 t326.length co24) t326 1 t340 t341 w _ ?side1 ?side2 A36.out).mono ?_);(case side1=>repeat (first|(with_reducible first|exact HB.out|apply below_alloc|apply pw_below_drewN|apply below_drew1|refine below_set ?_ GE315.out|refine below_set ?_ GE329.out)|exact HB.out));(case side2=>exact Kd.R_tight rfl HO_330001.out);rintro e w44 ⟨rfl,hy0,hb,hkp⟩;refine ⟨_,rfl,?_⟩;have n0_:=Aside0.mk (Kd.R_mono (ok':=fun k_=>some k_ ≠ (v331 : Value).ownBlock ∧ some k_ ≠ (.slice Ao24 t326.length co24 : Value).ownBlock ∧ some k_ ≠ (.slice Ao40 t336.length co40 : Value).ownBlock) (Kd.R_keptB (HO_4.out) hkp (fun k_ hk_ hs_=>(hk_.1.2) hs_)) (fun k_ hk_=>⟨hk_.1.1.1,hk_.1.1.2,hk_.1.2⟩));have n1_:=Aside0.mk (Kd.R_mono (ok':=fun k_=>some k_ ≠ (v322 : Value).ownBlock ∧ some k_ ≠ (.slice Ao24 t326.length co24 : Value).ownBlock ∧ some k_ ≠ (.slice Ao40 t336.length co40 : Value).ownBlock) (Kd.R_keptB (HO_7.out) hkp (fun k_ hk_ hs_=>(hk_.1.2) hs_)) (fun k_ hk_=>⟨hk_.1.1.1,hk_.1.1.2,hk_.1.2⟩));have n2_:=Aside0.mk (Kd.R_reok rfl hy0 (fun k_ e_=>HO_330001.out.1 k_ e_));have n3_:=Aside0.mk (blk_kept (by (with_reducible repeat (first|refine blk_drewN ?_ _|refine blk_drew ?_|refine blk_alloc ?_ _));exact BK315.out) hkp (fun hs_=>(fun e_=>(Kd.R_ne HO_330001.out BK315.out (by decide)) e_) hs_));have n4_:=Aside0.mk (blk_kept (by (with_reducible repeat (first|refine blk_drewN ?_ _|refine blk_drew ?_|refine blk_alloc ?_ _));exact BK329.out) hkp (fun hs_=>(fun e_=>(Kd.R_ne HO_330001.out BK329.out (by decide)) e_) hs_));have n5_:=Aside0.mk (Kd.R_mono (ok':=fun k_=>some k_ ≠ (v322 : Value).ownBlock ∧ some k_ ≠ (v331 : Value).ownBlock ∧ some k_ ≠ (.slice Ao24 t326.length co24 : Value).ownBlock) (Kd.R_keptB (HO338.out) hkp (fun k_ hk_ hs_=>(hk_.2) hs_)) (fun k_ hk_=>⟨hk_.1.1.1.2,hk_.1.1.2,hk_.1.2⟩));have n6_:=Aside0.mk (hb);clear HO_4;clear HO_7;clear HO_330001;clear BK315;clear BK329;clear HO338;clear HB;have HO_4:=n0_;have HO_7:=n1_;have HO_330001:=n2_;have BK315:=n3_;have BK329:=n4_;have HO338:=n5_;have HB:=n6_;clear n0_ n1_ n2_ n3_ n4_ n5_ n6_;(try clear hb);(try clear hkp);(try clear hy0)))
      (try simp only [Act.put,List.setIfInBounds_toArray,List.set_cons_zero,List.set_cons_succ])
      go_cut [61] (fun v61 wc=>∃ (kq : Nat) (x61_36 : Bool),v61 = .bool x61_36 ∧ Aside0 (laws_FnExactHexMoves.j1 kq t321 t324 t330 x61_36 a0_0 l0_1 = some r) ∧ Aside0 (kq ≤ kj10) ∧ Aside0 (Kd.R (Kd.int .i64) 2 wc w.heap.size (fun k_=>some k_ ≠ (v331 : Value).ownBlock ∧ some k_ ≠ ((.slice Ao24 t326.length co24) : Value).ownBlock) v322 t321) ∧ Aside0 (Kd.R (Kd.int .i64) 2 wc w.heap.size (fun k_=>some k_ ≠ (v322 : Value).ownBlock ∧ some k_ ≠ ((.slice Ao24 t326.length co24) : Value).ownBlock) v331 t330) ∧ Aside0 (Kd.R (Kd.int .i64) 2 wc w.heap.size (fun k_=>some k_ ≠ (v322 : Value).ownBlock ∧ some k_ ≠ (v331 : Value).ownBlock) (.slice Ao24 t326.length co24) t341) ∧ Aside0 (wc.heap[gb315]? = some (.cells #[.int .i64 a0_0,(.slice A0_1 l0_1.length c0_1)] 24 (0,0))) ∧ Aside0 (wc.heap[gb329]? = some (.cells #[.int .i64 t325,(.slice Ao24 t326.length co24)] 28 (0,0))) ∧ Aside0 (Below w.heap.size w wc))
      case first =>
       have H:=HC37.out
       clear HC37
       by_cases c45 : t340 < 0
       ·rw [if_pos c45] at H
        have c45b0 : decide (t340 < 0) = true:=decide_eq_true c45
        clear c45
        (first|rw [c45b0]|(simp only [i64_w,i32_w];rw [c45b0])|skip)
        have H':=Aside0.mk H
        clear H
        go_wp2
        go_meet
        case rel=>exact ⟨_,(true),(by first|rfl|(simp;done)|(simp [*];done)),H',⟨by have:=HJ10.out;first|omega|exact Nat.le_refl _⟩,⟨by (with_reducible repeat (first|apply Kd.R_alloc|apply Kd.R_drewN|apply Kd.R_drew));exact Kd.R_mono HO_4.out (fun _ hk=>⟨hk.1,hk.2.1⟩)⟩,⟨by (with_reducible repeat (first|apply Kd.R_alloc|apply Kd.R_drewN|apply Kd.R_drew));exact Kd.R_mono HO_7.out (fun _ hk=>⟨hk.1,hk.2.1⟩)⟩,⟨by (with_reducible repeat (first|apply Kd.R_alloc|apply Kd.R_drewN|apply Kd.R_drew));exact Kd.R_mono HO_330001.out (fun _ hk=>⟨hk.1.1,hk.1.2⟩)⟩,⟨by (with_reducible repeat (first|refine blk_drewN ?_ _|refine blk_drew ?_|refine blk_alloc ?_ _));exact BK315.out⟩,⟨by (with_reducible repeat (first|refine blk_drewN ?_ _|refine blk_drew ?_|refine blk_alloc ?_ _));exact BK329.out⟩,⟨by repeat (first|(with_reducible first|exact HB.out|apply below_alloc|apply pw_below_drewN|apply below_drew1|refine below_set ?_ GE315.out|refine below_set ?_ GE329.out)|exact HB.out)⟩⟩
       ·rw [if_neg c45] at H
        have c45b0 : decide (t340 < 0) = false:=decide_eq_false c45
        clear c45
        (first|rw [c45b0]|(simp only [i64_w,i32_w];rw [c45b0])|skip)
        replace H:=Option.bind_eq_some_iff.mp H
        obtain ⟨t342,A460,H⟩:=H
        replace H : (if t342 = true then (laws_FnExactHexMoves.j1 kj10 t321 t324 t330 (t333 != t324) a0_0 l0_1) else (laws_FnExactHexMoves.j1 kj10 t321 t324 t330 true a0_0 l0_1)) = some r:=H
        have A46:=Aside0.mk A460
        clear A460
        by_cases c47 : t342 = true
        ·subst c47
         have H1 : (laws_FnExactHexMoves.j1 kj10 t321 t324 t330 (t333 != t324) a0_0 l0_1) = some r:=by rw [if_pos rfl] at H;exact H
         clear H
         have H:=H1
         clear H1
         have H':=Aside0.mk H
         clear H
         obtain ⟨Ao48,co48,eo48⟩:=Kd.R_slice HO_7.out
         subst eo48
         obtain ⟨Ao49,co49,eo49⟩:=Kd.R_slice HO_4.out
         subst eo49
         go_wp2_with (first|(go_at_call 12;(with_reducible refine (laws_eqInt64S.calls kj10 _ _ t330 _ _ t321 true _ ?side1 ?side2 ?side3 ?side4 A46.out).mono ?_);(case side1=>repeat (first|exact (Kd.R_reads' HO_7.out).2.2|(with_reducible refine Kd.C_alloc ?_ _)|(with_reducible refine Kd.C_drewN ?_ _)|(with_reducible refine Kd.C_drew ?_)));(case side2=>exact (Kd.R_reads' HO_7.out).2.1);(case side3=>repeat (first|exact (Kd.R_reads' HO_4.out).2.2|(with_reducible refine Kd.C_alloc ?_ _)|(with_reducible refine Kd.C_drewN ?_ _)|(with_reducible refine Kd.C_drew ?_)));(case side4=>exact (Kd.R_reads' HO_4.out).2.1);rintro e w' ⟨rfl,⟨nd,rfl⟩⟩))
         go_meet
         case rel=>exact ⟨_,((t333 != t324)),(by first|rfl|(simp;done)|(simp [*];done)),H',⟨by have:=HJ10.out;first|omega|exact Nat.le_refl _⟩,⟨by (with_reducible repeat (first|apply Kd.R_alloc|apply Kd.R_drewN|apply Kd.R_drew));exact Kd.R_mono HO_4.out (fun _ hk=>⟨hk.1,hk.2.1⟩)⟩,⟨by (with_reducible repeat (first|apply Kd.R_alloc|apply Kd.R_drewN|apply Kd.R_drew));exact Kd.R_mono HO_7.out (fun _ hk=>⟨hk.1,hk.2.1⟩)⟩,⟨by (with_reducible repeat (first|apply Kd.R_alloc|apply Kd.R_drewN|apply Kd.R_drew));exact Kd.R_mono HO_330001.out (fun _ hk=>⟨hk.1.1,hk.1.2⟩)⟩,⟨by (with_reducible repeat (first|refine blk_drewN ?_ _|refine blk_drew ?_|refine blk_alloc ?_ _));exact BK315.out⟩,⟨by (with_reducible repeat (first|refine blk_drewN ?_ _|refine blk_drew ?_|refine blk_alloc ?_ _));exact BK329.out⟩,⟨by repeat (first|(with_reducible first|exact HB.out|apply below_alloc|apply pw_below_drewN|apply below_drew1|refine below_set ?_ GE315.out|refine below_set ?_ GE329.out)|exact HB.out)⟩⟩
        ·replace c47:=Bool.eq_false_iff.mpr c47
         subst c47
         have H1 : (laws_FnExactHexMoves.j1 kj10 t321 t324 t330 true a0_0 l0_1) = some r:=by rw [if_neg (show ¬ (false = true) by decide)] at H;exact H
         clear H
         have H:=H1
         clear H1
         have H':=Aside0.mk H
         clear H
         obtain ⟨Ao50,co50,eo50⟩:=Kd.R_slice HO_7.out
         subst eo50
         obtain ⟨Ao51,co51,eo51⟩:=Kd.R_slice HO_4.out
         subst eo51
         go_wp2_with (first|(go_at_call 12;(with_reducible refine (laws_eqInt64S.calls kj10 _ _ t330 _ _ t321 false _ ?side1 ?side2 ?side3 ?side4 A46.out).mono ?_);(case side1=>repeat (first|exact (Kd.R_reads' HO_7.out).2.2|(with_reducible refine Kd.C_alloc ?_ _)|(with_reducible refine Kd.C_drewN ?_ _)|(with_reducible refine Kd.C_drew ?_)));(case side2=>exact (Kd.R_reads' HO_7.out).2.1);(case side3=>repeat (first|exact (Kd.R_reads' HO_4.out).2.2|(with_reducible refine Kd.C_alloc ?_ _)|(with_reducible refine Kd.C_drewN ?_ _)|(with_reducible refine Kd.C_drew ?_)));(case side4=>exact (Kd.R_reads' HO_4.out).2.1);rintro e w' ⟨rfl,⟨nd,rfl⟩⟩))
         go_meet
         case rel=>exact ⟨_,(true),(by first|rfl|(simp;done)|(simp [*];done)),H',⟨by have:=HJ10.out;first|omega|exact Nat.le_refl _⟩,⟨by (with_reducible repeat (first|apply Kd.R_alloc|apply Kd.R_drewN|apply Kd.R_drew));exact Kd.R_mono HO_4.out (fun _ hk=>⟨hk.1,hk.2.1⟩)⟩,⟨by (with_reducible repeat (first|apply Kd.R_alloc|apply Kd.R_drewN|apply Kd.R_drew));exact Kd.R_mono HO_7.out (fun _ hk=>⟨hk.1,hk.2.1⟩)⟩,⟨by (with_reducible repeat (first|apply Kd.R_alloc|apply Kd.R_drewN|apply Kd.R_drew));exact Kd.R_mono HO_330001.out (fun _ hk=>⟨hk.1.1,hk.1.2⟩)⟩,⟨by (with_reducible repeat (first|refine blk_drewN ?_ _|refine blk_drew ?_|refine blk_alloc ?_ _));exact BK315.out⟩,⟨by (with_reducible repeat (first|refine blk_drewN ?_ _|refine blk_drew ?_|refine blk_alloc ?_ _));exact BK329.out⟩,⟨by repeat (first|(with_reducible first|exact HB.out|apply below_alloc|apply pw_below_drewN|apply below_drew1|refine below_set ?_ GE315.out|refine below_set ?_ GE329.out)|exact HB.out)⟩⟩
      case rest =>
       clear HC37
       try clear c1
       try clear c2
       try clear p2
       try clear c3
       try clear c3b0
       try clear c4
       try clear c5
       try clear c7
       try clear c9
       try clear c10
       try clear c11
       try clear c12
       try clear c13
       try clear c22
       try clear c27
       try clear c32
       try clear c35
       try clear c42
       try clear c45
       try clear c45b0
       try clear c47
       try clear hcz13_0
       try clear hcz13_1
       try clear hcz15_0
       try clear hcz15_1
       try clear hcz19_0
       try clear hcz19_1
       try clear hcz23_0
       try clear hcz23_1
       try clear hcz43_0
       try clear hcz43_1
       try clear hcz5_0
       try clear hcz5_1
       try clear hfz13_0
       try clear hfz13_1
       try clear hfz15_0
       try clear hfz15_1
       try clear hfz19_0
       try clear hfz19_1
       try clear hfz23_0
       try clear hfz23_1
       try clear hfz43_0
       try clear hfz43_1
       try clear hfz5_0
       try clear hfz5_1
       try clear p2
       obtain ⟨kq,x61_36,rfl,HA,HJ36,HO_4,HO_7,HO_330001,BK315,BK329,HB⟩:=hcut
       have hl330001_36:=(Kd.R_reads' HO_330001.out).1
       rw [hl330001_36] at HO_330001
       (try simp only [hl330001_36])
       (try simp only [hl330001_36] at BK315)
       (try simp only [hl330001_36] at BK329)
       (try simp only [hl330001_36] at HO_4)
       (try simp only [hl330001_36] at HO_7)
       cases kq with
       | zero => exact absurd HA.out (by simp [laws_FnExactHexMoves.j1])
       | succ kj36 =>
        have H:=HA.out
        clear HA
        simp only [laws_FnExactHexMoves.j1] at H
        by_cases c52 : x61_36 = true
        ·subst c52
         have H1 : (some false) = some r:=by rw [if_pos rfl] at H;exact H
         clear H
         have H:=H1
         clear H1
         obtain rfl:=Option.some.inj H
         go_wp2
         go_ret
         exact ⟨by first|rfl|(simp [errW_none,errW_some] <;> rfl)|(simp [*,errW_none,errW_some] <;> rfl),by repeat (first|(with_reducible first|exact HB.out|apply below_alloc|apply pw_below_drewN|apply below_drew1|refine below_set ?_ GE315.out|refine below_set ?_ GE329.out)|exact HB.out)⟩
        ·replace c52:=Bool.eq_false_iff.mpr c52
         subst c52
         have H1 : ((laws_markInt64S.f kj36 t330 1).bind fun bt343=>((laws_heldInt64S.f kj36 bt343.2 1).bind fun t345=>(if t345 < 0 then (some false) else (if t345 = bt343.1 then ((laws_toHex.f kj36 a0_0 l0_1).bind fun bt346=>((impl_HexMoves.f kj36 bt346.1 bt346.2).bind fun bt350=>((laws_eqInt64S.f kj36 bt350.1 t321).bind fun t354=>(if t354 = true then (laws_FnExactHexMoves.j2 kj36 bt343.2 bt343.1 (bt350.2 != t324)) else (laws_FnExactHexMoves.j2 kj36 bt343.2 bt343.1 true))))) else (some false))))) = some r:=by rw [if_neg (show ¬ (false = true) by decide)] at H;exact H
         clear H
         have H:=H1
         clear H1
         replace H:=Option.bind_eq_some_iff.mp H
         obtain ⟨⟨t343,t344⟩,A530,H⟩:=H
         replace H : ((laws_heldInt64S.f kj36 t344 1).bind fun t345=>(if t345 < 0 then (some false) else (if t345 = t343 then ((laws_toHex.f kj36 a0_0 l0_1).bind fun bt346=>((impl_HexMoves.f kj36 bt346.1 bt346.2).bind fun bt350=>((laws_eqInt64S.f kj36 bt350.1 t321).bind fun t354=>(if t354 = true then (laws_FnExactHexMoves.j2 kj36 t344 t343 (bt350.2 != t324)) else (laws_FnExactHexMoves.j2 kj36 t344 t343 true))))) else (some false)))) = some r:=H
         have A53:=Aside0.mk A530
         clear A530
         replace H:=Option.bind_eq_some_iff.mp H
         obtain ⟨t345,A540,H⟩:=H
         replace H : (if t345 < 0 then (some false) else (if t345 = t343 then ((laws_toHex.f kj36 a0_0 l0_1).bind fun bt346=>((impl_HexMoves.f kj36 bt346.1 bt346.2).bind fun bt350=>((laws_eqInt64S.f kj36 bt350.1 t321).bind fun t354=>(if t354 = true then (laws_FnExactHexMoves.j2 kj36 t344 t343 (bt350.2 != t324)) else (laws_FnExactHexMoves.j2 kj36 t344 t343 true))))) else (some false))) = some r:=H
         have A54:=Aside0.mk A540
         clear A540
         by_cases c55 : t345 < 0
         ·rw [if_pos c55] at H
          have c55b0 : decide (t345 < 0) = true:=decide_eq_true c55
          clear c55
          obtain rfl:=Option.some.inj H
          obtain ⟨Ao56,co56,eo56⟩:=Kd.R_slice HO_7.out
          subst eo56
          go_wp2_with (first|((with_reducible refine gate_callee (f:=14) rfl ?_);refine goesL_ (some 64) rfl rfl Tryd.func14 (by kernel_rfl) rfl #[.slice Ao56 t330.length co56,.int .i64 1] rfl (by (try simp only [List.map_toArray,List.map_cons,List.map_nil]);first|done|rfl|(simp only [List.length_drop,List.length_take];rfl)) ?_;(with_reducible refine (laws_markInt64S.calls kj36 (fun k_=>some k_ = (.slice Ao56 t330.length co56 : Value).ownBlock) (.slice Ao56 t330.length co56) t330 1 t343 t344 w _ ?side1 ?side2 A53.out).mono ?_);(case side1=>repeat (first|(with_reducible first|exact HB.out|apply below_alloc|apply pw_below_drewN|apply below_drew1|refine below_set ?_ GE315.out|refine below_set ?_ GE329.out)|exact HB.out));(case side2=>exact Kd.R_tight rfl HO_7.out);rintro e w57 ⟨rfl,hy0,hb,hkp⟩;refine ⟨_,rfl,?_⟩;have n0_:=Aside0.mk (Kd.R_mono (ok':=fun k_=>some k_ ≠ (.slice Ao56 t330.length co56 : Value).ownBlock ∧ some k_ ≠ (.slice Ao24 t341.length co24 : Value).ownBlock) (Kd.R_keptB (HO_4.out) hkp (fun k_ hk_ hs_=>(hk_.1) hs_)) (fun k_ hk_=>⟨hk_.1.1,hk_.1.2⟩));have n1_:=Aside0.mk (Kd.R_reok rfl hy0 (fun k_ e_=>HO_7.out.1 k_ e_));have n2_:=Aside0.mk (Kd.R_mono (ok':=fun k_=>some k_ ≠ (v322 : Value).ownBlock ∧ some k_ ≠ (.slice Ao56 t330.length co56 : Value).ownBlock) (Kd.R_keptB (HO_330001.out) hkp (fun k_ hk_ hs_=>(hk_.2) hs_)) (fun k_ hk_=>⟨hk_.1.1,hk_.1.2⟩));have n3_:=Aside0.mk (blk_kept (by (with_reducible repeat (first|refine blk_drewN ?_ _|refine blk_drew ?_|refine blk_alloc ?_ _));exact BK315.out) hkp (fun hs_=>(fun e_=>(Kd.R_ne HO_7.out BK315.out (by decide)) e_) hs_));have n4_:=Aside0.mk (blk_kept (by (with_reducible repeat (first|refine blk_drewN ?_ _|refine blk_drew ?_|refine blk_alloc ?_ _));exact BK329.out) hkp (fun hs_=>(fun e_=>(Kd.R_ne HO_7.out BK329.out (by decide)) e_) hs_));have n5_:=Aside0.mk (hb);clear HO_4;clear HO_7;clear HO_330001;clear BK315;clear BK329;clear HB;have HO_4:=n0_;have HO_7:=n1_;have HO_330001:=n2_;have BK315:=n3_;have BK329:=n4_;have HB:=n5_;clear n0_ n1_ n2_ n3_ n4_ n5_;(try clear hb);(try clear hkp);(try clear hy0))|((with_reducible refine gate_callee (f:=15) rfl ?_);refine goesL_ (some 67) rfl rfl Tryd.func15 (by kernel_rfl) rfl #[.slice Ao56 t344.length co56,.int .i64 1] rfl (by (try simp only [List.map_toArray,List.map_cons,List.map_nil]);first|done|(rw [show t344.length = t330.length from (Kd.R_reads' HO_7.out).1.symm] <;> rfl)|(rw [show t344.length = t330.length from (Kd.R_reads' HO_7.out).1.symm,← hl330001_36] <;> rfl)|rfl|(simp only [List.length_drop,List.length_take];rfl)) ?_;(with_reducible refine (laws_heldInt64S.calls kj36 _ _ t344 1 t345 _ ?side1 ?side2 A54.out).mono ?_);(case side1=>repeat (first|exact (Kd.R_reads' HO_7.out).2.2|(with_reducible refine Kd.C_alloc ?_ _)|(with_reducible refine Kd.C_drewN ?_ _)|(with_reducible refine Kd.C_drew ?_)));(case side2=>rw [show t344.length = t330.length from (Kd.R_reads' HO_7.out).1.symm];exact (Kd.R_reads' HO_7.out).2.1);rintro e w' ⟨rfl,⟨nd,rfl⟩⟩;refine ⟨_,rfl,?_⟩))
          go_ret
          exact ⟨by first|rfl|(simp [errW_none,errW_some] <;> rfl)|(simp [*,errW_none,errW_some] <;> rfl),by repeat (first|(with_reducible first|exact HB.out|apply below_alloc|apply pw_below_drewN|apply below_drew1|refine below_set ?_ GE315.out|refine below_set ?_ GE329.out)|exact HB.out)⟩
         ·rw [if_neg c55] at H
          have c55b0 : decide (t345 < 0) = false:=decide_eq_false c55
          clear c55
          by_cases c58 : t345 = t343
          ·rw [if_pos c58] at H
           have c58b0 : (t345 == t343) = true:=beq_iff_eq.mpr c58
           have c58b1 : (t345 != t343) = false:=bne_eq_false_iff_eq.mpr c58
           clear c58
           replace H:=Option.bind_eq_some_iff.mp H
           obtain ⟨⟨t346,t347⟩,A590,H⟩:=H
           replace H : ((impl_HexMoves.f kj36 t346 t347).bind fun bt350=>((laws_eqInt64S.f kj36 bt350.1 t321).bind fun t354=>(if t354 = true then (laws_FnExactHexMoves.j2 kj36 t344 t343 (bt350.2 != t324)) else (laws_FnExactHexMoves.j2 kj36 t344 t343 true)))) = some r:=H
           have A59:=Aside0.mk A590
           clear A590
           replace H:=Option.bind_eq_some_iff.mp H
           obtain ⟨⟨t350,t353⟩,A600,H⟩:=H
           replace H : ((laws_eqInt64S.f kj36 t350 t321).bind fun t354=>(if t354 = true then (laws_FnExactHexMoves.j2 kj36 t344 t343 (t353 != t324)) else (laws_FnExactHexMoves.j2 kj36 t344 t343 true))) = some r:=H
           have A60:=Aside0.mk A600
           clear A600
           have HC61:=Aside0.mk H
           clear H
           obtain ⟨Ao62,co62,eo62⟩:=Kd.R_slice HO_7.out
           subst eo62
           go_upto_region 25 with (first|((with_reducible refine gate_callee (f:=14) rfl ?_);refine goesL_ (some 64) rfl rfl Tryd.func14 (by kernel_rfl) rfl #[.slice Ao62 t330.length co62,.int .i64 1] rfl (by (try simp only [List.map_toArray,List.map_cons,List.map_nil]);first|done|rfl|(simp only [List.length_drop,List.length_take];rfl)) ?_;(with_reducible refine (laws_markInt64S.calls kj36 (fun k_=>some k_ = (.slice Ao62 t330.length co62 : Value).ownBlock) (.slice Ao62 t330.length co62) t330 1 t343 t344 w _ ?side1 ?side2 A53.out).mono ?_);(case side1=>repeat (first|(with_reducible first|exact HB.out|apply below_alloc|apply pw_below_drewN|apply below_drew1|refine below_set ?_ GE315.out|refine below_set ?_ GE329.out)|exact HB.out));(case side2=>exact Kd.R_tight rfl HO_7.out);rintro e w63 ⟨rfl,hy0,hb,hkp⟩;refine ⟨_,rfl,?_⟩;have n0_:=Aside0.mk (Kd.R_mono (ok':=fun k_=>some k_ ≠ (.slice Ao62 t330.length co62 : Value).ownBlock ∧ some k_ ≠ (.slice Ao24 t341.length co24 : Value).ownBlock) (Kd.R_keptB (HO_4.out) hkp (fun k_ hk_ hs_=>(hk_.1) hs_)) (fun k_ hk_=>⟨hk_.1.1,hk_.1.2⟩));have n1_:=Aside0.mk (Kd.R_reok rfl hy0 (fun k_ e_=>HO_7.out.1 k_ e_));have n2_:=Aside0.mk (Kd.R_mono (ok':=fun k_=>some k_ ≠ (v322 : Value).ownBlock ∧ some k_ ≠ (.slice Ao62 t330.length co62 : Value).ownBlock) (Kd.R_keptB (HO_330001.out) hkp (fun k_ hk_ hs_=>(hk_.2) hs_)) (fun k_ hk_=>⟨hk_.1.1,hk_.1.2⟩));have n3_:=Aside0.mk (blk_kept (by (with_reducible repeat (first|refine blk_drewN ?_ _|refine blk_drew ?_|refine blk_alloc ?_ _));exact BK315.out) hkp (fun hs_=>(fun e_=>(Kd.R_ne HO_7.out BK315.out (by decide)) e_) hs_));have n4_:=Aside0.mk (blk_kept (by (with_reducible repeat (first|refine blk_drewN ?_ _|refine blk_drew ?_|refine blk_alloc ?_ _));exact BK329.out) hkp (fun hs_=>(fun e_=>(Kd.R_ne HO_7.out BK329.out (by decide)) e_) hs_));have n5_:=Aside0.mk (hb);clear HO_4;clear HO_7;clear HO_330001;clear BK315;clear BK329;clear HB;have HO_4:=n0_;have HO_7:=n1_;have HO_330001:=n2_;have BK315:=n3_;have BK329:=n4_;have HB:=n5_;clear n0_ n1_ n2_ n3_ n4_ n5_;(try clear hb);(try clear hkp);(try clear hy0))|((with_reducible refine gate_callee (f:=15) rfl ?_);refine goesL_ (some 67) rfl rfl Tryd.func15 (by kernel_rfl) rfl #[.slice Ao62 t344.length co62,.int .i64 1] rfl (by (try simp only [List.map_toArray,List.map_cons,List.map_nil]);first|done|(rw [show t344.length = t330.length from (Kd.R_reads' HO_7.out).1.symm] <;> rfl)|(rw [show t344.length = t330.length from (Kd.R_reads' HO_7.out).1.symm,← hl330001_36] <;> rfl)|rfl|(simp only [List.length_drop,List.length_take];rfl)) ?_;(with_reducible refine (laws_heldInt64S.calls kj36 _ _ t344 1 t345 _ ?side1 ?side2 A54.out).mono ?_);(case side1=>repeat (first|exact (Kd.R_reads' HO_7.out).2.2|(with_reducible refine Kd.C_alloc ?_ _)|(with_reducible refine Kd.C_drewN ?_ _)|(with_reducible refine Kd.C_drew ?_)));(case side2=>rw [show t344.length = t330.length from (Kd.R_reads' HO_7.out).1.symm];exact (Kd.R_reads' HO_7.out).2.1);rintro e w' ⟨rfl,⟨nd,rfl⟩⟩;refine ⟨_,rfl,?_⟩;have hnb64:=NB315_329.out;have hnc64:=NB329_315.out;have hcz65_0 : w63.cell? ⟨gb315,0,none⟩ = some (.int .i64 a0_0):=(blk_cell BK315.out 0).trans rfl;have hcz65_1 : w63.cell? ⟨gb315,1,none⟩ = some (.slice A0_1 l0_1.length c0_1):=(blk_cell BK315.out 1).trans rfl;have hfz65_0:=blk_frozen BK315.out 0;have hfz65_1:=blk_frozen BK315.out 1)|((with_reducible refine gate_callee (f:=7) rfl ?_);refine goesL_ (some 75) rfl rfl Tryd.func7 (by kernel_rfl) rfl #[.agg #[.int .i64 a0_0,.slice A0_1 l0_1.length c0_1]] rfl (by (try simp only [List.map_toArray,List.map_cons,List.map_nil]);first|done|rfl|(simp only [List.length_drop,List.length_take];rfl)) ?_;(with_reducible refine (laws_toHex.calls kj36 a0_0 _ _ l0_1 t346 t347 _ ?side1 ?side2 A59.out).mono ?_);(case side1=>repeat (first|exact (Kd.C_below HR0_1.out (by repeat (first|(with_reducible first|exact HB.out|apply below_alloc|apply pw_below_drewN|apply below_drew1|refine below_set ?_ GE315.out|refine below_set ?_ GE329.out)|exact HB.out)))|(with_reducible refine Kd.C_alloc ?_ _)|(with_reducible refine Kd.C_drewN ?_ _)|(with_reducible refine Kd.C_drew ?_)));(case side2=>exact HC0_1.out);rintro e w66 ⟨v348,rfl,ho0,hb⟩;refine ⟨_,rfl,?_⟩;have n0_:=Aside0.mk (Kd.R_elder' (by (with_reducible repeat (first|apply Kd.R_alloc|apply Kd.R_drewN|apply Kd.R_drew));exact HO_4.out) (Kd.R_base ho0) hb);have n1_:=Aside0.mk (Kd.R_elder' (by (with_reducible repeat (first|apply Kd.R_alloc|apply Kd.R_drewN|apply Kd.R_drew));exact HO_7.out) (Kd.R_base ho0) hb);have n2_:=Aside0.mk (Kd.R_elder' (by (with_reducible repeat (first|apply Kd.R_alloc|apply Kd.R_drewN|apply Kd.R_drew));exact HO_330001.out) (Kd.R_base ho0) hb);have n3_:=Aside0.mk (Kd.R_lower (Kd.R_new' (Kd.R_new' (Kd.R_new' ho0 (Kd.R_lt (by (with_reducible repeat (first|apply Kd.R_alloc|apply Kd.R_drewN|apply Kd.R_drew));exact HO_4.out))) (Kd.R_lt (by (with_reducible repeat (first|apply Kd.R_alloc|apply Kd.R_drewN|apply Kd.R_drew));exact HO_7.out))) (Kd.R_lt (by (with_reducible repeat (first|apply Kd.R_alloc|apply Kd.R_drewN|apply Kd.R_drew));exact HO_330001.out))) (below_size (by repeat (first|(with_reducible first|exact HB.out|apply below_alloc|apply pw_below_drewN|apply below_drew1|refine below_set ?_ GE315.out|refine below_set ?_ GE329.out)|exact HB.out))));have n4_:=Aside0.mk (blk_below (g:=gb315) (o:=.cells #[.int .i64 a0_0,.slice A0_1 l0_1.length c0_1] 24 (0,0)) (by (with_reducible repeat (first|refine blk_drewN ?_ _|refine blk_drew ?_|refine blk_alloc ?_ _));exact BK315.out) hb);have n5_:=Aside0.mk (blk_below (g:=gb329) (o:=.cells #[.int .i64 t325,.slice Ao24 t341.length co24] 28 (0,0)) (by (with_reducible repeat (first|refine blk_drewN ?_ _|refine blk_drew ?_|refine blk_alloc ?_ _));exact BK329.out) hb);have n6_:=Aside0.mk (below_step (by repeat (first|(with_reducible first|exact HB.out|apply below_alloc|apply pw_below_drewN|apply below_drew1|refine below_set ?_ GE315.out|refine below_set ?_ GE329.out)|exact HB.out)) hb);clear HO_4;clear HO_7;clear HO_330001;clear BK315;clear BK329;clear HB;have HO_4:=n0_;have HO_7:=n1_;have HO_330001:=n2_;have HO349:=n3_;have BK315:=n4_;have BK329:=n5_;have HB:=n6_;clear n0_ n1_ n2_ n3_ n4_ n5_ n6_;(try clear hb);(try clear hb2);(try clear hk);(try clear hi);(try clear ho0);obtain ⟨Ao67,co67,eo67⟩:=Kd.R_slice HO349.out;subst eo67)|((with_reducible refine gate_callee (f:=11) rfl ?_);refine goesL_ (some 76) rfl rfl Tryd.func11 (by kernel_rfl) rfl #[.agg #[.int .i64 t346,.slice Ao67 t347.length co67]] rfl (by (try simp only [List.map_toArray,List.map_cons,List.map_nil]);first|done|rfl|(simp only [List.length_drop,List.length_take];rfl)) ?_;(with_reducible refine (impl_HexMoves.calls kj36 t346 _ _ t347 t350 t353 _ ?side1 ?side2 A60.out).mono ?_);(case side1=>repeat (first|exact (Kd.R_reads' HO349.out).2.2|(with_reducible refine Kd.C_alloc ?_ _)|(with_reducible refine Kd.C_drewN ?_ _)|(with_reducible refine Kd.C_drew ?_)));(case side2=>exact (Kd.R_reads' HO349.out).2.1);rintro e w68 ⟨v351,rfl,ho0,hb⟩;refine ⟨_,rfl,?_⟩;have n0_:=Aside0.mk (Kd.R_elder' (by (with_reducible repeat (first|apply Kd.R_alloc|apply Kd.R_drewN|apply Kd.R_drew));exact HO_4.out) (Kd.R_base ho0) hb);have n1_:=Aside0.mk (Kd.R_elder' (by (with_reducible repeat (first|apply Kd.R_alloc|apply Kd.R_drewN|apply Kd.R_drew));exact HO_7.out) (Kd.R_base ho0) hb);have n2_:=Aside0.mk (Kd.R_elder' (by (with_reducible repeat (first|apply Kd.R_alloc|apply Kd.R_drewN|apply Kd.R_drew));exact HO_330001.out) (Kd.R_base ho0) hb);have n3_:=Aside0.mk (Kd.R_elder' (by (with_reducible repeat (first|apply Kd.R_alloc|apply Kd.R_drewN|apply Kd.R_drew));exact HO349.out) (Kd.R_base ho0) hb);have n4_:=Aside0.mk (Kd.R_lower (Kd.R_new' (Kd.R_new' (Kd.R_new' (Kd.R_new' ho0 (Kd.R_lt (by (with_reducible repeat (first|apply Kd.R_alloc|apply Kd.R_drewN|apply Kd.R_drew));exact HO_4.out))) (Kd.R_lt (by (with_reducible repeat (first|apply Kd.R_alloc|apply Kd.R_drewN|apply Kd.R_drew));exact HO_7.out))) (Kd.R_lt (by (with_reducible repeat (first|apply Kd.R_alloc|apply Kd.R_drewN|apply Kd.R_drew));exact HO_330001.out))) (Kd.R_lt (by (with_reducible repeat (first|apply Kd.R_alloc|apply Kd.R_drewN|apply Kd.R_drew));exact HO349.out))) (below_size (by repeat (first|(with_reducible first|exact HB.out|apply below_alloc|apply pw_below_drewN|apply below_drew1|refine below_set ?_ GE315.out|refine below_set ?_ GE329.out)|exact HB.out))));have n5_:=Aside0.mk (blk_below (g:=gb315) (o:=.cells #[.int .i64 a0_0,.slice A0_1 l0_1.length c0_1] 24 (0,0)) (by (with_reducible repeat (first|refine blk_drewN ?_ _|refine blk_drew ?_|refine blk_alloc ?_ _));exact BK315.out) hb);have n6_:=Aside0.mk (blk_below (g:=gb329) (o:=.cells #[.int .i64 t325,.slice Ao24 t341.length co24] 28 (0,0)) (by (with_reducible repeat (first|refine blk_drewN ?_ _|refine blk_drew ?_|refine blk_alloc ?_ _));exact BK329.out) hb);have n7_:=Aside0.mk (below_step (by repeat (first|(with_reducible first|exact HB.out|apply below_alloc|apply pw_below_drewN|apply below_drew1|refine below_set ?_ GE315.out|refine below_set ?_ GE329.out)|exact HB.out)) hb);clear HO_4;clear HO_7;clear HO_330001;clear HO349;clear BK315;clear BK329;clear HB;have HO_4:=n0_;have HO_7:=n1_;have HO_330001:=n2_;have HO349:=n3_;have HO352:=n4_;have BK315:=n5_;have BK329:=n6_;have HB:=n7_;clear n0_ n1_ n2_ n3_ n4_ n5_ n6_ n7_;(try clear hb);(try clear hb2);(try clear hk);(try clear hi);(try clear ho0)))
           (try simp only [Act.put,List.setIfInBounds_toArray,List.set_cons_zero,List.set_cons_succ])
           go_cut [87] (fun v87 wc=>∃ (kq : Nat) (x87_60 : Bool),v87 = .bool x87_60 ∧ Aside0 (laws_FnExactHexMoves.j2 kq t344 t343 x87_60 = some r) ∧ Aside0 (kq ≤ kj36) ∧ Aside0 (Kd.R (Kd.int .i64) 2 wc w.heap.size (fun k_=>some k_ ≠ ((.slice Ao24 t341.length co24) : Value).ownBlock) (.slice Ao62 t330.length co62) t344) ∧ Aside0 (Kd.R (Kd.int .i64) 2 wc w.heap.size (fun k_=>some k_ ≠ ((.slice Ao62 t330.length co62) : Value).ownBlock) (.slice Ao24 t341.length co24) t341) ∧ Aside0 (wc.heap[gb315]? = some (.cells #[.int .i64 a0_0,(.slice A0_1 l0_1.length c0_1)] 24 (0,0))) ∧ Aside0 (wc.heap[gb329]? = some (.cells #[.int .i64 t325,(.slice Ao24 t341.length co24)] 28 (0,0))) ∧ Aside0 (Below w.heap.size w wc))
           case first =>
            have H:=HC61.out
            clear HC61
            replace H:=Option.bind_eq_some_iff.mp H
            obtain ⟨t354,A690,H⟩:=H
            replace H : (if t354 = true then (laws_FnExactHexMoves.j2 kj36 t344 t343 (t353 != t324)) else (laws_FnExactHexMoves.j2 kj36 t344 t343 true)) = some r:=H
            have A69:=Aside0.mk A690
            clear A690
            by_cases c70 : t354 = true
            ·subst c70
             have H1 : (laws_FnExactHexMoves.j2 kj36 t344 t343 (t353 != t324)) = some r:=by rw [if_pos rfl] at H;exact H
             clear H
             have H:=H1
             clear H1
             have H':=Aside0.mk H
             clear H
             obtain ⟨Ao71,co71,eo71⟩:=Kd.R_slice HO352.out
             subst eo71
             obtain ⟨Ao72,co72,eo72⟩:=Kd.R_slice HO_4.out
             subst eo72
             go_wp2_with (first|((with_reducible refine gate_callee (f:=12) rfl ?_);refine goesL_ (some 81) rfl rfl Tryd.func12 (by kernel_rfl) rfl #[.slice Ao71 t350.length co71,.slice Ao72 t321.length co72] rfl (by (try simp only [List.map_toArray,List.map_cons,List.map_nil]);first|done|rfl|(simp only [List.length_drop,List.length_take];rfl)) ?_;(with_reducible refine (laws_eqInt64S.calls kj36 _ _ t350 _ _ t321 true _ ?side1 ?side2 ?side3 ?side4 A69.out).mono ?_);(case side1=>repeat (first|exact (Kd.R_reads' HO352.out).2.2|(with_reducible refine Kd.C_alloc ?_ _)|(with_reducible refine Kd.C_drewN ?_ _)|(with_reducible refine Kd.C_drew ?_)));(case side2=>exact (Kd.R_reads' HO352.out).2.1);(case side3=>repeat (first|exact (Kd.R_reads' HO_4.out).2.2|(with_reducible refine Kd.C_alloc ?_ _)|(with_reducible refine Kd.C_drewN ?_ _)|(with_reducible refine Kd.C_drew ?_)));(case side4=>exact (Kd.R_reads' HO_4.out).2.1);rintro e w' ⟨rfl,⟨nd,rfl⟩⟩;refine ⟨_,rfl,?_⟩))
             go_meet
             case rel=>exact ⟨_,((t353 != t324)),(by first|rfl|(simp;done)|(simp [*];done)),H',⟨by have:=HJ10.out;have:=HJ36.out;first|omega|exact Nat.le_refl _⟩,⟨by (try simp only [hl330001_36]);(with_reducible repeat (first|apply Kd.R_alloc|apply Kd.R_drewN|apply Kd.R_drew));exact Kd.R_mono HO_7.out (fun _ hk=>hk.1.1.2)⟩,⟨by (try simp only [hl330001_36]);(with_reducible repeat (first|apply Kd.R_alloc|apply Kd.R_drewN|apply Kd.R_drew));exact Kd.R_mono HO_330001.out (fun _ hk=>hk.1.1.2)⟩,⟨by (try simp only [hl330001_36]);(with_reducible repeat (first|refine blk_drewN ?_ _|refine blk_drew ?_|refine blk_alloc ?_ _));exact BK315.out⟩,⟨by (try simp only [hl330001_36]);(with_reducible repeat (first|refine blk_drewN ?_ _|refine blk_drew ?_|refine blk_alloc ?_ _));exact BK329.out⟩,⟨by repeat (first|(with_reducible first|exact HB.out|apply below_alloc|apply pw_below_drewN|apply below_drew1|refine below_set ?_ GE315.out|refine below_set ?_ GE329.out)|exact HB.out)⟩⟩
            ·replace c70:=Bool.eq_false_iff.mpr c70
             subst c70
             have H1 : (laws_FnExactHexMoves.j2 kj36 t344 t343 true) = some r:=by rw [if_neg (show ¬ (false = true) by decide)] at H;exact H
             clear H
             have H:=H1
             clear H1
             have H':=Aside0.mk H
             clear H
             obtain ⟨Ao73,co73,eo73⟩:=Kd.R_slice HO352.out
             subst eo73
             obtain ⟨Ao74,co74,eo74⟩:=Kd.R_slice HO_4.out
             subst eo74
             go_wp2_with (first|((with_reducible refine gate_callee (f:=12) rfl ?_);refine goesL_ (some 81) rfl rfl Tryd.func12 (by kernel_rfl) rfl #[.slice Ao73 t350.length co73,.slice Ao74 t321.length co74] rfl (by (try simp only [List.map_toArray,List.map_cons,List.map_nil]);first|done|rfl|(simp only [List.length_drop,List.length_take];rfl)) ?_;(with_reducible refine (laws_eqInt64S.calls kj36 _ _ t350 _ _ t321 false _ ?side1 ?side2 ?side3 ?side4 A69.out).mono ?_);(case side1=>repeat (first|exact (Kd.R_reads' HO352.out).2.2|(with_reducible refine Kd.C_alloc ?_ _)|(with_reducible refine Kd.C_drewN ?_ _)|(with_reducible refine Kd.C_drew ?_)));(case side2=>exact (Kd.R_reads' HO352.out).2.1);(case side3=>repeat (first|exact (Kd.R_reads' HO_4.out).2.2|(with_reducible refine Kd.C_alloc ?_ _)|(with_reducible refine Kd.C_drewN ?_ _)|(with_reducible refine Kd.C_drew ?_)));(case side4=>exact (Kd.R_reads' HO_4.out).2.1);rintro e w' ⟨rfl,⟨nd,rfl⟩⟩;refine ⟨_,rfl,?_⟩))
             go_meet
             case rel=>exact ⟨_,(true),(by first|rfl|(simp;done)|(simp [*];done)),H',⟨by have:=HJ10.out;have:=HJ36.out;first|omega|exact Nat.le_refl _⟩,⟨by (try simp only [hl330001_36]);(with_reducible repeat (first|apply Kd.R_alloc|apply Kd.R_drewN|apply Kd.R_drew));exact Kd.R_mono HO_7.out (fun _ hk=>hk.1.1.2)⟩,⟨by (try simp only [hl330001_36]);(with_reducible repeat (first|apply Kd.R_alloc|apply Kd.R_drewN|apply Kd.R_drew));exact Kd.R_mono HO_330001.out (fun _ hk=>hk.1.1.2)⟩,⟨by (try simp only [hl330001_36]);(with_reducible repeat (first|refine blk_drewN ?_ _|refine blk_drew ?_|refine blk_alloc ?_ _));exact BK315.out⟩,⟨by (try simp only [hl330001_36]);(with_reducible repeat (first|refine blk_drewN ?_ _|refine blk_drew ?_|refine blk_alloc ?_ _));exact BK329.out⟩,⟨by repeat (first|(with_reducible first|exact HB.out|apply below_alloc|apply pw_below_drewN|apply below_drew1|refine below_set ?_ GE315.out|refine below_set ?_ GE329.out)|exact HB.out)⟩⟩
           case rest =>
            clear HC61
            try clear c1
            try clear c2
            try clear p2
            try clear c3
            try clear c3b0
            try clear c4
            try clear c5
            try clear c6
            try clear c7
            try clear c9
            try clear c10
            try clear c11
            try clear c12
            try clear c13
            try clear c14
            try clear c15
            try clear c22
            try clear c27
            try clear c32
            try clear c35
            try clear c42
            try clear c45
            try clear c45b0
            try clear c47
            try clear c52
            try clear c55
            try clear c55b0
            try clear c58
            try clear c58b0
            try clear c58b1
            try clear c64
            try clear c70
            try clear hcz13_0
            try clear hcz13_1
            try clear hcz15_0
            try clear hcz15_1
            try clear hcz19_0
            try clear hcz19_1
            try clear hcz23_0
            try clear hcz23_1
            try clear hcz43_0
            try clear hcz43_1
            try clear hcz5_0
            try clear hcz5_1
            try clear hcz65_0
            try clear hcz65_1
            try clear hfz13_0
            try clear hfz13_1
            try clear hfz15_0
            try clear hfz15_1
            try clear hfz19_0
            try clear hfz19_1
            try clear hfz23_0
            try clear hfz23_1
            try clear hfz43_0
            try clear hfz43_1
            try clear hfz5_0
            try clear hfz5_1
            try clear hfz65_0
            try clear hfz65_1
            try clear p2
            obtain ⟨kq,x87_60,rfl,HA,HJ60,HO_7,HO_330001,BK315,BK329,HB⟩:=hcut
            have hl7_60:=(Kd.R_reads' HO_7.out).1
            rw [hl7_60] at HO_7
            (try simp only [hl7_60])
            (try simp only [hl7_60] at BK315)
            (try simp only [hl7_60] at BK329)
            (try simp only [hl7_60] at HO_330001)
            cases kq with
            | zero => exact absurd HA.out (by simp [laws_FnExactHexMoves.j2])
            | succ kj60 =>
             have H:=HA.out
             clear HA
             simp only [laws_FnExactHexMoves.j2] at H
             by_cases c75 : x87_60 = true
             ·subst c75
              have H1 : (some false) = some r:=by rw [if_pos rfl] at H;exact H
              clear H
              have H:=H1
              clear H1
              obtain rfl:=Option.some.inj H
              go_wp2
              go_ret
              exact ⟨by first|rfl|(simp [errW_none,errW_some] <;> rfl)|(simp [*,errW_none,errW_some] <;> rfl),by repeat (first|(with_reducible first|exact HB.out|apply below_alloc|apply pw_below_drewN|apply below_drew1|refine below_set ?_ GE315.out|refine below_set ?_ GE329.out)|exact HB.out)⟩
             ·replace c75:=Bool.eq_false_iff.mpr c75
              subst c75
              have H1 : ((laws_heldInt64S.f kj60 t344 1).bind fun t355=>(if t355 < 0 then (some false) else (if t355 = t343 then (some true) else (some false)))) = some r:=by rw [if_neg (show ¬ (false = true) by decide)] at H;exact H
              clear H
              have H:=H1
              clear H1
              replace H:=Option.bind_eq_some_iff.mp H
              obtain ⟨t355,A760,H⟩:=H
              replace H : (if t355 < 0 then (some false) else (if t355 = t343 then (some true) else (some false))) = some r:=H
              have A76:=Aside0.mk A760
              clear A760
              by_cases c77 : t355 < 0
              ·rw [if_pos c77] at H
               have c77b0 : decide (t355 < 0) = true:=decide_eq_true c77
               clear c77
               obtain rfl:=Option.some.inj H
               go_wp2_with (first|((with_reducible refine gate_callee (f:=15) rfl ?_);refine goesL_ (some 90) rfl rfl Tryd.func15 (by kernel_rfl) rfl #[.slice Ao62 t344.length co62,.int .i64 1] rfl (by (try simp only [List.map_toArray,List.map_cons,List.map_nil]);first|done|rfl|(simp only [List.length_drop,List.length_take];rfl)) ?_;(with_reducible refine (laws_heldInt64S.calls kj60 _ _ t344 1 t355 _ ?side1 ?side2 A76.out).mono ?_);(case side1=>repeat (first|exact (Kd.R_reads' HO_7.out).2.2|(with_reducible refine Kd.C_alloc ?_ _)|(with_reducible refine Kd.C_drewN ?_ _)|(with_reducible refine Kd.C_drew ?_)));(case side2=>exact (Kd.R_reads' HO_7.out).2.1);rintro e w' ⟨rfl,⟨nd,rfl⟩⟩;refine ⟨_,rfl,?_⟩))
               go_ret
               exact ⟨by first|rfl|(simp [errW_none,errW_some] <;> rfl)|(simp [*,errW_none,errW_some] <;> rfl),by repeat (first|(with_reducible first|exact HB.out|apply below_alloc|apply pw_below_drewN|apply below_drew1|refine below_set ?_ GE315.out|refine below_set ?_ GE329.out)|exact HB.out)⟩
              ·rw [if_neg c77] at H
               have c77b0 : decide (t355 < 0) = false:=decide_eq_false c77
               clear c77
               by_cases c78 : t355 = t343
               ·rw [if_pos c78] at H
                have c78b0 : (t355 == t343) = true:=beq_iff_eq.mpr c78
                have c78b1 : (t355 != t343) = false:=bne_eq_false_iff_eq.mpr c78
                clear c78
                obtain rfl:=Option.some.inj H
                go_wp2_with (first|((with_reducible refine gate_callee (f:=15) rfl ?_);refine goesL_ (some 90) rfl rfl Tryd.func15 (by kernel_rfl) rfl #[.slice Ao62 t344.length co62,.int .i64 1] rfl (by (try simp only [List.map_toArray,List.map_cons,List.map_nil]);first|done|rfl|(simp only [List.length_drop,List.length_take];rfl)) ?_;(with_reducible refine (laws_heldInt64S.calls kj60 _ _ t344 1 t355 _ ?side1 ?side2 A76.out).mono ?_);(case side1=>repeat (first|exact (Kd.R_reads' HO_7.out).2.2|(with_reducible refine Kd.C_alloc ?_ _)|(with_reducible refine Kd.C_drewN ?_ _)|(with_reducible refine Kd.C_drew ?_)));(case side2=>exact (Kd.R_reads' HO_7.out).2.1);rintro e w' ⟨rfl,⟨nd,rfl⟩⟩;refine ⟨_,rfl,?_⟩))
                go_ret
                exact ⟨by first|rfl|(simp [errW_none,errW_some] <;> rfl)|(simp [*,errW_none,errW_some] <;> rfl),by repeat (first|(with_reducible first|exact HB.out|apply below_alloc|apply pw_below_drewN|apply below_drew1|refine below_set ?_ GE315.out|refine below_set ?_ GE329.out)|exact HB.out)⟩
               ·rw [if_neg c78] at H
                have c78b0 : (t355 == t343) = false:=beq_eq_false_iff_ne.mpr c78
                have c78b1 : (t355 != t343) = true:=bne_iff_ne.mpr c78
                obtain rfl:=Option.some.inj H
                go_wp2_with (first|((with_reducible refine gate_callee (f:=15) rfl ?_);refine goesL_ (some 90) rfl rfl Tryd.func15 (by kernel_rfl) rfl #[.slice Ao62 t344.length co62,.int .i64 1] rfl (by (try simp only [List.map_toArray,List.map_cons,List.map_nil]);first|done|rfl|(simp only [List.length_drop,List.length_take];rfl)) ?_;(with_reducible refine (laws_heldInt64S.calls kj60 _ _ t344 1 t355 _ ?side1 ?side2 A76.out).mono ?_);(case side1=>repeat (first|exact (Kd.R_reads' HO_7.out).2.2|(with_reducible refine Kd.C_alloc ?_ _)|(with_reducible refine Kd.C_drewN ?_ _)|(with_reducible refine Kd.C_drew ?_)));(case side2=>exact (Kd.R_reads' HO_7.out).2.1);rintro e w' ⟨rfl,⟨nd,rfl⟩⟩;refine ⟨_,rfl,?_⟩))
                go_ret
                exact ⟨by first|rfl|(simp [errW_none,errW_some] <;> rfl)|(simp [*,errW_none,errW_some] <;> rfl),by repeat (first|(with_reducible first|exact HB.out|apply below_alloc|apply pw_below_drewN|apply below_drew1|refine below_set ?_ GE315.out|refine below_set ?_ GE329.out)|exact HB.out)⟩
          ·rw [if_neg c58] at H
           have c58b0 : (t345 == t343) = false:=beq_eq_false_iff_ne.mpr c58
           have c58b1 : (t345 != t343) = true:=bne_iff_ne.mpr c58
           obtain rfl:=Option.some.inj H
           obtain ⟨Ao79,co79,eo79⟩:=Kd.R_slice HO_7.out
           subst eo79
           go_wp2_with (first|((with_reducible refine gate_callee (f:=14) rfl ?_);refine goesL_ (some 64) rfl rfl Tryd.func14 (by kernel_rfl) rfl #[.slice Ao79 t330.length co79,.int .i64 1] rfl (by (try simp only [List.map_toArray,List.map_cons,List.map_nil]);first|done|rfl|(simp only [List.length_drop,List.length_take];rfl)) ?_;(with_reducible refine (laws_markInt64S.calls kj36 (fun k_=>some k_ = (.slice Ao79 t330.length co79 : Value).ownBlock) (.slice Ao79 t330.length co79) t330 1 t343 t344 w _ ?side1 ?side2 A53.out).mono ?_);(case side1=>repeat (first|(with_reducible first|exact HB.out|apply below_alloc|apply pw_below_drewN|apply below_drew1|refine below_set ?_ GE315.out|refine below_set ?_ GE329.out)|exact HB.out));(case side2=>exact Kd.R_tight rfl HO_7.out);rintro e w80 ⟨rfl,hy0,hb,hkp⟩;refine ⟨_,rfl,?_⟩;have n0_:=Aside0.mk (Kd.R_mono (ok':=fun k_=>some k_ ≠ (.slice Ao79 t330.length co79 : Value).ownBlock ∧ some k_ ≠ (.slice Ao24 t341.length co24 : Value).ownBlock) (Kd.R_keptB (HO_4.out) hkp (fun k_ hk_ hs_=>(hk_.1) hs_)) (fun k_ hk_=>⟨hk_.1.1,hk_.1.2⟩));have n1_:=Aside0.mk (Kd.R_reok rfl hy0 (fun k_ e_=>HO_7.out.1 k_ e_));have n2_:=Aside0.mk (Kd.R_mono (ok':=fun k_=>some k_ ≠ (v322 : Value).ownBlock ∧ some k_ ≠ (.slice Ao79 t330.length co79 : Value).ownBlock) (Kd.R_keptB (HO_330001.out) hkp (fun k_ hk_ hs_=>(hk_.2) hs_)) (fun k_ hk_=>⟨hk_.1.1,hk_.1.2⟩));have n3_:=Aside0.mk (blk_kept (by (with_reducible repeat (first|refine blk_drewN ?_ _|refine blk_drew ?_|refine blk_alloc ?_ _));exact BK315.out) hkp (fun hs_=>(fun e_=>(Kd.R_ne HO_7.out BK315.out (by decide)) e_) hs_));have n4_:=Aside0.mk (blk_kept (by (with_reducible repeat (first|refine blk_drewN ?_ _|refine blk_drew ?_|refine blk_alloc ?_ _));exact BK329.out) hkp (fun hs_=>(fun e_=>(Kd.R_ne HO_7.out BK329.out (by decide)) e_) hs_));have n5_:=Aside0.mk (hb);clear HO_4;clear HO_7;clear HO_330001;clear BK315;clear BK329;clear HB;have HO_4:=n0_;have HO_7:=n1_;have HO_330001:=n2_;have BK315:=n3_;have BK329:=n4_;have HB:=n5_;clear n0_ n1_ n2_ n3_ n4_ n5_;(try clear hb);(try clear hkp);(try clear hy0))|((with_reducible refine gate_callee (f:=15) rfl ?_);refine goesL_ (some 67) rfl rfl Tryd.func15 (by kernel_rfl) rfl #[.slice Ao79 t344.length co79,.int .i64 1] rfl (by (try simp only [List.map_toArray,List.map_cons,List.map_nil]);first|done|(rw [show t344.length = t330.length from (Kd.R_reads' HO_7.out).1.symm] <;> rfl)|(rw [show t344.length = t330.length from (Kd.R_reads' HO_7.out).1.symm,← hl330001_36] <;> rfl)|rfl|(simp only [List.length_drop,List.length_take];rfl)) ?_;(with_reducible refine (laws_heldInt64S.calls kj36 _ _ t344 1 t345 _ ?side1 ?side2 A54.out).mono ?_);(case side1=>repeat (first|exact (Kd.R_reads' HO_7.out).2.2|(with_reducible refine Kd.C_alloc ?_ _)|(with_reducible refine Kd.C_drewN ?_ _)|(with_reducible refine Kd.C_drew ?_)));(case side2=>rw [show t344.length = t330.length from (Kd.R_reads' HO_7.out).1.symm];exact (Kd.R_reads' HO_7.out).2.1);rintro e w' ⟨rfl,⟨nd,rfl⟩⟩;refine ⟨_,rfl,?_⟩))
           go_ret
           exact ⟨by first|rfl|(simp [errW_none,errW_some] <;> rfl)|(simp [*,errW_none,errW_some] <;> rfl),by repeat (first|(with_reducible first|exact HB.out|apply below_alloc|apply pw_below_drewN|apply below_drew1|refine below_set ?_ GE315.out|refine below_set ?_ GE329.out)|exact HB.out)⟩
     ·replace c35:=Bool.eq_false_iff.mpr c35
      subst c35
      have H1 : (some false) = some r:=by rw [if_neg (show ¬ (false = true) by decide)] at H;exact H
      clear H
      have H:=H1
      clear H1
      obtain rfl:=Option.some.inj H
      try go_wp2
      have n0_:=Aside0.mk (Kd.R_drew HO_4.out)
      have n1_:=Aside0.mk (Kd.R_drew HO_7.out)
      have n2_:=Aside0.mk (Kd.R_drew HO_330001.out)
      have n3_:=Aside0.mk (blk_drew BK315.out)
      have n4_:=Aside0.mk (blk_drew BK329.out)
      have n5_:=Aside0.mk (below_drew1 HB.out)
      clear HO_4
      clear HO_7
      clear HO_330001
      clear BK315
      clear BK329
      clear HB
      have HO_4:=n0_
      have HO_7:=n1_
      have HO_330001:=n2_
      have BK315:=n3_
      have BK329:=n4_
      have HB:=n5_
      clear n0_ n1_ n2_ n3_ n4_ n5_
      refine start_ (n:=5) (S:=fun w'=>w'.cell? ⟨gb329,0,none⟩ = some (.int .i64 t325) ∧ w'.cell? ⟨gb329,1,none⟩ = some (.slice Ao24 t326.length co24) ∧ w'.cell? ⟨gb315,0,none⟩ = some (.int .i64 a0_0) ∧ w'.cell? ⟨gb315,1,none⟩ = some (.slice A0_1 l0_1.length c0_1)) (ds:=[]) #[false,false,false,false,false] (by kernel_rfl) rfl rfl ⟨(blk_cell BK329.out 0).trans rfl,(blk_cell BK329.out 1).trans rfl,(blk_cell BK315.out 0).trans rfl,(blk_cell BK315.out 1).trans rfl⟩ (fun hHeld=>?_)
      generalize wc.drew = w81 at HO_4 HO_7 HO_330001 BK315 BK329 HB hHeld ⊢
      refine take_ (i:=0) (N:=some 41) (v:=?_) (a':=?_) #[true,false,false,false,false] rfl rfl (by kernel_rfl) (fun _ _ _ h=>h) (Or.inl ⟨by rfl,?_⟩) hHeld ?_ ?_
      rotate_left
      ·rintro w' ⟨s0,s1,s2,s3⟩
       go_simp
       with_reducible rfl
      rotate_left
      ·simp only [Act.put,List.setIfInBounds_toArray,List.set_cons_zero,List.set_cons_succ,i64_w,i32_w]
       rfl
      refine take_ (i:=1) (N:=some 42) (v:=?_) (a':=?_) #[true,true,false,false,false] rfl rfl (by kernel_rfl) (fun _ _ _ h=>h) (Or.inl ⟨by rfl,?_⟩) hHeld ?_ ?_
      rotate_left
      ·rintro w' ⟨s0,s1,s2,s3⟩
       go_simp
       with_reducible rfl
      rotate_left
      ·simp only [Act.put,List.setIfInBounds_toArray,List.set_cons_zero,List.set_cons_succ,i64_w,i32_w]
       rfl
      refine one_ (i:=2) (N:=some 43) #[true,true,true,false,false] rfl rfl (by kernel_rfl) (by decide) (fun K hK=>?_)
      refine goes_ Tryd.func7 (by kernel_rfl) rfl #[.agg #[.int .i64 a0_0,.slice A0_1 l0_1.length c0_1]] (by rfl) rfl rfl (by (try simp only [List.map_toArray,List.map_cons,List.map_nil]);first|done|rfl|(simp only [List.length_drop,List.length_take];rfl)) ?_
      with_reducible refine (laws_toHex.calls kj10 a0_0 _ _ l0_1 t335 t336 _ ?side1 ?side2 A33.out).mono ?_
      (case side1=>repeat (first|exact (Kd.C_below HR0_1.out HB.out)|(with_reducible refine Kd.C_alloc ?_ _)|(with_reducible refine Kd.C_drewN ?_ _)|(with_reducible refine Kd.C_drew ?_)))
      (case side2=>exact HC0_1.out)
      rintro e w82 ⟨v337,rfl,ho0,hb⟩
      refine ⟨_,rfl,?_⟩
      have n0_:=Aside0.mk (Kd.R_elder' (by (with_reducible repeat (first|apply Kd.R_alloc|apply Kd.R_drewN|apply Kd.R_drew));exact HO_4.out) (Kd.R_base ho0) hb)
      have n1_:=Aside0.mk (Kd.R_elder' (by (with_reducible repeat (first|apply Kd.R_alloc|apply Kd.R_drewN|apply Kd.R_drew));exact HO_7.out) (Kd.R_base ho0) hb)
      have n2_:=Aside0.mk (Kd.R_elder' (by (with_reducible repeat (first|apply Kd.R_alloc|apply Kd.R_drewN|apply Kd.R_drew));exact HO_330001.out) (Kd.R_base ho0) hb)
      have n3_:=Aside0.mk (Kd.R_lower (Kd.R_new' (Kd.R_new' (Kd.R_new' ho0 (Kd.R_lt (by (with_reducible repeat (first|apply Kd.R_alloc|apply Kd.R_drewN|apply Kd.R_drew));exact HO_4.out))) (Kd.R_lt (by (with_reducible repeat (first|apply Kd.R_alloc|apply Kd.R_drewN|apply Kd.R_drew));exact HO_7.out))) (Kd.R_lt (by (with_reducible repeat (first|apply Kd.R_alloc|apply Kd.R_drewN|apply Kd.R_drew));exact HO_330001.out))) (below_size (by repeat (first|(with_reducible first|exact HB.out|apply below_alloc|apply pw_below_drewN|apply below_drew1|refine below_set ?_ GE315.out|refine below_set ?_ GE329.out)|exact HB.out))))
      have n4_:=Aside0.mk (blk_below (g:=gb315) (o:=.cells #[.int .i64 a0_0,.slice A0_1 l0_1.length c0_1] 24 (0,0)) (by (with_reducible repeat (first|refine blk_drewN ?_ _|refine blk_drew ?_|refine blk_alloc ?_ _));exact BK315.out) hb)
      have n5_:=Aside0.mk (blk_below (g:=gb329) (o:=.cells #[.int .i64 t325,.slice Ao24 t326.length co24] 28 (0,0)) (by (with_reducible repeat (first|refine blk_drewN ?_ _|refine blk_drew ?_|refine blk_alloc ?_ _));exact BK329.out) hb)
      have n6_:=Aside0.mk (below_step (by repeat (first|(with_reducible first|exact HB.out|apply below_alloc|apply pw_below_drewN|apply below_drew1|refine below_set ?_ GE315.out|refine below_set ?_ GE329.out)|exact HB.out)) hb)
      clear HO_4
      clear HO_7
      clear HO_330001
      clear BK315
      clear BK329
      clear HB
      have HO_4:=n0_
      have HO_7:=n1_
      have HO_330001:=n2_
      have HO338:=n3_
      have BK315:=n4_
      have BK329:=n5_
      have HB:=n6_
      clear n0_ n1_ n2_ n3_ n4_ n5_ n6_
      (try clear hb)
      (try clear hb2)
      (try clear hk)
      (try clear hi)
      (try clear ho0)
      obtain ⟨Ao83,co83,eo83⟩:=Kd.R_slice HO338.out
      (first|subst eo83|(injection eo83 with f1_ f2_ f3_;have f4_:=f1_.symm;have f5_:=f3_.symm;clear f1_ f2_ f3_;subst f4_;subst f5_))
      refine hK.out _ _ ⟨(blk_cell BK329.out 0).trans rfl,(blk_cell BK329.out 1).trans rfl,(blk_cell BK315.out 0).trans rfl,(blk_cell BK315.out 1).trans rfl⟩ (fun hHeld=>?_)
      clear hK K
      refine norm_ (a':=?_) ?_ ?_
      rotate_left
      ·show Act.put _ (some 43) _ = _
       simp only [Act.put,List.setIfInBounds_toArray,List.set_cons_zero,List.set_cons_succ,i64_w,i32_w]
       rfl
      refine one_ (i:=3) (N:=some 44) #[true,true,true,true,false] rfl rfl (by kernel_rfl) (by decide) (fun K hK=>?_)
      refine goes_ Tryd.func9 (by kernel_rfl) rfl #[.agg #[.int .i64 t325,.slice Ao24 t326.length co24],.agg #[.int .i64 t335,.slice Ao83 t336.length co83]] (by rfl) rfl rfl (by (try simp only [List.map_toArray,List.map_cons,List.map_nil]);first|done|rfl|(simp only [List.length_drop,List.length_take];rfl)) ?_
      with_reducible refine (laws_eqHex.calls kj10 t325 _ _ t326 t335 _ _ t336 false _ ?side1 ?side2 ?side3 ?side4 A34.out).mono ?_
      (case side1=>repeat (first|exact (Kd.R_reads' HO_330001.out).2.2|(with_reducible refine Kd.C_alloc ?_ _)|(with_reducible refine Kd.C_drewN ?_ _)|(with_reducible refine Kd.C_drew ?_)))
      (case side2=>exact (Kd.R_reads' HO_330001.out).2.1)
      (case side3=>repeat (first|exact (Kd.R_reads' HO338.out).2.2|(with_reducible refine Kd.C_alloc ?_ _)|(with_reducible refine Kd.C_drewN ?_ _)|(with_reducible refine Kd.C_drew ?_)))
      (case side4=>exact (Kd.R_reads' HO338.out).2.1)
      rintro e w84 ⟨rfl,hb⟩
      refine ⟨_,rfl,?_⟩
      have n0_:=Aside0.mk (Kd.R_below (by (with_reducible repeat (first|apply Kd.R_alloc|apply Kd.R_drewN|apply Kd.R_drew));exact HO_4.out) hb)
      have n1_:=Aside0.mk (Kd.R_below (by (with_reducible repeat (first|apply Kd.R_alloc|apply Kd.R_drewN|apply Kd.R_drew));exact HO_7.out) hb)
      have n2_:=Aside0.mk (Kd.R_below (by (with_reducible repeat (first|apply Kd.R_alloc|apply Kd.R_drewN|apply Kd.R_drew));exact HO_330001.out) hb)
      have n3_:=Aside0.mk (Kd.R_below (by (with_reducible repeat (first|apply Kd.R_alloc|apply Kd.R_drewN|apply Kd.R_drew));exact HO338.out) hb)
      have n4_:=Aside0.mk (blk_below (g:=gb315) (o:=.cells #[.int .i64 a0_0,.slice A0_1 l0_1.length c0_1] 24 (0,0)) (by (with_reducible repeat (first|refine blk_drewN ?_ _|refine blk_drew ?_|refine blk_alloc ?_ _));exact BK315.out) hb)
      have n5_:=Aside0.mk (blk_below (g:=gb329) (o:=.cells #[.int .i64 t325,.slice Ao24 t326.length co24] 28 (0,0)) (by (with_reducible repeat (first|refine blk_drewN ?_ _|refine blk_drew ?_|refine blk_alloc ?_ _));exact BK329.out) hb)
      have n6_:=Aside0.mk (below_step (by repeat (first|(with_reducible first|exact HB.out|apply below_alloc|apply pw_below_drewN|apply below_drew1|refine below_set ?_ GE315.out|refine below_set ?_ GE329.out)|exact HB.out)) hb)
      clear HO_4
      clear HO_7
      clear HO_330001
      clear HO338
      clear BK315
      clear BK329
      clear HB
      have HO_4:=n0_
      have HO_7:=n1_
      have HO_330001:=n2_
      have HO338:=n3_
      have BK315:=n4_
      have BK329:=n5_
      have HB:=n6_
      clear n0_ n1_ n2_ n3_ n4_ n5_ n6_
      (try clear hb)
      (try clear hb2)
      (try clear hk)
      (try clear hi)
      refine hK.out _ _ ⟨(blk_cell BK329.out 0).trans rfl,(blk_cell BK329.out 1).trans rfl,(blk_cell BK315.out 0).trans rfl,(blk_cell BK315.out 1).trans rfl⟩ (fun hHeld=>?_)
      clear hK K
      refine norm_ (a':=?_) ?_ ?_
      rotate_left
      ·show Act.put _ (some 44) _ = _
       simp only [Act.put,List.setIfInBounds_toArray,List.set_cons_zero,List.set_cons_succ,i64_w,i32_w]
       rfl
      refine pure_ (i:=4) (N:=some 45) (v:=?_) (a':=?_) #[true,true,true,true,true] rfl rfl (by kernel_rfl) (fun _ _ _ h=>h) (Or.inl ⟨by rfl,?_⟩) ?_ ?_
      rotate_left
      ·intro w'
       go_simp
       with_reducible rfl
      rotate_left
      ·simp only [Act.put,List.setIfInBounds_toArray,List.set_cons_zero,List.set_cons_succ,i64_w,i32_w]
       rfl
      refine done_ (by kernel_rfl) ?_
      try go_wp2
      go_ret
      exact ⟨by first|rfl|(simp [errW_none,errW_some] <;> rfl)|(simp [*,errW_none,errW_some] <;> rfl),by repeat (first|(with_reducible first|exact HB.out|apply below_alloc|apply pw_below_drewN|apply below_drew1|refine below_set ?_ GE315.out|refine below_set ?_ GE329.out)|exact HB.out)⟩

end Go.Proofs.YtcfdlbjngpmcaaaDoor.PAll
