-- Written by wip/pp.py of this work (a driver around the kit's print), out of the translation; Lean checks it.
import Derived.Test.YtcfdlbjngpmcaaaPAllx0
import Derived.Test.YtcfdlbjngpmcaaaPAllx1
import Derived.Test.YtcfdlbjngpmcaaaPAllx4
import Derived.Test.YtcfdlbjngpmcaaaPAllx5
import Derived.Test.YtcfdlbjngpmcaaaPAllx10
import Derived.Test.YtcfdlbjngpmcaaaPAllx11
namespace Go.Proofs.Ytcfdlbjngpmcaaa.PAll
open Go.RowKit Go.Proofs.YtcfdlbjngpmcaaaW.PrintWords Go.Proofs.YtcfdlbjngpmcaaaW.PrintLast Go.Proofs.YtcfdlbjngpmcaaaW.PrintMore
attribute [local go_sem] max2_int min2_int max_two min_two max_three min_three max_four min_four   -- for this text's walks alone
set_option linter.unusedVariables false
set_option linter.unusedSimpArgs false

/-! ### laws_FnExactDeadCells: function 3 -/
mutual
def laws_FnExactDeadCells.j0 : Nat → List Int → Int → List Int → Int → Bool → Int → List Int → Int → List Int → Option (Bool)
 | 0, _, _, _, _, _, _, _, _, _ => none
 | k + 1, x4, x5, x7, x8, x40, x309000, x309001, x323000, x323001 => if x40 = true then (some false) else ((laws_toHex.f k x309000 x309001).bind fun bt328 => ((laws_eqHex.f k x323000 x323001 bt328.1 bt328.2).bind fun t332 => (if t332 = true then ((laws_markHex.f k x323000 x323001 1).bind fun bt333 => (if bt333.1 < 0 then (laws_FnExactDeadCells.j1 k x4 x5 x7 true x309000 x309001) else ((laws_eqInt64S.f k x7 x4).bind fun t335 => (if t335 = true then (laws_FnExactDeadCells.j1 k x4 x5 x7 (x8 != x5) x309000 x309001) else (laws_FnExactDeadCells.j1 k x4 x5 x7 true x309000 x309001))))) else (some false))))
def laws_FnExactDeadCells.j1 : Nat → List Int → Int → List Int → Bool → Int → List Int → Option (Bool)
 | 0, _, _, _, _, _, _ => none
 | k + 1, x4, x5, x7, x61, x309000, x309001 => if x61 = true then (some false) else ((laws_markInt64S.f k x7 1).bind fun bt336 => ((laws_heldInt64S.f k bt336.2 1).bind fun t338 => (if t338 < 0 then (some false) else (if t338 = bt336.1 then ((laws_toHex.f k x309000 x309001).bind fun bt339 => ((impl_DeadCells.f k bt339.1 bt339.2).bind fun bt343 => ((laws_eqInt64S.f k bt343.1 x4).bind fun t347 => (if t347 = true then (laws_FnExactDeadCells.j2 k bt336.2 bt336.1 (bt343.2 != x5)) else (laws_FnExactDeadCells.j2 k bt336.2 bt336.1 true))))) else (some false)))))
def laws_FnExactDeadCells.j2 : Nat → List Int → Int → Bool → Option (Bool)
 | 0, _, _, _ => none
 | k + 1, x7, x10, x87 => if x87 = true then (some false) else ((laws_heldInt64S.f k x7 1).bind fun t348 => (if t348 < 0 then (some false) else (if t348 = x10 then (some true) else (some false))))
end
def laws_FnExactDeadCells.f (k : Nat) (a0_0 : Int) (l0_1 : List Int) : Option (Bool) := (laws_szHex.f a0_0 l0_1 1048576).bind fun t309 => (if t309 < 0 then (some true) else ((laws_toHex.f k a0_0 l0_1).bind fun bt310 => ((spec_DeadCells.f k bt310.1 bt310.2).bind fun bt314 => ((laws_toHex.f k a0_0 l0_1).bind fun bt318 => ((impl_DeadCells.f k bt318.1 bt318.2).bind fun bt323 => ((laws_eqInt64S.f k bt323.1 bt314.1).bind fun t327 => (if t327 = true then (laws_FnExactDeadCells.j0 k bt314.1 bt314.2 bt323.1 bt323.2 (bt323.2 != bt314.2) a0_0 l0_1 bt318.1 bt318.2) else (laws_FnExactDeadCells.j0 k bt314.1 bt314.2 bt323.1 bt323.2 true a0_0 l0_1 bt318.1 bt318.2))))))))
set_option maxHeartbeats 8000000 in
set_option maxRecDepth 100000 in
theorem laws_FnExactDeadCells.calls (k : Nat) (a0_0 : Int) (A0_1 : Option Addr) (c0_1 : Nat) (l0_1 : List Int) (r : Bool) (w : World) (hr0_1 : Kd.C (Kd.int .i64) w A0_1 l0_1.length l0_1) (hc0_1 : l0_1.length ≤ c0_1) (h : laws_FnExactDeadCells.f k a0_0 l0_1 = some r) :
  Calls Try.prog 3 #[.agg #[.int .i64 a0_0,.slice A0_1 l0_1.length c0_1]] w fun e w'=>e = .returned (.bool r) ∧ Below w.heap.size w w':=by
 have hu24:=Try.underlying24
 have hu28:=Try.underlying28
 have HR0_1:=Aside0.mk hr0_1
 have HC0_1:=Aside0.mk hc0_1
 clear hr0_1 hc0_1
 have HB:=Aside0.mk (Below.refl w.heap.size w)
 have H : ((laws_szHex.f a0_0 l0_1 1048576).bind fun t309=>(if t309 < 0 then (some true) else ((laws_toHex.f k a0_0 l0_1).bind fun bt310=>((spec_DeadCells.f k bt310.1 bt310.2).bind fun bt314=>((laws_toHex.f k a0_0 l0_1).bind fun bt318=>((impl_DeadCells.f k bt318.1 bt318.2).bind fun bt323=>((laws_eqInt64S.f k bt323.1 bt314.1).bind fun t327=>(if t327 = true then (laws_FnExactDeadCells.j0 k bt314.1 bt314.2 bt323.1 bt323.2 (bt323.2 != bt314.2) a0_0 l0_1 bt318.1 bt318.2) else (laws_FnExactDeadCells.j0 k bt314.1 bt314.2 bt323.1 bt323.2 true a0_0 l0_1 bt318.1 bt318.2))))))))) = some r:=h
 clear h
 replace H:=Option.bind_eq_some_iff.mp H
 obtain ⟨t309,A20,H⟩:=H
 replace H : (if t309 < 0 then (some true) else ((laws_toHex.f k a0_0 l0_1).bind fun bt310=>((spec_DeadCells.f k bt310.1 bt310.2).bind fun bt314=>((laws_toHex.f k a0_0 l0_1).bind fun bt318=>((impl_DeadCells.f k bt318.1 bt318.2).bind fun bt323=>((laws_eqInt64S.f k bt323.1 bt314.1).bind fun t327=>(if t327 = true then (laws_FnExactDeadCells.j0 k bt314.1 bt314.2 bt323.1 bt323.2 (bt323.2 != bt314.2) a0_0 l0_1 bt318.1 bt318.2) else (laws_FnExactDeadCells.j0 k bt314.1 bt314.2 bt323.1 bt323.2 true a0_0 l0_1 bt318.1 bt318.2)))))))) = some r:=H
 have A2:=Aside0.mk A20
 clear A20
 by_cases c3 : t309 < 0
 ·rw [if_pos c3] at H
  have c3b0 : decide (t309 < 0) = true:=decide_eq_true c3
  clear c3
  obtain rfl:=Option.some.inj H
  go_enter Try.func3,Try.ntmps3
  go_wp2_with (first|((with_reducible refine gate_dst (N:=1) rfl ?_);refine box_event ?hg (N:=1) ?hd (cs:=#[.int .i64 a0_0,.slice A0_1 l0_1.length c0_1]) (t:=24) ?hr ?_;(case hd=>rfl);(case hg=>rfl);(case hr=>first|(go_simp;done)|(go_simp;rfl));intro gb308 hg w4 hbox hb;have n0_:=Aside0.mk (below_step (by repeat (first|(with_reducible first|exact HB.out|apply below_alloc|apply pw_below_drewN|apply below_drew1)|exact HB.out)) hb);have n1_:=Aside0.mk (hbox);have n2_:=Aside0.mk ((by rw [hg];exact (below_size (by repeat (first|(with_reducible first|exact HB.out|apply below_alloc|apply pw_below_drewN|apply below_drew1)|exact HB.out))) : w.heap.size ≤ gb308));have n3_:=Aside0.mk ((by rw [hg];exact (below_size (by repeat (first|(with_reducible first|exact HB.out|apply below_alloc|apply pw_below_drewN|apply below_drew1)|exact HB.out))) : w.heap.size ≤ gb308));clear HB;have HB:=n0_;have BK308:=n1_;have GW308:=n2_;have GE308:=n3_;clear n0_ n1_ n2_ n3_;clear hb hbox hg;have hcz5_0 : w4.cell? ⟨gb308,0,none⟩ = some (.int .i64 a0_0):=(blk_cell BK308.out 0).trans rfl;have hcz5_1 : w4.cell? ⟨gb308,1,none⟩ = some (.slice A0_1 l0_1.length c0_1):=(blk_cell BK308.out 1).trans rfl;have hfz5_0:=blk_frozen BK308.out 0;have hfz5_1:=blk_frozen BK308.out 1)|((with_reducible refine gate_callee (f:=5) rfl ?_);refine goesL_ (some 16) rfl rfl Try.func5 (by kernel_rfl) rfl #[.agg #[.int .i64 a0_0,.slice A0_1 l0_1.length c0_1],.int .i64 1048576] rfl (by (try simp only [List.map_toArray,List.map_cons,List.map_nil]);first|done|rfl|(simp only [List.length_drop,List.length_take];rfl)) ?_;(with_reducible refine (laws_szHex.calls a0_0 _ _ l0_1 1048576 t309 _ ?side1 ?side2 A2.out).mono ?_);(case side1=>repeat (first|exact (Kd.C_below HR0_1.out HB.out)|(with_reducible refine Kd.C_alloc ?_ _)|(with_reducible refine Kd.C_drewN ?_ _)|(with_reducible refine Kd.C_drew ?_)));(case side2=>exact HC0_1.out);rintro e w6 ⟨rfl,hb⟩;refine ⟨_,rfl,?_⟩;have n0_:=Aside0.mk (blk_below (g:=gb308) (o:=.cells #[.int .i64 a0_0,.slice A0_1 l0_1.length c0_1] 24 (0,0)) (by (with_reducible repeat (first|refine blk_drewN ?_ _|refine blk_drew ?_|refine blk_alloc ?_ _));exact BK308.out) hb);have n1_:=Aside0.mk (below_step (by repeat (first|(with_reducible first|exact HB.out|apply below_alloc|apply pw_below_drewN|apply below_drew1|refine below_set ?_ GE308.out)|exact HB.out)) hb);clear BK308;clear HB;have BK308:=n0_;have HB:=n1_;clear n0_ n1_;(try clear hb);(try clear hb2);(try clear hk);(try clear hi)))
  go_ret
  exact ⟨by first|rfl|(simp [errW_none,errW_some] <;> rfl)|(simp [*,errW_none,errW_some] <;> rfl),by repeat (first|(with_reducible first|exact HB.out|apply below_alloc|apply pw_below_drewN|apply below_drew1|refine below_set ?_ GE308.out)|exact HB.out)⟩
 ·rw [if_neg c3] at H
  have c3b0 : decide (t309 < 0) = false:=decide_eq_false c3
  clear c3
  replace H:=Option.bind_eq_some_iff.mp H
  obtain ⟨⟨t310,t311⟩,A70,H⟩:=H
  replace H : ((spec_DeadCells.f k t310 t311).bind fun bt314=>((laws_toHex.f k a0_0 l0_1).bind fun bt318=>((impl_DeadCells.f k bt318.1 bt318.2).bind fun bt323=>((laws_eqInt64S.f k bt323.1 bt314.1).bind fun t327=>(if t327 = true then (laws_FnExactDeadCells.j0 k bt314.1 bt314.2 bt323.1 bt323.2 (bt323.2 != bt314.2) a0_0 l0_1 bt318.1 bt318.2) else (laws_FnExactDeadCells.j0 k bt314.1 bt314.2 bt323.1 bt323.2 true a0_0 l0_1 bt318.1 bt318.2)))))) = some r:=H
  have A7:=Aside0.mk A70
  clear A70
  replace H:=Option.bind_eq_some_iff.mp H
  obtain ⟨⟨t314,t317⟩,A80,H⟩:=H
  replace H : ((laws_toHex.f k a0_0 l0_1).bind fun bt318=>((impl_DeadCells.f k bt318.1 bt318.2).bind fun bt323=>((laws_eqInt64S.f k bt323.1 t314).bind fun t327=>(if t327 = true then (laws_FnExactDeadCells.j0 k t314 t317 bt323.1 bt323.2 (bt323.2 != t317) a0_0 l0_1 bt318.1 bt318.2) else (laws_FnExactDeadCells.j0 k t314 t317 bt323.1 bt323.2 true a0_0 l0_1 bt318.1 bt318.2))))) = some r:=H
  have A8:=Aside0.mk A80
  clear A80
  replace H:=Option.bind_eq_some_iff.mp H
  obtain ⟨⟨t318,t319⟩,A90,H⟩:=H
  replace H : ((impl_DeadCells.f k t318 t319).bind fun bt323=>((laws_eqInt64S.f k bt323.1 t314).bind fun t327=>(if t327 = true then (laws_FnExactDeadCells.j0 k t314 t317 bt323.1 bt323.2 (bt323.2 != t317) a0_0 l0_1 t318 t319) else (laws_FnExactDeadCells.j0 k t314 t317 bt323.1 bt323.2 true a0_0 l0_1 t318 t319)))) = some r:=H
  have A9:=Aside0.mk A90
  clear A90
  replace H:=Option.bind_eq_some_iff.mp H
  obtain ⟨⟨t323,t326⟩,A100,H⟩:=H
  replace H : ((laws_eqInt64S.f k t323 t314).bind fun t327=>(if t327 = true then (laws_FnExactDeadCells.j0 k t314 t317 t323 t326 (t326 != t317) a0_0 l0_1 t318 t319) else (laws_FnExactDeadCells.j0 k t314 t317 t323 t326 true a0_0 l0_1 t318 t319))) = some r:=H
  have A10:=Aside0.mk A100
  clear A100
  have HC11:=Aside0.mk H
  clear H
  go_enter Try.func3,Try.ntmps3
  go_upto_region 8 with (first|((with_reducible refine gate_dst (N:=1) rfl ?_);refine box_event ?hg (N:=1) ?hd (cs:=#[.int .i64 a0_0,.slice A0_1 l0_1.length c0_1]) (t:=24) ?hr ?_;(case hd=>rfl);(case hg=>rfl);(case hr=>first|(go_simp;done)|(go_simp;rfl));intro gb308 hg w12 hbox hb;have n0_:=Aside0.mk (below_step (by repeat (first|(with_reducible first|exact HB.out|apply below_alloc|apply pw_below_drewN|apply below_drew1)|exact HB.out)) hb);have n1_:=Aside0.mk (hbox);have n2_:=Aside0.mk ((by rw [hg];exact (below_size (by repeat (first|(with_reducible first|exact HB.out|apply below_alloc|apply pw_below_drewN|apply below_drew1)|exact HB.out))) : w.heap.size ≤ gb308));have n3_:=Aside0.mk ((by rw [hg];exact (below_size (by repeat (first|(with_reducible first|exact HB.out|apply below_alloc|apply pw_below_drewN|apply below_drew1)|exact HB.out))) : w.heap.size ≤ gb308));clear HB;have HB:=n0_;have BK308:=n1_;have GW308:=n2_;have GE308:=n3_;clear n0_ n1_ n2_ n3_;clear hb hbox hg;have hcz13_0 : w12.cell? ⟨gb308,0,none⟩ = some (.int .i64 a0_0):=(blk_cell BK308.out 0).trans rfl;have hcz13_1 : w12.cell? ⟨gb308,1,none⟩ = some (.slice A0_1 l0_1.length c0_1):=(blk_cell BK308.out 1).trans rfl;have hfz13_0:=blk_frozen BK308.out 0;have hfz13_1:=blk_frozen BK308.out 1)|((with_reducible refine gate_callee (f:=5) rfl ?_);refine goesL_ (some 16) rfl rfl Try.func5 (by kernel_rfl) rfl #[.agg #[.int .i64 a0_0,.slice A0_1 l0_1.length c0_1],.int .i64 1048576] rfl (by (try simp only [List.map_toArray,List.map_cons,List.map_nil]);first|done|rfl|(simp only [List.length_drop,List.length_take];rfl)) ?_;(with_reducible refine (laws_szHex.calls a0_0 _ _ l0_1 1048576 t309 _ ?side1 ?side2 A2.out).mono ?_);(case side1=>repeat (first|exact (Kd.C_below HR0_1.out HB.out)|(with_reducible refine Kd.C_alloc ?_ _)|(with_reducible refine Kd.C_drewN ?_ _)|(with_reducible refine Kd.C_drew ?_)));(case side2=>exact HC0_1.out);rintro e w14 ⟨rfl,hb⟩;refine ⟨_,rfl,?_⟩;have n0_:=Aside0.mk (blk_below (g:=gb308) (o:=.cells #[.int .i64 a0_0,.slice A0_1 l0_1.length c0_1] 24 (0,0)) (by (with_reducible repeat (first|refine blk_drewN ?_ _|refine blk_drew ?_|refine blk_alloc ?_ _));exact BK308.out) hb);have n1_:=Aside0.mk (below_step (by repeat (first|(with_reducible first|exact HB.out|apply below_alloc|apply pw_below_drewN|apply below_drew1|refine below_set ?_ GE308.out)|exact HB.out)) hb);clear BK308;clear HB;have BK308:=n0_;have HB:=n1_;clear n0_ n1_;(try clear hb);(try clear hb2);(try clear hk);(try clear hi);have hcz15_0 : w14.cell? ⟨gb308,0,none⟩ = some (.int .i64 a0_0):=(blk_cell BK308.out 0).trans rfl;have hcz15_1 : w14.cell? ⟨gb308,1,none⟩ = some (.slice A0_1 l0_1.length c0_1):=(blk_cell BK308.out 1).trans rfl;have hfz15_0:=blk_frozen BK308.out 0;have hfz15_1:=blk_frozen BK308.out 1)|((with_reducible refine gate_callee (f:=7) rfl ?_);refine goesL_ (some 21) rfl rfl Try.func7 (by kernel_rfl) rfl #[.agg #[.int .i64 a0_0,.slice A0_1 l0_1.length c0_1]] rfl (by (try simp only [List.map_toArray,List.map_cons,List.map_nil]);first|done|rfl|(simp only [List.length_drop,List.length_take];rfl)) ?_;(with_reducible refine (laws_toHex.calls k a0_0 _ _ l0_1 t310 t311 _ ?side1 ?side2 A7.out).mono ?_);(case side1=>repeat (first|exact (Kd.C_below HR0_1.out HB.out)|(with_reducible refine Kd.C_alloc ?_ _)|(with_reducible refine Kd.C_drewN ?_ _)|(with_reducible refine Kd.C_drew ?_)));(case side2=>exact HC0_1.out);rintro e w16 ⟨v312,rfl,ho0,hb⟩;refine ⟨_,rfl,?_⟩;have n0_:=Aside0.mk (Kd.R_lower ho0 (below_size (by repeat (first|(with_reducible first|exact HB.out|apply below_alloc|apply pw_below_drewN|apply below_drew1|refine below_set ?_ GE308.out)|exact HB.out))));have n1_:=Aside0.mk (blk_below (g:=gb308) (o:=.cells #[.int .i64 a0_0,.slice A0_1 l0_1.length c0_1] 24 (0,0)) (by (with_reducible repeat (first|refine blk_drewN ?_ _|refine blk_drew ?_|refine blk_alloc ?_ _));exact BK308.out) hb);have n2_:=Aside0.mk (below_step (by repeat (first|(with_reducible first|exact HB.out|apply below_alloc|apply pw_below_drewN|apply below_drew1|refine below_set ?_ GE308.out)|exact HB.out)) hb);clear BK308;clear HB;have HO313:=n0_;have BK308:=n1_;have HB:=n2_;clear n0_ n1_ n2_;(try clear hb);(try clear hb2);(try clear hk);(try clear hi);(try clear ho0);obtain ⟨Ao17,co17,eo17⟩:=Kd.R_slice HO313.out;subst eo17)|((with_reducible refine gate_callee (f:=6) rfl ?_);refine goesL_ (some 22) rfl rfl Try.func6 (by kernel_rfl) rfl #[.agg #[.int .i64 t310,.slice Ao17 t311.length co17]] rfl (by (try simp only [List.map_toArray,List.map_cons,List.map_nil]);first|done|rfl|(simp only [List.length_drop,List.length_take];rfl)) ?_;(with_reducible refine (spec_DeadCells.calls k t310 _ _ t311 t314 t317 _ ?side1 ?side2 A8.out).mono ?_);(case side1=>repeat (first|exact (Kd.R_reads' HO313.out).2.2|(with_reducible refine Kd.C_alloc ?_ _)|(with_reducible refine Kd.C_drewN ?_ _)|(with_reducible refine Kd.C_drew ?_)));(case side2=>exact (Kd.R_reads' HO313.out).2.1);rintro e w18 ⟨v315,rfl,ho0,hb⟩;refine ⟨_,rfl,?_⟩;have n0_:=Aside0.mk (Kd.R_elder' (by (with_reducible repeat (first|apply Kd.R_alloc|apply Kd.R_drewN|apply Kd.R_drew));exact HO313.out) (Kd.R_base ho0) hb);have n1_:=Aside0.mk (Kd.R_lower (Kd.R_new' ho0 (Kd.R_lt (by (with_reducible repeat (first|apply Kd.R_alloc|apply Kd.R_drewN|apply Kd.R_drew));exact HO313.out))) (below_size (by repeat (first|(with_reducible first|exact HB.out|apply below_alloc|apply pw_below_drewN|apply below_drew1|refine below_set ?_ GE308.out)|exact HB.out))));have n2_:=Aside0.mk (blk_below (g:=gb308) (o:=.cells #[.int .i64 a0_0,.slice A0_1 l0_1.length c0_1] 24 (0,0)) (by (with_reducible repeat (first|refine blk_drewN ?_ _|refine blk_drew ?_|refine blk_alloc ?_ _));exact BK308.out) hb);have n3_:=Aside0.mk (below_step (by repeat (first|(with_reducible first|exact HB.out|apply below_alloc|apply pw_below_drewN|apply below_drew1|refine below_set ?_ GE308.out)|exact HB.out)) hb);clear HO313;clear BK308;clear HB;have HO313:=n0_;have HO316:=n1_;have BK308:=n2_;have HB:=n3_;clear n0_ n1_ n2_ n3_;(try clear hb);(try clear hb2);(try clear hk);(try clear hi);(try clear ho0);have hcz19_0 : w18.cell? ⟨gb308,0,none⟩ = some (.int .i64 a0_0):=(blk_cell BK308.out 0).trans rfl;have hcz19_1 : w18.cell? ⟨gb308,1,none⟩ = some (.slice A0_1 l0_1.length c0_1):=(blk_cell BK308.out 1).trans rfl;have hfz19_0:=blk_frozen BK308.out 0;have hfz19_1:=blk_frozen BK308.out 1)|((with_reducible refine gate_callee (f:=7) rfl ?_);refine goesL_ (some 26) rfl rfl Try.func7 (by kernel_rfl) rfl #[.agg #[.int .i64 a0_0,.slice A0_1 l0_1.length c0_1]] rfl (by (try simp only [List.map_toArray,List.map_cons,List.map_nil]);first|done|rfl|(simp only [List.length_drop,List.length_take];rfl)) ?_;(with_reducible refine (laws_toHex.calls k a0_0 _ _ l0_1 t318 t319 _ ?side1 ?side2 A9.out).mono ?_);(case side1=>repeat (first|exact (Kd.C_below HR0_1.out HB.out)|(with_reducible refine Kd.C_alloc ?_ _)|(with_reducible refine Kd.C_drewN ?_ _)|(with_reducible refine Kd.C_drew ?_)));(case side2=>exact HC0_1.out);rintro e w20 ⟨v320,rfl,ho0,hb⟩;refine ⟨_,rfl,?_⟩;have n0_:=Aside0.mk (Kd.R_elder' (by (with_reducible repeat (first|apply Kd.R_alloc|apply Kd.R_drewN|apply Kd.R_drew));exact HO313.out) (Kd.R_base ho0) hb);have n1_:=Aside0.mk (Kd.R_elder' (by (with_reducible repeat (first|apply Kd.R_alloc|apply Kd.R_drewN|apply Kd.R_drew));exact HO316.out) (Kd.R_base ho0) hb);have n2_:=Aside0.mk (Kd.R_lower (Kd.R_new' (Kd.R_new' ho0 (Kd.R_lt (by (with_reducible repeat (first|apply Kd.R_alloc|apply Kd.R_drewN|apply Kd.R_drew));exact HO313.out))) (Kd.R_lt (by (with_reducible repeat (first|apply Kd.R_alloc|apply Kd.R_drewN|apply Kd.R_drew));exact HO316.out))) (below_size (by repeat (first|(with_reducible first|exact HB.out|apply below_alloc|apply pw_below_drewN|apply below_drew1|refine below_set ?_ GE308.out)|exact HB.out))));have n3_:=Aside0.mk (blk_below (g:=gb308) (o:=.cells #[.int .i64 a0_0,.slice A0_1 l0_1.length c0_1] 24 (0,0)) (by (with_reducible repeat (first|refine blk_drewN ?_ _|refine blk_drew ?_|refine blk_alloc ?_ _));exact BK308.out) hb);have n4_:=Aside0.mk (below_step (by repeat (first|(with_reducible first|exact HB.out|apply below_alloc|apply pw_below_drewN|apply below_drew1|refine below_set ?_ GE308.out)|exact HB.out)) hb);clear HO313;clear HO316;clear BK308;clear HB;have HO313:=n0_;have HO316:=n1_;have HO321:=n2_;have BK308:=n3_;have HB:=n4_;clear n0_ n1_ n2_ n3_ n4_;(try clear hb);(try clear hb2);(try clear hk);(try clear hi);(try clear ho0))|((with_reducible refine gate_dst (N:=6) rfl ?_);refine box_event ?hg (N:=6) ?hd (cs:=#[.int .i64 0,.slice none 0 0]) (t:=28) ?hr ?_;(case hd=>rfl);(case hg=>rfl);(case hr=>first|(go_simp;done)|(go_simp;rfl));intro gb322 hg w21 hbox hb;have n0_:=Aside0.mk (Kd.R_below (by (with_reducible repeat (first|apply Kd.R_alloc|apply Kd.R_drewN|apply Kd.R_drew));exact HO313.out) hb);have n1_:=Aside0.mk (Kd.R_below (by (with_reducible repeat (first|apply Kd.R_alloc|apply Kd.R_drewN|apply Kd.R_drew));exact HO316.out) hb);have n2_:=Aside0.mk (Kd.R_below (by (with_reducible repeat (first|apply Kd.R_alloc|apply Kd.R_drewN|apply Kd.R_drew));exact HO321.out) hb);have n3_:=Aside0.mk (blk_below (g:=gb308) (o:=.cells #[.int .i64 a0_0,.slice A0_1 l0_1.length c0_1] 24 (0,0)) (by (with_reducible repeat (first|refine blk_drewN ?_ _|refine blk_drew ?_|refine blk_alloc ?_ _));exact BK308.out) hb);have n4_:=Aside0.mk (below_step (by repeat (first|(with_reducible first|exact HB.out|apply below_alloc|apply pw_below_drewN|apply below_drew1|refine below_set ?_ GE308.out)|exact HB.out)) hb);have n5_:=Aside0.mk (hbox);have n6_:=Aside0.mk ((by rw [hg];exact (below_size (by repeat (first|(with_reducible first|exact HB.out|apply below_alloc|apply pw_below_drewN|apply below_drew1|refine below_set ?_ GE308.out)|exact HB.out))) : w.heap.size ≤ gb322));have n7_:=Aside0.mk ((by rw [hg];exact (below_size (by repeat (first|(with_reducible first|exact HB.out|apply below_alloc|apply pw_below_drewN|apply below_drew1|refine below_set ?_ GE308.out)|exact HB.out))) : w.heap.size ≤ gb322));have n8_:=Aside0.mk ((by rw [hg];exact Nat.ne_of_lt (blk_lt (g:=gb308) (o:=.cells #[.int .i64 a0_0,.slice A0_1 l0_1.length c0_1] 24 (0,0)) (by (with_reducible repeat (first|refine blk_drewN ?_ _|refine blk_drew ?_|refine blk_alloc ?_ _));exact BK308.out)) : gb308 ≠ gb322));have n9_:=Aside0.mk ((by rw [hg];exact Nat.ne_of_gt (blk_lt (g:=gb308) (o:=.cells #[.int .i64 a0_0,.slice A0_1 l0_1.length c0_1] 24 (0,0)) (by (with_reducible repeat (first|refine blk_drewN ?_ _|refine blk_drew ?_|refine blk_alloc ?_ _));exact BK308.out)) : gb322 ≠ gb308));clear HO313;clear HO316;clear HO321;clear BK308;clear HB;have HO313:=n0_;have HO316:=n1_;have HO321:=n2_;have BK308:=n3_;have HB:=n4_;have BK322:=n5_;have GW322:=n6_;have GE322:=n7_;have NB308_322:=n8_;have NB322_308:=n9_;clear n0_ n1_ n2_ n3_ n4_ n5_ n6_ n7_ n8_ n9_;clear hb hbox hg;have hnb22:=NB322_308.out;have hnc22:=NB308_322.out;have hcz23_0 : w21.cell? ⟨gb322,0,none⟩ = some (.int .i64 0):=(blk_cell BK322.out 0).trans rfl;have hcz23_1 : w21.cell? ⟨gb322,1,none⟩ = some (.slice none 0 0):=(blk_cell BK322.out 1).trans rfl;have hfz23_0:=blk_frozen BK322.out 0;have hfz23_1:=blk_frozen BK322.out 1;obtain ⟨Ao24,co24,eo24⟩:=Kd.R_slice HO321.out;subst eo24)|((with_reducible refine gate_callee (f:=8) rfl ?_);refine goesL_ (some 29) rfl rfl Try.func8 (by kernel_rfl) rfl #[.agg #[.int .i64 t318,.slice Ao24 t319.length co24]] rfl (by (try simp only [List.map_toArray,List.map_cons,List.map_nil]);first|done|rfl|(simp only [List.length_drop,List.length_take];rfl)) ?_;(with_reducible refine (impl_DeadCells.calls k t318 _ _ t319 t323 t326 _ ?side1 ?side2 A10.out).mono ?_);(case side1=>refine (Kd.R_reads' (e:=2) (base:=w.heap.size) (ok:=fun k_=>((True ∧ some k_ ≠ (.slice Ao17 t311.length co17 : Value).ownBlock) ∧ some k_ ≠ (v315 : Value).ownBlock)) (n:=t319.length) (c:=co24) ?_).2.2;exact (by (with_reducible repeat (first|apply Kd.R_alloc|apply Kd.R_drewN|apply Kd.R_drew));exact (Kd.R_mono (Kd.R_far (p:=⟨gb322,1,none⟩) (Kd.R_far (p:=⟨gb322,0,none⟩) (Kd.R_types HO321.out BK322.out (by decide)) (fun _ hk=>hk.2) (.int .i64 t318)) (fun _ hk=>hk.2) (.slice Ao24 t319.length co24)) (fun _ h_=>h_.1))));(case side2=>exact (Kd.R_reads' HO321.out).2.1);rintro e w25 ⟨v324,rfl,ho0,hb⟩;refine ⟨_,rfl,?_⟩;have n0_:=Aside0.mk (Kd.R_elder' (by (with_reducible repeat (first|apply Kd.R_alloc|apply Kd.R_drewN|apply Kd.R_drew));exact (Kd.R_mono (Kd.R_far (p:=⟨gb322,1,none⟩) (Kd.R_far (p:=⟨gb322,0,none⟩) (Kd.R_types HO313.out BK322.out (by decide)) (fun _ hk=>hk.2) (.int .i64 t318)) (fun _ hk=>hk.2) (.slice Ao24 t319.length co24)) (fun _ h_=>h_.1))) (Kd.R_base ho0) hb);have n1_:=Aside0.mk (Kd.R_elder' (by (with_reducible repeat (first|apply Kd.R_alloc|apply Kd.R_drewN|apply Kd.R_drew));exact (Kd.R_mono (Kd.R_far (p:=⟨gb322,1,none⟩) (Kd.R_far (p:=⟨gb322,0,none⟩) (Kd.R_types HO316.out BK322.out (by decide)) (fun _ hk=>hk.2) (.int .i64 t318)) (fun _ hk=>hk.2) (.slice Ao24 t319.length co24)) (fun _ h_=>h_.1))) (Kd.R_base ho0) hb);have n2_:=Aside0.mk (Kd.R_elder' (by (with_reducible repeat (first|apply Kd.R_alloc|apply Kd.R_drewN|apply Kd.R_drew));exact (Kd.R_mono (Kd.R_far (p:=⟨gb322,1,none⟩) (Kd.R_far (p:=⟨gb322,0,none⟩) (Kd.R_types HO321.out BK322.out (by decide)) (fun _ hk=>hk.2) (.int .i64 t318)) (fun _ hk=>hk.2) (.slice Ao24 t319.length co24)) (fun _ h_=>h_.1))) (Kd.R_base ho0) hb);have n3_:=Aside0.mk (Kd.R_lower (Kd.R_new' (Kd.R_new' (Kd.R_new' ho0 (Kd.R_lt (by (with_reducible repeat (first|apply Kd.R_alloc|apply Kd.R_drewN|apply Kd.R_drew));exact (Kd.R_mono (Kd.R_far (p:=⟨gb322,1,none⟩) (Kd.R_far (p:=⟨gb322,0,none⟩) (Kd.R_types HO313.out BK322.out (by decide)) (fun _ hk=>hk.2) (.int .i64 t318)) (fun _ hk=>hk.2) (.slice Ao24 t319.length co24)) (fun _ h_=>h_.1))))) (Kd.R_lt (by (with_reducible repeat (first|apply Kd.R_alloc|apply Kd.R_drewN|apply Kd.R_drew));exact (Kd.R_mono (Kd.R_far (p:=⟨gb322,1,none⟩) (Kd.R_far (p:=⟨gb322,0,none⟩) (Kd.R_types HO316.out BK322.out (by decide)) (fun _ hk=>hk.2) (.int .i64 t318)) (fun _ hk=>hk.2) (.slice Ao24 t319.length co24)) (fun _ h_=>h_.1))))) (Kd.R_lt (by (with_reducible repeat (first|apply Kd.R_alloc|apply Kd.R_drewN|apply Kd.R_drew));exact (Kd.R_mono (Kd.R_far (p:=⟨gb322,1,none⟩) (Kd.R_far (p:=⟨gb322,0,none⟩) (Kd.R_types HO321.out BK322.out (by decide)) (fun _ hk=>hk.2) (.int .i64 t318)) (fun _ hk=>hk.2) (.slice Ao24 t319.length co24)) (fun _ h_=>h_.1))))) (below_size (by repeat (first|(with_reducible first|exact HB.out|apply below_alloc|apply pw_below_drewN|apply below_drew1|refine below_set ?_ GE308.out|refine below_set ?_ GE322.out)|exact HB.out))));have n4_:=Aside0.mk (blk_below (g:=gb308) (o:=.cells #[.int .i64 a0_0,.slice A0_1 l0_1.length c0_1] 24 (0,0)) (by (with_reducible repeat (first|refine blk_drewN ?_ _|refine blk_drew ?_|refine blk_alloc ?_ _));refine blk_far ?_ NB308_322.out _;(with_reducible repeat (first|refine blk_drewN ?_ _|refine blk_drew ?_|refine blk_alloc ?_ _));refine blk_far ?_ NB308_322.out _;(with_reducible repeat (first|refine blk_drewN ?_ _|refine blk_drew ?_|refine blk_alloc ?_ _));exact BK308.out) hb);have n5_:=Aside0.mk (blk_below (g:=gb322) (o:=.cells #[.int .i64 t318,.slice Ao24 t319.length co24] 28 (0,0)) (by (with_reducible repeat (first|refine blk_drewN ?_ _|refine blk_drew ?_|refine blk_alloc ?_ _));refine blk_put (cs:=#[.int .i64 t318,.slice none 0 0]) ?_ 1 _ rfl;(with_reducible repeat (first|refine blk_drewN ?_ _|refine blk_drew ?_|refine blk_alloc ?_ _));refine blk_put (cs:=#[.int .i64 0,.slice none 0 0]) ?_ 0 _ rfl;(with_reducible repeat (first|refine blk_drewN ?_ _|refine blk_drew ?_|refine blk_alloc ?_ _));exact BK322.out) hb);have n6_:=Aside0.mk (below_step (by repeat (first|(with_reducible first|exact HB.out|apply below_alloc|apply pw_below_drewN|apply below_drew1|refine below_set ?_ GE308.out|refine below_set ?_ GE322.out)|exact HB.out)) hb);clear HO313;clear HO316;clear HO321;clear BK308;clear BK322;clear HB;have HO313:=n0_;have HO316:=n1_;have HO321:=n2_;have HO325:=n3_;have BK308:=n4_;have BK322:=n5_;have HB:=n6_;clear n0_ n1_ n2_ n3_ n4_ n5_ n6_;(try clear hb);(try clear hb2);(try clear hk);(try clear hi);(try clear ho0)))
  (try simp only [Act.put,List.setIfInBounds_toArray,List.set_cons_zero,List.set_cons_succ])
  go_cut [40] (fun v40 wc=>∃ (kq : Nat) (x40_10 : Bool),v40 = .bool x40_10 ∧ Aside0 (laws_FnExactDeadCells.j0 kq t314 t317 t323 t326 x40_10 a0_0 l0_1 t318 t319 = some r) ∧ Aside0 (kq ≤ k) ∧ Aside0 (Kd.R (Kd.int .i64) 2 wc w.heap.size (fun k_=>some k_ ≠ (v324 : Value).ownBlock ∧ some k_ ≠ ((.slice Ao24 t319.length co24) : Value).ownBlock) v315 t314) ∧ Aside0 (Kd.R (Kd.int .i64) 2 wc w.heap.size (fun k_=>some k_ ≠ (v315 : Value).ownBlock ∧ some k_ ≠ ((.slice Ao24 t319.length co24) : Value).ownBlock) v324 t323) ∧ Aside0 (Kd.R (Kd.int .i64) 2 wc w.heap.size (fun k_=>some k_ ≠ (v315 : Value).ownBlock ∧ some k_ ≠ (v324 : Value).ownBlock) (.slice Ao24 t319.length co24) t319) ∧ Aside0 (wc.heap[gb308]? = some (.cells #[.int .i64 a0_0,(.slice A0_1 l0_1.length c0_1)] 24 (0,0))) ∧ Aside0 (wc.heap[gb322]? = some (.cells #[.int .i64 t318,(.slice Ao24 t319.length co24)] 28 (0,0))) ∧ Aside0 (Below w.heap.size w wc))
  case first =>
   have H:=HC11.out
   clear HC11
   replace H:=Option.bind_eq_some_iff.mp H
   obtain ⟨t327,A260,H⟩:=H
   replace H : (if t327 = true then (laws_FnExactDeadCells.j0 k t314 t317 t323 t326 (t326 != t317) a0_0 l0_1 t318 t319) else (laws_FnExactDeadCells.j0 k t314 t317 t323 t326 true a0_0 l0_1 t318 t319)) = some r:=H
   have A26:=Aside0.mk A260
   clear A260
   by_cases c27 : t327 = true
   ·subst c27
    have H1 : (laws_FnExactDeadCells.j0 k t314 t317 t323 t326 (t326 != t317) a0_0 l0_1 t318 t319) = some r:=by rw [if_pos rfl] at H;exact H
    clear H
    have H:=H1
    clear H1
    have H':=Aside0.mk H
    clear H
    obtain ⟨Ao28,co28,eo28⟩:=Kd.R_slice HO325.out
    subst eo28
    obtain ⟨Ao29,co29,eo29⟩:=Kd.R_slice HO316.out
    subst eo29
    go_wp2_with (first|((with_reducible refine gate_callee (f:=9) rfl ?_);refine goesL_ (some 34) rfl rfl Try.func9 (by kernel_rfl) rfl #[.slice Ao28 t323.length co28,.slice Ao29 t314.length co29] rfl (by (try simp only [List.map_toArray,List.map_cons,List.map_nil]);first|done|rfl|(simp only [List.length_drop,List.length_take];rfl)) ?_;(with_reducible refine (laws_eqInt64S.calls k _ _ t323 _ _ t314 true _ ?side1 ?side2 ?side3 ?side4 A26.out).mono ?_);(case side1=>repeat (first|exact (Kd.R_reads' HO325.out).2.2|(with_reducible refine Kd.C_alloc ?_ _)|(with_reducible refine Kd.C_drewN ?_ _)|(with_reducible refine Kd.C_drew ?_)));(case side2=>exact (Kd.R_reads' HO325.out).2.1);(case side3=>repeat (first|exact (Kd.R_reads' HO316.out).2.2|(with_reducible refine Kd.C_alloc ?_ _)|(with_reducible refine Kd.C_drewN ?_ _)|(with_reducible refine Kd.C_drew ?_)));(case side4=>exact (Kd.R_reads' HO316.out).2.1);rintro e w' ⟨rfl,⟨nd,rfl⟩⟩;refine ⟨_,rfl,?_⟩))
    go_meet
    case rel=>exact ⟨_,((t326 != t317)),(by first|rfl|(simp;done)|(simp [*];done)),H',⟨by first|omega|exact Nat.le_refl _⟩,⟨by (with_reducible repeat (first|apply Kd.R_alloc|apply Kd.R_drewN|apply Kd.R_drew));exact Kd.R_mono HO316.out (fun _ hk=>⟨hk.2,hk.1.2⟩)⟩,⟨by (with_reducible repeat (first|apply Kd.R_alloc|apply Kd.R_drewN|apply Kd.R_drew));exact Kd.R_mono HO325.out (fun _ hk=>⟨hk.1.2,hk.2⟩)⟩,⟨by (with_reducible repeat (first|apply Kd.R_alloc|apply Kd.R_drewN|apply Kd.R_drew));exact Kd.R_mono HO321.out (fun _ hk=>⟨hk.1.2,hk.2⟩)⟩,⟨by (with_reducible repeat (first|refine blk_drewN ?_ _|refine blk_drew ?_|refine blk_alloc ?_ _));exact BK308.out⟩,⟨by (with_reducible repeat (first|refine blk_drewN ?_ _|refine blk_drew ?_|refine blk_alloc ?_ _));exact BK322.out⟩,⟨by repeat (first|(with_reducible first|exact HB.out|apply below_alloc|apply pw_below_drewN|apply below_drew1|refine below_set ?_ GE308.out|refine below_set ?_ GE322.out)|exact HB.out)⟩⟩
   ·replace c27:=Bool.eq_false_iff.mpr c27
    subst c27
    have H1 : (laws_FnExactDeadCells.j0 k t314 t317 t323 t326 true a0_0 l0_1 t318 t319) = some r:=by rw [if_neg (show ¬ (false = true) by decide)] at H;exact H
    clear H
    have H:=H1
    clear H1
    have H':=Aside0.mk H
    clear H
    obtain ⟨Ao30,co30,eo30⟩:=Kd.R_slice HO325.out
    subst eo30
    obtain ⟨Ao31,co31,eo31⟩:=Kd.R_slice HO316.out
    subst eo31
    go_wp2_with (first|((with_reducible refine gate_callee (f:=9) rfl ?_);refine goesL_ (some 34) rfl rfl Try.func9 (by kernel_rfl) rfl #[.slice Ao30 t323.length co30,.slice Ao31 t314.length co31] rfl (by (try simp only [List.map_toArray,List.map_cons,List.map_nil]);first|done|rfl|(simp only [List.length_drop,List.length_take];rfl)) ?_;(with_reducible refine (laws_eqInt64S.calls k _ _ t323 _ _ t314 false _ ?side1 ?side2 ?side3 ?side4 A26.out).mono ?_);(case side1=>repeat (first|exact (Kd.R_reads' HO325.out).2.2|(with_reducible refine Kd.C_alloc ?_ _)|(with_reducible refine Kd.C_drewN ?_ _)|(with_reducible refine Kd.C_drew ?_)));(case side2=>exact (Kd.R_reads' HO325.out).2.1);(case side3=>repeat (first|exact (Kd.R_reads' HO316.out).2.2|(with_reducible refine Kd.C_alloc ?_ _)|(with_reducible refine Kd.C_drewN ?_ _)|(with_reducible refine Kd.C_drew ?_)));(case side4=>exact (Kd.R_reads' HO316.out).2.1);rintro e w' ⟨rfl,⟨nd,rfl⟩⟩;refine ⟨_,rfl,?_⟩))
    go_meet
    case rel=>exact ⟨_,(true),(by first|rfl|(simp;done)|(simp [*];done)),H',⟨by first|omega|exact Nat.le_refl _⟩,⟨by (with_reducible repeat (first|apply Kd.R_alloc|apply Kd.R_drewN|apply Kd.R_drew));exact Kd.R_mono HO316.out (fun _ hk=>⟨hk.2,hk.1.2⟩)⟩,⟨by (with_reducible repeat (first|apply Kd.R_alloc|apply Kd.R_drewN|apply Kd.R_drew));exact Kd.R_mono HO325.out (fun _ hk=>⟨hk.1.2,hk.2⟩)⟩,⟨by (with_reducible repeat (first|apply Kd.R_alloc|apply Kd.R_drewN|apply Kd.R_drew));exact Kd.R_mono HO321.out (fun _ hk=>⟨hk.1.2,hk.2⟩)⟩,⟨by (with_reducible repeat (first|refine blk_drewN ?_ _|refine blk_drew ?_|refine blk_alloc ?_ _));exact BK308.out⟩,⟨by (with_reducible repeat (first|refine blk_drewN ?_ _|refine blk_drew ?_|refine blk_alloc ?_ _));exact BK322.out⟩,⟨by repeat (first|(with_reducible first|exact HB.out|apply below_alloc|apply pw_below_drewN|apply below_drew1|refine below_set ?_ GE308.out|refine below_set ?_ GE322.out)|exact HB.out)⟩⟩
  case rest =>
   clear HC11
   try clear c2
   try clear p2
   try clear c3
   try clear c3b0
   try clear c5
   try clear c6
   try clear c7
   try clear c8
   try clear c9
   try clear c22
   try clear c27
   try clear hcz13_0
   try clear hcz13_1
   try clear hcz15_0
   try clear hcz15_1
   try clear hcz19_0
   try clear hcz19_1
   try clear hcz23_0
   try clear hcz23_1
   try clear hcz5_0
   try clear hcz5_1
   try clear hfz13_0
   try clear hfz13_1
   try clear hfz15_0
   try clear hfz15_1
   try clear hfz19_0
   try clear hfz19_1
   try clear hfz23_0
   try clear hfz23_1
   try clear hfz5_0
   try clear hfz5_1
   obtain ⟨kq,x40_10,rfl,HA,HJ10,HO_4,HO_7,HO_323001,BK308,BK322,HB⟩:=hcut
   cases kq with
   | zero => exact absurd HA.out (by simp [laws_FnExactDeadCells.j0])
   | succ kj10 =>
    have H:=HA.out
    clear HA
    simp only [laws_FnExactDeadCells.j0] at H
    by_cases c32 : x40_10 = true
    ·subst c32
     have H1 : (some false) = some r:=by rw [if_pos rfl] at H;exact H
     clear H
     have H:=H1
     clear H1
     obtain rfl:=Option.some.inj H
     go_wp2
     go_ret
     exact ⟨by first|rfl|(simp [errW_none,errW_some] <;> rfl)|(simp [*,errW_none,errW_some] <;> rfl),by repeat (first|(with_reducible first|exact HB.out|apply below_alloc|apply pw_below_drewN|apply below_drew1|refine below_set ?_ GE308.out|refine below_set ?_ GE322.out)|exact HB.out)⟩
    ·replace c32:=Bool.eq_false_iff.mpr c32
     subst c32
     have H1 : ((laws_toHex.f kj10 a0_0 l0_1).bind fun bt328=>((laws_eqHex.f kj10 t318 t319 bt328.1 bt328.2).bind fun t332=>(if t332 = true then ((laws_markHex.f kj10 t318 t319 1).bind fun bt333=>(if bt333.1 < 0 then (laws_FnExactDeadCells.j1 kj10 t314 t317 t323 true a0_0 l0_1) else ((laws_eqInt64S.f kj10 t323 t314).bind fun t335=>(if t335 = true then (laws_FnExactDeadCells.j1 kj10 t314 t317 t323 (t326 != t317) a0_0 l0_1) else (laws_FnExactDeadCells.j1 kj10 t314 t317 t323 true a0_0 l0_1))))) else (some false)))) = some r:=by rw [if_neg (show ¬ (false = true) by decide)] at H;exact H
     clear H
     have H:=H1
     clear H1
     replace H:=Option.bind_eq_some_iff.mp H
     obtain ⟨⟨t328,t329⟩,A330,H⟩:=H
     replace H : ((laws_eqHex.f kj10 t318 t319 t328 t329).bind fun t332=>(if t332 = true then ((laws_markHex.f kj10 t318 t319 1).bind fun bt333=>(if bt333.1 < 0 then (laws_FnExactDeadCells.j1 kj10 t314 t317 t323 true a0_0 l0_1) else ((laws_eqInt64S.f kj10 t323 t314).bind fun t335=>(if t335 = true then (laws_FnExactDeadCells.j1 kj10 t314 t317 t323 (t326 != t317) a0_0 l0_1) else (laws_FnExactDeadCells.j1 kj10 t314 t317 t323 true a0_0 l0_1))))) else (some false))) = some r:=H
     have A33:=Aside0.mk A330
     clear A330
     replace H:=Option.bind_eq_some_iff.mp H
     obtain ⟨t332,A340,H⟩:=H
     replace H : (if t332 = true then ((laws_markHex.f kj10 t318 t319 1).bind fun bt333=>(if bt333.1 < 0 then (laws_FnExactDeadCells.j1 kj10 t314 t317 t323 true a0_0 l0_1) else ((laws_eqInt64S.f kj10 t323 t314).bind fun t335=>(if t335 = true then (laws_FnExactDeadCells.j1 kj10 t314 t317 t323 (t326 != t317) a0_0 l0_1) else (laws_FnExactDeadCells.j1 kj10 t314 t317 t323 true a0_0 l0_1))))) else (some false)) = some r:=H
     have A34:=Aside0.mk A340
     clear A340
     by_cases c35 : t332 = true
     ·subst c35
      have H1 : ((laws_markHex.f kj10 t318 t319 1).bind fun bt333=>(if bt333.1 < 0 then (laws_FnExactDeadCells.j1 kj10 t314 t317 t323 true a0_0 l0_1) else ((laws_eqInt64S.f kj10 t323 t314).bind fun t335=>(if t335 = true then (laws_FnExactDeadCells.j1 kj10 t314 t317 t323 (t326 != t317) a0_0 l0_1) else (laws_FnExactDeadCells.j1 kj10 t314 t317 t323 true a0_0 l0_1))))) = some r:=by rw [if_pos rfl] at H;exact H
      clear H
      have H:=H1
      clear H1
      replace H:=Option.bind_eq_some_iff.mp H
      obtain ⟨⟨t333,t334⟩,A360,H⟩:=H
      replace H : (if t333 < 0 then (laws_FnExactDeadCells.j1 kj10 t314 t317 t323 true a0_0 l0_1) else ((laws_eqInt64S.f kj10 t323 t314).bind fun t335=>(if t335 = true then (laws_FnExactDeadCells.j1 kj10 t314 t317 t323 (t326 != t317) a0_0 l0_1) else (laws_FnExactDeadCells.j1 kj10 t314 t317 t323 true a0_0 l0_1)))) = some r:=H
      have A36:=Aside0.mk A360
      clear A360
      have HC37:=Aside0.mk H
      clear H
      try go_wp2
      have n0_:=Aside0.mk (Kd.R_drew HO_4.out)
      have n1_:=Aside0.mk (Kd.R_drew HO_7.out)
      have n2_:=Aside0.mk (Kd.R_drew HO_323001.out)
      have n3_:=Aside0.mk (blk_drew BK308.out)
      have n4_:=Aside0.mk (blk_drew BK322.out)
      have n5_:=Aside0.mk (below_drew1 HB.out)
      clear HO_4
      clear HO_7
      clear HO_323001
      clear BK308
      clear BK322
      clear HB
      have HO_4:=n0_
      have HO_7:=n1_
      have HO_323001:=n2_
      have BK308:=n3_
      have BK322:=n4_
      have HB:=n5_
      clear n0_ n1_ n2_ n3_ n4_ n5_
      refine start_ (n:=5) (S:=fun w'=>w'.cell? ⟨gb322,0,none⟩ = some (.int .i64 t318) ∧ w'.cell? ⟨gb322,1,none⟩ = some (.slice Ao24 t319.length co24) ∧ w'.cell? ⟨gb308,0,none⟩ = some (.int .i64 a0_0) ∧ w'.cell? ⟨gb308,1,none⟩ = some (.slice A0_1 l0_1.length c0_1)) (ds:=[]) #[false,false,false,false,false] (by kernel_rfl) rfl rfl ⟨(blk_cell BK322.out 0).trans rfl,(blk_cell BK322.out 1).trans rfl,(blk_cell BK308.out 0).trans rfl,(blk_cell BK308.out 1).trans rfl⟩ (fun hHeld=>?_)
      generalize wc.drew = w38 at HO_4 HO_7 HO_323001 BK308 BK322 HB hHeld ⊢
      refine take_ (i:=0) (N:=some 41) (v:=?_) (a':=?_) #[true,false,false,false,false] rfl rfl (by kernel_rfl) (fun _ _ _ h=>h) (Or.inl ⟨by rfl,?_⟩) hHeld ?_ ?_
      rotate_left
      ·rintro w' ⟨s0,s1,s2,s3⟩
       go_simp
       with_reducible rfl
      rotate_left
      ·simp only [Act.put,List.setIfInBounds_toArray,List.set_cons_zero,List.set_cons_succ,i64_w,i32_w]
       rfl
      refine take_ (i:=1) (N:=some 42) (v:=?_) (a':=?_) #[true,true,false,false,false] rfl rfl (by kernel_rfl) (fun _ _ _ h=>h) (Or.inl ⟨by rfl,?_⟩) hHeld ?_ ?_
      rotate_left
      ·rintro w' ⟨s0,s1,s2,s3⟩
       go_simp
       with_reducible rfl
      rotate_left
      ·simp only [Act.put,List.setIfInBounds_toArray,List.set_cons_zero,List.set_cons_succ,i64_w,i32_w]
       rfl
      refine one_ (i:=2) (N:=some 43) #[true,true,true,false,false] rfl rfl (by kernel_rfl) (by decide) (fun K hK=>?_)
      refine goes_ Try.func7 (by kernel_rfl) rfl #[.agg #[.int .i64 a0_0,.slice A0_1 l0_1.length c0_1]] (by rfl) rfl rfl (by (try simp only [List.map_toArray,List.map_cons,List.map_nil]);first|done|rfl|(simp only [List.length_drop,List.length_take];rfl)) ?_
      with_reducible refine (laws_toHex.calls kj10 a0_0 _ _ l0_1 t328 t329 _ ?side1 ?side2 A33.out).mono ?_
      (case side1=>repeat (first|exact (Kd.C_below HR0_1.out HB.out)|(with_reducible refine Kd.C_alloc ?_ _)|(with_reducible refine Kd.C_drewN ?_ _)|(with_reducible refine Kd.C_drew ?_)))
      (case side2=>exact HC0_1.out)
      rintro e w39 ⟨v330,rfl,ho0,hb⟩
      refine ⟨_,rfl,?_⟩
      have n0_:=Aside0.mk (Kd.R_elder' (by (with_reducible repeat (first|apply Kd.R_alloc|apply Kd.R_drewN|apply Kd.R_drew));exact HO_4.out) (Kd.R_base ho0) hb)
      have n1_:=Aside0.mk (Kd.R_elder' (by (with_reducible repeat (first|apply Kd.R_alloc|apply Kd.R_drewN|apply Kd.R_drew));exact HO_7.out) (Kd.R_base ho0) hb)
      have n2_:=Aside0.mk (Kd.R_elder' (by (with_reducible repeat (first|apply Kd.R_alloc|apply Kd.R_drewN|apply Kd.R_drew));exact HO_323001.out) (Kd.R_base ho0) hb)
      have n3_:=Aside0.mk (Kd.R_lower (Kd.R_new' (Kd.R_new' (Kd.R_new' ho0 (Kd.R_lt (by (with_reducible repeat (first|apply Kd.R_alloc|apply Kd.R_drewN|apply Kd.R_drew));exact HO_4.out))) (Kd.R_lt (by (with_reducible repeat (first|apply Kd.R_alloc|apply Kd.R_drewN|apply Kd.R_drew));exact HO_7.out))) (Kd.R_lt (by (with_reducible repeat (first|apply Kd.R_alloc|apply Kd.R_drewN|apply Kd.R_drew));exact HO_323001.out))) (below_size (by repeat (first|(with_reducible first|exact HB.out|apply below_alloc|apply pw_below_drewN|apply below_drew1|refine below_set ?_ GE308.out|refine below_set ?_ GE322.out)|exact HB.out))))
      have n4_:=Aside0.mk (blk_below (g:=gb308) (o:=.cells #[.int .i64 a0_0,.slice A0_1 l0_1.length c0_1] 24 (0,0)) (by (with_reducible repeat (first|refine blk_drewN ?_ _|refine blk_drew ?_|refine blk_alloc ?_ _));exact BK308.out) hb)
      have n5_:=Aside0.mk (blk_below (g:=gb322) (o:=.cells #[.int .i64 t318,.slice Ao24 t319.length co24] 28 (0,0)) (by (with_reducible repeat (first|refine blk_drewN ?_ _|refine blk_drew ?_|refine blk_alloc ?_ _));exact BK322.out) hb)
      have n6_:=Aside0.mk (below_step (by repeat (first|(with_reducible first|exact HB.out|apply below_alloc|apply pw_below_drewN|apply below_drew1|refine below_set ?_ GE308.out|refine below_set ?_ GE322.out)|exact HB.out)) hb)
      clear HO_4
      clear HO_7
      clear HO_323001
      clear BK308
      clear BK322
      clear HB
      have HO_4:=n0_
      have HO_7:=n1_
      have HO_323001:=n2_
      have HO331:=n3_
      have BK308:=n4_
      have BK322:=n5_
      have HB:=n6_
      clear n0_ n1_ n2_ n3_ n4_ n5_ n6_
      (try clear hb)
      (try clear hb2)
      (try clear hk)
      (try clear hi)
      (try clear ho0)
      obtain ⟨Ao40,co40,eo40⟩:=Kd.R_slice HO331.out
      (first|subst eo40|(injection eo40 with f1_ f2_ f3_;have f4_:=f1_.symm;have f5_:=f3_.symm;clear f1_ f2_ f3_;subst f4_;subst f5_))
      refine hK.out _ _ ⟨(blk_cell BK322.out 0).trans rfl,(blk_cell BK322.out 1).trans rfl,(blk_cell BK308.out 0).trans rfl,(blk_cell BK308.out 1).trans rfl⟩ (fun hHeld=>?_)
      clear hK K
      refine norm_ (a':=?_) ?_ ?_
      rotate_left
      ·show Act.put _ (some 43) _ = _
       simp only [Act.put,List.setIfInBounds_toArray,List.set_cons_zero,List.set_cons_succ,i64_w,i32_w]
       rfl
      refine one_ (i:=3) (N:=some 44) #[true,true,true,true,false] rfl rfl (by kernel_rfl) (by decide) (fun K hK=>?_)
      refine goes_ Try.func10 (by kernel_rfl) rfl #[.agg #[.int .i64 t318,.slice Ao24 t319.length co24],.agg #[.int .i64 t328,.slice Ao40 t329.length co40]] (by rfl) rfl rfl (by (try simp only [List.map_toArray,List.map_cons,List.map_nil]);first|done|rfl|(simp only [List.length_drop,List.length_take];rfl)) ?_
      with_reducible refine (laws_eqHex.calls kj10 t318 _ _ t319 t328 _ _ t329 true _ ?side1 ?side2 ?side3 ?side4 A34.out).mono ?_
      (case side1=>repeat (first|exact (Kd.R_reads' HO_323001.out).2.2|(with_reducible refine Kd.C_alloc ?_ _)|(with_reducible refine Kd.C_drewN ?_ _)|(with_reducible refine Kd.C_drew ?_)))
      (case side2=>exact (Kd.R_reads' HO_323001.out).2.1)
      (case side3=>repeat (first|exact (Kd.R_reads' HO331.out).2.2|(with_reducible refine Kd.C_alloc ?_ _)|(with_reducible refine Kd.C_drewN ?_ _)|(with_reducible refine Kd.C_drew ?_)))
      (case side4=>exact (Kd.R_reads' HO331.out).2.1)
      rintro e w41 ⟨rfl,hb⟩
      refine ⟨_,rfl,?_⟩
      have n0_:=Aside0.mk (Kd.R_below (by (with_reducible repeat (first|apply Kd.R_alloc|apply Kd.R_drewN|apply Kd.R_drew));exact HO_4.out) hb)
      have n1_:=Aside0.mk (Kd.R_below (by (with_reducible repeat (first|apply Kd.R_alloc|apply Kd.R_drewN|apply Kd.R_drew));exact HO_7.out) hb)
      have n2_:=Aside0.mk (Kd.R_below (by (with_reducible repeat (first|apply Kd.R_alloc|apply Kd.R_drewN|apply Kd.R_drew));exact HO_323001.out) hb)
      have n3_:=Aside0.mk (Kd.R_below (by (with_reducible repeat (first|apply Kd.R_alloc|apply Kd.R_drewN|apply Kd.R_drew));exact HO331.out) hb)
      have n4_:=Aside0.mk (blk_below (g:=gb308) (o:=.cells #[.int .i64 a0_0,.slice A0_1 l0_1.length c0_1] 24 (0,0)) (by (with_reducible repeat (first|refine blk_drewN ?_ _|refine blk_drew ?_|refine blk_alloc ?_ _));exact BK308.out) hb)
      have n5_:=Aside0.mk (blk_below (g:=gb322) (o:=.cells #[.int .i64 t318,.slice Ao24 t319.length co24] 28 (0,0)) (by (with_reducible repeat (first|refine blk_drewN ?_ _|refine blk_drew ?_|refine blk_alloc ?_ _));exact BK322.out) hb)
      have n6_:=Aside0.mk (below_step (by repeat (first|(with_reducible first|exact HB.out|apply below_alloc|apply pw_below_drewN|apply below_drew1|refine below_set ?_ GE308.out|refine below_set ?_ GE322.out)|exact HB.out)) hb)
      clear HO_4
      clear HO_7
      clear HO_323001
      clear HO331
      clear BK308
      clear BK322
      clear HB
      have HO_4:=n0_
      have HO_7:=n1_
      have HO_323001:=n2_
      have HO331:=n3_
      have BK308:=n4_
      have BK322:=n5_
      have HB:=n6_
      clear n0_ n1_ n2_ n3_ n4_ n5_ n6_
      (try clear hb)
      (try clear hb2)
      (try clear hk)
      (try clear hi)
      refine hK.out _ _ ⟨(blk_cell BK322.out 0).trans rfl,(blk_cell BK322.out 1).trans rfl,(blk_cell BK308.out 0).trans rfl,(blk_cell BK308.out 1).trans rfl⟩ (fun hHeld=>?_)
      clear hK K
      refine norm_ (a':=?_) ?_ ?_
      rotate_left
      ·show Act.put _ (some 44) _ = _
       simp only [Act.put,List.setIfInBounds_toArray,List.set_cons_zero,List.set_cons_succ,i64_w,i32_w]
       rfl
      refine pure_ (i:=4) (N:=some 45) (v:=?_) (a':=?_) #[true,true,true,true,true] rfl rfl (by kernel_rfl) (fun _ _ _ h=>h) (Or.inl ⟨by rfl,?_⟩) ?_ ?_
      rotate_left
      ·intro w'
       go_simp
       with_reducible rfl
      rotate_left
      ·simp only [Act.put,List.setIfInBounds_toArray,List.set_cons_zero,List.set_cons_succ,i64_w,i32_w]
       rfl
      refine done_ (by kernel_rfl) ?_
      have hnb42:=NB322_308.out
      have hnc42:=NB308_322.out
      have hcz43_0 : w41.cell? ⟨gb322,0,none⟩ = some (.int .i64 t318):=(blk_cell BK322.out 0).trans rfl
      have hcz43_1 : w41.cell? ⟨gb322,1,none⟩ = some (.slice Ao24 t319.length co24):=(blk_cell BK322.out 1).trans rfl
      have hfz43_0:=blk_frozen BK322.out 0
      have hfz43_1:=blk_frozen BK322.out 1
      go_upto_region 14 with (first|((with_reducible refine gate_callee (f:=11) rfl ?_);refine goesL_ (some 48) rfl rfl Try.func11 (by kernel_rfl) rfl #[.agg #[.int .i64 t318,.slice Ao24 t319.length co24],.int .i64 1] rfl (by (try simp only [List.map_toArray,List.map_cons,List.map_nil]);first|done|rfl|(simp only [List.length_drop,List.length_take];rfl)) ?_;(with_reducible refine (laws_markHex.calls kj10 t318 (fun k_=>some k_ = (.slice Ao24 t319.length co24 : Value).ownBlock) (.slice Ao24 t319.length co24) t319 1 t333 t334 w _ ?side1 ?side2 A36.out).mono ?_);(case side1=>repeat (first|(with_reducible first|exact HB.out|apply below_alloc|apply pw_below_drewN|apply below_drew1|refine below_set ?_ GE308.out|refine below_set ?_ GE322.out)|exact HB.out));(case side2=>exact Kd.R_tight rfl HO_323001.out);rintro e w44 ⟨rfl,hy0,hb,hkp⟩;refine ⟨_,rfl,?_⟩;have n0_:=Aside0.mk (Kd.R_mono (ok':=fun k_=>some k_ ≠ (v324 : Value).ownBlock ∧ some k_ ≠ (.slice Ao24 t319.length co24 : Value).ownBlock ∧ some k_ ≠ (.slice Ao40 t329.length co40 : Value).ownBlock) (Kd.R_keptB (HO_4.out) hkp (fun k_ hk_ hs_=>(hk_.1.2) hs_)) (fun k_ hk_=>⟨hk_.1.1.1,hk_.1.1.2,hk_.1.2⟩));have n1_:=Aside0.mk (Kd.R_mono (ok':=fun k_=>some k_ ≠ (v315 : Value).ownBlock ∧ some k_ ≠ (.slice Ao24 t319.length co24 : Value).ownBlock ∧ some k_ ≠ (.slice Ao40 t329.length co40 : Value).ownBlock) (Kd.R_keptB (HO_7.out) hkp (fun k_ hk_ hs_=>(hk_.1.2) hs_)) (fun k_ hk_=>⟨hk_.1.1.1,hk_.1.1.2,hk_.1.2⟩));have n2_:=Aside0.mk (Kd.R_reok rfl hy0 (fun k_ e_=>HO_323001.out.1 k_ e_));have n3_:=Aside0.mk (blk_kept (by (with_reducible repeat (first|refine blk_drewN ?_ _|refine blk_drew ?_|refine blk_alloc ?_ _));exact BK308.out) hkp (fun hs_=>(fun e_=>(Kd.R_ne HO_323001.out BK308.out (by decide)) e_) hs_));have n4_:=Aside0.mk (blk_kept (by (with_reducible repeat (first|refine blk_drewN ?_ _|refine blk_drew ?_|refine blk_alloc ?_ _));exact BK322.out) hkp (fun hs_=>(fun e_=>(Kd.R_ne HO_323001.out BK322.out (by decide)) e_) hs_));have n5_:=Aside0.mk (Kd.R_mono (ok':=fun k_=>some k_ ≠ (v315 : Value).ownBlock ∧ some k_ ≠ (v324 : Value).ownBlock ∧ some k_ ≠ (.slice Ao24 t319.length co24 : Value).ownBlock) (Kd.R_keptB (HO331.out) hkp (fun k_ hk_ hs_=>(hk_.2) hs_)) (fun k_ hk_=>⟨hk_.1.1.1.2,hk_.1.1.2,hk_.1.2⟩));have n6_:=Aside0.mk (hb);clear HO_4;clear HO_7;clear HO_323001;clear BK308;clear BK322;clear HO331;clear HB;have HO_4:=n0_;have HO_7:=n1_;have HO_323001:=n2_;have BK308:=n3_;have BK322:=n4_;have HO331:=n5_;have HB:=n6_;clear n0_ n1_ n2_ n3_ n4_ n5_ n6_;(try clear hb);(try clear hkp);(try clear hy0)))
      (try simp only [Act.put,List.setIfInBounds_toArray,List.set_cons_zero,List.set_cons_succ])
      go_cut [61] (fun v61 wc=>∃ (kq : Nat) (x61_36 : Bool),v61 = .bool x61_36 ∧ Aside0 (laws_FnExactDeadCells.j1 kq t314 t317 t323 x61_36 a0_0 l0_1 = some r) ∧ Aside0 (kq ≤ kj10) ∧ Aside0 (Kd.R (Kd.int .i64) 2 wc w.heap.size (fun k_=>some k_ ≠ (v324 : Value).ownBlock ∧ some k_ ≠ ((.slice Ao24 t319.length co24) : Value).ownBlock) v315 t314) ∧ Aside0 (Kd.R (Kd.int .i64) 2 wc w.heap.size (fun k_=>some k_ ≠ (v315 : Value).ownBlock ∧ some k_ ≠ ((.slice Ao24 t319.length co24) : Value).ownBlock) v324 t323) ∧ Aside0 (Kd.R (Kd.int .i64) 2 wc w.heap.size (fun k_=>some k_ ≠ (v315 : Value).ownBlock ∧ some k_ ≠ (v324 : Value).ownBlock) (.slice Ao24 t319.length co24) t334) ∧ Aside0 (wc.heap[gb308]? = some (.cells #[.int .i64 a0_0,(.slice A0_1 l0_1.length c0_1)] 24 (0,0))) ∧ Aside0 (wc.heap[gb322]? = some (.cells #[.int .i64 t318,(.slice Ao24 t319.length co24)] 28 (0,0))) ∧ Aside0 (Below w.heap.size w wc))
      case first =>
       have H:=HC37.out
       clear HC37
       by_cases c45 : t333 < 0
       ·rw [if_pos c45] at H
        have c45b0 : decide (t333 < 0) = true:=decide_eq_true c45
        clear c45
        (first|rw [c45b0]|(simp only [i64_w,i32_w];rw [c45b0])|skip)
        have H':=Aside0.mk H
        clear H
        go_wp2
        go_meet
        case rel=>exact ⟨_,(true),(by first|rfl|(simp;done)|(simp [*];done)),H',⟨by have:=HJ10.out;first|omega|exact Nat.le_refl _⟩,⟨by (with_reducible repeat (first|apply Kd.R_alloc|apply Kd.R_drewN|apply Kd.R_drew));exact Kd.R_mono HO_4.out (fun _ hk=>⟨hk.1,hk.2.1⟩)⟩,⟨by (with_reducible repeat (first|apply Kd.R_alloc|apply Kd.R_drewN|apply Kd.R_drew));exact Kd.R_mono HO_7.out (fun _ hk=>⟨hk.1,hk.2.1⟩)⟩,⟨by (with_reducible repeat (first|apply Kd.R_alloc|apply Kd.R_drewN|apply Kd.R_drew));exact Kd.R_mono HO_323001.out (fun _ hk=>⟨hk.1.1,hk.1.2⟩)⟩,⟨by (with_reducible repeat (first|refine blk_drewN ?_ _|refine blk_drew ?_|refine blk_alloc ?_ _));exact BK308.out⟩,⟨by (with_reducible repeat (first|refine blk_drewN ?_ _|refine blk_drew ?_|refine blk_alloc ?_ _));exact BK322.out⟩,⟨by repeat (first|(with_reducible first|exact HB.out|apply below_alloc|apply pw_below_drewN|apply below_drew1|refine below_set ?_ GE308.out|refine below_set ?_ GE322.out)|exact HB.out)⟩⟩
       ·rw [if_neg c45] at H
        have c45b0 : decide (t333 < 0) = false:=decide_eq_false c45
        clear c45
        (first|rw [c45b0]|(simp only [i64_w,i32_w];rw [c45b0])|skip)
        replace H:=Option.bind_eq_some_iff.mp H
        obtain ⟨t335,A460,H⟩:=H
        replace H : (if t335 = true then (laws_FnExactDeadCells.j1 kj10 t314 t317 t323 (t326 != t317) a0_0 l0_1) else (laws_FnExactDeadCells.j1 kj10 t314 t317 t323 true a0_0 l0_1)) = some r:=H
        have A46:=Aside0.mk A460
        clear A460
        by_cases c47 : t335 = true
        ·subst c47
         have H1 : (laws_FnExactDeadCells.j1 kj10 t314 t317 t323 (t326 != t317) a0_0 l0_1) = some r:=by rw [if_pos rfl] at H;exact H
         clear H
         have H:=H1
         clear H1
         have H':=Aside0.mk H
         clear H
         obtain ⟨Ao48,co48,eo48⟩:=Kd.R_slice HO_7.out
         subst eo48
         obtain ⟨Ao49,co49,eo49⟩:=Kd.R_slice HO_4.out
         subst eo49
         go_wp2_with (first|(go_at_call 9;(with_reducible refine (laws_eqInt64S.calls kj10 _ _ t323 _ _ t314 true _ ?side1 ?side2 ?side3 ?side4 A46.out).mono ?_);(case side1=>repeat (first|exact (Kd.R_reads' HO_7.out).2.2|(with_reducible refine Kd.C_alloc ?_ _)|(with_reducible refine Kd.C_drewN ?_ _)|(with_reducible refine Kd.C_drew ?_)));(case side2=>exact (Kd.R_reads' HO_7.out).2.1);(case side3=>repeat (first|exact (Kd.R_reads' HO_4.out).2.2|(with_reducible refine Kd.C_alloc ?_ _)|(with_reducible refine Kd.C_drewN ?_ _)|(with_reducible refine Kd.C_drew ?_)));(case side4=>exact (Kd.R_reads' HO_4.out).2.1);rintro e w' ⟨rfl,⟨nd,rfl⟩⟩))
         go_meet
         case rel=>exact ⟨_,((t326 != t317)),(by first|rfl|(simp;done)|(simp [*];done)),H',⟨by have:=HJ10.out;first|omega|exact Nat.le_refl _⟩,⟨by (with_reducible repeat (first|apply Kd.R_alloc|apply Kd.R_drewN|apply Kd.R_drew));exact Kd.R_mono HO_4.out (fun _ hk=>⟨hk.1,hk.2.1⟩)⟩,⟨by (with_reducible repeat (first|apply Kd.R_alloc|apply Kd.R_drewN|apply Kd.R_drew));exact Kd.R_mono HO_7.out (fun _ hk=>⟨hk.1,hk.2.1⟩)⟩,⟨by (with_reducible repeat (first|apply Kd.R_alloc|apply Kd.R_drewN|apply Kd.R_drew));exact Kd.R_mono HO_323001.out (fun _ hk=>⟨hk.1.1,hk.1.2⟩)⟩,⟨by (with_reducible repeat (first|refine blk_drewN ?_ _|refine blk_drew ?_|refine blk_alloc ?_ _));exact BK308.out⟩,⟨by (with_reducible repeat (first|refine blk_drewN ?_ _|refine blk_drew ?_|refine blk_alloc ?_ _));exact BK322.out⟩,⟨by repeat (first|(with_reducible first|exact HB.out|apply below_alloc|apply pw_below_drewN|apply below_drew1|refine below_set ?_ GE308.out|refine below_set ?_ GE322.out)|exact HB.out)⟩⟩
        ·replace c47:=Bool.eq_false_iff.mpr c47
         subst c47
         have H1 : (laws_FnExactDeadCells.j1 kj10 t314 t317 t323 true a0_0 l0_1) = some r:=by rw [if_neg (show ¬ (false = true) by decide)] at H;exact H
         clear H
         have H:=H1
         clear H1
         have H':=Aside0.mk H
         clear H
         obtain ⟨Ao50,co50,eo50⟩:=Kd.R_slice HO_7.out
         subst eo50
         obtain ⟨Ao51,co51,eo51⟩:=Kd.R_slice HO_4.out
         subst eo51
         go_wp2_with (first|(go_at_call 9;(with_reducible refine (laws_eqInt64S.calls kj10 _ _ t323 _ _ t314 false _ ?side1 ?side2 ?side3 ?side4 A46.out).mono ?_);(case side1=>repeat (first|exact (Kd.R_reads' HO_7.out).2.2|(with_reducible refine Kd.C_alloc ?_ _)|(with_reducible refine Kd.C_drewN ?_ _)|(with_reducible refine Kd.C_drew ?_)));(case side2=>exact (Kd.R_reads' HO_7.out).2.1);(case side3=>repeat (first|exact (Kd.R_reads' HO_4.out).2.2|(with_reducible refine Kd.C_alloc ?_ _)|(with_reducible refine Kd.C_drewN ?_ _)|(with_reducible refine Kd.C_drew ?_)));(case side4=>exact (Kd.R_reads' HO_4.out).2.1);rintro e w' ⟨rfl,⟨nd,rfl⟩⟩))
         go_meet
         case rel=>exact ⟨_,(true),(by first|rfl|(simp;done)|(simp [*];done)),H',⟨by have:=HJ10.out;first|omega|exact Nat.le_refl _⟩,⟨by (with_reducible repeat (first|apply Kd.R_alloc|apply Kd.R_drewN|apply Kd.R_drew));exact Kd.R_mono HO_4.out (fun _ hk=>⟨hk.1,hk.2.1⟩)⟩,⟨by (with_reducible repeat (first|apply Kd.R_alloc|apply Kd.R_drewN|apply Kd.R_drew));exact Kd.R_mono HO_7.out (fun _ hk=>⟨hk.1,hk.2.1⟩)⟩,⟨by (with_reducible repeat (first|apply Kd.R_alloc|apply Kd.R_drewN|apply Kd.R_drew));exact Kd.R_mono HO_323001.out (fun _ hk=>⟨hk.1.1,hk.1.2⟩)⟩,⟨by (with_reducible repeat (first|refine blk_drewN ?_ _|refine blk_drew ?_|refine blk_alloc ?_ _));exact BK308.out⟩,⟨by (with_reducible repeat (first|refine blk_drewN ?_ _|refine blk_drew ?_|refine blk_alloc ?_ _));exact BK322.out⟩,⟨by repeat (first|(with_reducible first|exact HB.out|apply below_alloc|apply pw_below_drewN|apply below_drew1|refine below_set ?_ GE308.out|refine below_set ?_ GE322.out)|exact HB.out)⟩⟩
      case rest =>
       clear HC37
       try clear c1
       try clear c2
       try clear p2
       try clear c3
       try clear c3b0
       try clear c4
       try clear c5
       try clear c6
       try clear c7
       try clear c8
       try clear c9
       try clear c10
       try clear c11
       try clear c22
       try clear c27
       try clear c32
       try clear c35
       try clear c42
       try clear c45
       try clear c45b0
       try clear c47
       try clear hcz13_0
       try clear hcz13_1
       try clear hcz15_0
       try clear hcz15_1
       try clear hcz19_0
       try clear hcz19_1
       try clear hcz23_0
       try clear hcz23_1
       try clear hcz43_0
       try clear hcz43_1
       try clear hcz5_0
       try clear hcz5_1
       try clear hfz13_0
       try clear hfz13_1
       try clear hfz15_0
       try clear hfz15_1
       try clear hfz19_0
       try clear hfz19_1
       try clear hfz23_0
       try clear hfz23_1
       try clear hfz43_0
       try clear hfz43_1
       try clear hfz5_0
       try clear hfz5_1
       try clear p2
       obtain ⟨kq,x61_36,rfl,HA,HJ36,HO_4,HO_7,HO_323001,BK308,BK322,HB⟩:=hcut
       have hl323001_36:=(Kd.R_reads' HO_323001.out).1
       rw [hl323001_36] at HO_323001
       (try simp only [hl323001_36])
       (try simp only [hl323001_36] at BK308)
       (try simp only [hl323001_36] at BK322)
       (try simp only [hl323001_36] at HO_4)
       (try simp only [hl323001_36] at HO_7)
       cases kq with
       | zero => exact absurd HA.out (by simp [laws_FnExactDeadCells.j1])
       | succ kj36 =>
        have H:=HA.out
        clear HA
        simp only [laws_FnExactDeadCells.j1] at H
        by_cases c52 : x61_36 = true
        ·subst c52
         have H1 : (some false) = some r:=by rw [if_pos rfl] at H;exact H
         clear H
         have H:=H1
         clear H1
         obtain rfl:=Option.some.inj H
         go_wp2
         go_ret
         exact ⟨by first|rfl|(simp [errW_none,errW_some] <;> rfl)|(simp [*,errW_none,errW_some] <;> rfl),by repeat (first|(with_reducible first|exact HB.out|apply below_alloc|apply pw_below_drewN|apply below_drew1|refine below_set ?_ GE308.out|refine below_set ?_ GE322.out)|exact HB.out)⟩
        ·replace c52:=Bool.eq_false_iff.mpr c52
         subst c52
         have H1 : ((laws_markInt64S.f kj36 t323 1).bind fun bt336=>((laws_heldInt64S.f kj36 bt336.2 1).bind fun t338=>(if t338 < 0 then (some false) else (if t338 = bt336.1 then ((laws_toHex.f kj36 a0_0 l0_1).bind fun bt339=>((impl_DeadCells.f kj36 bt339.1 bt339.2).bind fun bt343=>((laws_eqInt64S.f kj36 bt343.1 t314).bind fun t347=>(if t347 = true then (laws_FnExactDeadCells.j2 kj36 bt336.2 bt336.1 (bt343.2 != t317)) else (laws_FnExactDeadCells.j2 kj36 bt336.2 bt336.1 true))))) else (some false))))) = some r:=by rw [if_neg (show ¬ (false = true) by decide)] at H;exact H
         clear H
         have H:=H1
         clear H1
         replace H:=Option.bind_eq_some_iff.mp H
         obtain ⟨⟨t336,t337⟩,A530,H⟩:=H
         replace H : ((laws_heldInt64S.f kj36 t337 1).bind fun t338=>(if t338 < 0 then (some false) else (if t338 = t336 then ((laws_toHex.f kj36 a0_0 l0_1).bind fun bt339=>((impl_DeadCells.f kj36 bt339.1 bt339.2).bind fun bt343=>((laws_eqInt64S.f kj36 bt343.1 t314).bind fun t347=>(if t347 = true then (laws_FnExactDeadCells.j2 kj36 t337 t336 (bt343.2 != t317)) else (laws_FnExactDeadCells.j2 kj36 t337 t336 true))))) else (some false)))) = some r:=H
         have A53:=Aside0.mk A530
         clear A530
         replace H:=Option.bind_eq_some_iff.mp H
         obtain ⟨t338,A540,H⟩:=H
         replace H : (if t338 < 0 then (some false) else (if t338 = t336 then ((laws_toHex.f kj36 a0_0 l0_1).bind fun bt339=>((impl_DeadCells.f kj36 bt339.1 bt339.2).bind fun bt343=>((laws_eqInt64S.f kj36 bt343.1 t314).bind fun t347=>(if t347 = true then (laws_FnExactDeadCells.j2 kj36 t337 t336 (bt343.2 != t317)) else (laws_FnExactDeadCells.j2 kj36 t337 t336 true))))) else (some false))) = some r:=H
         have A54:=Aside0.mk A540
         clear A540
         by_cases c55 : t338 < 0
         ·rw [if_pos c55] at H
          have c55b0 : decide (t338 < 0) = true:=decide_eq_true c55
          clear c55
          obtain rfl:=Option.some.inj H
          obtain ⟨Ao56,co56,eo56⟩:=Kd.R_slice HO_7.out
          subst eo56
          go_wp2_with (first|((with_reducible refine gate_callee (f:=12) rfl ?_);refine goesL_ (some 64) rfl rfl Try.func12 (by kernel_rfl) rfl #[.slice Ao56 t323.length co56,.int .i64 1] rfl (by (try simp only [List.map_toArray,List.map_cons,List.map_nil]);first|done|rfl|(simp only [List.length_drop,List.length_take];rfl)) ?_;(with_reducible refine (laws_markInt64S.calls kj36 (fun k_=>some k_ = (.slice Ao56 t323.length co56 : Value).ownBlock) (.slice Ao56 t323.length co56) t323 1 t336 t337 w _ ?side1 ?side2 A53.out).mono ?_);(case side1=>repeat (first|(with_reducible first|exact HB.out|apply below_alloc|apply pw_below_drewN|apply below_drew1|refine below_set ?_ GE308.out|refine below_set ?_ GE322.out)|exact HB.out));(case side2=>exact Kd.R_tight rfl HO_7.out);rintro e w57 ⟨rfl,hy0,hb,hkp⟩;refine ⟨_,rfl,?_⟩;have n0_:=Aside0.mk (Kd.R_mono (ok':=fun k_=>some k_ ≠ (.slice Ao56 t323.length co56 : Value).ownBlock ∧ some k_ ≠ (.slice Ao24 t334.length co24 : Value).ownBlock) (Kd.R_keptB (HO_4.out) hkp (fun k_ hk_ hs_=>(hk_.1) hs_)) (fun k_ hk_=>⟨hk_.1.1,hk_.1.2⟩));have n1_:=Aside0.mk (Kd.R_reok rfl hy0 (fun k_ e_=>HO_7.out.1 k_ e_));have n2_:=Aside0.mk (Kd.R_mono (ok':=fun k_=>some k_ ≠ (v315 : Value).ownBlock ∧ some k_ ≠ (.slice Ao56 t323.length co56 : Value).ownBlock) (Kd.R_keptB (HO_323001.out) hkp (fun k_ hk_ hs_=>(hk_.2) hs_)) (fun k_ hk_=>⟨hk_.1.1,hk_.1.2⟩));have n3_:=Aside0.mk (blk_kept (by (with_reducible repeat (first|refine blk_drewN ?_ _|refine blk_drew ?_|refine blk_alloc ?_ _));exact BK308.out) hkp (fun hs_=>(fun e_=>(Kd.R_ne HO_7.out BK308.out (by decide)) e_) hs_));have n4_:=Aside0.mk (blk_kept (by (with_reducible repeat (first|refine blk_drewN ?_ _|refine blk_drew ?_|refine blk_alloc ?_ _));exact BK322.out) hkp (fun hs_=>(fun e_=>(Kd.R_ne HO_7.out BK322.out (by decide)) e_) hs_));have n5_:=Aside0.mk (hb);clear HO_4;clear HO_7;clear HO_323001;clear BK308;clear BK322;clear HB;have HO_4:=n0_;have HO_7:=n1_;have HO_323001:=n2_;have BK308:=n3_;have BK322:=n4_;have HB:=n5_;clear n0_ n1_ n2_ n3_ n4_ n5_;(try clear hb);(try clear hkp);(try clear hy0))|((with_reducible refine gate_callee (f:=13) rfl ?_);refine goesL_ (some 67) rfl rfl Try.func13 (by kernel_rfl) rfl #[.slice Ao56 t337.length co56,.int .i64 1] rfl (by (try simp only [List.map_toArray,List.map_cons,List.map_nil]);first|done|(rw [show t337.length = t323.length from (Kd.R_reads' HO_7.out).1.symm] <;> rfl)|rfl|(simp only [List.length_drop,List.length_take];rfl)) ?_;(with_reducible refine (laws_heldInt64S.calls kj36 _ _ t337 1 t338 _ ?side1 ?side2 A54.out).mono ?_);(case side1=>repeat (first|exact (Kd.R_reads' HO_7.out).2.2|(with_reducible refine Kd.C_alloc ?_ _)|(with_reducible refine Kd.C_drewN ?_ _)|(with_reducible refine Kd.C_drew ?_)));(case side2=>rw [show t337.length = t323.length from (Kd.R_reads' HO_7.out).1.symm];exact (Kd.R_reads' HO_7.out).2.1);rintro e w' ⟨rfl,⟨nd,rfl⟩⟩;refine ⟨_,rfl,?_⟩))
          go_ret
          exact ⟨by first|rfl|(simp [errW_none,errW_some] <;> rfl)|(simp [*,errW_none,errW_some] <;> rfl),by repeat (first|(with_reducible first|exact HB.out|apply below_alloc|apply pw_below_drewN|apply below_drew1|refine below_set ?_ GE308.out|refine below_set ?_ GE322.out)|exact HB.out)⟩
         ·rw [if_neg c55] at H
          have c55b0 : decide (t338 < 0) = false:=decide_eq_false c55
          clear c55
          by_cases c58 : t338 = t336
          ·rw [if_pos c58] at H
           have c58b0 : (t338 == t336) = true:=beq_iff_eq.mpr c58
           have c58b1 : (t338 != t336) = false:=bne_eq_false_iff_eq.mpr c58
           clear c58
           replace H:=Option.bind_eq_some_iff.mp H
           obtain ⟨⟨t339,t340⟩,A590,H⟩:=H
           replace H : ((impl_DeadCells.f kj36 t339 t340).bind fun bt343=>((laws_eqInt64S.f kj36 bt343.1 t314).bind fun t347=>(if t347 = true then (laws_FnExactDeadCells.j2 kj36 t337 t336 (bt343.2 != t317)) else (laws_FnExactDeadCells.j2 kj36 t337 t336 true)))) = some r:=H
           have A59:=Aside0.mk A590
           clear A590
           replace H:=Option.bind_eq_some_iff.mp H
           obtain ⟨⟨t343,t346⟩,A600,H⟩:=H
           replace H : ((laws_eqInt64S.f kj36 t343 t314).bind fun t347=>(if t347 = true then (laws_FnExactDeadCells.j2 kj36 t337 t336 (t346 != t317)) else (laws_FnExactDeadCells.j2 kj36 t337 t336 true))) = some r:=H
           have A60:=Aside0.mk A600
           clear A600
           have HC61:=Aside0.mk H
           clear H
           obtain ⟨Ao62,co62,eo62⟩:=Kd.R_slice HO_7.out
           subst eo62
           go_upto_region 25 with (first|((with_reducible refine gate_callee (f:=12) rfl ?_);refine goesL_ (some 64) rfl rfl Try.func12 (by kernel_rfl) rfl #[.slice Ao62 t323.length co62,.int .i64 1] rfl (by (try simp only [List.map_toArray,List.map_cons,List.map_nil]);first|done|rfl|(simp only [List.length_drop,List.length_take];rfl)) ?_;(with_reducible refine (laws_markInt64S.calls kj36 (fun k_=>some k_ = (.slice Ao62 t323.length co62 : Value).ownBlock) (.slice Ao62 t323.length co62) t323 1 t336 t337 w _ ?side1 ?side2 A53.out).mono ?_);(case side1=>repeat (first|(with_reducible first|exact HB.out|apply below_alloc|apply pw_below_drewN|apply below_drew1|refine below_set ?_ GE308.out|refine below_set ?_ GE322.out)|exact HB.out));(case side2=>exact Kd.R_tight rfl HO_7.out);rintro e w63 ⟨rfl,hy0,hb,hkp⟩;refine ⟨_,rfl,?_⟩;have n0_:=Aside0.mk (Kd.R_mono (ok':=fun k_=>some k_ ≠ (.slice Ao62 t323.length co62 : Value).ownBlock ∧ some k_ ≠ (.slice Ao24 t334.length co24 : Value).ownBlock) (Kd.R_keptB (HO_4.out) hkp (fun k_ hk_ hs_=>(hk_.1) hs_)) (fun k_ hk_=>⟨hk_.1.1,hk_.1.2⟩));have n1_:=Aside0.mk (Kd.R_reok rfl hy0 (fun k_ e_=>HO_7.out.1 k_ e_));have n2_:=Aside0.mk (Kd.R_mono (ok':=fun k_=>some k_ ≠ (v315 : Value).ownBlock ∧ some k_ ≠ (.slice Ao62 t323.length co62 : Value).ownBlock) (Kd.R_keptB (HO_323001.out) hkp (fun k_ hk_ hs_=>(hk_.2) hs_)) (fun k_ hk_=>⟨hk_.1.1,hk_.1.2⟩));have n3_:=Aside0.mk (blk_kept (by (with_reducible repeat (first|refine blk_drewN ?_ _|refine blk_drew ?_|refine blk_alloc ?_ _));exact BK308.out) hkp (fun hs_=>(fun e_=>(Kd.R_ne HO_7.out BK308.out (by decide)) e_) hs_));have n4_:=Aside0.mk (blk_kept (by (with_reducible repeat (first|refine blk_drewN ?_ _|refine blk_drew ?_|refine blk_alloc ?_ _));exact BK322.out) hkp (fun hs_=>(fun e_=>(Kd.R_ne HO_7.out BK322.out (by decide)) e_) hs_));have n5_:=Aside0.mk (hb);clear HO_4;clear HO_7;clear HO_323001;clear BK308;clear BK322;clear HB;have HO_4:=n0_;have HO_7:=n1_;have HO_323001:=n2_;have BK308:=n3_;have BK322:=n4_;have HB:=n5_;clear n0_ n1_ n2_ n3_ n4_ n5_;(try clear hb);(try clear hkp);(try clear hy0))|((with_reducible refine gate_callee (f:=13) rfl ?_);refine goesL_ (some 67) rfl rfl Try.func13 (by kernel_rfl) rfl #[.slice Ao62 t337.length co62,.int .i64 1] rfl (by (try simp only [List.map_toArray,List.map_cons,List.map_nil]);first|done|(rw [show t337.length = t323.length from (Kd.R_reads' HO_7.out).1.symm] <;> rfl)|rfl|(simp only [List.length_drop,List.length_take];rfl)) ?_;(with_reducible refine (laws_heldInt64S.calls kj36 _ _ t337 1 t338 _ ?side1 ?side2 A54.out).mono ?_);(case side1=>repeat (first|exact (Kd.R_reads' HO_7.out).2.2|(with_reducible refine Kd.C_alloc ?_ _)|(with_reducible refine Kd.C_drewN ?_ _)|(with_reducible refine Kd.C_drew ?_)));(case side2=>rw [show t337.length = t323.length from (Kd.R_reads' HO_7.out).1.symm];exact (Kd.R_reads' HO_7.out).2.1);rintro e w' ⟨rfl,⟨nd,rfl⟩⟩;refine ⟨_,rfl,?_⟩;have hnb64:=NB308_322.out;have hnc64:=NB322_308.out;have hcz65_0 : w63.cell? ⟨gb308,0,none⟩ = some (.int .i64 a0_0):=(blk_cell BK308.out 0).trans rfl;have hcz65_1 : w63.cell? ⟨gb308,1,none⟩ = some (.slice A0_1 l0_1.length c0_1):=(blk_cell BK308.out 1).trans rfl;have hfz65_0:=blk_frozen BK308.out 0;have hfz65_1:=blk_frozen BK308.out 1)|((with_reducible refine gate_callee (f:=7) rfl ?_);refine goesL_ (some 75) rfl rfl Try.func7 (by kernel_rfl) rfl #[.agg #[.int .i64 a0_0,.slice A0_1 l0_1.length c0_1]] rfl (by (try simp only [List.map_toArray,List.map_cons,List.map_nil]);first|done|rfl|(simp only [List.length_drop,List.length_take];rfl)) ?_;(with_reducible refine (laws_toHex.calls kj36 a0_0 _ _ l0_1 t339 t340 _ ?side1 ?side2 A59.out).mono ?_);(case side1=>repeat (first|exact (Kd.C_below HR0_1.out (by repeat (first|(with_reducible first|exact HB.out|apply below_alloc|apply pw_below_drewN|apply below_drew1|refine below_set ?_ GE308.out|refine below_set ?_ GE322.out)|exact HB.out)))|(with_reducible refine Kd.C_alloc ?_ _)|(with_reducible refine Kd.C_drewN ?_ _)|(with_reducible refine Kd.C_drew ?_)));(case side2=>exact HC0_1.out);rintro e w66 ⟨v341,rfl,ho0,hb⟩;refine ⟨_,rfl,?_⟩;have n0_:=Aside0.mk (Kd.R_elder' (by (with_reducible repeat (first|apply Kd.R_alloc|apply Kd.R_drewN|apply Kd.R_drew));exact HO_4.out) (Kd.R_base ho0) hb);have n1_:=Aside0.mk (Kd.R_elder' (by (with_reducible repeat (first|apply Kd.R_alloc|apply Kd.R_drewN|apply Kd.R_drew));exact HO_7.out) (Kd.R_base ho0) hb);have n2_:=Aside0.mk (Kd.R_elder' (by (with_reducible repeat (first|apply Kd.R_alloc|apply Kd.R_drewN|apply Kd.R_drew));exact HO_323001.out) (Kd.R_base ho0) hb);have n3_:=Aside0.mk (Kd.R_lower (Kd.R_new' (Kd.R_new' (Kd.R_new' ho0 (Kd.R_lt (by (with_reducible repeat (first|apply Kd.R_alloc|apply Kd.R_drewN|apply Kd.R_drew));exact HO_4.out))) (Kd.R_lt (by (with_reducible repeat (first|apply Kd.R_alloc|apply Kd.R_drewN|apply Kd.R_drew));exact HO_7.out))) (Kd.R_lt (by (with_reducible repeat (first|apply Kd.R_alloc|apply Kd.R_drewN|apply Kd.R_drew));exact HO_323001.out))) (below_size (by repeat (first|(with_reducible first|exact HB.out|apply below_alloc|apply pw_below_drewN|apply below_drew1|refine below_set ?_ GE308.out|refine below_set ?_ GE322.out)|exact HB.out))));have n4_:=Aside0.mk (blk_below (g:=gb308) (o:=.cells #[.int .i64 a0_0,.slice A0_1 l0_1.length c0_1] 24 (0,0)) (by (with_reducible repeat (first|refine blk_drewN ?_ _|refine blk_drew ?_|refine blk_alloc ?_ _));exact BK308.out) hb);have n5_:=Aside0.mk (blk_below (g:=gb322) (o:=.cells #[.int .i64 t318,.slice Ao24 t334.length co24] 28 (0,0)) (by (with_reducible repeat (first|refine blk_drewN ?_ _|refine blk_drew ?_|refine blk_alloc ?_ _));exact BK322.out) hb);have n6_:=Aside0.mk (below_step (by repeat (first|(with_reducible first|exact HB.out|apply below_alloc|apply pw_below_drewN|apply below_drew1|refine below_set ?_ GE308.out|refine below_set ?_ GE322.out)|exact HB.out)) hb);clear HO_4;clear HO_7;clear HO_323001;clear BK308;clear BK322;clear HB;have HO_4:=n0_;have HO_7:=n1_;have HO_323001:=n2_;have HO342:=n3_;have BK308:=n4_;have BK322:=n5_;have HB:=n6_;clear n0_ n1_ n2_ n3_ n4_ n5_ n6_;(try clear hb);(try clear hb2);(try clear hk);(try clear hi);(try clear ho0);obtain ⟨Ao67,co67,eo67⟩:=Kd.R_slice HO342.out;subst eo67)|((with_reducible refine gate_callee (f:=8) rfl ?_);refine goesL_ (some 76) rfl rfl Try.func8 (by kernel_rfl) rfl #[.agg #[.int .i64 t339,.slice Ao67 t340.length co67]] rfl (by (try simp only [List.map_toArray,List.map_cons,List.map_nil]);first|done|rfl|(simp only [List.length_drop,List.length_take];rfl)) ?_;(with_reducible refine (impl_DeadCells.calls kj36 t339 _ _ t340 t343 t346 _ ?side1 ?side2 A60.out).mono ?_);(case side1=>repeat (first|exact (Kd.R_reads' HO342.out).2.2|(with_reducible refine Kd.C_alloc ?_ _)|(with_reducible refine Kd.C_drewN ?_ _)|(with_reducible refine Kd.C_drew ?_)));(case side2=>exact (Kd.R_reads' HO342.out).2.1);rintro e w68 ⟨v344,rfl,ho0,hb⟩;refine ⟨_,rfl,?_⟩;have n0_:=Aside0.mk (Kd.R_elder' (by (with_reducible repeat (first|apply Kd.R_alloc|apply Kd.R_drewN|apply Kd.R_drew));exact HO_4.out) (Kd.R_base ho0) hb);have n1_:=Aside0.mk (Kd.R_elder' (by (with_reducible repeat (first|apply Kd.R_alloc|apply Kd.R_drewN|apply Kd.R_drew));exact HO_7.out) (Kd.R_base ho0) hb);have n2_:=Aside0.mk (Kd.R_elder' (by (with_reducible repeat (first|apply Kd.R_alloc|apply Kd.R_drewN|apply Kd.R_drew));exact HO_323001.out) (Kd.R_base ho0) hb);have n3_:=Aside0.mk (Kd.R_elder' (by (with_reducible repeat (first|apply Kd.R_alloc|apply Kd.R_drewN|apply Kd.R_drew));exact HO342.out) (Kd.R_base ho0) hb);have n4_:=Aside0.mk (Kd.R_lower (Kd.R_new' (Kd.R_new' (Kd.R_new' (Kd.R_new' ho0 (Kd.R_lt (by (with_reducible repeat (first|apply Kd.R_alloc|apply Kd.R_drewN|apply Kd.R_drew));exact HO_4.out))) (Kd.R_lt (by (with_reducible repeat (first|apply Kd.R_alloc|apply Kd.R_drewN|apply Kd.R_drew));exact HO_7.out))) (Kd.R_lt (by (with_reducible repeat (first|apply Kd.R_alloc|apply Kd.R_drewN|apply Kd.R_drew));exact HO_323001.out))) (Kd.R_lt (by (with_reducible repeat (first|apply Kd.R_alloc|apply Kd.R_drewN|apply Kd.R_drew));exact HO342.out))) (below_size (by repeat (first|(with_reducible first|exact HB.out|apply below_alloc|apply pw_below_drewN|apply below_drew1|refine below_set ?_ GE308.out|refine below_set ?_ GE322.out)|exact HB.out))));have n5_:=Aside0.mk (blk_below (g:=gb308) (o:=.cells #[.int .i64 a0_0,.slice A0_1 l0_1.length c0_1] 24 (0,0)) (by (with_reducible repeat (first|refine blk_drewN ?_ _|refine blk_drew ?_|refine blk_alloc ?_ _));exact BK308.out) hb);have n6_:=Aside0.mk (blk_below (g:=gb322) (o:=.cells #[.int .i64 t318,.slice Ao24 t334.length co24] 28 (0,0)) (by (with_reducible repeat (first|refine blk_drewN ?_ _|refine blk_drew ?_|refine blk_alloc ?_ _));exact BK322.out) hb);have n7_:=Aside0.mk (below_step (by repeat (first|(with_reducible first|exact HB.out|apply below_alloc|apply pw_below_drewN|apply below_drew1|refine below_set ?_ GE308.out|refine below_set ?_ GE322.out)|exact HB.out)) hb);clear HO_4;clear HO_7;clear HO_323001;clear HO342;clear BK308;clear BK322;clear HB;have HO_4:=n0_;have HO_7:=n1_;have HO_323001:=n2_;have HO342:=n3_;have HO345:=n4_;have BK308:=n5_;have BK322:=n6_;have HB:=n7_;clear n0_ n1_ n2_ n3_ n4_ n5_ n6_ n7_;(try clear hb);(try clear hb2);(try clear hk);(try clear hi);(try clear ho0)))
           (try simp only [Act.put,List.setIfInBounds_toArray,List.set_cons_zero,List.set_cons_succ])
           go_cut [87] (fun v87 wc=>∃ (kq : Nat) (x87_60 : Bool),v87 = .bool x87_60 ∧ Aside0 (laws_FnExactDeadCells.j2 kq t337 t336 x87_60 = some r) ∧ Aside0 (kq ≤ kj36) ∧ Aside0 (Kd.R (Kd.int .i64) 2 wc w.heap.size (fun k_=>some k_ ≠ ((.slice Ao24 t334.length co24) : Value).ownBlock) (.slice Ao62 t323.length co62) t337) ∧ Aside0 (Kd.R (Kd.int .i64) 2 wc w.heap.size (fun k_=>some k_ ≠ ((.slice Ao62 t323.length co62) : Value).ownBlock) (.slice Ao24 t334.length co24) t334) ∧ Aside0 (wc.heap[gb308]? = some (.cells #[.int .i64 a0_0,(.slice A0_1 l0_1.length c0_1)] 24 (0,0))) ∧ Aside0 (wc.heap[gb322]? = some (.cells #[.int .i64 t318,(.slice Ao24 t334.length co24)] 28 (0,0))) ∧ Aside0 (Below w.heap.size w wc))
           case first =>
            have H:=HC61.out
            clear HC61
            replace H:=Option.bind_eq_some_iff.mp H
            obtain ⟨t347,A690,H⟩:=H
            replace H : (if t347 = true then (laws_FnExactDeadCells.j2 kj36 t337 t336 (t346 != t317)) else (laws_FnExactDeadCells.j2 kj36 t337 t336 true)) = some r:=H
            have A69:=Aside0.mk A690
            clear A690
            by_cases c70 : t347 = true
            ·subst c70
             have H1 : (laws_FnExactDeadCells.j2 kj36 t337 t336 (t346 != t317)) = some r:=by rw [if_pos rfl] at H;exact H
             clear H
             have H:=H1
             clear H1
             have H':=Aside0.mk H
             clear H
             obtain ⟨Ao71,co71,eo71⟩:=Kd.R_slice HO345.out
             subst eo71
             obtain ⟨Ao72,co72,eo72⟩:=Kd.R_slice HO_4.out
             subst eo72
             go_wp2_with (first|((with_reducible refine gate_callee (f:=9) rfl ?_);refine goesL_ (some 81) rfl rfl Try.func9 (by kernel_rfl) rfl #[.slice Ao71 t343.length co71,.slice Ao72 t314.length co72] rfl (by (try simp only [List.map_toArray,List.map_cons,List.map_nil]);first|done|rfl|(simp only [List.length_drop,List.length_take];rfl)) ?_;(with_reducible refine (laws_eqInt64S.calls kj36 _ _ t343 _ _ t314 true _ ?side1 ?side2 ?side3 ?side4 A69.out).mono ?_);(case side1=>repeat (first|exact (Kd.R_reads' HO345.out).2.2|(with_reducible refine Kd.C_alloc ?_ _)|(with_reducible refine Kd.C_drewN ?_ _)|(with_reducible refine Kd.C_drew ?_)));(case side2=>exact (Kd.R_reads' HO345.out).2.1);(case side3=>repeat (first|exact (Kd.R_reads' HO_4.out).2.2|(with_reducible refine Kd.C_alloc ?_ _)|(with_reducible refine Kd.C_drewN ?_ _)|(with_reducible refine Kd.C_drew ?_)));(case side4=>exact (Kd.R_reads' HO_4.out).2.1);rintro e w' ⟨rfl,⟨nd,rfl⟩⟩;refine ⟨_,rfl,?_⟩))
             go_meet
             case rel=>exact ⟨_,((t346 != t317)),(by first|rfl|(simp;done)|(simp [*];done)),H',⟨by have:=HJ10.out;have:=HJ36.out;first|omega|exact Nat.le_refl _⟩,⟨by (try simp only [hl323001_36]);(with_reducible repeat (first|apply Kd.R_alloc|apply Kd.R_drewN|apply Kd.R_drew));exact Kd.R_mono HO_7.out (fun _ hk=>hk.1.1.2)⟩,⟨by (try simp only [hl323001_36]);(with_reducible repeat (first|apply Kd.R_alloc|apply Kd.R_drewN|apply Kd.R_drew));exact Kd.R_mono HO_323001.out (fun _ hk=>hk.1.1.2)⟩,⟨by (try simp only [hl323001_36]);(with_reducible repeat (first|refine blk_drewN ?_ _|refine blk_drew ?_|refine blk_alloc ?_ _));exact BK308.out⟩,⟨by (try simp only [hl323001_36]);(with_reducible repeat (first|refine blk_drewN ?_ _|refine blk_drew ?_|refine blk_alloc ?_ _));exact BK322.out⟩,⟨by repeat (first|(with_reducible first|exact HB.out|apply below_alloc|apply pw_below_drewN|apply below_drew1|refine below_set ?_ GE308.out|refine below_set ?_ GE322.out)|exact HB.out)⟩⟩
            ·replace c70:=Bool.eq_false_iff.mpr c70
             subst c70
             have H1 : (laws_FnExactDeadCells.j2 kj36 t337 t336 true) = some r:=by rw [if_neg (show ¬ (false = true) by decide)] at H;exact H
             clear H
             have H:=H1
             clear H1
             have H':=Aside0.mk H
             clear H
             obtain ⟨Ao73,co73,eo73⟩:=Kd.R_slice HO345.out
             subst eo73
             obtain ⟨Ao74,co74,eo74⟩:=Kd.R_slice HO_4.out
             subst eo74
             go_wp2_with (first|((with_reducible refine gate_callee (f:=9) rfl ?_);refine goesL_ (some 81) rfl rfl Try.func9 (by kernel_rfl) rfl #[.slice Ao73 t343.length co73,.slice Ao74 t314.length co74] rfl (by (try simp only [List.map_toArray,List.map_cons,List.map_nil]);first|done|rfl|(simp only [List.length_drop,List.length_take];rfl)) ?_;(with_reducible refine (laws_eqInt64S.calls kj36 _ _ t343 _ _ t314 false _ ?side1 ?side2 ?side3 ?side4 A69.out).mono ?_);(case side1=>repeat (first|exact (Kd.R_reads' HO345.out).2.2|(with_reducible refine Kd.C_alloc ?_ _)|(with_reducible refine Kd.C_drewN ?_ _)|(with_reducible refine Kd.C_drew ?_)));(case side2=>exact (Kd.R_reads' HO345.out).2.1);(case side3=>repeat (first|exact (Kd.R_reads' HO_4.out).2.2|(with_reducible refine Kd.C_alloc ?_ _)|(with_reducible refine Kd.C_drewN ?_ _)|(with_reducible refine Kd.C_drew ?_)));(case side4=>exact (Kd.R_reads' HO_4.out).2.1);rintro e w' ⟨rfl,⟨nd,rfl⟩⟩;refine ⟨_,rfl,?_⟩))
             go_meet
             case rel=>exact ⟨_,(true),(by first|rfl|(simp;done)|(simp [*];done)),H',⟨by have:=HJ10.out;have:=HJ36.out;first|omega|exact Nat.le_refl _⟩,⟨by (try simp only [hl323001_36]);(with_reducible repeat (first|apply Kd.R_alloc|apply Kd.R_drewN|apply Kd.R_drew));exact Kd.R_mono HO_7.out (fun _ hk=>hk.1.1.2)⟩,⟨by (try simp only [hl323001_36]);(with_reducible repeat (first|apply Kd.R_alloc|apply Kd.R_drewN|apply Kd.R_drew));exact Kd.R_mono HO_323001.out (fun _ hk=>hk.1.1.2)⟩,⟨by (try simp only [hl323001_36]);(with_reducible repeat (first|refine blk_drewN ?_ _|refine blk_drew ?_|refine blk_alloc ?_ _));exact BK308.out⟩,⟨by (try simp only [hl323001_36]);(with_reducible repeat (first|refine blk_drewN ?_ _|refine blk_drew ?_|refine blk_alloc ?_ _));exact BK322.out⟩,⟨by repeat (first|(with_reducible first|exact HB.out|apply below_alloc|apply pw_below_drewN|apply below_drew1|refine below_set ?_ GE308.out|refine below_set ?_ GE322.out)|exact HB.out)⟩⟩
           case rest =>
            clear HC61
            try clear c1
            try clear c2
            try clear p2
            try clear c3
            try clear c3b0
            try clear c4
            try clear c5
            try clear c6
            try clear c7
            try clear c8
            try clear c9
            try clear c10
            try clear c11
            try clear c12
            try clear c13
            try clear c22
            try clear c27
            try clear c32
            try clear c35
            try clear c42
            try clear c45
            try clear c45b0
            try clear c47
            try clear c52
            try clear c55
            try clear c55b0
            try clear c58
            try clear c58b0
            try clear c58b1
            try clear c64
            try clear c70
            try clear hcz13_0
            try clear hcz13_1
            try clear hcz15_0
            try clear hcz15_1
            try clear hcz19_0
            try clear hcz19_1
            try clear hcz23_0
            try clear hcz23_1
            try clear hcz43_0
            try clear hcz43_1
            try clear hcz5_0
            try clear hcz5_1
            try clear hcz65_0
            try clear hcz65_1
            try clear hfz13_0
            try clear hfz13_1
            try clear hfz15_0
            try clear hfz15_1
            try clear hfz19_0
            try clear hfz19_1
            try clear hfz23_0
            try clear hfz23_1
            try clear hfz43_0
            try clear hfz43_1
            try clear hfz5_0
            try clear hfz5_1
            try clear hfz65_0
            try clear hfz65_1
            try clear p2
            obtain ⟨kq,x87_60,rfl,HA,HJ60,HO_7,HO_323001,BK308,BK322,HB⟩:=hcut
            have hl7_60:=(Kd.R_reads' HO_7.out).1
            rw [hl7_60] at HO_7
            (try simp only [hl7_60])
            (try simp only [hl7_60] at BK308)
            (try simp only [hl7_60] at BK322)
            (try simp only [hl7_60] at HO_323001)
            cases kq with
            | zero => exact absurd HA.out (by simp [laws_FnExactDeadCells.j2])
            | succ kj60 =>
             have H:=HA.out
             clear HA
             simp only [laws_FnExactDeadCells.j2] at H
             by_cases c75 : x87_60 = true
             ·subst c75
              have H1 : (some false) = some r:=by rw [if_pos rfl] at H;exact H
              clear H
              have H:=H1
              clear H1
              obtain rfl:=Option.some.inj H
              go_wp2
              go_ret
              exact ⟨by first|rfl|(simp [errW_none,errW_some] <;> rfl)|(simp [*,errW_none,errW_some] <;> rfl),by repeat (first|(with_reducible first|exact HB.out|apply below_alloc|apply pw_below_drewN|apply below_drew1|refine below_set ?_ GE308.out|refine below_set ?_ GE322.out)|exact HB.out)⟩
             ·replace c75:=Bool.eq_false_iff.mpr c75
              subst c75
              have H1 : ((laws_heldInt64S.f kj60 t337 1).bind fun t348=>(if t348 < 0 then (some false) else (if t348 = t336 then (some true) else (some false)))) = some r:=by rw [if_neg (show ¬ (false = true) by decide)] at H;exact H
              clear H
              have H:=H1
              clear H1
              replace H:=Option.bind_eq_some_iff.mp H
              obtain ⟨t348,A760,H⟩:=H
              replace H : (if t348 < 0 then (some false) else (if t348 = t336 then (some true) else (some false))) = some r:=H
              have A76:=Aside0.mk A760
              clear A760
              by_cases c77 : t348 < 0
              ·rw [if_pos c77] at H
               have c77b0 : decide (t348 < 0) = true:=decide_eq_true c77
               clear c77
               obtain rfl:=Option.some.inj H
               go_wp2_with (first|((with_reducible refine gate_callee (f:=13) rfl ?_);refine goesL_ (some 90) rfl rfl Try.func13 (by kernel_rfl) rfl #[.slice Ao62 t337.length co62,.int .i64 1] rfl (by (try simp only [List.map_toArray,List.map_cons,List.map_nil]);first|done|rfl|(simp only [List.length_drop,List.length_take];rfl)) ?_;(with_reducible refine (laws_heldInt64S.calls kj60 _ _ t337 1 t348 _ ?side1 ?side2 A76.out).mono ?_);(case side1=>repeat (first|exact (Kd.R_reads' HO_7.out).2.2|(with_reducible refine Kd.C_alloc ?_ _)|(with_reducible refine Kd.C_drewN ?_ _)|(with_reducible refine Kd.C_drew ?_)));(case side2=>exact (Kd.R_reads' HO_7.out).2.1);rintro e w' ⟨rfl,⟨nd,rfl⟩⟩;refine ⟨_,rfl,?_⟩))
               go_ret
               exact ⟨by first|rfl|(simp [errW_none,errW_some] <;> rfl)|(simp [*,errW_none,errW_some] <;> rfl),by repeat (first|(with_reducible first|exact HB.out|apply below_alloc|apply pw_below_drewN|apply below_drew1|refine below_set ?_ GE308.out|refine below_set ?_ GE322.out)|exact HB.out)⟩
              ·rw [if_neg c77] at H
               have c77b0 : decide (t348 < 0) = false:=decide_eq_false c77
               clear c77
               by_cases c78 : t348 = t336
               ·rw [if_pos c78] at H
                have c78b0 : (t348 == t336) = true:=beq_iff_eq.mpr c78
                have c78b1 : (t348 != t336) = false:=bne_eq_false_iff_eq.mpr c78
                clear c78
                obtain rfl:=Option.some.inj H
                go_wp2_with (first|((with_reducible refine gate_callee (f:=13) rfl ?_);refine goesL_ (some 90) rfl rfl Try.func13 (by kernel_rfl) rfl #[.slice Ao62 t337.length co62,.int .i64 1] rfl (by (try simp only [List.map_toArray,List.map_cons,List.map_nil]);first|done|rfl|(simp only [List.length_drop,List.length_take];rfl)) ?_;(with_reducible refine (laws_heldInt64S.calls kj60 _ _ t337 1 t348 _ ?side1 ?side2 A76.out).mono ?_);(case side1=>repeat (first|exact (Kd.R_reads' HO_7.out).2.2|(with_reducible refine Kd.C_alloc ?_ _)|(with_reducible refine Kd.C_drewN ?_ _)|(with_reducible refine Kd.C_drew ?_)));(case side2=>exact (Kd.R_reads' HO_7.out).2.1);rintro e w' ⟨rfl,⟨nd,rfl⟩⟩;refine ⟨_,rfl,?_⟩))
                go_ret
                exact ⟨by first|rfl|(simp [errW_none,errW_some] <;> rfl)|(simp [*,errW_none,errW_some] <;> rfl),by repeat (first|(with_reducible first|exact HB.out|apply below_alloc|apply pw_below_drewN|apply below_drew1|refine below_set ?_ GE308.out|refine below_set ?_ GE322.out)|exact HB.out)⟩
               ·rw [if_neg c78] at H
                have c78b0 : (t348 == t336) = false:=beq_eq_false_iff_ne.mpr c78
                have c78b1 : (t348 != t336) = true:=bne_iff_ne.mpr c78
                obtain rfl:=Option.some.inj H
                go_wp2_with (first|((with_reducible refine gate_callee (f:=13) rfl ?_);refine goesL_ (some 90) rfl rfl Try.func13 (by kernel_rfl) rfl #[.slice Ao62 t337.length co62,.int .i64 1] rfl (by (try simp only [List.map_toArray,List.map_cons,List.map_nil]);first|done|rfl|(simp only [List.length_drop,List.length_take];rfl)) ?_;(with_reducible refine (laws_heldInt64S.calls kj60 _ _ t337 1 t348 _ ?side1 ?side2 A76.out).mono ?_);(case side1=>repeat (first|exact (Kd.R_reads' HO_7.out).2.2|(with_reducible refine Kd.C_alloc ?_ _)|(with_reducible refine Kd.C_drewN ?_ _)|(with_reducible refine Kd.C_drew ?_)));(case side2=>exact (Kd.R_reads' HO_7.out).2.1);rintro e w' ⟨rfl,⟨nd,rfl⟩⟩;refine ⟨_,rfl,?_⟩))
                go_ret
                exact ⟨by first|rfl|(simp [errW_none,errW_some] <;> rfl)|(simp [*,errW_none,errW_some] <;> rfl),by repeat (first|(with_reducible first|exact HB.out|apply below_alloc|apply pw_below_drewN|apply below_drew1|refine below_set ?_ GE308.out|refine below_set ?_ GE322.out)|exact HB.out)⟩
          ·rw [if_neg c58] at H
           have c58b0 : (t338 == t336) = false:=beq_eq_false_iff_ne.mpr c58
           have c58b1 : (t338 != t336) = true:=bne_iff_ne.mpr c58
           obtain rfl:=Option.some.inj H
           obtain ⟨Ao79,co79,eo79⟩:=Kd.R_slice HO_7.out
           subst eo79
           go_wp2_with (first|((with_reducible refine gate_callee (f:=12) rfl ?_);refine goesL_ (some 64) rfl rfl Try.func12 (by kernel_rfl) rfl #[.slice Ao79 t323.length co79,.int .i64 1] rfl (by (try simp only [List.map_toArray,List.map_cons,List.map_nil]);first|done|rfl|(simp only [List.length_drop,List.length_take];rfl)) ?_;(with_reducible refine (laws_markInt64S.calls kj36 (fun k_=>some k_ = (.slice Ao79 t323.length co79 : Value).ownBlock) (.slice Ao79 t323.length co79) t323 1 t336 t337 w _ ?side1 ?side2 A53.out).mono ?_);(case side1=>repeat (first|(with_reducible first|exact HB.out|apply below_alloc|apply pw_below_drewN|apply below_drew1|refine below_set ?_ GE308.out|refine below_set ?_ GE322.out)|exact HB.out));(case side2=>exact Kd.R_tight rfl HO_7.out);rintro e w80 ⟨rfl,hy0,hb,hkp⟩;refine ⟨_,rfl,?_⟩;have n0_:=Aside0.mk (Kd.R_mono (ok':=fun k_=>some k_ ≠ (.slice Ao79 t323.length co79 : Value).ownBlock ∧ some k_ ≠ (.slice Ao24 t334.length co24 : Value).ownBlock) (Kd.R_keptB (HO_4.out) hkp (fun k_ hk_ hs_=>(hk_.1) hs_)) (fun k_ hk_=>⟨hk_.1.1,hk_.1.2⟩));have n1_:=Aside0.mk (Kd.R_reok rfl hy0 (fun k_ e_=>HO_7.out.1 k_ e_));have n2_:=Aside0.mk (Kd.R_mono (ok':=fun k_=>some k_ ≠ (v315 : Value).ownBlock ∧ some k_ ≠ (.slice Ao79 t323.length co79 : Value).ownBlock) (Kd.R_keptB (HO_323001.out) hkp (fun k_ hk_ hs_=>(hk_.2) hs_)) (fun k_ hk_=>⟨hk_.1.1,hk_.1.2⟩));have n3_:=Aside0.mk (blk_kept (by (with_reducible repeat (first|refine blk_drewN ?_ _|refine blk_drew ?_|refine blk_alloc ?_ _));exact BK308.out) hkp (fun hs_=>(fun e_=>(Kd.R_ne HO_7.out BK308.out (by decide)) e_) hs_));have n4_:=Aside0.mk (blk_kept (by (with_reducible repeat (first|refine blk_drewN ?_ _|refine blk_drew ?_|refine blk_alloc ?_ _));exact BK322.out) hkp (fun hs_=>(fun e_=>(Kd.R_ne HO_7.out BK322.out (by decide)) e_) hs_));have n5_:=Aside0.mk (hb);clear HO_4;clear HO_7;clear HO_323001;clear BK308;clear BK322;clear HB;have HO_4:=n0_;have HO_7:=n1_;have HO_323001:=n2_;have BK308:=n3_;have BK322:=n4_;have HB:=n5_;clear n0_ n1_ n2_ n3_ n4_ n5_;(try clear hb);(try clear hkp);(try clear hy0))|((with_reducible refine gate_callee (f:=13) rfl ?_);refine goesL_ (some 67) rfl rfl Try.func13 (by kernel_rfl) rfl #[.slice Ao79 t337.length co79,.int .i64 1] rfl (by (try simp only [List.map_toArray,List.map_cons,List.map_nil]);first|done|(rw [show t337.length = t323.length from (Kd.R_reads' HO_7.out).1.symm] <;> rfl)|rfl|(simp only [List.length_drop,List.length_take];rfl)) ?_;(with_reducible refine (laws_heldInt64S.calls kj36 _ _ t337 1 t338 _ ?side1 ?side2 A54.out).mono ?_);(case side1=>repeat (first|exact (Kd.R_reads' HO_7.out).2.2|(with_reducible refine Kd.C_alloc ?_ _)|(with_reducible refine Kd.C_drewN ?_ _)|(with_reducible refine Kd.C_drew ?_)));(case side2=>rw [show t337.length = t323.length from (Kd.R_reads' HO_7.out).1.symm];exact (Kd.R_reads' HO_7.out).2.1);rintro e w' ⟨rfl,⟨nd,rfl⟩⟩;refine ⟨_,rfl,?_⟩))
           go_ret
           exact ⟨by first|rfl|(simp [errW_none,errW_some] <;> rfl)|(simp [*,errW_none,errW_some] <;> rfl),by repeat (first|(with_reducible first|exact HB.out|apply below_alloc|apply pw_below_drewN|apply below_drew1|refine below_set ?_ GE308.out|refine below_set ?_ GE322.out)|exact HB.out)⟩
     ·replace c35:=Bool.eq_false_iff.mpr c35
      subst c35
      have H1 : (some false) = some r:=by rw [if_neg (show ¬ (false = true) by decide)] at H;exact H
      clear H
      have H:=H1
      clear H1
      obtain rfl:=Option.some.inj H
      try go_wp2
      have n0_:=Aside0.mk (Kd.R_drew HO_4.out)
      have n1_:=Aside0.mk (Kd.R_drew HO_7.out)
      have n2_:=Aside0.mk (Kd.R_drew HO_323001.out)
      have n3_:=Aside0.mk (blk_drew BK308.out)
      have n4_:=Aside0.mk (blk_drew BK322.out)
      have n5_:=Aside0.mk (below_drew1 HB.out)
      clear HO_4
      clear HO_7
      clear HO_323001
      clear BK308
      clear BK322
      clear HB
      have HO_4:=n0_
      have HO_7:=n1_
      have HO_323001:=n2_
      have BK308:=n3_
      have BK322:=n4_
      have HB:=n5_
      clear n0_ n1_ n2_ n3_ n4_ n5_
      refine start_ (n:=5) (S:=fun w'=>w'.cell? ⟨gb322,0,none⟩ = some (.int .i64 t318) ∧ w'.cell? ⟨gb322,1,none⟩ = some (.slice Ao24 t319.length co24) ∧ w'.cell? ⟨gb308,0,none⟩ = some (.int .i64 a0_0) ∧ w'.cell? ⟨gb308,1,none⟩ = some (.slice A0_1 l0_1.length c0_1)) (ds:=[]) #[false,false,false,false,false] (by kernel_rfl) rfl rfl ⟨(blk_cell BK322.out 0).trans rfl,(blk_cell BK322.out 1).trans rfl,(blk_cell BK308.out 0).trans rfl,(blk_cell BK308.out 1).trans rfl⟩ (fun hHeld=>?_)
      generalize wc.drew = w81 at HO_4 HO_7 HO_323001 BK308 BK322 HB hHeld ⊢
      refine take_ (i:=0) (N:=some 41) (v:=?_) (a':=?_) #[true,false,false,false,false] rfl rfl (by kernel_rfl) (fun _ _ _ h=>h) (Or.inl ⟨by rfl,?_⟩) hHeld ?_ ?_
      rotate_left
      ·rintro w' ⟨s0,s1,s2,s3⟩
       go_simp
       with_reducible rfl
      rotate_left
      ·simp only [Act.put,List.setIfInBounds_toArray,List.set_cons_zero,List.set_cons_succ,i64_w,i32_w]
       rfl
      refine take_ (i:=1) (N:=some 42) (v:=?_) (a':=?_) #[true,true,false,false,false] rfl rfl (by kernel_rfl) (fun _ _ _ h=>h) (Or.inl ⟨by rfl,?_⟩) hHeld ?_ ?_
      rotate_left
      ·rintro w' ⟨s0,s1,s2,s3⟩
       go_simp
       with_reducible rfl
      rotate_left
      ·simp only [Act.put,List.setIfInBounds_toArray,List.set_cons_zero,List.set_cons_succ,i64_w,i32_w]
       rfl
      refine one_ (i:=2) (N:=some 43) #[true,true,true,false,false] rfl rfl (by kernel_rfl) (by decide) (fun K hK=>?_)
      refine goes_ Try.func7 (by kernel_rfl) rfl #[.agg #[.int .i64 a0_0,.slice A0_1 l0_1.length c0_1]] (by rfl) rfl rfl (by (try simp only [List.map_toArray,List.map_cons,List.map_nil]);first|done|rfl|(simp only [List.length_drop,List.length_take];rfl)) ?_
      with_reducible refine (laws_toHex.calls kj10 a0_0 _ _ l0_1 t328 t329 _ ?side1 ?side2 A33.out).mono ?_
      (case side1=>repeat (first|exact (Kd.C_below HR0_1.out HB.out)|(with_reducible refine Kd.C_alloc ?_ _)|(with_reducible refine Kd.C_drewN ?_ _)|(with_reducible refine Kd.C_drew ?_)))
      (case side2=>exact HC0_1.out)
      rintro e w82 ⟨v330,rfl,ho0,hb⟩
      refine ⟨_,rfl,?_⟩
      have n0_:=Aside0.mk (Kd.R_elder' (by (with_reducible repeat (first|apply Kd.R_alloc|apply Kd.R_drewN|apply Kd.R_drew));exact HO_4.out) (Kd.R_base ho0) hb)
      have n1_:=Aside0.mk (Kd.R_elder' (by (with_reducible repeat (first|apply Kd.R_alloc|apply Kd.R_drewN|apply Kd.R_drew));exact HO_7.out) (Kd.R_base ho0) hb)
      have n2_:=Aside0.mk (Kd.R_elder' (by (with_reducible repeat (first|apply Kd.R_alloc|apply Kd.R_drewN|apply Kd.R_drew));exact HO_323001.out) (Kd.R_base ho0) hb)
      have n3_:=Aside0.mk (Kd.R_lower (Kd.R_new' (Kd.R_new' (Kd.R_new' ho0 (Kd.R_lt (by (with_reducible repeat (first|apply Kd.R_alloc|apply Kd.R_drewN|apply Kd.R_drew));exact HO_4.out))) (Kd.R_lt (by (with_reducible repeat (first|apply Kd.R_alloc|apply Kd.R_drewN|apply Kd.R_drew));exact HO_7.out))) (Kd.R_lt (by (with_reducible repeat (first|apply Kd.R_alloc|apply Kd.R_drewN|apply Kd.R_drew));exact HO_323001.out))) (below_size (by repeat (first|(with_reducible first|exact HB.out|apply below_alloc|apply pw_below_drewN|apply below_drew1|refine below_set ?_ GE308.out|refine below_set ?_ GE322.out)|exact HB.out))))
      have n4_:=Aside0.mk (blk_below (g:=gb308) (o:=.cells #[.int .i64 a0_0,.slice A0_1 l0_1.length c0_1] 24 (0,0)) (by (with_reducible repeat (first|refine blk_drewN ?_ _|refine blk_drew ?_|refine blk_alloc ?_ _));exact BK308.out) hb)
      have n5_:=Aside0.mk (blk_below (g:=gb322) (o:=.cells #[.int .i64 t318,.slice Ao24 t319.length co24] 28 (0,0)) (by (with_reducible repeat (first|refine blk_drewN ?_ _|refine blk_drew ?_|refine blk_alloc ?_ _));exact BK322.out) hb)
      have n6_:=Aside0.mk (below_step (by repeat (first|(with_reducible first|exact HB.out|apply below_alloc|apply pw_below_drewN|apply below_drew1|refine below_set ?_ GE308.out|refine below_set ?_ GE322.out)|exact HB.out)) hb)
      clear HO_4
      clear HO_7
      clear HO_323001
      clear BK308
      clear BK322
      clear HB
      have HO_4:=n0_
      have HO_7:=n1_
      have HO_323001:=n2_
      have HO331:=n3_
      have BK308:=n4_
      have BK322:=n5_
      have HB:=n6_
      clear n0_ n1_ n2_ n3_ n4_ n5_ n6_
      (try clear hb)
      (try clear hb2)
      (try clear hk)
      (try clear hi)
      (try clear ho0)
      obtain ⟨Ao83,co83,eo83⟩:=Kd.R_slice HO331.out
      (first|subst eo83|(injection eo83 with f1_ f2_ f3_;have f4_:=f1_.symm;have f5_:=f3_.symm;clear f1_ f2_ f3_;subst f4_;subst f5_))
      refine hK.out _ _ ⟨(blk_cell BK322.out 0).trans rfl,(blk_cell BK322.out 1).trans rfl,(blk_cell BK308.out 0).trans rfl,(blk_cell BK308.out 1).trans rfl⟩ (fun hHeld=>?_)
      clear hK K
      refine norm_ (a':=?_) ?_ ?_
      rotate_left
      ·show Act.put _ (some 43) _ = _
       simp only [Act.put,List.setIfInBounds_toArray,List.set_cons_zero,List.set_cons_succ,i64_w,i32_w]
       rfl
      refine one_ (i:=3) (N:=some 44) #[true,true,true,true,false] rfl rfl (by kernel_rfl) (by decide) (fun K hK=>?_)
      refine goes_ Try.func10 (by kernel_rfl) rfl #[.agg #[.int .i64 t318,.slice Ao24 t319.length co24],.agg #[.int .i64 t328,.slice Ao83 t329.length co83]] (by rfl) rfl rfl (by (try simp only [List.map_toArray,List.map_cons,List.map_nil]);first|done|rfl|(simp only [List.length_drop,List.length_take];rfl)) ?_
      with_reducible refine (laws_eqHex.calls kj10 t318 _ _ t319 t328 _ _ t329 false _ ?side1 ?side2 ?side3 ?side4 A34.out).mono ?_
      (case side1=>repeat (first|exact (Kd.R_reads' HO_323001.out).2.2|(with_reducible refine Kd.C_alloc ?_ _)|(with_reducible refine Kd.C_drewN ?_ _)|(with_reducible refine Kd.C_drew ?_)))
      (case side2=>exact (Kd.R_reads' HO_323001.out).2.1)
      (case side3=>repeat (first|exact (Kd.R_reads' HO331.out).2.2|(with_reducible refine Kd.C_alloc ?_ _)|(with_reducible refine Kd.C_drewN ?_ _)|(with_reducible refine Kd.C_drew ?_)))
      (case side4=>exact (Kd.R_reads' HO331.out).2.1)
      rintro e w84 ⟨rfl,hb⟩
      refine ⟨_,rfl,?_⟩
      have n0_:=Aside0.mk (Kd.R_below (by (with_reducible repeat (first|apply Kd.R_alloc|apply Kd.R_drewN|apply Kd.R_drew));exact HO_4.out) hb)
      have n1_:=Aside0.mk (Kd.R_below (by (with_reducible repeat (first|apply Kd.R_alloc|apply Kd.R_drewN|apply Kd.R_drew));exact HO_7.out) hb)
      have n2_:=Aside0.mk (Kd.R_below (by (with_reducible repeat (first|apply Kd.R_alloc|apply Kd.R_drewN|apply Kd.R_drew));exact HO_323001.out) hb)
      have n3_:=Aside0.mk (Kd.R_below (by (with_reducible repeat (first|apply Kd.R_alloc|apply Kd.R_drewN|apply Kd.R_drew));exact HO331.out) hb)
      have n4_:=Aside0.mk (blk_below (g:=gb308) (o:=.cells #[.int .i64 a0_0,.slice A0_1 l0_1.length c0_1] 24 (0,0)) (by (with_reducible repeat (first|refine blk_drewN ?_ _|refine blk_drew ?_|refine blk_alloc ?_ _));exact BK308.out) hb)
      have n5_:=Aside0.mk (blk_below (g:=gb322) (o:=.cells #[.int .i64 t318,.slice Ao24 t319.length co24] 28 (0,0)) (by (with_reducible repeat (first|refine blk_drewN ?_ _|refine blk_drew ?_|refine blk_alloc ?_ _));exact BK322.out) hb)
      have n6_:=Aside0.mk (below_step (by repeat (first|(with_reducible first|exact HB.out|apply below_alloc|apply pw_below_drewN|apply below_drew1|refine below_set ?_ GE308.out|refine below_set ?_ GE322.out)|exact HB.out)) hb)
      clear HO_4
      clear HO_7
      clear HO_323001
      clear HO331
      clear BK308
      clear BK322
      clear HB
      have HO_4:=n0_
      have HO_7:=n1_
      have HO_323001:=n2_
      have HO331:=n3_
      have BK308:=n4_
      have BK322:=n5_
      have HB:=n6_
      clear n0_ n1_ n2_ n3_ n4_ n5_ n6_
      (try clear hb)
      (try clear hb2)
      (try clear hk)
      (try clear hi)
      refine hK.out _ _ ⟨(blk_cell BK322.out 0).trans rfl,(blk_cell BK322.out 1).trans rfl,(blk_cell BK308.out 0).trans rfl,(blk_cell BK308.out 1).trans rfl⟩ (fun hHeld=>?_)
      clear hK K
      refine norm_ (a':=?_) ?_ ?_
      rotate_left
      ·show Act.put _ (some 44) _ = _
       simp only [Act.put,List.setIfInBounds_toArray,List.set_cons_zero,List.set_cons_succ,i64_w,i32_w]
       rfl
      refine pure_ (i:=4) (N:=some 45) (v:=?_) (a':=?_) #[true,true,true,true,true] rfl rfl (by kernel_rfl) (fun _ _ _ h=>h) (Or.inl ⟨by rfl,?_⟩) ?_ ?_
      rotate_left
      ·intro w'
       go_simp
       with_reducible rfl
      rotate_left
      ·simp only [Act.put,List.setIfInBounds_toArray,List.set_cons_zero,List.set_cons_succ,i64_w,i32_w]
       rfl
      refine done_ (by kernel_rfl) ?_
      try go_wp2
      go_ret
      exact ⟨by first|rfl|(simp [errW_none,errW_some] <;> rfl)|(simp [*,errW_none,errW_some] <;> rfl),by repeat (first|(with_reducible first|exact HB.out|apply below_alloc|apply pw_below_drewN|apply below_drew1|refine below_set ?_ GE308.out|refine below_set ?_ GE322.out)|exact HB.out)⟩

end Go.Proofs.Ytcfdlbjngpmcaaa.PAll
