-- Written by wip/pp.py of this work (a driver around the kit's print), out of the translation; Lean checks it.
import Derived.Test.YtankgbfddgpfmaaPAllx0
namespace Go.Proofs.Ytankgbfddgpfmaa.PAll
open Go.RowKit Go.Proofs.YtankgbfddgpfmaaW.PrintWords Go.Proofs.YtankgbfddgpfmaaW.PrintLast Go.Proofs.YtankgbfddgpfmaaW.PrintMore
attribute [local go_sem] max2_int min2_int max_two min_two max_three min_three max_four min_four   -- for this text's walks alone
set_option linter.unusedVariables false
set_option linter.unusedSimpArgs false

/-! ### laws_szInt64S: function 35 -/
def laws_szInt64S.f (l0 : List Int) (a1 : Int) : Option (Int) := if (wrap64 (a1 - (l0.length : Int))) < 0 then (some (-1)) else (some (wrap64 (a1 - (l0.length : Int))))
set_option maxHeartbeats 8000000 in
set_option maxRecDepth 100000 in
theorem laws_szInt64S.calls (A0 : Option Addr) (c0 : Nat) (l0 : List Int) (a1 : Int) (r : Int) (w : World) (hr0 : Kd.C (Kd.int .i64) w A0 l0.length l0) (hc0 : l0.length ≤ c0) (h : laws_szInt64S.f l0 a1 = some r) :
  Calls Try.prog 35 #[.slice A0 l0.length c0,.int .i64 a1] w fun e w'=>e = .returned (.int .i64 r) ∧ Drawn0 w w':=by
 have HR0:=Aside0.mk hr0
 have HC0:=Aside0.mk hc0
 clear hr0 hc0
 have H : (if (wrap64 (a1 - (l0.length : Int))) < 0 then (some (-1)) else (some (wrap64 (a1 - (l0.length : Int))))) = some r:=h
 clear h
 by_cases c3 : (wrap64 (a1 - (l0.length : Int))) < 0
 ·rw [if_pos c3] at H
  have c3b0 : decide ((wrap64 (a1 - (l0.length : Int))) < 0) = true:=decide_eq_true c3
  clear c3
  obtain rfl:=Option.some.inj H
  go_enter Try.func35,Try.ntmps35
  go_wp2
  go_ret
  exact ⟨by first|rfl|(simp;done)|(simp [*];done),by repeat (first|exact Drawn0.refl _|apply Drawn0.step)⟩
 ·rw [if_neg c3] at H
  have c3b0 : decide ((wrap64 (a1 - (l0.length : Int))) < 0) = false:=decide_eq_false c3
  clear c3
  obtain rfl:=Option.some.inj H
  go_enter Try.func35,Try.ntmps35
  go_wp2
  go_ret
  exact ⟨by first|rfl|(simp;done)|(simp [*];done),by repeat (first|exact Drawn0.refl _|apply Drawn0.step)⟩

/-! ### laws_szSea: function 10 -/
def laws_szSea.f (a0_0 : Int) (a0_1 : Int) (l0_2 : List Int) (a1 : Int) : Option (Int) := (laws_szInt64S.f l0_2 a1).bind fun t102 => (if t102 < 0 then (some (-1)) else (some t102))
set_option maxHeartbeats 8000000 in
set_option maxRecDepth 100000 in
theorem laws_szSea.calls (a0_0 : Int) (a0_1 : Int) (A0_2 : Option Addr) (c0_2 : Nat) (l0_2 : List Int) (a1 : Int) (r : Int) (w : World) (hr0_2 : Kd.C (Kd.int .i64) w A0_2 l0_2.length l0_2) (hc0_2 : l0_2.length ≤ c0_2) (h : laws_szSea.f a0_0 a0_1 l0_2 a1 = some r) :
  Calls Try.prog 10 #[.agg #[.int .i64 a0_0,.int .i64 a0_1,.slice A0_2 l0_2.length c0_2],.int .i64 a1] w fun e w'=>e = .returned (.int .i64 r) ∧ Below w.heap.size w w':=by
 have hu24:=Try.underlying24
 have HR0_2:=Aside0.mk hr0_2
 have HC0_2:=Aside0.mk hc0_2
 clear hr0_2 hc0_2
 have HB:=Aside0.mk (Below.refl w.heap.size w)
 have H : ((laws_szInt64S.f l0_2 a1).bind fun t102=>(if t102 < 0 then (some (-1)) else (some t102))) = some r:=h
 clear h
 replace H:=Option.bind_eq_some_iff.mp H
 obtain ⟨t102,A30,H⟩:=H
 replace H : (if t102 < 0 then (some (-1)) else (some t102)) = some r:=H
 have A3:=Aside0.mk A30
 clear A30
 by_cases c4 : t102 < 0
 ·rw [if_pos c4] at H
  have c4b0 : decide (t102 < 0) = true:=decide_eq_true c4
  clear c4
  obtain rfl:=Option.some.inj H
  go_enter Try.func10,Try.ntmps10
  go_wp2_with (first|((with_reducible refine gate_dst (N:=2) rfl ?_);refine box_event ?hg (N:=2) ?hd (cs:=#[.int .i64 a0_0,.int .i64 a0_1,.slice A0_2 l0_2.length c0_2]) (t:=24) ?hr ?_;(case hd=>rfl);(case hg=>rfl);(case hr=>first|(go_simp;done)|(go_simp;rfl));intro gb101 hg w5 hbox hb;have n0_:=Aside0.mk (below_step (by repeat (first|(with_reducible first|exact HB.out|apply below_alloc|apply pw_below_drewN|apply below_drew1)|exact HB.out)) hb);have n1_:=Aside0.mk (hbox);have n2_:=Aside0.mk ((by rw [hg];exact (below_size (by repeat (first|(with_reducible first|exact HB.out|apply below_alloc|apply pw_below_drewN|apply below_drew1)|exact HB.out))) : w.heap.size ≤ gb101));have n3_:=Aside0.mk ((by rw [hg];exact (below_size (by repeat (first|(with_reducible first|exact HB.out|apply below_alloc|apply pw_below_drewN|apply below_drew1)|exact HB.out))) : w.heap.size ≤ gb101));clear HB;have HB:=n0_;have BK101:=n1_;have GW101:=n2_;have GE101:=n3_;clear n0_ n1_ n2_ n3_;clear hb hbox hg;have hcz6_0 : w5.cell? ⟨gb101,0,none⟩ = some (.int .i64 a0_0):=(blk_cell BK101.out 0).trans rfl;have hcz6_1 : w5.cell? ⟨gb101,1,none⟩ = some (.int .i64 a0_1):=(blk_cell BK101.out 1).trans rfl;have hcz6_2 : w5.cell? ⟨gb101,2,none⟩ = some (.slice A0_2 l0_2.length c0_2):=(blk_cell BK101.out 2).trans rfl;have hfz6_0:=blk_frozen BK101.out 0;have hfz6_1:=blk_frozen BK101.out 1;have hfz6_2:=blk_frozen BK101.out 2)|((with_reducible refine gate_callee (f:=35) rfl ?_);refine goesL_ (some 8) rfl rfl Try.func35 (by kernel_rfl) rfl #[.slice A0_2 l0_2.length c0_2,.int .i64 a1] rfl (by (try simp only [List.map_toArray,List.map_cons,List.map_nil]);first|done|rfl|(simp only [List.length_drop,List.length_take];rfl)) ?_;(with_reducible refine (laws_szInt64S.calls _ _ l0_2 a1 t102 _ ?side1 ?side2 A3.out).mono ?_);(case side1=>repeat (first|exact (Kd.C_below HR0_2.out HB.out)|(with_reducible refine Kd.C_alloc ?_ _)|(with_reducible refine Kd.C_drewN ?_ _)|(with_reducible refine Kd.C_drew ?_)));(case side2=>exact HC0_2.out);rintro e w' ⟨rfl,⟨nd,rfl⟩⟩;refine ⟨_,rfl,?_⟩))
  go_ret
  exact ⟨by first|rfl|(simp [errW_none,errW_some] <;> rfl)|(simp [*,errW_none,errW_some] <;> rfl),by repeat (first|(with_reducible first|exact HB.out|apply below_alloc|apply pw_below_drewN|apply below_drew1|refine below_set ?_ GE101.out)|exact HB.out)⟩
 ·rw [if_neg c4] at H
  have c4b0 : decide (t102 < 0) = false:=decide_eq_false c4
  clear c4
  obtain rfl:=Option.some.inj H
  go_enter Try.func10,Try.ntmps10
  go_wp2_with (first|((with_reducible refine gate_dst (N:=2) rfl ?_);refine box_event ?hg (N:=2) ?hd (cs:=#[.int .i64 a0_0,.int .i64 a0_1,.slice A0_2 l0_2.length c0_2]) (t:=24) ?hr ?_;(case hd=>rfl);(case hg=>rfl);(case hr=>first|(go_simp;done)|(go_simp;rfl));intro gb101 hg w7 hbox hb;have n0_:=Aside0.mk (below_step (by repeat (first|(with_reducible first|exact HB.out|apply below_alloc|apply pw_below_drewN|apply below_drew1)|exact HB.out)) hb);have n1_:=Aside0.mk (hbox);have n2_:=Aside0.mk ((by rw [hg];exact (below_size (by repeat (first|(with_reducible first|exact HB.out|apply below_alloc|apply pw_below_drewN|apply below_drew1)|exact HB.out))) : w.heap.size ≤ gb101));have n3_:=Aside0.mk ((by rw [hg];exact (below_size (by repeat (first|(with_reducible first|exact HB.out|apply below_alloc|apply pw_below_drewN|apply below_drew1)|exact HB.out))) : w.heap.size ≤ gb101));clear HB;have HB:=n0_;have BK101:=n1_;have GW101:=n2_;have GE101:=n3_;clear n0_ n1_ n2_ n3_;clear hb hbox hg;have hcz8_0 : w7.cell? ⟨gb101,0,none⟩ = some (.int .i64 a0_0):=(blk_cell BK101.out 0).trans rfl;have hcz8_1 : w7.cell? ⟨gb101,1,none⟩ = some (.int .i64 a0_1):=(blk_cell BK101.out 1).trans rfl;have hcz8_2 : w7.cell? ⟨gb101,2,none⟩ = some (.slice A0_2 l0_2.length c0_2):=(blk_cell BK101.out 2).trans rfl;have hfz8_0:=blk_frozen BK101.out 0;have hfz8_1:=blk_frozen BK101.out 1;have hfz8_2:=blk_frozen BK101.out 2)|((with_reducible refine gate_callee (f:=35) rfl ?_);refine goesL_ (some 8) rfl rfl Try.func35 (by kernel_rfl) rfl #[.slice A0_2 l0_2.length c0_2,.int .i64 a1] rfl (by (try simp only [List.map_toArray,List.map_cons,List.map_nil]);first|done|rfl|(simp only [List.length_drop,List.length_take];rfl)) ?_;(with_reducible refine (laws_szInt64S.calls _ _ l0_2 a1 t102 _ ?side1 ?side2 A3.out).mono ?_);(case side1=>repeat (first|exact (Kd.C_below HR0_2.out HB.out)|(with_reducible refine Kd.C_alloc ?_ _)|(with_reducible refine Kd.C_drewN ?_ _)|(with_reducible refine Kd.C_drew ?_)));(case side2=>exact HC0_2.out);rintro e w' ⟨rfl,⟨nd,rfl⟩⟩;refine ⟨_,rfl,?_⟩))
  go_ret
  exact ⟨by first|rfl|(simp [errW_none,errW_some] <;> rfl)|(simp [*,errW_none,errW_some] <;> rfl),by repeat (first|(with_reducible first|exact HB.out|apply below_alloc|apply pw_below_drewN|apply below_drew1|refine below_set ?_ GE101.out)|exact HB.out)⟩

/-! ### spec_l01In: function 37 -/
def spec_l01In.f (a0 : Int) (a1 : Int) (a2 : Int) : Option (Bool) := if a0 ≥ a1 then (some (decide (a0 ≤ a2))) else (some false)
set_option maxHeartbeats 8000000 in
set_option maxRecDepth 100000 in
theorem spec_l01In.calls (a0 : Int) (a1 : Int) (a2 : Int) (r : Bool) (w : World) (h : spec_l01In.f a0 a1 a2 = some r) :
  Calls Try.prog 37 #[.int .i64 a0,.int .i64 a1,.int .i64 a2] w fun e w'=>e = .returned (.bool r) ∧ Drawn0 w w':=by
 have H : (if a0 ≥ a1 then (some (decide (a0 ≤ a2))) else (some false)) = some r:=h
 clear h
 by_cases c4 : a0 ≥ a1
 ·rw [if_pos c4] at H
  have c4b0 : decide (a1 ≤ a0) = true:=decide_eq_true c4
  clear c4
  obtain rfl:=Option.some.inj H
  go_enter Try.func37,Try.ntmps37
  go_wp2
  go_ret
  exact ⟨by first|rfl|(simp;done)|(simp [*];done),by repeat (first|exact Drawn0.refl _|apply Drawn0.step)⟩
 ·rw [if_neg c4] at H
  have c4b0 : decide (a1 ≤ a0) = false:=decide_eq_false c4
  clear c4
  obtain rfl:=Option.some.inj H
  go_enter Try.func37,Try.ntmps37
  go_wp2
  go_ret
  exact ⟨by first|rfl|(simp;done)|(simp [*];done),by repeat (first|exact Drawn0.refl _|apply Drawn0.step)⟩

/-! ### spec_l09Is: function 36 -/
mutual
def spec_l09Is.j0 : Nat → Bool → Int → Int → List Int → Option (Bool)
 | 0, _, _, _, _ => none
 | k + 1, x20, x104000, x104001, x104002 => if x20 = true then (some false) else (spec_l09Is.l0 k 0 x104000 x104001 x104002)
def spec_l09Is.l0 : Nat → Int → Int → Int → List Int → Option (Bool)
 | 0, _, _, _, _ => none
 | k + 1, x3, x104000, x104001, x104002 => if x3 < (x104002.length : Int) then (if 0 ≤ x3 then ((spec_l01In.f (rd x104002 x3) 1 5).bind fun t108 => (if t108 = true then (if x3 > 0 then (if 0 ≤ (wrap64 (x3 - 1)) then (if (wrap64 (x3 - 1)) < (x104002.length : Int) then (if (rd x104002 x3) > (rd x104002 (wrap64 (x3 - 1))) then (some false) else (spec_l09Is.l0 k (wrap64 (x3 + 1)) x104000 x104001 x104002)) else (none)) else (none)) else (spec_l09Is.l0 k (wrap64 (x3 + 1)) x104000 x104001 x104002)) else (some false))) else (none)) else (some true)
end
def spec_l09Is.f (k : Nat) (a0_0 : Int) (a0_1 : Int) (l0_2 : List Int) : Option (Bool) := (spec_l01In.f a0_0 1 5).bind fun t104 => (if t104 = true then ((spec_l01In.f a0_1 1 5).bind fun t105 => (if t105 = true then ((spec_l01In.f (l0_2.length : Int) 1 3).bind fun t106 => (spec_l09Is.j0 k (!t106) a0_0 a0_1 l0_2)) else (spec_l09Is.j0 k true a0_0 a0_1 l0_2))) else (spec_l09Is.j0 k true a0_0 a0_1 l0_2))
set_option maxHeartbeats 8000000 in
set_option maxRecDepth 100000 in
theorem spec_l09Is.calls (k : Nat) (a0_0 : Int) (a0_1 : Int) (A0_2 : Option Addr) (c0_2 : Nat) (l0_2 : List Int) (r : Bool) (w : World) (hr0_2 : Kd.C (Kd.int .i64) w A0_2 l0_2.length l0_2) (hc0_2 : l0_2.length ≤ c0_2) (h : spec_l09Is.f k a0_0 a0_1 l0_2 = some r) :
  Calls Try.prog 36 #[.agg #[.int .i64 a0_0,.int .i64 a0_1,.slice A0_2 l0_2.length c0_2]] w fun e w'=>e = .returned (.bool r) ∧ Below w.heap.size w w':=by
 have hu28:=Try.underlying28
 have HR0_2:=Aside0.mk hr0_2
 have HC0_2:=Aside0.mk hc0_2
 clear hr0_2 hc0_2
 have HB:=Aside0.mk (Below.refl w.heap.size w)
 have H : ((spec_l01In.f a0_0 1 5).bind fun t104=>(if t104 = true then ((spec_l01In.f a0_1 1 5).bind fun t105=>(if t105 = true then ((spec_l01In.f (l0_2.length : Int) 1 3).bind fun t106=>(spec_l09Is.j0 k (!t106) a0_0 a0_1 l0_2)) else (spec_l09Is.j0 k true a0_0 a0_1 l0_2))) else (spec_l09Is.j0 k true a0_0 a0_1 l0_2))) = some r:=h
 clear h
 have HC2:=Aside0.mk H
 clear H
 go_enter Try.func36,Try.ntmps36
 go_upto_region 1 with (first|((with_reducible refine gate_dst (N:=1) rfl ?_);(try (refine gate_guard (by rfl) ?_;dsimp only));refine box_event ?hg (N:=1) ?hd (cs:=#[.int .i64 a0_0,.int .i64 a0_1,.slice A0_2 l0_2.length c0_2]) (t:=28) ?hr ?_;(case hd=>rfl);(case hg=>rfl);(case hr=>first|(go_simp;done)|(go_simp;rfl));intro gb103 hg w3 hbox hb;have n0_:=Aside0.mk (below_step (by repeat (first|(with_reducible first|exact HB.out|apply below_alloc|apply pw_below_drewN|apply below_drew1)|exact HB.out)) hb);have n1_:=Aside0.mk (hbox);have n2_:=Aside0.mk ((by rw [hg];exact (below_size (by repeat (first|(with_reducible first|exact HB.out|apply below_alloc|apply pw_below_drewN|apply below_drew1)|exact HB.out))) : w.heap.size ≤ gb103));have n3_:=Aside0.mk ((by rw [hg];exact (below_size (by repeat (first|(with_reducible first|exact HB.out|apply below_alloc|apply pw_below_drewN|apply below_drew1)|exact HB.out))) : w.heap.size ≤ gb103));clear HB;have HB:=n0_;have BK103:=n1_;have GW103:=n2_;have GE103:=n3_;clear n0_ n1_ n2_ n3_;clear hb hbox hg))
 repeat (go_quiet (first|((with_reducible refine gate_dst (N:=1) rfl ?_);(try (refine gate_guard (by rfl) ?_;dsimp only));refine box_event ?hg (N:=1) ?hd (cs:=#[.int .i64 a0_0,.int .i64 a0_1,.slice A0_2 l0_2.length c0_2]) (t:=28) ?hr ?_;(case hd=>rfl);(case hg=>rfl);(case hr=>first|(go_simp;done)|(go_simp;rfl));intro gb103 hg w3 hbox hb;have n0_:=Aside0.mk (below_step (by repeat (first|(with_reducible first|exact HB.out|apply below_alloc|apply pw_below_drewN|apply below_drew1)|exact HB.out)) hb);have n1_:=Aside0.mk (hbox);have n2_:=Aside0.mk ((by rw [hg];exact (below_size (by repeat (first|(with_reducible first|exact HB.out|apply below_alloc|apply pw_below_drewN|apply below_drew1)|exact HB.out))) : w.heap.size ≤ gb103));have n3_:=Aside0.mk ((by rw [hg];exact (below_size (by repeat (first|(with_reducible first|exact HB.out|apply below_alloc|apply pw_below_drewN|apply below_drew1)|exact HB.out))) : w.heap.size ≤ gb103));clear HB;have HB:=n0_;have BK103:=n1_;have GW103:=n2_;have GE103:=n3_;clear n0_ n1_ n2_ n3_;clear hb hbox hg));go_upto_region 1 with (first|((with_reducible refine gate_dst (N:=1) rfl ?_);(try (refine gate_guard (by rfl) ?_;dsimp only));refine box_event ?hg (N:=1) ?hd (cs:=#[.int .i64 a0_0,.int .i64 a0_1,.slice A0_2 l0_2.length c0_2]) (t:=28) ?hr ?_;(case hd=>rfl);(case hg=>rfl);(case hr=>first|(go_simp;done)|(go_simp;rfl));intro gb103 hg w3 hbox hb;have n0_:=Aside0.mk (below_step (by repeat (first|(with_reducible first|exact HB.out|apply below_alloc|apply pw_below_drewN|apply below_drew1)|exact HB.out)) hb);have n1_:=Aside0.mk (hbox);have n2_:=Aside0.mk ((by rw [hg];exact (below_size (by repeat (first|(with_reducible first|exact HB.out|apply below_alloc|apply pw_below_drewN|apply below_drew1)|exact HB.out))) : w.heap.size ≤ gb103));have n3_:=Aside0.mk ((by rw [hg];exact (below_size (by repeat (first|(with_reducible first|exact HB.out|apply below_alloc|apply pw_below_drewN|apply below_drew1)|exact HB.out))) : w.heap.size ≤ gb103));clear HB;have HB:=n0_;have BK103:=n1_;have GW103:=n2_;have GE103:=n3_;clear n0_ n1_ n2_ n3_;clear hb hbox hg)))
 (try simp only [Act.put,List.setIfInBounds_toArray,List.set_cons_zero,List.set_cons_succ])
 go_cut [20] (fun v20 wc=>∃ (kq : Nat) (x20_1 : Bool),v20 = .bool x20_1 ∧ Aside0 (spec_l09Is.j0 kq x20_1 a0_0 a0_1 l0_2 = some r) ∧ Aside0 (kq ≤ k) ∧ Aside0 (wc.heap[gb103]? = some (.cells #[.int .i64 a0_0,.int .i64 a0_1,(.slice A0_2 l0_2.length c0_2)] 28 (0,0))) ∧ Aside0 (Below w.heap.size w wc))
 case first =>
  have H:=HC2.out
  clear HC2
  replace H:=Option.bind_eq_some_iff.mp H
  obtain ⟨t104,A40,H⟩:=H
  replace H : (if t104 = true then ((spec_l01In.f a0_1 1 5).bind fun t105=>(if t105 = true then ((spec_l01In.f (l0_2.length : Int) 1 3).bind fun t106=>(spec_l09Is.j0 k (!t106) a0_0 a0_1 l0_2)) else (spec_l09Is.j0 k true a0_0 a0_1 l0_2))) else (spec_l09Is.j0 k true a0_0 a0_1 l0_2)) = some r:=H
  have A4:=Aside0.mk A40
  clear A40
  by_cases c5 : t104 = true
  ·subst c5
   have H1 : ((spec_l01In.f a0_1 1 5).bind fun t105=>(if t105 = true then ((spec_l01In.f (l0_2.length : Int) 1 3).bind fun t106=>(spec_l09Is.j0 k (!t106) a0_0 a0_1 l0_2)) else (spec_l09Is.j0 k true a0_0 a0_1 l0_2))) = some r:=by rw [if_pos rfl] at H;exact H
   clear H
   have H:=H1
   clear H1
   replace H:=Option.bind_eq_some_iff.mp H
   obtain ⟨t105,A60,H⟩:=H
   replace H : (if t105 = true then ((spec_l01In.f (l0_2.length : Int) 1 3).bind fun t106=>(spec_l09Is.j0 k (!t106) a0_0 a0_1 l0_2)) else (spec_l09Is.j0 k true a0_0 a0_1 l0_2)) = some r:=H
   have A6:=Aside0.mk A60
   clear A60
   by_cases c7 : t105 = true
   ·subst c7
    have H1 : ((spec_l01In.f (l0_2.length : Int) 1 3).bind fun t106=>(spec_l09Is.j0 k (!t106) a0_0 a0_1 l0_2)) = some r:=by rw [if_pos rfl] at H;exact H
    clear H
    have H:=H1
    clear H1
    replace H:=Option.bind_eq_some_iff.mp H
    obtain ⟨t106,A80,H⟩:=H
    replace H : (spec_l09Is.j0 k (!t106) a0_0 a0_1 l0_2) = some r:=H
    have A8:=Aside0.mk A80
    clear A80
    have H':=Aside0.mk H
    clear H
    have hcz9_0 : w3.cell? ⟨gb103,0,none⟩ = some (.int .i64 a0_0):=(blk_cell BK103.out 0).trans rfl
    have hcz9_1 : w3.cell? ⟨gb103,1,none⟩ = some (.int .i64 a0_1):=(blk_cell BK103.out 1).trans rfl
    have hcz9_2 : w3.cell? ⟨gb103,2,none⟩ = some (.slice A0_2 l0_2.length c0_2):=(blk_cell BK103.out 2).trans rfl
    have hfz9_0:=blk_frozen BK103.out 0
    have hfz9_1:=blk_frozen BK103.out 1
    have hfz9_2:=blk_frozen BK103.out 2
    go_wp2_with (first|(go_at_call 37;(with_reducible refine (spec_l01In.calls a0_0 1 5 true _ A4.out).mono ?_);rintro e w' ⟨rfl,⟨nd,rfl⟩⟩;(try first|exact ⟨rfl,_,World.drewN_drewN _ _ _⟩|exact ⟨rfl,_,Eq.trans (World.drewN_drewN _ _ _) (congrArg (World.drewN _) (Nat.add_assoc _ _ _))⟩))|(go_at_call 37;(with_reducible refine (spec_l01In.calls a0_1 1 5 true _ A6.out).mono ?_);rintro e w' ⟨rfl,⟨nd,rfl⟩⟩;(try first|exact ⟨rfl,_,World.drewN_drewN _ _ _⟩|exact ⟨rfl,_,Eq.trans (World.drewN_drewN _ _ _) (congrArg (World.drewN _) (Nat.add_assoc _ _ _))⟩))|(go_at_call 37;(with_reducible refine (spec_l01In.calls (l0_2.length : Int) 1 3 t106 _ A8.out).mono ?_);rintro e w' ⟨rfl,⟨nd,rfl⟩⟩;(try first|exact ⟨rfl,_,World.drewN_drewN _ _ _⟩|exact ⟨rfl,_,Eq.trans (World.drewN_drewN _ _ _) (congrArg (World.drewN _) (Nat.add_assoc _ _ _))⟩)))
    repeat (go_quiet (first|(go_at_call 37;(with_reducible refine (spec_l01In.calls a0_0 1 5 true _ A4.out).mono ?_);rintro e w' ⟨rfl,⟨nd,rfl⟩⟩;(try first|exact ⟨rfl,_,World.drewN_drewN _ _ _⟩|exact ⟨rfl,_,Eq.trans (World.drewN_drewN _ _ _) (congrArg (World.drewN _) (Nat.add_assoc _ _ _))⟩))|(go_at_call 37;(with_reducible refine (spec_l01In.calls a0_1 1 5 true _ A6.out).mono ?_);rintro e w' ⟨rfl,⟨nd,rfl⟩⟩;(try first|exact ⟨rfl,_,World.drewN_drewN _ _ _⟩|exact ⟨rfl,_,Eq.trans (World.drewN_drewN _ _ _) (congrArg (World.drewN _) (Nat.add_assoc _ _ _))⟩))|(go_at_call 37;(with_reducible refine (spec_l01In.calls (l0_2.length : Int) 1 3 t106 _ A8.out).mono ?_);rintro e w' ⟨rfl,⟨nd,rfl⟩⟩;(try first|exact ⟨rfl,_,World.drewN_drewN _ _ _⟩|exact ⟨rfl,_,Eq.trans (World.drewN_drewN _ _ _) (congrArg (World.drewN _) (Nat.add_assoc _ _ _))⟩)));try go_wp2_with (first|(go_at_call 37;(with_reducible refine (spec_l01In.calls a0_0 1 5 true _ A4.out).mono ?_);rintro e w' ⟨rfl,⟨nd,rfl⟩⟩;(try first|exact ⟨rfl,_,World.drewN_drewN _ _ _⟩|exact ⟨rfl,_,Eq.trans (World.drewN_drewN _ _ _) (congrArg (World.drewN _) (Nat.add_assoc _ _ _))⟩))|(go_at_call 37;(with_reducible refine (spec_l01In.calls a0_1 1 5 true _ A6.out).mono ?_);rintro e w' ⟨rfl,⟨nd,rfl⟩⟩;(try first|exact ⟨rfl,_,World.drewN_drewN _ _ _⟩|exact ⟨rfl,_,Eq.trans (World.drewN_drewN _ _ _) (congrArg (World.drewN _) (Nat.add_assoc _ _ _))⟩))|(go_at_call 37;(with_reducible refine (spec_l01In.calls (l0_2.length : Int) 1 3 t106 _ A8.out).mono ?_);rintro e w' ⟨rfl,⟨nd,rfl⟩⟩;(try first|exact ⟨rfl,_,World.drewN_drewN _ _ _⟩|exact ⟨rfl,_,Eq.trans (World.drewN_drewN _ _ _) (congrArg (World.drewN _) (Nat.add_assoc _ _ _))⟩))))
    go_meet
    case rel=>exact ⟨_,(!t106),(by first|rfl|(simp;done)|(simp [*];done)),H',⟨by first|omega|exact Nat.le_refl _⟩,⟨by (with_reducible repeat (first|refine blk_drewN ?_ _|refine blk_drew ?_|refine blk_alloc ?_ _));exact BK103.out⟩,⟨by repeat (first|(with_reducible first|exact HB.out|apply below_alloc|apply pw_below_drewN|apply below_drew1|refine below_set ?_ GE103.out)|exact HB.out)⟩⟩
   ·replace c7:=Bool.eq_false_iff.mpr c7
    subst c7
    have H1 : (spec_l09Is.j0 k true a0_0 a0_1 l0_2) = some r:=by rw [if_neg (show ¬ (false = true) by decide)] at H;exact H
    clear H
    have H:=H1
    clear H1
    have H':=Aside0.mk H
    clear H
    have hcz10_0 : w3.cell? ⟨gb103,0,none⟩ = some (.int .i64 a0_0):=(blk_cell BK103.out 0).trans rfl
    have hcz10_1 : w3.cell? ⟨gb103,1,none⟩ = some (.int .i64 a0_1):=(blk_cell BK103.out 1).trans rfl
    have hcz10_2 : w3.cell? ⟨gb103,2,none⟩ = some (.slice A0_2 l0_2.length c0_2):=(blk_cell BK103.out 2).trans rfl
    have hfz10_0:=blk_frozen BK103.out 0
    have hfz10_1:=blk_frozen BK103.out 1
    have hfz10_2:=blk_frozen BK103.out 2
    go_wp2_with (first|(go_at_call 37;(with_reducible refine (spec_l01In.calls a0_0 1 5 true _ A4.out).mono ?_);rintro e w' ⟨rfl,⟨nd,rfl⟩⟩;(try first|exact ⟨rfl,_,World.drewN_drewN _ _ _⟩|exact ⟨rfl,_,Eq.trans (World.drewN_drewN _ _ _) (congrArg (World.drewN _) (Nat.add_assoc _ _ _))⟩))|(go_at_call 37;(with_reducible refine (spec_l01In.calls a0_1 1 5 false _ A6.out).mono ?_);rintro e w' ⟨rfl,⟨nd,rfl⟩⟩;(try first|exact ⟨rfl,_,World.drewN_drewN _ _ _⟩|exact ⟨rfl,_,Eq.trans (World.drewN_drewN _ _ _) (congrArg (World.drewN _) (Nat.add_assoc _ _ _))⟩)))
    repeat (go_quiet (first|(go_at_call 37;(with_reducible refine (spec_l01In.calls a0_0 1 5 true _ A4.out).mono ?_);rintro e w' ⟨rfl,⟨nd,rfl⟩⟩;(try first|exact ⟨rfl,_,World.drewN_drewN _ _ _⟩|exact ⟨rfl,_,Eq.trans (World.drewN_drewN _ _ _) (congrArg (World.drewN _) (Nat.add_assoc _ _ _))⟩))|(go_at_call 37;(with_reducible refine (spec_l01In.calls a0_1 1 5 false _ A6.out).mono ?_);rintro e w' ⟨rfl,⟨nd,rfl⟩⟩;(try first|exact ⟨rfl,_,World.drewN_drewN _ _ _⟩|exact ⟨rfl,_,Eq.trans (World.drewN_drewN _ _ _) (congrArg (World.drewN _) (Nat.add_assoc _ _ _))⟩)));try go_wp2_with (first|(go_at_call 37;(with_reducible refine (spec_l01In.calls a0_0 1 5 true _ A4.out).mono ?_);rintro e w' ⟨rfl,⟨nd,rfl⟩⟩;(try first|exact ⟨rfl,_,World.drewN_drewN _ _ _⟩|exact ⟨rfl,_,Eq.trans (World.drewN_drewN _ _ _) (congrArg (World.drewN _) (Nat.add_assoc _ _ _))⟩))|(go_at_call 37;(with_reducible refine (spec_l01In.calls a0_1 1 5 false _ A6.out).mono ?_);rintro e w' ⟨rfl,⟨nd,rfl⟩⟩;(try first|exact ⟨rfl,_,World.drewN_drewN _ _ _⟩|exact ⟨rfl,_,Eq.trans (World.drewN_drewN _ _ _) (congrArg (World.drewN _) (Nat.add_assoc _ _ _))⟩))))
    go_meet
    case rel=>exact ⟨_,(true),(by first|rfl|(simp;done)|(simp [*];done)),H',⟨by first|omega|exact Nat.le_refl _⟩,⟨by (with_reducible repeat (first|refine blk_drewN ?_ _|refine blk_drew ?_|refine blk_alloc ?_ _));exact BK103.out⟩,⟨by repeat (first|(with_reducible first|exact HB.out|apply below_alloc|apply pw_below_drewN|apply below_drew1|refine below_set ?_ GE103.out)|exact HB.out)⟩⟩
  ·replace c5:=Bool.eq_false_iff.mpr c5
   subst c5
   have H1 : (spec_l09Is.j0 k true a0_0 a0_1 l0_2) = some r:=by rw [if_neg (show ¬ (false = true) by decide)] at H;exact H
   clear H
   have H:=H1
   clear H1
   have H':=Aside0.mk H
   clear H
   have hcz11_0 : w3.cell? ⟨gb103,0,none⟩ = some (.int .i64 a0_0):=(blk_cell BK103.out 0).trans rfl
   have hcz11_1 : w3.cell? ⟨gb103,1,none⟩ = some (.int .i64 a0_1):=(blk_cell BK103.out 1).trans rfl
   have hcz11_2 : w3.cell? ⟨gb103,2,none⟩ = some (.slice A0_2 l0_2.length c0_2):=(blk_cell BK103.out 2).trans rfl
   have hfz11_0:=blk_frozen BK103.out 0
   have hfz11_1:=blk_frozen BK103.out 1
   have hfz11_2:=blk_frozen BK103.out 2
   go_wp2_with (first|(go_at_call 37;(with_reducible refine (spec_l01In.calls a0_0 1 5 false _ A4.out).mono ?_);rintro e w' ⟨rfl,⟨nd,rfl⟩⟩;(try first|exact ⟨rfl,_,World.drewN_drewN _ _ _⟩|exact ⟨rfl,_,Eq.trans (World.drewN_drewN _ _ _) (congrArg (World.drewN _) (Nat.add_assoc _ _ _))⟩)))
   repeat (go_quiet (first|(go_at_call 37;(with_reducible refine (spec_l01In.calls a0_0 1 5 false _ A4.out).mono ?_);rintro e w' ⟨rfl,⟨nd,rfl⟩⟩;(try first|exact ⟨rfl,_,World.drewN_drewN _ _ _⟩|exact ⟨rfl,_,Eq.trans (World.drewN_drewN _ _ _) (congrArg (World.drewN _) (Nat.add_assoc _ _ _))⟩)));try go_wp2_with (first|(go_at_call 37;(with_reducible refine (spec_l01In.calls a0_0 1 5 false _ A4.out).mono ?_);rintro e w' ⟨rfl,⟨nd,rfl⟩⟩;(try first|exact ⟨rfl,_,World.drewN_drewN _ _ _⟩|exact ⟨rfl,_,Eq.trans (World.drewN_drewN _ _ _) (congrArg (World.drewN _) (Nat.add_assoc _ _ _))⟩))))
   go_meet
   case rel=>exact ⟨_,(true),(by first|rfl|(simp;done)|(simp [*];done)),H',⟨by first|omega|exact Nat.le_refl _⟩,⟨by (with_reducible repeat (first|refine blk_drewN ?_ _|refine blk_drew ?_|refine blk_alloc ?_ _));exact BK103.out⟩,⟨by repeat (first|(with_reducible first|exact HB.out|apply below_alloc|apply pw_below_drewN|apply below_drew1|refine below_set ?_ GE103.out)|exact HB.out)⟩⟩
 case rest =>
  clear HC2
  try clear p2
  try clear c3
  try clear c5
  try clear c7
  try clear hcz10_0
  try clear hcz10_1
  try clear hcz10_2
  try clear hcz11_0
  try clear hcz11_1
  try clear hcz11_2
  try clear hcz9_0
  try clear hcz9_1
  try clear hcz9_2
  try clear hfz10_0
  try clear hfz10_1
  try clear hfz10_2
  try clear hfz11_0
  try clear hfz11_1
  try clear hfz11_2
  try clear hfz9_0
  try clear hfz9_1
  try clear hfz9_2
  obtain ⟨kq,x20_1,rfl,HA,HJ1,BK103,HB⟩:=hcut
  cases kq with
  | zero => exact absurd HA.out (by simp [spec_l09Is.j0])
  | succ kj1 =>
   have H:=HA.out
   clear HA
   simp only [spec_l09Is.j0] at H
   by_cases c12 : x20_1 = true
   ·subst c12
    have H1 : (some false) = some r:=by rw [if_pos rfl] at H;exact H
    clear H
    have H:=H1
    clear H1
    obtain rfl:=Option.some.inj H
    go_wp2
    repeat (go_quiet (fail);try go_wp2)
    go_ret
    exact ⟨by first|rfl|(simp [errW_none,errW_some] <;> rfl)|(simp [*,errW_none,errW_some] <;> rfl),by repeat (first|(with_reducible first|exact HB.out|apply below_alloc|apply pw_below_drewN|apply below_drew1|refine below_set ?_ GE103.out)|exact HB.out)⟩
   ·replace c12:=Bool.eq_false_iff.mpr c12
    subst c12
    have H1 : (spec_l09Is.l0 kj1 0 a0_0 a0_1 l0_2) = some r:=by rw [if_neg (show ¬ (false = true) by decide)] at H;exact H
    clear H
    have H:=H1
    clear H1
    have H':=Aside0.mk H
    clear H
    go_wp2
    repeat (go_quiet (fail);try go_wp2)
    go_loopg [3] kj1 (fun kq v3 w'=>∃ (x3_2 : Int),v3 = .int .i64 x3_2 ∧ Aside0 (spec_l09Is.l0 kq x3_2 a0_0 a0_1 l0_2 = some r) ∧ Aside0 (kq ≤ kj1) ∧ Aside0 (w'.heap[gb103]? = some (.cells #[.int .i64 a0_0,.int .i64 a0_1,(.slice A0_2 l0_2.length c0_2)] 28 (0,0))) ∧ Aside0 (Below w.heap.size w w'))
    case atStart=>exact ⟨(0),(by first|rfl|(simp;done)|(simp [*];done)),H',⟨Nat.le_refl _⟩,⟨by (with_reducible repeat (first|refine blk_drewN ?_ _|refine blk_drew ?_|refine blk_alloc ?_ _));exact BK103.out⟩,⟨by repeat (first|(with_reducible first|exact HB.out|apply below_alloc|apply pw_below_drewN|apply below_drew1|refine below_set ?_ GE103.out)|exact HB.out)⟩⟩
    case round =>
     clear H'
     try clear c1
     try clear p2
     try clear c3
     try clear c5
     try clear c7
     try clear c12
     try clear hcz10_0
     try clear hcz10_1
     try clear hcz10_2
     try clear hcz11_0
     try clear hcz11_1
     try clear hcz11_2
     try clear hcz9_0
     try clear hcz9_1
     try clear hcz9_2
     try clear hfz10_0
     try clear hfz10_1
     try clear hfz10_2
     try clear hfz11_0
     try clear hfz11_1
     try clear hfz11_2
     try clear hfz9_0
     try clear hfz9_1
     try clear hfz9_2
     try clear p2
     obtain ⟨x3_2,rfl,HA,HK2,BK103,HB⟩:=hrel
     cases gk with
     | zero => exact absurd HA.out (by simp [spec_l09Is.l0])
     | succ k2 =>
      have H:=HA.out
      clear HA
      simp only [spec_l09Is.l0] at H
      by_cases c13 : x3_2 < (l0_2.length : Int)
      ·rw [if_pos c13] at H
       have c13b0 : decide (x3_2 < (l0_2.length : Int)) = true:=decide_eq_true c13
       clear c13
       by_cases c14 : 0 ≤ x3_2
       ·rw [if_pos c14] at H
        have c14b0 : decide (0 ≤ x3_2) = true:=decide_eq_true c14
        clear c14
        replace H:=Option.bind_eq_some_iff.mp H
        obtain ⟨t108,A150,H⟩:=H
        replace H : (if t108 = true then (if x3_2 > 0 then (if 0 ≤ (wrap64 (x3_2 - 1)) then (if (wrap64 (x3_2 - 1)) < (l0_2.length : Int) then (if (rd l0_2 x3_2) > (rd l0_2 (wrap64 (x3_2 - 1))) then (some false) else (spec_l09Is.l0 k2 (wrap64 (x3_2 + 1)) a0_0 a0_1 l0_2)) else (none)) else (none)) else (spec_l09Is.l0 k2 (wrap64 (x3_2 + 1)) a0_0 a0_1 l0_2)) else (some false)) = some r:=H
        have A15:=Aside0.mk A150
        clear A150
        by_cases c16 : t108 = true
        ·subst c16
         have H1 : (if x3_2 > 0 then (if 0 ≤ (wrap64 (x3_2 - 1)) then (if (wrap64 (x3_2 - 1)) < (l0_2.length : Int) then (if (rd l0_2 x3_2) > (rd l0_2 (wrap64 (x3_2 - 1))) then (some false) else (spec_l09Is.l0 k2 (wrap64 (x3_2 + 1)) a0_0 a0_1 l0_2)) else (none)) else (none)) else (spec_l09Is.l0 k2 (wrap64 (x3_2 + 1)) a0_0 a0_1 l0_2)) = some r:=by rw [if_pos rfl] at H;exact H
         clear H
         have H:=H1
         clear H1
         by_cases c17 : x3_2 > 0
         ·rw [if_pos c17] at H
          have c17b0 : decide (0 < x3_2) = true:=decide_eq_true c17
          clear c17
          obtain ⟨ji18,hji18⟩ : ∃ j_ : Int,(wrap64 (x3_2 - 1)) = j_:=⟨_,rfl⟩
          replace H : (if 0 ≤ (ji18) then (if (ji18) < (l0_2.length : Int) then (if (rd l0_2 x3_2) > (rd l0_2 (ji18)) then (some false) else (spec_l09Is.l0 k2 (wrap64 (x3_2 + 1)) a0_0 a0_1 l0_2)) else (none)) else (none)) = some r:=by first|(rw [hji18] at H;exact H)|(simp only [hji18] at H ⊢;exact H)
          (try rw [hji18] at A15)
          have hji18w : (IntKind.i64.wrap (x3_2 - 1)) = ji18:=(i64_w _).trans hji18
          by_cases c19 : 0 ≤ (ji18)
          ·rw [if_pos c19] at H
           have c19b0 : decide (0 ≤ (ji18)) = true:=decide_eq_true c19
           clear c19
           by_cases c20 : (ji18) < (l0_2.length : Int)
           ·rw [if_pos c20] at H
            have c20b0 : decide ((ji18) < (l0_2.length : Int)) = true:=decide_eq_true c20
            clear c20
            by_cases c21 : (rd l0_2 x3_2) > (rd l0_2 (ji18))
            ·rw [if_pos c21] at H
             have c21b0 : decide ((rd l0_2 (ji18)) < (rd l0_2 x3_2)) = true:=decide_eq_true c21
             clear c21
             obtain rfl:=Option.some.inj H
             have hcz22_0 : wr.cell? ⟨gb103,0,none⟩ = some (.int .i64 a0_0):=(blk_cell BK103.out 0).trans rfl
             have hcz22_1 : wr.cell? ⟨gb103,1,none⟩ = some (.int .i64 a0_1):=(blk_cell BK103.out 1).trans rfl
             have hcz22_2 : wr.cell? ⟨gb103,2,none⟩ = some (.slice A0_2 l0_2.length c0_2):=(blk_cell BK103.out 2).trans rfl
             have hfz22_0:=blk_frozen BK103.out 0
             have hfz22_1:=blk_frozen BK103.out 1
             have hfz22_2:=blk_frozen BK103.out 2
             have p107 : 0 ≤ (x3_2 : Int):=of_decide_eq_true (by first|(with_reducible assumption)|assumption)
             have q107 : x3_2 < (l0_2.length : Int):=of_decide_eq_true (by first|(with_reducible assumption)|assumption)
             obtain ⟨ad107,e107,hx107_0⟩:=Kd.at_int HR0_2.out x3_2 p107 q107
             cases e107
             replace hx107_0:=(HB.out.cell (World.block_lt_of_cell? w _ hx107_0)).trans hx107_0
             replace p107:=eq_true p107
             replace q107:=eq_true q107
             go_wp2_with (first|(go_at_call 37;(with_reducible refine (spec_l01In.calls (rd l0_2 x3_2) 1 5 true _ A15.out).mono ?_);rintro e w' ⟨rfl,⟨nd,rfl⟩⟩;(try first|exact ⟨rfl,_,World.drewN_drewN _ _ _⟩|exact ⟨rfl,_,Eq.trans (World.drewN_drewN _ _ _) (congrArg (World.drewN _) (Nat.add_assoc _ _ _))⟩);all_goals (have p109 : 0 ≤ (x3_2 : Int):=of_decide_eq_true (by first|(with_reducible assumption)|assumption);have q109 : x3_2 < (l0_2.length : Int):=of_decide_eq_true (by first|(with_reducible assumption)|assumption);obtain ⟨ad109,e109,hx109_0⟩:=Kd.at_int HR0_2.out x3_2 p109 q109;obtain rfl : ad107 = ad109:=(by injection e109);replace hx109_0:=(HB.out.cell (World.block_lt_of_cell? w _ hx109_0)).trans hx109_0;replace p109:=eq_true p109;replace q109:=eq_true q109;have p110 : 0 ≤ ((ji18) : Int):=of_decide_eq_true (by first|(with_reducible assumption)|assumption);have q110 : (ji18) < (l0_2.length : Int):=of_decide_eq_true (by first|(with_reducible assumption)|assumption);obtain ⟨ad110,e110,hx110_0⟩:=Kd.at_int HR0_2.out (ji18) p110 q110;obtain rfl : ad107 = ad110:=(by injection e110);replace hx110_0:=(HB.out.cell (World.block_lt_of_cell? w _ hx110_0)).trans hx110_0;replace p110:=eq_true p110;replace q110:=eq_true q110)))
             repeat (go_quiet (first|(go_at_call 37;(with_reducible refine (spec_l01In.calls (rd l0_2 x3_2) 1 5 true _ A15.out).mono ?_);rintro e w' ⟨rfl,⟨nd,rfl⟩⟩;(try first|exact ⟨rfl,_,World.drewN_drewN _ _ _⟩|exact ⟨rfl,_,Eq.trans (World.drewN_drewN _ _ _) (congrArg (World.drewN _) (Nat.add_assoc _ _ _))⟩);all_goals (have p109 : 0 ≤ (x3_2 : Int):=of_decide_eq_true (by first|(with_reducible assumption)|assumption);have q109 : x3_2 < (l0_2.length : Int):=of_decide_eq_true (by first|(with_reducible assumption)|assumption);obtain ⟨ad109,e109,hx109_0⟩:=Kd.at_int HR0_2.out x3_2 p109 q109;obtain rfl : ad107 = ad109:=(by injection e109);replace hx109_0:=(HB.out.cell (World.block_lt_of_cell? w _ hx109_0)).trans hx109_0;replace p109:=eq_true p109;replace q109:=eq_true q109;have p110 : 0 ≤ ((ji18) : Int):=of_decide_eq_true (by first|(with_reducible assumption)|assumption);have q110 : (ji18) < (l0_2.length : Int):=of_decide_eq_true (by first|(with_reducible assumption)|assumption);obtain ⟨ad110,e110,hx110_0⟩:=Kd.at_int HR0_2.out (ji18) p110 q110;obtain rfl : ad107 = ad110:=(by injection e110);replace hx110_0:=(HB.out.cell (World.block_lt_of_cell? w _ hx110_0)).trans hx110_0;replace p110:=eq_true p110;replace q110:=eq_true q110)));try go_wp2_with (first|(go_at_call 37;(with_reducible refine (spec_l01In.calls (rd l0_2 x3_2) 1 5 true _ A15.out).mono ?_);rintro e w' ⟨rfl,⟨nd,rfl⟩⟩;(try first|exact ⟨rfl,_,World.drewN_drewN _ _ _⟩|exact ⟨rfl,_,Eq.trans (World.drewN_drewN _ _ _) (congrArg (World.drewN _) (Nat.add_assoc _ _ _))⟩);all_goals (have p109 : 0 ≤ (x3_2 : Int):=of_decide_eq_true (by first|(with_reducible assumption)|assumption);have q109 : x3_2 < (l0_2.length : Int):=of_decide_eq_true (by first|(with_reducible assumption)|assumption);obtain ⟨ad109,e109,hx109_0⟩:=Kd.at_int HR0_2.out x3_2 p109 q109;obtain rfl : ad107 = ad109:=(by injection e109);replace hx109_0:=(HB.out.cell (World.block_lt_of_cell? w _ hx109_0)).trans hx109_0;replace p109:=eq_true p109;replace q109:=eq_true q109;have p110 : 0 ≤ ((ji18) : Int):=of_decide_eq_true (by first|(with_reducible assumption)|assumption);have q110 : (ji18) < (l0_2.length : Int):=of_decide_eq_true (by first|(with_reducible assumption)|assumption);obtain ⟨ad110,e110,hx110_0⟩:=Kd.at_int HR0_2.out (ji18) p110 q110;obtain rfl : ad107 = ad110:=(by injection e110);replace hx110_0:=(HB.out.cell (World.block_lt_of_cell? w _ hx110_0)).trans hx110_0;replace p110:=eq_true p110;replace q110:=eq_true q110))))
             go_ret
             exact ⟨by first|rfl|(simp [errW_none,errW_some] <;> rfl)|(simp only [← hji18];first|rfl|(simp [errW_none,errW_some] <;> rfl))|(simp [*,errW_none,errW_some] <;> rfl),by repeat (first|(with_reducible first|exact HB.out|apply below_alloc|apply pw_below_drewN|apply below_drew1|refine below_set ?_ GE103.out)|exact HB.out)⟩
            ·rw [if_neg c21] at H
             have c21b0 : decide ((rd l0_2 (ji18)) < (rd l0_2 x3_2)) = false:=decide_eq_false c21
             clear c21
             have H':=Aside0.mk H
             clear H
             have hcz23_0 : wr.cell? ⟨gb103,0,none⟩ = some (.int .i64 a0_0):=(blk_cell BK103.out 0).trans rfl
             have hcz23_1 : wr.cell? ⟨gb103,1,none⟩ = some (.int .i64 a0_1):=(blk_cell BK103.out 1).trans rfl
             have hcz23_2 : wr.cell? ⟨gb103,2,none⟩ = some (.slice A0_2 l0_2.length c0_2):=(blk_cell BK103.out 2).trans rfl
             have hfz23_0:=blk_frozen BK103.out 0
             have hfz23_1:=blk_frozen BK103.out 1
             have hfz23_2:=blk_frozen BK103.out 2
             have p107 : 0 ≤ (x3_2 : Int):=of_decide_eq_true (by first|(with_reducible assumption)|assumption)
             have q107 : x3_2 < (l0_2.length : Int):=of_decide_eq_true (by first|(with_reducible assumption)|assumption)
             obtain ⟨ad107,e107,hx107_0⟩:=Kd.at_int HR0_2.out x3_2 p107 q107
             cases e107
             replace hx107_0:=(HB.out.cell (World.block_lt_of_cell? w _ hx107_0)).trans hx107_0
             replace p107:=eq_true p107
             replace q107:=eq_true q107
             go_wp2_with (first|(go_at_call 37;(with_reducible refine (spec_l01In.calls (rd l0_2 x3_2) 1 5 true _ A15.out).mono ?_);rintro e w' ⟨rfl,⟨nd,rfl⟩⟩;(try first|exact ⟨rfl,_,World.drewN_drewN _ _ _⟩|exact ⟨rfl,_,Eq.trans (World.drewN_drewN _ _ _) (congrArg (World.drewN _) (Nat.add_assoc _ _ _))⟩);all_goals (have p109 : 0 ≤ (x3_2 : Int):=of_decide_eq_true (by first|(with_reducible assumption)|assumption);have q109 : x3_2 < (l0_2.length : Int):=of_decide_eq_true (by first|(with_reducible assumption)|assumption);obtain ⟨ad109,e109,hx109_0⟩:=Kd.at_int HR0_2.out x3_2 p109 q109;obtain rfl : ad107 = ad109:=(by injection e109);replace hx109_0:=(HB.out.cell (World.block_lt_of_cell? w _ hx109_0)).trans hx109_0;replace p109:=eq_true p109;replace q109:=eq_true q109;have p110 : 0 ≤ ((ji18) : Int):=of_decide_eq_true (by first|(with_reducible assumption)|assumption);have q110 : (ji18) < (l0_2.length : Int):=of_decide_eq_true (by first|(with_reducible assumption)|assumption);obtain ⟨ad110,e110,hx110_0⟩:=Kd.at_int HR0_2.out (ji18) p110 q110;obtain rfl : ad107 = ad110:=(by injection e110);replace hx110_0:=(HB.out.cell (World.block_lt_of_cell? w _ hx110_0)).trans hx110_0;replace p110:=eq_true p110;replace q110:=eq_true q110)))
             repeat (go_quiet (first|(go_at_call 37;(with_reducible refine (spec_l01In.calls (rd l0_2 x3_2) 1 5 true _ A15.out).mono ?_);rintro e w' ⟨rfl,⟨nd,rfl⟩⟩;(try first|exact ⟨rfl,_,World.drewN_drewN _ _ _⟩|exact ⟨rfl,_,Eq.trans (World.drewN_drewN _ _ _) (congrArg (World.drewN _) (Nat.add_assoc _ _ _))⟩);all_goals (have p109 : 0 ≤ (x3_2 : Int):=of_decide_eq_true (by first|(with_reducible assumption)|assumption);have q109 : x3_2 < (l0_2.length : Int):=of_decide_eq_true (by first|(with_reducible assumption)|assumption);obtain ⟨ad109,e109,hx109_0⟩:=Kd.at_int HR0_2.out x3_2 p109 q109;obtain rfl : ad107 = ad109:=(by injection e109);replace hx109_0:=(HB.out.cell (World.block_lt_of_cell? w _ hx109_0)).trans hx109_0;replace p109:=eq_true p109;replace q109:=eq_true q109;have p110 : 0 ≤ ((ji18) : Int):=of_decide_eq_true (by first|(with_reducible assumption)|assumption);have q110 : (ji18) < (l0_2.length : Int):=of_decide_eq_true (by first|(with_reducible assumption)|assumption);obtain ⟨ad110,e110,hx110_0⟩:=Kd.at_int HR0_2.out (ji18) p110 q110;obtain rfl : ad107 = ad110:=(by injection e110);replace hx110_0:=(HB.out.cell (World.block_lt_of_cell? w _ hx110_0)).trans hx110_0;replace p110:=eq_true p110;replace q110:=eq_true q110)));try go_wp2_with (first|(go_at_call 37;(with_reducible refine (spec_l01In.calls (rd l0_2 x3_2) 1 5 true _ A15.out).mono ?_);rintro e w' ⟨rfl,⟨nd,rfl⟩⟩;(try first|exact ⟨rfl,_,World.drewN_drewN _ _ _⟩|exact ⟨rfl,_,Eq.trans (World.drewN_drewN _ _ _) (congrArg (World.drewN _) (Nat.add_assoc _ _ _))⟩);all_goals (have p109 : 0 ≤ (x3_2 : Int):=of_decide_eq_true (by first|(with_reducible assumption)|assumption);have q109 : x3_2 < (l0_2.length : Int):=of_decide_eq_true (by first|(with_reducible assumption)|assumption);obtain ⟨ad109,e109,hx109_0⟩:=Kd.at_int HR0_2.out x3_2 p109 q109;obtain rfl : ad107 = ad109:=(by injection e109);replace hx109_0:=(HB.out.cell (World.block_lt_of_cell? w _ hx109_0)).trans hx109_0;replace p109:=eq_true p109;replace q109:=eq_true q109;have p110 : 0 ≤ ((ji18) : Int):=of_decide_eq_true (by first|(with_reducible assumption)|assumption);have q110 : (ji18) < (l0_2.length : Int):=of_decide_eq_true (by first|(with_reducible assumption)|assumption);obtain ⟨ad110,e110,hx110_0⟩:=Kd.at_int HR0_2.out (ji18) p110 q110;obtain rfl : ad107 = ad110:=(by injection e110);replace hx110_0:=(HB.out.cell (World.block_lt_of_cell? w _ hx110_0)).trans hx110_0;replace p110:=eq_true p110;replace q110:=eq_true q110))))
             go_roundg k2
             case measure=>have:=HJ1.out;have:=HK2.out;omega
             case rel=>exact ⟨(wrap64 (x3_2 + 1)),(by first|rfl|(simp;done)|(simp [*];done)),H',⟨by have:=HJ1.out;have:=HK2.out;omega⟩,⟨by (with_reducible repeat (first|refine blk_drewN ?_ _|refine blk_drew ?_|refine blk_alloc ?_ _));exact BK103.out⟩,⟨by repeat (first|(with_reducible first|exact HB.out|apply below_alloc|apply pw_below_drewN|apply below_drew1|refine below_set ?_ GE103.out)|exact HB.out)⟩⟩
           ·rw [if_neg c20] at H
            exact absurd H (by simp)
          ·rw [if_neg c19] at H
           exact absurd H (by simp)
         ·rw [if_neg c17] at H
          have c17b0 : decide (0 < x3_2) = false:=decide_eq_false c17
          clear c17
          have H':=Aside0.mk H
          clear H
          have hcz24_0 : wr.cell? ⟨gb103,0,none⟩ = some (.int .i64 a0_0):=(blk_cell BK103.out 0).trans rfl
          have hcz24_1 : wr.cell? ⟨gb103,1,none⟩ = some (.int .i64 a0_1):=(blk_cell BK103.out 1).trans rfl
          have hcz24_2 : wr.cell? ⟨gb103,2,none⟩ = some (.slice A0_2 l0_2.length c0_2):=(blk_cell BK103.out 2).trans rfl
          have hfz24_0:=blk_frozen BK103.out 0
          have hfz24_1:=blk_frozen BK103.out 1
          have hfz24_2:=blk_frozen BK103.out 2
          have p107 : 0 ≤ (x3_2 : Int):=of_decide_eq_true (by first|(with_reducible assumption)|assumption)
          have q107 : x3_2 < (l0_2.length : Int):=of_decide_eq_true (by first|(with_reducible assumption)|assumption)
          obtain ⟨ad107,e107,hx107_0⟩:=Kd.at_int HR0_2.out x3_2 p107 q107
          cases e107
          replace hx107_0:=(HB.out.cell (World.block_lt_of_cell? w _ hx107_0)).trans hx107_0
          replace p107:=eq_true p107
          replace q107:=eq_true q107
          go_wp2_with (first|(go_at_call 37;(with_reducible refine (spec_l01In.calls (rd l0_2 x3_2) 1 5 true _ A15.out).mono ?_);rintro e w' ⟨rfl,⟨nd,rfl⟩⟩;(try first|exact ⟨rfl,_,World.drewN_drewN _ _ _⟩|exact ⟨rfl,_,Eq.trans (World.drewN_drewN _ _ _) (congrArg (World.drewN _) (Nat.add_assoc _ _ _))⟩)))
          repeat (go_quiet (first|(go_at_call 37;(with_reducible refine (spec_l01In.calls (rd l0_2 x3_2) 1 5 true _ A15.out).mono ?_);rintro e w' ⟨rfl,⟨nd,rfl⟩⟩;(try first|exact ⟨rfl,_,World.drewN_drewN _ _ _⟩|exact ⟨rfl,_,Eq.trans (World.drewN_drewN _ _ _) (congrArg (World.drewN _) (Nat.add_assoc _ _ _))⟩)));try go_wp2_with (first|(go_at_call 37;(with_reducible refine (spec_l01In.calls (rd l0_2 x3_2) 1 5 true _ A15.out).mono ?_);rintro e w' ⟨rfl,⟨nd,rfl⟩⟩;(try first|exact ⟨rfl,_,World.drewN_drewN _ _ _⟩|exact ⟨rfl,_,Eq.trans (World.drewN_drewN _ _ _) (congrArg (World.drewN _) (Nat.add_assoc _ _ _))⟩))))
          go_roundg k2
          case measure=>have:=HJ1.out;have:=HK2.out;omega
          case rel=>exact ⟨(wrap64 (x3_2 + 1)),(by first|rfl|(simp;done)|(simp [*];done)),H',⟨by have:=HJ1.out;have:=HK2.out;omega⟩,⟨by (with_reducible repeat (first|refine blk_drewN ?_ _|refine blk_drew ?_|refine blk_alloc ?_ _));exact BK103.out⟩,⟨by repeat (first|(with_reducible first|exact HB.out|apply below_alloc|apply pw_below_drewN|apply below_drew1|refine below_set ?_ GE103.out)|exact HB.out)⟩⟩
        ·replace c16:=Bool.eq_false_iff.mpr c16
         subst c16
         have H1 : (some false) = some r:=by rw [if_neg (show ¬ (false = true) by decide)] at H;exact H
         clear H
         have H:=H1
         clear H1
         obtain rfl:=Option.some.inj H
         have hcz25_0 : wr.cell? ⟨gb103,0,none⟩ = some (.int .i64 a0_0):=(blk_cell BK103.out 0).trans rfl
         have hcz25_1 : wr.cell? ⟨gb103,1,none⟩ = some (.int .i64 a0_1):=(blk_cell BK103.out 1).trans rfl
         have hcz25_2 : wr.cell? ⟨gb103,2,none⟩ = some (.slice A0_2 l0_2.length c0_2):=(blk_cell BK103.out 2).trans rfl
         have hfz25_0:=blk_frozen BK103.out 0
         have hfz25_1:=blk_frozen BK103.out 1
         have hfz25_2:=blk_frozen BK103.out 2
         have p107 : 0 ≤ (x3_2 : Int):=of_decide_eq_true (by first|(with_reducible assumption)|assumption)
         have q107 : x3_2 < (l0_2.length : Int):=of_decide_eq_true (by first|(with_reducible assumption)|assumption)
         obtain ⟨ad107,e107,hx107_0⟩:=Kd.at_int HR0_2.out x3_2 p107 q107
         cases e107
         replace hx107_0:=(HB.out.cell (World.block_lt_of_cell? w _ hx107_0)).trans hx107_0
         replace p107:=eq_true p107
         replace q107:=eq_true q107
         go_wp2_with (first|(go_at_call 37;(with_reducible refine (spec_l01In.calls (rd l0_2 x3_2) 1 5 false _ A15.out).mono ?_);rintro e w' ⟨rfl,⟨nd,rfl⟩⟩;(try first|exact ⟨rfl,_,World.drewN_drewN _ _ _⟩|exact ⟨rfl,_,Eq.trans (World.drewN_drewN _ _ _) (congrArg (World.drewN _) (Nat.add_assoc _ _ _))⟩)))
         repeat (go_quiet (first|(go_at_call 37;(with_reducible refine (spec_l01In.calls (rd l0_2 x3_2) 1 5 false _ A15.out).mono ?_);rintro e w' ⟨rfl,⟨nd,rfl⟩⟩;(try first|exact ⟨rfl,_,World.drewN_drewN _ _ _⟩|exact ⟨rfl,_,Eq.trans (World.drewN_drewN _ _ _) (congrArg (World.drewN _) (Nat.add_assoc _ _ _))⟩)));try go_wp2_with (first|(go_at_call 37;(with_reducible refine (spec_l01In.calls (rd l0_2 x3_2) 1 5 false _ A15.out).mono ?_);rintro e w' ⟨rfl,⟨nd,rfl⟩⟩;(try first|exact ⟨rfl,_,World.drewN_drewN _ _ _⟩|exact ⟨rfl,_,Eq.trans (World.drewN_drewN _ _ _) (congrArg (World.drewN _) (Nat.add_assoc _ _ _))⟩))))
         go_ret
         exact ⟨by first|rfl|(simp [errW_none,errW_some] <;> rfl)|(simp [*,errW_none,errW_some] <;> rfl),by repeat (first|(with_reducible first|exact HB.out|apply below_alloc|apply pw_below_drewN|apply below_drew1|refine below_set ?_ GE103.out)|exact HB.out)⟩
       ·rw [if_neg c14] at H
        exact absurd H (by simp)
      ·rw [if_neg c13] at H
       have c13b0 : decide (x3_2 < (l0_2.length : Int)) = false:=decide_eq_false c13
       clear c13
       obtain rfl:=Option.some.inj H
       have hcz26_0 : wr.cell? ⟨gb103,0,none⟩ = some (.int .i64 a0_0):=(blk_cell BK103.out 0).trans rfl
       have hcz26_1 : wr.cell? ⟨gb103,1,none⟩ = some (.int .i64 a0_1):=(blk_cell BK103.out 1).trans rfl
       have hcz26_2 : wr.cell? ⟨gb103,2,none⟩ = some (.slice A0_2 l0_2.length c0_2):=(blk_cell BK103.out 2).trans rfl
       have hfz26_0:=blk_frozen BK103.out 0
       have hfz26_1:=blk_frozen BK103.out 1
       have hfz26_2:=blk_frozen BK103.out 2
       go_wp2
       repeat (go_quiet (fail);try go_wp2)
       go_ret
       exact ⟨by first|rfl|(simp [errW_none,errW_some] <;> rfl)|(simp [*,errW_none,errW_some] <;> rfl),by repeat (first|(with_reducible first|exact HB.out|apply below_alloc|apply pw_below_drewN|apply below_drew1|refine below_set ?_ GE103.out)|exact HB.out)⟩

/-! ### spec_l01Own: function 71 -/
def spec_l01Own.f (l0 : List Int) : Option (List Int) := (some (([] : List Int) : List Int)).bind fun y111 => (if y111.length + l0.length < 17592186044416 then (some (y111 ++ l0)) else (none))
set_option maxHeartbeats 8000000 in
set_option maxRecDepth 100000 in
theorem spec_l01Own.calls (A0 : Option Addr) (c0 : Nat) (l0 : List Int) (r : List Int) (w : World) (hr0 : Kd.C (Kd.int .i64) w A0 l0.length l0) (hc0 : l0.length ≤ c0) (h : spec_l01Own.f l0 = some r) :
  Calls Try.prog 71 #[.slice A0 l0.length c0] w fun e w'=>∃ v0_ : Value,e = .returned (v0_) ∧ Kd.R (Kd.int .i64) 2 w' w.heap.size (fun _=>True) v0_ r ∧ Below w.heap.size w w':=by
 have HR0:=Aside0.mk hr0
 have HC0:=Aside0.mk hc0
 clear hr0 hc0
 have HB:=Aside0.mk (Below.refl w.heap.size w)
 have H : ((some (([] : List Int) : List Int)).bind fun y111=>(if y111.length + l0.length < 17592186044416 then (some (y111 ++ l0)) else (none))) = some r:=h
 clear h
 obtain ⟨y111,hy111⟩ : ∃ y_ : List Int,y_ = (([] : List Int)):=⟨_,rfl⟩
 replace H : (if y111.length + l0.length < 17592186044416 then (some (y111 ++ l0)) else (none)) = some r:=by first|(rw [hy111];with_reducible exact H)|(have H2_:=(Option.bind_some _ _).symm.trans H;rw [hy111];with_reducible exact H2_)|(have H2_:=(Option.bind_some _ _).symm.trans H;with_reducible exact H2_)|with_reducible exact H|(rw [hy111];exact H)|exact H
 have Ny111:=Aside0.mk hy111
 clear hy111
 by_cases c2 : y111.length + l0.length < 17592186044416
 ·rw [if_pos c2] at H
  have LMc2:=Aside0.mk c2
  clear c2
  obtain ⟨y114,hy114⟩ : ∃ y_ : List Int,y_ = (y111 ++ l0):=⟨_,rfl⟩
  replace H : (some y114) = some r:=by first|(rw [hy114];with_reducible exact H)|(have H2_:=(Option.bind_some _ _).symm.trans H;rw [hy114];with_reducible exact H2_)|(have H2_:=(Option.bind_some _ _).symm.trans H;with_reducible exact H2_)|with_reducible exact H|(rw [hy114];exact H)|exact H
  have Ny114:=Aside0.mk hy114
  clear hy114
  obtain rfl:=Option.some.inj H
  go_enter Try.func71,Try.ntmps71
  go_wp2_with (first|((with_reducible refine gate_dst (N:=3) rfl ?_);refine Kd.R_lit (Kd.int .i64) _ 2 ?hg (N:=3) ?hd (xs:=([] : List Int)) (inner:=[]) (ok:=fun _=>True) (okp:=fun _=>True) ?hr ?hp (fun _ hk=>hk) trivial (Below.refl _ _) (Nat.le_refl _) (by simp) ?_;(case hd=>rfl);(case hg=>rfl);(case hr=>first|(go_simp;done)|(go_simp;rfl));(case hp=>exact (Reps.none _ _));intro v112 w3 ho4 hb hg_ hnew_;clear hg_ hnew_;(first|rw [← Ny111.out] at ho4|(simp only [Int.reduceToNat] at ho4;rw [← Ny111.out] at ho4));have n0_:=Aside0.mk (Kd.R_lower ho4 (below_size (by repeat (first|(with_reducible first|exact HB.out|apply below_alloc|apply pw_below_drewN|apply below_drew1)|exact HB.out))));have n1_:=Aside0.mk (below_step (by repeat (first|(with_reducible first|exact HB.out|apply below_alloc|apply pw_below_drewN|apply below_drew1)|exact HB.out)) hb);clear HB;have HO113:=n0_;have HB:=n1_;clear n0_ n1_;clear hb ho4)|((with_reducible refine gate_builtin (b:=.append) (xs:=#[.tmp 3,.tmp 4]) rfl ?_);at_builtin;refine Kd.R_append_rows (Kd.int .i64) (w0:=w) w.heap.size rfl (.tmp 3) (.tmp 4) 22 2 (.int .i64 0) 8 rfl Try.underlying22 info2 rfl (by decide) (by omega) v112 y111 l0 _ _ _ (fun _=>True) (fun _=>False) rfl rfl ?aO ?aR (fun _ _ h=>h) (fun _ h=>h.elim) ?aF ?aB ?aS ?aL ?_;(case aR=>repeat (first|exact (Kd.C_below HR0.out HB.out)|(with_reducible refine Kd.C_alloc ?_ _)|(with_reducible refine Kd.C_drewN ?_ _)|(with_reducible refine Kd.C_drew ?_)));(case aB=>exact (by repeat (first|(with_reducible first|exact HB.out|apply below_alloc|apply pw_below_drewN|apply below_drew1)|exact HB.out)));(case aF=>exact (fun _ _=>trivial));(case aO=>exact (by (with_reducible repeat (first|apply Kd.R_alloc|apply Kd.R_drewN|apply Kd.R_drew));exact HO113.out));(case aS=>exact (below_size (by repeat (first|(with_reducible first|exact HB.out|apply below_alloc|apply pw_below_drewN|apply below_drew1)|exact HB.out))));(case aL=>have:=LMc2.out;omega);intro v115 w5 ho hb hg hat;rw [← Ny114.out] at ho;have n0_:=Aside0.mk (hb);have n1_:=Aside0.mk (ho);clear HB;clear HO113;have HB:=n0_;have HO116:=n1_;clear n0_ n1_;clear ho hb hg hat))
  go_ret
  exact ⟨_,by first|rfl|(simp [errW_none,errW_some] <;> rfl)|(simp [*,errW_none,errW_some] <;> rfl),by (with_reducible repeat (first|apply Kd.R_alloc|apply Kd.R_drewN|apply Kd.R_drew));exact HO116.out,by repeat (first|(with_reducible first|exact HB.out|apply below_alloc|apply pw_below_drewN|apply below_drew1)|exact HB.out)⟩
 ·rw [if_neg c2] at H
  exact absurd H (by simp)

/-! ### spec_l01Put: function 64 -/
def spec_l01Put.l0 : Nat → List Int → Int → Int → Option (List Int)
 | 0, _, _, _ => none
 | k + 1, x0, x1, x5 => if x5 > 0 then (if 0 ≤ (wrap64 (x5 - 1)) then (if (wrap64 (x5 - 1)) < (x0.length : Int) then (if (rd x0 (wrap64 (x5 - 1))) > x1 then (spec_l01Put.l0 k x0 x1 (wrap64 (x5 - 1))) else (if (rd x0 (wrap64 (x5 - 1))) = x1 then (some x0) else (if 0 ≤ x5 then (if x5 ≤ (x0.length : Int) then ((spec_l01Own.f (x0.take (x5 : Int).toNat)).bind fun t123 => (if t123.length < 17592186044416 then ((some (t123 ++ [x1] : List Int)).bind fun y126 => ((some (x0.drop (x5 : Int).toNat : List Int)).bind fun y129 => (if y126.length + y129.length < 17592186044416 then (some (y126 ++ y129)) else (none)))) else (none))) else (none)) else (none)))) else (none)) else (none)) else (if 0 ≤ x5 then (if x5 ≤ (x0.length : Int) then ((spec_l01Own.f (x0.take (x5 : Int).toNat)).bind fun t140 => (if t140.length < 17592186044416 then ((some (t140 ++ [x1] : List Int)).bind fun y143 => ((some (x0.drop (x5 : Int).toNat : List Int)).bind fun y146 => (if y143.length + y146.length < 17592186044416 then (some (y143 ++ y146)) else (none)))) else (none))) else (none)) else (none))
def spec_l01Put.f (k : Nat) (l0 : List Int) (a1 : Int) : Option (List Int) := spec_l01Put.l0 k l0 a1 (l0.length : Int)
theorem spec_l01Put.mono_l : ∀ k, (∀ y0 y1 y2, LeO (spec_l01Put.l0 k y0 y1 y2) (spec_l01Put.l0 (k + 1) y0 y1 y2))
 | 0 => fun _ _ _ r h => by simp [spec_l01Put.l0] at h
 | k + 1 => by
  have ih0:=spec_l01Put.mono_l k
  ·intro y0 y1 y2
   unfold spec_l01Put.l0
   repeat' first
   | (with_reducible exact ih0 _ _ _)
   | (with_reducible exact LeO.refl _)
   | (with_reducible exact LeO.none _)
   | (with_reducible refine LeO.ite ?_ ?_)
   | (with_reducible refine LeO.bind ?_ (fun _ => ?_))
   | exact ih0 _ _ _
   | exact LeO.none _
   | refine LeO.ite ?_ ?_
   | refine LeO.bind ?_ (fun _ => ?_)
theorem spec_l01Put.mono : ∀ a0 a1 k, LeO (spec_l01Put.f k a0 a1) (spec_l01Put.f (k + 1) a0 a1) := by
 intro a0 a1 k
 have ih0:=spec_l01Put.mono_l k
 unfold spec_l01Put.f
 repeat' first
   | (with_reducible exact ih0 _ _ _)
   | (with_reducible exact LeO.refl _)
   | (with_reducible exact LeO.none _)
   | (with_reducible refine LeO.ite ?_ ?_)
   | (with_reducible refine LeO.bind ?_ (fun _ => ?_))
   | exact ih0 _ _ _
   | exact LeO.none _
   | refine LeO.ite ?_ ?_
   | refine LeO.bind ?_ (fun _ => ?_)
set_option maxHeartbeats 8000000 in
set_option maxRecDepth 100000 in
theorem spec_l01Put.calls (k : Nat) (P0_ : Nat → Prop) (u9000_ : Value) (l0 : List Int) (a1 : Int) (r : List Int) (w0 w : World) (hB : Below w0.heap.size w0 w) (ho0 : Kd.R (Kd.int .i64) 2 w w0.heap.size P0_ u9000_ l0) (h : spec_l01Put.f k l0 a1 = some r) :
  Calls Try.prog 64 #[u9000_,.int .i64 a1] w fun e w'=>∃ v0_ : Value,e = .returned (v0_) ∧ Kd.R (Kd.int .i64) 2 w' w0.heap.size (fun k_=>(P0_ k_ ∨ w.heap.size ≤ k_)) v0_ r ∧ Below w0.heap.size w0 w' ∧ Kept w w' (fun k_=>P0_ k_):=by
 have HO0:=Aside0.mk (show Kd.R (Kd.int .i64) 2 w w0.heap.size (fun k_=>(P0_ k_ ∨ w.heap.size ≤ k_)) u9000_ l0 from Kd.R_mono ho0 (fun k_ hk=>(.inl hk)))
 have HK:=Aside0.mk (Kept.refl w (fun k_=>P0_ k_))
 have HW0:=Aside0.mk hB.size
 have HB:=Aside0.mk hB
 clear hB
 have H : (spec_l01Put.l0 k l0 a1 (l0.length : Int)) = some r:=h
 clear h
 have H':=Aside0.mk H
 clear H
 obtain ⟨Ao3,co3,eo3⟩:=Kd.R_slice HO0.out
 subst eo3
 go_enter Try.func64,Try.ntmps64
 go_wp2
 go_loopg [5] k (fun kq v5 w'=>∃ (x5_1 : Int),v5 = .int .i64 x5_1 ∧ Aside0 (spec_l01Put.l0 kq l0 a1 x5_1 = some r) ∧ Aside0 (kq ≤ k) ∧ Aside0 (Kd.R (Kd.int .i64) 2 w' w0.heap.size (fun k_=>(P0_ k_ ∨ w.heap.size ≤ k_)) (.slice Ao3 l0.length co3) l0) ∧ Aside0 (Kept w w' (fun k_=>P0_ k_)) ∧ Aside0 (Below w0.heap.size w0 w'))
 case atStart=>exact ⟨((l0.length : Int)),(by first|rfl|(simp;done)|(simp [*];done)),H',⟨Nat.le_refl _⟩,⟨by (with_reducible repeat (first|apply Kd.R_alloc|apply Kd.R_drewN|apply Kd.R_drew));exact HO0.out⟩,⟨by repeat (first|(with_reducible first|exact HK.out|apply Kept.alloc|apply Kept.drewN|apply Kept.drew)|exact HK.out)⟩,⟨by repeat (first|(with_reducible first|exact HB.out|apply below_alloc|apply pw_below_drewN|apply below_drew1)|exact HB.out)⟩⟩
 case round =>
  clear H'
  try clear p2
  obtain ⟨x5_1,rfl,HA,HK1,HO_0,HK,HB⟩:=hrel
  cases gk with
  | zero => exact absurd HA.out (by simp [spec_l01Put.l0])
  | succ k1 =>
   have H:=HA.out
   clear HA
   simp only [spec_l01Put.l0] at H
   by_cases c4 : x5_1 > 0
   ·rw [if_pos c4] at H
    have c4b0 : decide (0 < x5_1) = true:=decide_eq_true c4
    clear c4
    obtain ⟨ji5,hji5⟩ : ∃ j_ : Int,(wrap64 (x5_1 - 1)) = j_:=⟨_,rfl⟩
    replace H : (if 0 ≤ (ji5) then (if (ji5) < (l0.length : Int) then (if (rd l0 (ji5)) > a1 then (spec_l01Put.l0 k1 l0 a1 ji5) else (if (rd l0 (ji5)) = a1 then (some l0) else (if 0 ≤ x5_1 then (if x5_1 ≤ (l0.length : Int) then ((spec_l01Own.f (l0.take (x5_1 : Int).toNat)).bind fun t123=>(if t123.length < 17592186044416 then ((some (t123 ++ [a1] : List Int)).bind fun y126=>((some (l0.drop (x5_1 : Int).toNat : List Int)).bind fun y129=>(if y126.length + y129.length < 17592186044416 then (some (y126 ++ y129)) else (none)))) else (none))) else (none)) else (none)))) else (none)) else (none)) = some r:=by first|(rw [hji5] at H;exact H)|(simp only [hji5] at H ⊢;exact H)
    have hji5w : (IntKind.i64.wrap (x5_1 - 1)) = ji5:=(i64_w _).trans hji5
    by_cases c6 : 0 ≤ (ji5)
    ·rw [if_pos c6] at H
     have c6b0 : decide (0 ≤ (ji5)) = true:=decide_eq_true c6
     clear c6
     by_cases c7 : (ji5) < (l0.length : Int)
     ·rw [if_pos c7] at H
      have c7b0 : decide ((ji5) < (l0.length : Int)) = true:=decide_eq_true c7
      clear c7
      by_cases c8 : (rd l0 (ji5)) > a1
      ·rw [if_pos c8] at H
       have c8b0 : decide (a1 < (rd l0 (ji5))) = true:=decide_eq_true c8
       clear c8
       have H':=Aside0.mk H
       clear H
       have p117 : 0 ≤ ((ji5) : Int):=of_decide_eq_true (by first|(with_reducible assumption)|assumption)
       have q117 : (ji5) < (l0.length : Int):=of_decide_eq_true (by first|(with_reducible assumption)|assumption)
       obtain ⟨ad117,e117,hx117_0⟩:=Kd.at_int (Kd.R_reads' HO_0.out).2.2 (ji5) p117 q117
       cases e117
       replace p117:=eq_true p117
       replace q117:=eq_true q117
       go_wp2
       go_roundg k1
       case measure=>have:=HK1.out;omega
       case rel=>exact ⟨(ji5),(by first|rfl|(simp;done)|(simp only [← hji5] <;> (first|rfl|simp))|(simp [*];done)),H',⟨by have:=HK1.out;omega⟩,⟨by (with_reducible repeat (first|apply Kd.R_alloc|apply Kd.R_drewN|apply Kd.R_drew));exact HO_0.out⟩,⟨by repeat (first|(with_reducible first|exact HK.out|apply Kept.alloc|apply Kept.drewN|apply Kept.drew)|exact HK.out)⟩,⟨by repeat (first|(with_reducible first|exact HB.out|apply below_alloc|apply pw_below_drewN|apply below_drew1)|exact HB.out)⟩⟩
      ·rw [if_neg c8] at H
       have c8b0 : decide (a1 < (rd l0 (ji5))) = false:=decide_eq_false c8
       clear c8
       by_cases c9 : (rd l0 (ji5)) = a1
       ·rw [if_pos c9] at H
        have c9b0 : ((rd l0 (ji5)) == a1) = true:=beq_iff_eq.mpr c9
        have c9b1 : ((rd l0 (ji5)) != a1) = false:=bne_eq_false_iff_eq.mpr c9
        clear c9
        obtain rfl:=Option.some.inj H
        have p117 : 0 ≤ ((ji5) : Int):=of_decide_eq_true (by first|(with_reducible assumption)|assumption)
        have q117 : (ji5) < (l0.length : Int):=of_decide_eq_true (by first|(with_reducible assumption)|assumption)
        obtain ⟨ad117,e117,hx117_0⟩:=Kd.at_int (Kd.R_reads' HO_0.out).2.2 (ji5) p117 q117
        cases e117
        replace p117:=eq_true p117
        replace q117:=eq_true q117
        have p118 : 0 ≤ ((ji5) : Int):=of_decide_eq_true (by first|(with_reducible assumption)|assumption)
        have q118 : (ji5) < (l0.length : Int):=of_decide_eq_true (by first|(with_reducible assumption)|assumption)
        obtain ⟨ad118,e118,hx118_0⟩:=Kd.at_int (Kd.R_reads' HO_0.out).2.2 (ji5) p118 q118
        obtain rfl : ad117 = ad118:=(by injection e118)
        replace p118:=eq_true p118
        replace q118:=eq_true q118
        go_wp2
        go_ret
        exact ⟨_,by first|rfl|(simp [errW_none,errW_some] <;> rfl)|(simp only [← hji5];first|rfl|(simp [errW_none,errW_some] <;> rfl))|(simp [*,errW_none,errW_some] <;> rfl),by (with_reducible repeat (first|apply Kd.R_alloc|apply Kd.R_drewN|apply Kd.R_drew));exact HO_0.out,by repeat (first|(with_reducible first|exact HB.out|apply below_alloc|apply pw_below_drewN|apply below_drew1)|exact HB.out),by repeat (first|(with_reducible first|exact HK.out|apply Kept.alloc|apply Kept.drewN|apply Kept.drew)|exact HK.out)⟩
       ·rw [if_neg c9] at H
        have c9b0 : ((rd l0 (ji5)) == a1) = false:=beq_eq_false_iff_ne.mpr c9
        have c9b1 : ((rd l0 (ji5)) != a1) = true:=bne_iff_ne.mpr c9
        by_cases c10 : 0 ≤ x5_1
        ·rw [if_pos c10] at H
         have c10b0:=eq_true c10
         have c10b1 : decide (0 ≤ x5_1) = true:=decide_eq_true c10
         clear c10
         by_cases c11 : x5_1 ≤ (l0.length : Int)
         ·rw [if_pos c11] at H
          have c11b0:=eq_true c11
          have c11b1 : decide (x5_1 ≤ (l0.length : Int)) = true:=decide_eq_true c11
          clear c11
          obtain ⟨y119,hy119⟩ : ∃ y_ : List Int,y_ = (l0.take (x5_1 : Int).toNat):=⟨_,rfl⟩
          replace H : ((spec_l01Own.f y119).bind fun t123=>(if t123.length < 17592186044416 then ((some (t123 ++ [a1] : List Int)).bind fun y126=>((some (l0.drop (x5_1 : Int).toNat : List Int)).bind fun y129=>(if y126.length + y129.length < 17592186044416 then (some (y126 ++ y129)) else (none)))) else (none))) = some r:=by first|(rw [hy119];with_reducible exact H)|(have H2_:=(Option.bind_some _ _).symm.trans H;rw [hy119];with_reducible exact H2_)|(have H2_:=(Option.bind_some _ _).symm.trans H;with_reducible exact H2_)|with_reducible exact H|(rw [hy119];exact H)|exact H
          have Ny119:=Aside0.mk hy119
          clear hy119
          replace H:=Option.bind_eq_some_iff.mp H
          obtain ⟨t123,A120,H⟩:=H
          replace H : (if t123.length < 17592186044416 then ((some (t123 ++ [a1] : List Int)).bind fun y126=>((some (l0.drop (x5_1 : Int).toNat : List Int)).bind fun y129=>(if y126.length + y129.length < 17592186044416 then (some (y126 ++ y129)) else (none)))) else (none)) = some r:=H
          have A12:=Aside0.mk A120
          clear A120
          by_cases c13 : t123.length < 17592186044416
          ·rw [if_pos c13] at H
           have LMc13:=Aside0.mk c13
           clear c13
           obtain ⟨y126,hy126⟩ : ∃ y_ : List Int,y_ = (t123 ++ [a1]):=⟨_,rfl⟩
           replace H : ((some (l0.drop (x5_1 : Int).toNat : List Int)).bind fun y129=>(if y126.length + y129.length < 17592186044416 then (some (y126 ++ y129)) else (none))) = some r:=by first|(rw [hy126];with_reducible exact H)|(have H2_:=(Option.bind_some _ _).symm.trans H;rw [hy126];with_reducible exact H2_)|(have H2_:=(Option.bind_some _ _).symm.trans H;with_reducible exact H2_)|with_reducible exact H|(rw [hy126];exact H)|exact H
           have Ny126:=Aside0.mk hy126
           clear hy126
           have c14b0:=eq_true (of_decide_eq_true (by first|(with_reducible assumption)|assumption) : 0 ≤ x5_1)
           have c15b0:=eq_true (of_decide_eq_true (by first|(with_reducible assumption)|assumption) : x5_1 ≤ (l0.length : Int))
           obtain ⟨y129,hy129⟩ : ∃ y_ : List Int,y_ = (l0.drop (x5_1 : Int).toNat):=⟨_,rfl⟩
           replace H : (if y126.length + y129.length < 17592186044416 then (some (y126 ++ y129)) else (none)) = some r:=by first|(rw [hy129];with_reducible exact H)|(have H2_:=(Option.bind_some _ _).symm.trans H;rw [hy129];with_reducible exact H2_)|(have H2_:=(Option.bind_some _ _).symm.trans H;with_reducible exact H2_)|with_reducible exact H|(rw [hy129];exact H)|exact H
           have Ny129:=Aside0.mk hy129
           clear hy129
           by_cases c16 : y126.length + y129.length < 17592186044416
           ·rw [if_pos c16] at H
            have LMc16:=Aside0.mk c16
            clear c16
            obtain ⟨y133,hy133⟩ : ∃ y_ : List Int,y_ = (y126 ++ y129):=⟨_,rfl⟩
            replace H : (some y133) = some r:=by first|(rw [hy133];with_reducible exact H)|(have H2_:=(Option.bind_some _ _).symm.trans H;rw [hy133];with_reducible exact H2_)|(have H2_:=(Option.bind_some _ _).symm.trans H;with_reducible exact H2_)|with_reducible exact H|(rw [hy133];exact H)|exact H
            have Ny133:=Aside0.mk hy133
            clear hy133
            obtain rfl:=Option.some.inj H
            have p117 : 0 ≤ ((ji5) : Int):=of_decide_eq_true (by first|(with_reducible assumption)|assumption)
            have q117 : (ji5) < (l0.length : Int):=of_decide_eq_true (by first|(with_reducible assumption)|assumption)
            obtain ⟨ad117,e117,hx117_0⟩:=Kd.at_int (Kd.R_reads' HO_0.out).2.2 (ji5) p117 q117
            cases e117
            replace p117:=eq_true p117
            replace q117:=eq_true q117
            have p118 : 0 ≤ ((ji5) : Int):=of_decide_eq_true (by first|(with_reducible assumption)|assumption)
            have q118 : (ji5) < (l0.length : Int):=of_decide_eq_true (by first|(with_reducible assumption)|assumption)
            obtain ⟨ad118,e118,hx118_0⟩:=Kd.at_int (Kd.R_reads' HO_0.out).2.2 (ji5) p118 q118
            obtain rfl : ad117 = ad118:=(by injection e118)
            replace p118:=eq_true p118
            replace q118:=eq_true q118
            have q17 : (x5_1 : Int) ≤ ((l0.length : Int) : Int):=of_decide_eq_true (by first|(with_reducible assumption)|assumption)
            obtain ⟨i017,hi017,_,hsz17,_⟩:=info_parts info2
            have hroom17 : l0.length ≤ co3:=(Kd.R_reads' HO_0.out).2.1
            have hC17 : Kd.C (Kd.int .i64) _ (some ad117) l0.length l0:=(Kd.R_reads' HO_0.out).2.2
            have hcut17:=cut_to (P:=Try.prog) 22 2 .i64 Try.underlying22 hi017 (some ad117) l0.length co3 x5_1 (of_decide_eq_true (by first|(with_reducible assumption)|assumption)) q17 hroom17
            have hr17:=Kd.C_take (m:=(x5_1 : Int).toNat) hC17 (by omega)
            have hy17 : y119.length = (x5_1 : Int).toNat:=(by rw [Ny119.out,List.length_take];omega)
            rw [← Ny119.out] at hr17
            rw [← hy17] at hcut17
            have HR122:=Aside0.mk hr17
            have HC122:=Aside0.mk (show y119.length ≤ co3 from by omega)
            clear hr17 hC17 hroom17 hi017 hsz17
            have KY17:=Aside0.mk hy17
            clear hy17
            have KL17:=Aside0.mk (show (x5_1 : Int).toNat ≤ l0.length from by omega)
            replace q17:=eq_true q17
            go_wp2_with (first|((with_reducible refine gate_callee (f:=71) rfl ?_);refine goesL_ (some 37) rfl rfl Try.func71 (by kernel_rfl) rfl #[.slice (some ad117) y119.length co3] rfl (by (try simp only [List.map_toArray,List.map_cons,List.map_nil]);first|done|rfl|(simp only [List.length_drop,List.length_take];rfl)) ?_;(with_reducible refine (spec_l01Own.calls _ _ y119 t123 _ ?side1 ?side2 A12.out).mono ?_);(case side1=>repeat (first|exact (by repeat (first|(with_reducible exact HR122.out)|(with_reducible refine Kd.C_alloc ?_ _)|(with_reducible refine Kd.C_drewN ?_ _)|(with_reducible refine Kd.C_drew ?_)|exact HR122.out))|(with_reducible refine Kd.C_alloc ?_ _)|(with_reducible refine Kd.C_drewN ?_ _)|(with_reducible refine Kd.C_drew ?_)));(case side2=>exact HC122.out);rintro e w18 ⟨v124,rfl,ho0,hb⟩;refine ⟨_,rfl,?_⟩;have n0_:=Aside0.mk (Kd.R_elder' (by (with_reducible repeat (first|apply Kd.R_alloc|apply Kd.R_drewN|apply Kd.R_drew));exact HO_0.out) (Kd.R_base ho0) hb);have n1_:=Aside0.mk (Kd.R_lower (Kd.R_new' (Kd.R_newM (M:=fun k_=>(P0_ k_ ∨ w.heap.size ≤ k_)) ho0 (by first|exact HK.out.1|exact (show Kept w _ (fun k_=>P0_ k_) from by repeat (first|(with_reducible first|exact HK.out|apply Kept.alloc|apply Kept.drewN|apply Kept.drew)|exact HK.out)).1) (fun k_ h_=>.inr h_)) (Kd.R_lt (by (with_reducible repeat (first|apply Kd.R_alloc|apply Kd.R_drewN|apply Kd.R_drew));exact HO_0.out))) (below_size (by repeat (first|(with_reducible first|exact HB.out|apply below_alloc|apply pw_below_drewN|apply below_drew1)|exact HB.out))));have n2_:=Aside0.mk (Kd.C_below (by repeat (first|(with_reducible exact HR122.out)|(with_reducible refine Kd.C_alloc ?_ _)|(with_reducible refine Kd.C_drewN ?_ _)|(with_reducible refine Kd.C_drew ?_)|exact HR122.out)) hb);have n3_:=Aside0.mk (Kept.below (S:=(fun k_=>P0_ k_)) (by repeat (first|(with_reducible first|exact HK.out|apply Kept.alloc|apply Kept.drewN|apply Kept.drew)|exact HK.out)) hb);have n4_:=Aside0.mk (below_step (by repeat (first|(with_reducible first|exact HB.out|apply below_alloc|apply pw_below_drewN|apply below_drew1)|exact HB.out)) hb);clear HO_0;clear HR122;clear HK;clear HB;have HO_0:=n0_;have HO125:=n1_;have HR122:=n2_;have HK:=n3_;have HB:=n4_;clear n0_ n1_ n2_ n3_ n4_;(try clear hb);(try clear hb2);(try clear hk);(try clear hi);(try clear ho0))|((with_reducible refine gate_builtin (b:=.append) (xs:=#[.tmp 37,.tmp 39]) rfl ?_);at_builtin;refine Kd.R_append (Kd.int .i64) (w0:=w0) w0.heap.size rfl (.tmp 37) (.tmp 39) 22 2 (.int .i64 0) 8 rfl Try.underlying22 info2 rfl (by decide) (by omega) v124 t123 a1 [.int .i64 a1] (fun k_=>(P0_ k_ ∨ w.heap.size ≤ k_) ∧ some k_ ≠ (.slice (some ad117) l0.length co3 : Value).ownBlock) (fun _=>False) rfl rfl ?aP (fun _ hk=>hk.elim) ?aF ?aO ?aB ?aS ?aL ?_;(case aP=>exact rfl);(case aB=>exact (by repeat (first|(with_reducible first|exact HB.out|apply below_alloc|apply pw_below_drewN|apply below_drew1)|exact HB.out)));(case aF=>exact (fun k_ hk=>⟨(.inr (Nat.le_trans (by first|exact HK.out.1|exact (show Kept w _ (fun k_=>P0_ k_) from by repeat (first|(with_reducible first|exact HK.out|apply Kept.alloc|apply Kept.drewN|apply Kept.drew)|exact HK.out)).1) hk)),Kd.fresh' (Kd.R_lt (by (with_reducible repeat (first|apply Kd.R_alloc|apply Kd.R_drewN|apply Kd.R_drew));exact HO_0.out)) k_ hk⟩));(case aO=>exact (by (with_reducible repeat (first|apply Kd.R_alloc|apply Kd.R_drewN|apply Kd.R_drew));exact Kd.R_mono HO125.out (fun _ hk=>⟨hk.1.1,hk.2⟩)));(case aS=>exact (below_size (by repeat (first|(with_reducible first|exact HB.out|apply below_alloc|apply pw_below_drewN|apply below_drew1)|exact HB.out))));(case aL=>have:=LMc13.out;omega);intro v127 w19 ho hb hg hat;rw [← Ny126.out] at ho;have n0_:=Aside0.mk (Kd.R_after (ok:=(fun k_=>(P0_ k_ ∨ w.heap.size ≤ k_))) (by (with_reducible repeat (first|apply Kd.R_alloc|apply Kd.R_drewN|apply Kd.R_drew));exact HO_0.out) hg hat);have n1_:=Aside0.mk (hb);have n2_:=Aside0.mk (Kept.of_grown (S:=(fun k_=>P0_ k_)) hg (by repeat (first|(with_reducible first|exact HK.out|apply Kept.alloc|apply Kept.drewN|apply Kept.drew)|exact HK.out)) (fun k_ e_=>(HO125.out.1 k_ e_).1.1));have n3_:=Aside0.mk ((show Kd.C (Kd.int .i64) w19 (some ad117) y119.length y119 from by rw [Ny119.out];exact Kd.C_take (m:=(x5_1 : Int).toNat) ((Kd.R_reads' (Kd.R_after (ok:=(fun k_=>(P0_ k_ ∨ w.heap.size ≤ k_))) (by (with_reducible repeat (first|apply Kd.R_alloc|apply Kd.R_drewN|apply Kd.R_drew));exact HO_0.out) hg hat)).2.2) KL17.out));have n4_:=Aside0.mk (ho);clear HO_0;clear HB;clear HK;clear HR122;clear HO125;have HO_0:=n0_;have HB:=n1_;have HK:=n2_;have HR122:=n3_;have HO128:=n4_;clear n0_ n1_ n2_ n3_ n4_;clear ho hb hg hat;have q20 : (x5_1 : Int) ≤ ((l0.length : Int) : Int):=of_decide_eq_true (by first|(with_reducible assumption)|assumption);obtain ⟨i020,hi020,_,hsz20,_⟩:=info_parts info2;have hroom20 : l0.length ≤ co3:=(Kd.R_reads' HO_0.out).2.1;have hC20 : Kd.C (Kd.int .i64) _ (some ad117) l0.length l0:=(Kd.R_reads' HO_0.out).2.2;have q020 : (0 : Int) ≤ (x5_1 : Int):=of_decide_eq_true (by first|(with_reducible assumption)|assumption);have hcut20:=cut_from (P:=Try.prog) 22 2 .i64 Try.underlying22 hi020 1 hsz20 (some ad117) l0.length co3 x5_1 q020 q20;have hr20:=Kd.C_drop (m:=(x5_1 : Int).toNat) (c:=co3) hC20 (by omega) hroom20;obtain ⟨A20,hA20⟩ : ∃ A1,A1 = (if co3 = (x5_1 : Int).toNat then (some ad117) else ((some ad117) : Option Addr).map (·.add ((x5_1 : Int).toNat * 1))):=⟨_,rfl⟩;obtain ⟨c20,hc20⟩ : ∃ c1,c1 = co3 - (x5_1 : Int).toNat:=⟨_,rfl⟩;have hy20 : y129.length = l0.length - (x5_1 : Int).toNat:=(by rw [Ny129.out,List.length_drop] <;> omega);rw [show (l0).drop (x5_1 : Int).toNat = y129 from Ny129.out.symm] at hr20;replace hr20 : Kd.C (Kd.int .i64) _ A20 y129.length y129:=(by rw [hA20];exact hr20);rw [← hy20,← hA20,← hc20] at hcut20;have HR132:=Aside0.mk hr20;have HC132:=Aside0.mk (show y129.length ≤ c20 from by rw [hy20,hc20];exact Nat.sub_le_sub_right hroom20 _);clear hr20 hC20 hroom20 hi020 hsz20 hc20;have KY20:=Aside0.mk hy20;have KA20:=Aside0.mk hA20;clear hy20 hA20;have KL20:=Aside0.mk (show (x5_1 : Int).toNat ≤ l0.length from by omega);replace q20:=eq_true q20)|((with_reducible refine gate_builtin (b:=.append) (xs:=#[.tmp 41,.tmp 44]) rfl ?_);at_builtin;refine Kd.R_append_rows (Kd.int .i64) (w0:=w0) w0.heap.size rfl (.tmp 41) (.tmp 44) 22 2 (.int .i64 0) 8 rfl Try.underlying22 info2 rfl (by decide) (by omega) v127 y126 y129 _ _ _ (fun k_=>(P0_ k_ ∨ w.heap.size ≤ k_) ∧ some k_ ≠ (.slice (some ad117) l0.length co3 : Value).ownBlock) (fun _=>False) rfl rfl ?aO ?aR (fun _ _ h=>h) (fun _ h=>h.elim) ?aF ?aB ?aS ?aL ?_;(case aR=>repeat (first|exact (by repeat (first|(with_reducible exact HR132.out)|(with_reducible refine Kd.C_alloc ?_ _)|(with_reducible refine Kd.C_drewN ?_ _)|(with_reducible refine Kd.C_drew ?_)|exact HR132.out))|(with_reducible refine Kd.C_alloc ?_ _)|(with_reducible refine Kd.C_drewN ?_ _)|(with_reducible refine Kd.C_drew ?_)));(case aB=>exact (by repeat (first|(with_reducible first|exact HB.out|apply below_alloc|apply pw_below_drewN|apply below_drew1)|exact HB.out)));(case aF=>exact (fun k_ hk=>⟨(.inr (Nat.le_trans (by first|exact HK.out.1|exact (show Kept w _ (fun k_=>P0_ k_) from by repeat (first|(with_reducible first|exact HK.out|apply Kept.alloc|apply Kept.drewN|apply Kept.drew)|exact HK.out)).1) hk)),Kd.fresh' (Kd.R_lt (by (with_reducible repeat (first|apply Kd.R_alloc|apply Kd.R_drewN|apply Kd.R_drew));exact HO_0.out)) k_ hk⟩));(case aO=>exact (by (with_reducible repeat (first|apply Kd.R_alloc|apply Kd.R_drewN|apply Kd.R_drew));exact HO128.out));(case aS=>exact (below_size (by repeat (first|(with_reducible first|exact HB.out|apply below_alloc|apply pw_below_drewN|apply below_drew1)|exact HB.out))));(case aL=>have:=LMc16.out;omega);intro v134 w21 ho hb hg hat;rw [← Ny133.out] at ho;have n0_:=Aside0.mk (Kd.R_after (ok:=(fun k_=>(P0_ k_ ∨ w.heap.size ≤ k_))) (by (with_reducible repeat (first|apply Kd.R_alloc|apply Kd.R_drewN|apply Kd.R_drew));exact HO_0.out) hg hat);have n1_:=Aside0.mk (hb);have n2_:=Aside0.mk (Kept.of_grown (S:=(fun k_=>P0_ k_)) hg (by repeat (first|(with_reducible first|exact HK.out|apply Kept.alloc|apply Kept.drewN|apply Kept.drew)|exact HK.out)) (fun k_ e_=>(HO128.out.1 k_ e_).1));have n3_:=Aside0.mk ((show Kd.C (Kd.int .i64) w21 (some ad117) y119.length y119 from by rw [Ny119.out];exact Kd.C_take (m:=(x5_1 : Int).toNat) ((Kd.R_reads' (Kd.R_after (ok:=(fun k_=>(P0_ k_ ∨ w.heap.size ≤ k_))) (by (with_reducible repeat (first|apply Kd.R_alloc|apply Kd.R_drewN|apply Kd.R_drew));exact HO_0.out) hg hat)).2.2) KL17.out));have n4_:=Aside0.mk ((show Kd.C (Kd.int .i64) w21 A20 y129.length y129 from by rw [Ny129.out,KA20.out];exact Kd.C_drop (m:=(x5_1 : Int).toNat) (c:=co3) ((Kd.R_reads' (Kd.R_after (ok:=(fun k_=>(P0_ k_ ∨ w.heap.size ≤ k_))) (by (with_reducible repeat (first|apply Kd.R_alloc|apply Kd.R_drewN|apply Kd.R_drew));exact HO_0.out) hg hat)).2.2) KL20.out ((Kd.R_reads' (Kd.R_after (ok:=(fun k_=>(P0_ k_ ∨ w.heap.size ≤ k_))) (by (with_reducible repeat (first|apply Kd.R_alloc|apply Kd.R_drewN|apply Kd.R_drew));exact HO_0.out) hg hat)).2.1)));have n5_:=Aside0.mk (ho);clear HO_0;clear HB;clear HK;clear HR122;clear HR132;clear HO128;have HO_0:=n0_;have HB:=n1_;have HK:=n2_;have HR122:=n3_;have HR132:=n4_;have HO135:=n5_;clear n0_ n1_ n2_ n3_ n4_ n5_;clear ho hb hg hat))
            go_ret
            exact ⟨_,by first|rfl|(simp [errW_none,errW_some] <;> rfl)|(simp only [← hji5];first|rfl|(simp [errW_none,errW_some] <;> rfl))|(simp [*,errW_none,errW_some] <;> rfl),by (with_reducible repeat (first|apply Kd.R_alloc|apply Kd.R_drewN|apply Kd.R_drew));exact Kd.R_mono HO135.out (fun _ hk=>hk.1),by repeat (first|(with_reducible first|exact HB.out|apply below_alloc|apply pw_below_drewN|apply below_drew1)|exact HB.out),by repeat (first|(with_reducible first|exact HK.out|apply Kept.alloc|apply Kept.drewN|apply Kept.drew)|exact HK.out)⟩
           ·rw [if_neg c16] at H
            exact absurd H (by simp)
          ·rw [if_neg c13] at H
           exact absurd H (by simp)
         ·rw [if_neg c11] at H
          exact absurd H (by simp)
        ·rw [if_neg c10] at H
         exact absurd H (by simp)
     ·rw [if_neg c7] at H
      exact absurd H (by simp)
    ·rw [if_neg c6] at H
     exact absurd H (by simp)
   ·rw [if_neg c4] at H
    have c4b0 : decide (0 < x5_1) = false:=decide_eq_false c4
    clear c4
    by_cases c22 : 0 ≤ x5_1
    ·rw [if_pos c22] at H
     have c22b0:=eq_true c22
     have c22b1 : decide (0 ≤ x5_1) = true:=decide_eq_true c22
     clear c22
     by_cases c23 : x5_1 ≤ (l0.length : Int)
     ·rw [if_pos c23] at H
      have c23b0:=eq_true c23
      have c23b1 : decide (x5_1 ≤ (l0.length : Int)) = true:=decide_eq_true c23
      clear c23
      obtain ⟨y136,hy136⟩ : ∃ y_ : List Int,y_ = (l0.take (x5_1 : Int).toNat):=⟨_,rfl⟩
      replace H : ((spec_l01Own.f y136).bind fun t140=>(if t140.length < 17592186044416 then ((some (t140 ++ [a1] : List Int)).bind fun y143=>((some (l0.drop (x5_1 : Int).toNat : List Int)).bind fun y146=>(if y143.length + y146.length < 17592186044416 then (some (y143 ++ y146)) else (none)))) else (none))) = some r:=by first|(rw [hy136];with_reducible exact H)|(have H2_:=(Option.bind_some _ _).symm.trans H;rw [hy136];with_reducible exact H2_)|(have H2_:=(Option.bind_some _ _).symm.trans H;with_reducible exact H2_)|with_reducible exact H|(rw [hy136];exact H)|exact H
      have Ny136:=Aside0.mk hy136
      clear hy136
      replace H:=Option.bind_eq_some_iff.mp H
      obtain ⟨t140,A240,H⟩:=H
      replace H : (if t140.length < 17592186044416 then ((some (t140 ++ [a1] : List Int)).bind fun y143=>((some (l0.drop (x5_1 : Int).toNat : List Int)).bind fun y146=>(if y143.length + y146.length < 17592186044416 then (some (y143 ++ y146)) else (none)))) else (none)) = some r:=H
      have A24:=Aside0.mk A240
      clear A240
      by_cases c25 : t140.length < 17592186044416
      ·rw [if_pos c25] at H
       have LMc25:=Aside0.mk c25
       clear c25
       obtain ⟨y143,hy143⟩ : ∃ y_ : List Int,y_ = (t140 ++ [a1]):=⟨_,rfl⟩
       replace H : ((some (l0.drop (x5_1 : Int).toNat : List Int)).bind fun y146=>(if y143.length + y146.length < 17592186044416 then (some (y143 ++ y146)) else (none))) = some r:=by first|(rw [hy143];with_reducible exact H)|(have H2_:=(Option.bind_some _ _).symm.trans H;rw [hy143];with_reducible exact H2_)|(have H2_:=(Option.bind_some _ _).symm.trans H;with_reducible exact H2_)|with_reducible exact H|(rw [hy143];exact H)|exact H
       have Ny143:=Aside0.mk hy143
       clear hy143
       have c26b0:=eq_true (of_decide_eq_true (by first|(with_reducible assumption)|assumption) : 0 ≤ x5_1)
       have c27b0:=eq_true (of_decide_eq_true (by first|(with_reducible assumption)|assumption) : x5_1 ≤ (l0.length : Int))
       obtain ⟨y146,hy146⟩ : ∃ y_ : List Int,y_ = (l0.drop (x5_1 : Int).toNat):=⟨_,rfl⟩
       replace H : (if y143.length + y146.length < 17592186044416 then (some (y143 ++ y146)) else (none)) = some r:=by first|(rw [hy146];with_reducible exact H)|(have H2_:=(Option.bind_some _ _).symm.trans H;rw [hy146];with_reducible exact H2_)|(have H2_:=(Option.bind_some _ _).symm.trans H;with_reducible exact H2_)|with_reducible exact H|(rw [hy146];exact H)|exact H
       have Ny146:=Aside0.mk hy146
       clear hy146
       by_cases c28 : y143.length + y146.length < 17592186044416
       ·rw [if_pos c28] at H
        have LMc28:=Aside0.mk c28
        clear c28
        obtain ⟨y150,hy150⟩ : ∃ y_ : List Int,y_ = (y143 ++ y146):=⟨_,rfl⟩
        replace H : (some y150) = some r:=by first|(rw [hy150];with_reducible exact H)|(have H2_:=(Option.bind_some _ _).symm.trans H;rw [hy150];with_reducible exact H2_)|(have H2_:=(Option.bind_some _ _).symm.trans H;with_reducible exact H2_)|with_reducible exact H|(rw [hy150];exact H)|exact H
        have Ny150:=Aside0.mk hy150
        clear hy150
        obtain rfl:=Option.some.inj H
        have q29 : (x5_1 : Int) ≤ ((l0.length : Int) : Int):=of_decide_eq_true (by first|(with_reducible assumption)|assumption)
        obtain ⟨i029,hi029,_,hsz29,_⟩:=info_parts info2
        have hroom29 : l0.length ≤ co3:=(Kd.R_reads' HO_0.out).2.1
        have hC29 : Kd.C (Kd.int .i64) _ Ao3 l0.length l0:=(Kd.R_reads' HO_0.out).2.2
        have hcut29:=cut_to (P:=Try.prog) 22 2 .i64 Try.underlying22 hi029 Ao3 l0.length co3 x5_1 (of_decide_eq_true (by first|(with_reducible assumption)|assumption)) q29 hroom29
        have hr29:=Kd.C_take (m:=(x5_1 : Int).toNat) hC29 (by omega)
        have hy29 : y136.length = (x5_1 : Int).toNat:=(by rw [Ny136.out,List.length_take];omega)
        rw [← Ny136.out] at hr29
        rw [← hy29] at hcut29
        have HR139:=Aside0.mk hr29
        have HC139:=Aside0.mk (show y136.length ≤ co3 from by omega)
        clear hr29 hC29 hroom29 hi029 hsz29
        have KY29:=Aside0.mk hy29
        clear hy29
        have KL29:=Aside0.mk (show (x5_1 : Int).toNat ≤ l0.length from by omega)
        replace q29:=eq_true q29
        go_wp2_with (first|((with_reducible refine gate_callee (f:=71) rfl ?_);refine goesL_ (some 37) rfl rfl Try.func71 (by kernel_rfl) rfl #[.slice Ao3 y136.length co3] rfl (by (try simp only [List.map_toArray,List.map_cons,List.map_nil]);first|done|rfl|(simp only [List.length_drop,List.length_take];rfl)) ?_;(with_reducible refine (spec_l01Own.calls _ _ y136 t140 _ ?side1 ?side2 A24.out).mono ?_);(case side1=>repeat (first|exact (by repeat (first|(with_reducible exact HR139.out)|(with_reducible refine Kd.C_alloc ?_ _)|(with_reducible refine Kd.C_drewN ?_ _)|(with_reducible refine Kd.C_drew ?_)|exact HR139.out))|(with_reducible refine Kd.C_alloc ?_ _)|(with_reducible refine Kd.C_drewN ?_ _)|(with_reducible refine Kd.C_drew ?_)));(case side2=>exact HC139.out);rintro e w30 ⟨v141,rfl,ho0,hb⟩;refine ⟨_,rfl,?_⟩;have n0_:=Aside0.mk (Kd.R_elder' (by (with_reducible repeat (first|apply Kd.R_alloc|apply Kd.R_drewN|apply Kd.R_drew));exact HO_0.out) (Kd.R_base ho0) hb);have n1_:=Aside0.mk (Kd.R_lower (Kd.R_new' (Kd.R_newM (M:=fun k_=>(P0_ k_ ∨ w.heap.size ≤ k_)) ho0 (by first|exact HK.out.1|exact (show Kept w _ (fun k_=>P0_ k_) from by repeat (first|(with_reducible first|exact HK.out|apply Kept.alloc|apply Kept.drewN|apply Kept.drew)|exact HK.out)).1) (fun k_ h_=>.inr h_)) (Kd.R_lt (by (with_reducible repeat (first|apply Kd.R_alloc|apply Kd.R_drewN|apply Kd.R_drew));exact HO_0.out))) (below_size (by repeat (first|(with_reducible first|exact HB.out|apply below_alloc|apply pw_below_drewN|apply below_drew1)|exact HB.out))));have n2_:=Aside0.mk (Kd.C_below (by repeat (first|(with_reducible exact HR139.out)|(with_reducible refine Kd.C_alloc ?_ _)|(with_reducible refine Kd.C_drewN ?_ _)|(with_reducible refine Kd.C_drew ?_)|exact HR139.out)) hb);have n3_:=Aside0.mk (Kept.below (S:=(fun k_=>P0_ k_)) (by repeat (first|(with_reducible first|exact HK.out|apply Kept.alloc|apply Kept.drewN|apply Kept.drew)|exact HK.out)) hb);have n4_:=Aside0.mk (below_step (by repeat (first|(with_reducible first|exact HB.out|apply below_alloc|apply pw_below_drewN|apply below_drew1)|exact HB.out)) hb);clear HO_0;clear HR139;clear HK;clear HB;have HO_0:=n0_;have HO142:=n1_;have HR139:=n2_;have HK:=n3_;have HB:=n4_;clear n0_ n1_ n2_ n3_ n4_;(try clear hb);(try clear hb2);(try clear hk);(try clear hi);(try clear ho0))|((with_reducible refine gate_builtin (b:=.append) (xs:=#[.tmp 37,.tmp 39]) rfl ?_);at_builtin;refine Kd.R_append (Kd.int .i64) (w0:=w0) w0.heap.size rfl (.tmp 37) (.tmp 39) 22 2 (.int .i64 0) 8 rfl Try.underlying22 info2 rfl (by decide) (by omega) v141 t140 a1 [.int .i64 a1] (fun k_=>(P0_ k_ ∨ w.heap.size ≤ k_) ∧ some k_ ≠ (.slice Ao3 l0.length co3 : Value).ownBlock) (fun _=>False) rfl rfl ?aP (fun _ hk=>hk.elim) ?aF ?aO ?aB ?aS ?aL ?_;(case aP=>exact rfl);(case aB=>exact (by repeat (first|(with_reducible first|exact HB.out|apply below_alloc|apply pw_below_drewN|apply below_drew1)|exact HB.out)));(case aF=>exact (fun k_ hk=>⟨(.inr (Nat.le_trans (by first|exact HK.out.1|exact (show Kept w _ (fun k_=>P0_ k_) from by repeat (first|(with_reducible first|exact HK.out|apply Kept.alloc|apply Kept.drewN|apply Kept.drew)|exact HK.out)).1) hk)),Kd.fresh' (Kd.R_lt (by (with_reducible repeat (first|apply Kd.R_alloc|apply Kd.R_drewN|apply Kd.R_drew));exact HO_0.out)) k_ hk⟩));(case aO=>exact (by (with_reducible repeat (first|apply Kd.R_alloc|apply Kd.R_drewN|apply Kd.R_drew));exact Kd.R_mono HO142.out (fun _ hk=>⟨hk.1.1,hk.2⟩)));(case aS=>exact (below_size (by repeat (first|(with_reducible first|exact HB.out|apply below_alloc|apply pw_below_drewN|apply below_drew1)|exact HB.out))));(case aL=>have:=LMc25.out;omega);intro v144 w31 ho hb hg hat;rw [← Ny143.out] at ho;have n0_:=Aside0.mk (Kd.R_after (ok:=(fun k_=>(P0_ k_ ∨ w.heap.size ≤ k_))) (by (with_reducible repeat (first|apply Kd.R_alloc|apply Kd.R_drewN|apply Kd.R_drew));exact HO_0.out) hg hat);have n1_:=Aside0.mk (hb);have n2_:=Aside0.mk (Kept.of_grown (S:=(fun k_=>P0_ k_)) hg (by repeat (first|(with_reducible first|exact HK.out|apply Kept.alloc|apply Kept.drewN|apply Kept.drew)|exact HK.out)) (fun k_ e_=>(HO142.out.1 k_ e_).1.1));have n3_:=Aside0.mk ((show Kd.C (Kd.int .i64) w31 Ao3 y136.length y136 from by rw [Ny136.out];exact Kd.C_take (m:=(x5_1 : Int).toNat) ((Kd.R_reads' (Kd.R_after (ok:=(fun k_=>(P0_ k_ ∨ w.heap.size ≤ k_))) (by (with_reducible repeat (first|apply Kd.R_alloc|apply Kd.R_drewN|apply Kd.R_drew));exact HO_0.out) hg hat)).2.2) KL29.out));have n4_:=Aside0.mk (ho);clear HO_0;clear HB;clear HK;clear HR139;clear HO142;have HO_0:=n0_;have HB:=n1_;have HK:=n2_;have HR139:=n3_;have HO145:=n4_;clear n0_ n1_ n2_ n3_ n4_;clear ho hb hg hat;have q32 : (x5_1 : Int) ≤ ((l0.length : Int) : Int):=of_decide_eq_true (by first|(with_reducible assumption)|assumption);obtain ⟨i032,hi032,_,hsz32,_⟩:=info_parts info2;have hroom32 : l0.length ≤ co3:=(Kd.R_reads' HO_0.out).2.1;have hC32 : Kd.C (Kd.int .i64) _ Ao3 l0.length l0:=(Kd.R_reads' HO_0.out).2.2;have q032 : (0 : Int) ≤ (x5_1 : Int):=of_decide_eq_true (by first|(with_reducible assumption)|assumption);have hcut32:=cut_from (P:=Try.prog) 22 2 .i64 Try.underlying22 hi032 1 hsz32 Ao3 l0.length co3 x5_1 q032 q32;have hr32:=Kd.C_drop (m:=(x5_1 : Int).toNat) (c:=co3) hC32 (by omega) hroom32;obtain ⟨A32,hA32⟩ : ∃ A1,A1 = (if co3 = (x5_1 : Int).toNat then Ao3 else (Ao3 : Option Addr).map (·.add ((x5_1 : Int).toNat * 1))):=⟨_,rfl⟩;obtain ⟨c32,hc32⟩ : ∃ c1,c1 = co3 - (x5_1 : Int).toNat:=⟨_,rfl⟩;have hy32 : y146.length = l0.length - (x5_1 : Int).toNat:=(by rw [Ny146.out,List.length_drop] <;> omega);rw [show (l0).drop (x5_1 : Int).toNat = y146 from Ny146.out.symm] at hr32;replace hr32 : Kd.C (Kd.int .i64) _ A32 y146.length y146:=(by rw [hA32];exact hr32);rw [← hy32,← hA32,← hc32] at hcut32;have HR149:=Aside0.mk hr32;have HC149:=Aside0.mk (show y146.length ≤ c32 from by rw [hy32,hc32];exact Nat.sub_le_sub_right hroom32 _);clear hr32 hC32 hroom32 hi032 hsz32 hc32;have KY32:=Aside0.mk hy32;have KA32:=Aside0.mk hA32;clear hy32 hA32;have KL32:=Aside0.mk (show (x5_1 : Int).toNat ≤ l0.length from by omega);replace q32:=eq_true q32)|((with_reducible refine gate_builtin (b:=.append) (xs:=#[.tmp 41,.tmp 44]) rfl ?_);at_builtin;refine Kd.R_append_rows (Kd.int .i64) (w0:=w0) w0.heap.size rfl (.tmp 41) (.tmp 44) 22 2 (.int .i64 0) 8 rfl Try.underlying22 info2 rfl (by decide) (by omega) v144 y143 y146 _ _ _ (fun k_=>(P0_ k_ ∨ w.heap.size ≤ k_) ∧ some k_ ≠ (.slice Ao3 l0.length co3 : Value).ownBlock) (fun _=>False) rfl rfl ?aO ?aR (fun _ _ h=>h) (fun _ h=>h.elim) ?aF ?aB ?aS ?aL ?_;(case aR=>repeat (first|exact (by repeat (first|(with_reducible exact HR149.out)|(with_reducible refine Kd.C_alloc ?_ _)|(with_reducible refine Kd.C_drewN ?_ _)|(with_reducible refine Kd.C_drew ?_)|exact HR149.out))|(with_reducible refine Kd.C_alloc ?_ _)|(with_reducible refine Kd.C_drewN ?_ _)|(with_reducible refine Kd.C_drew ?_)));(case aB=>exact (by repeat (first|(with_reducible first|exact HB.out|apply below_alloc|apply pw_below_drewN|apply below_drew1)|exact HB.out)));(case aF=>exact (fun k_ hk=>⟨(.inr (Nat.le_trans (by first|exact HK.out.1|exact (show Kept w _ (fun k_=>P0_ k_) from by repeat (first|(with_reducible first|exact HK.out|apply Kept.alloc|apply Kept.drewN|apply Kept.drew)|exact HK.out)).1) hk)),Kd.fresh' (Kd.R_lt (by (with_reducible repeat (first|apply Kd.R_alloc|apply Kd.R_drewN|apply Kd.R_drew));exact HO_0.out)) k_ hk⟩));(case aO=>exact (by (with_reducible repeat (first|apply Kd.R_alloc|apply Kd.R_drewN|apply Kd.R_drew));exact HO145.out));(case aS=>exact (below_size (by repeat (first|(with_reducible first|exact HB.out|apply below_alloc|apply pw_below_drewN|apply below_drew1)|exact HB.out))));(case aL=>have:=LMc28.out;omega);intro v151 w33 ho hb hg hat;rw [← Ny150.out] at ho;have n0_:=Aside0.mk (Kd.R_after (ok:=(fun k_=>(P0_ k_ ∨ w.heap.size ≤ k_))) (by (with_reducible repeat (first|apply Kd.R_alloc|apply Kd.R_drewN|apply Kd.R_drew));exact HO_0.out) hg hat);have n1_:=Aside0.mk (hb);have n2_:=Aside0.mk (Kept.of_grown (S:=(fun k_=>P0_ k_)) hg (by repeat (first|(with_reducible first|exact HK.out|apply Kept.alloc|apply Kept.drewN|apply Kept.drew)|exact HK.out)) (fun k_ e_=>(HO145.out.1 k_ e_).1));have n3_:=Aside0.mk ((show Kd.C (Kd.int .i64) w33 Ao3 y136.length y136 from by rw [Ny136.out];exact Kd.C_take (m:=(x5_1 : Int).toNat) ((Kd.R_reads' (Kd.R_after (ok:=(fun k_=>(P0_ k_ ∨ w.heap.size ≤ k_))) (by (with_reducible repeat (first|apply Kd.R_alloc|apply Kd.R_drewN|apply Kd.R_drew));exact HO_0.out) hg hat)).2.2) KL29.out));have n4_:=Aside0.mk ((show Kd.C (Kd.int .i64) w33 A32 y146.length y146 from by rw [Ny146.out,KA32.out];exact Kd.C_drop (m:=(x5_1 : Int).toNat) (c:=co3) ((Kd.R_reads' (Kd.R_after (ok:=(fun k_=>(P0_ k_ ∨ w.heap.size ≤ k_))) (by (with_reducible repeat (first|apply Kd.R_alloc|apply Kd.R_drewN|apply Kd.R_drew));exact HO_0.out) hg hat)).2.2) KL32.out ((Kd.R_reads' (Kd.R_after (ok:=(fun k_=>(P0_ k_ ∨ w.heap.size ≤ k_))) (by (with_reducible repeat (first|apply Kd.R_alloc|apply Kd.R_drewN|apply Kd.R_drew));exact HO_0.out) hg hat)).2.1)));have n5_:=Aside0.mk (ho);clear HO_0;clear HB;clear HK;clear HR139;clear HR149;clear HO145;have HO_0:=n0_;have HB:=n1_;have HK:=n2_;have HR139:=n3_;have HR149:=n4_;have HO152:=n5_;clear n0_ n1_ n2_ n3_ n4_ n5_;clear ho hb hg hat))
        go_ret
        exact ⟨_,by first|rfl|(simp [errW_none,errW_some] <;> rfl)|(simp [*,errW_none,errW_some] <;> rfl),by (with_reducible repeat (first|apply Kd.R_alloc|apply Kd.R_drewN|apply Kd.R_drew));exact Kd.R_mono HO152.out (fun _ hk=>hk.1),by repeat (first|(with_reducible first|exact HB.out|apply below_alloc|apply pw_below_drewN|apply below_drew1)|exact HB.out),by repeat (first|(with_reducible first|exact HK.out|apply Kept.alloc|apply Kept.drewN|apply Kept.drew)|exact HK.out)⟩
       ·rw [if_neg c28] at H
        exact absurd H (by simp)
      ·rw [if_neg c25] at H
       exact absurd H (by simp)
     ·rw [if_neg c23] at H
      exact absurd H (by simp)
    ·rw [if_neg c22] at H
     exact absurd H (by simp)

end Go.Proofs.Ytankgbfddgpfmaa.PAll
