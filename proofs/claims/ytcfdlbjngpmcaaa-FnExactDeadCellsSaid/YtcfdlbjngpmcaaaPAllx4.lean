-- Written by wip/pp.py of this work (a driver around the kit's print), out of the translation; Lean checks it.
import Derived.Test.YtcfdlbjngpmcaaaPAllx0
import Derived.Test.YtcfdlbjngpmcaaaPAllx1
import Derived.Test.YtcfdlbjngpmcaaaPAllx2
import Derived.Test.YtcfdlbjngpmcaaaPAllx3
namespace Go.Proofs.Ytcfdlbjngpmcaaa.PAll
open Go.RowKit Go.Proofs.YtcfdlbjngpmcaaaW.PrintWords Go.Proofs.YtcfdlbjngpmcaaaW.PrintLast Go.Proofs.YtcfdlbjngpmcaaaW.PrintMore
attribute [local go_sem] max2_int min2_int max_two min_two max_three min_three max_four min_four   -- for this text's walks alone
set_option linter.unusedVariables false
set_option linter.unusedSimpArgs false

/-! ### spec_l06Joiner: function 39 -/
def spec_l06Joiner.l0 : Nat → Int → List Int → Int → Option (Int)
 | 0, _, _, _ => none
 | k + 1, x0, x1, x5 => if x5 < 3 then ((spec_l06Joins.f k x0 x1 x5).bind fun t182 => (if t182 = true then (some x5) else (spec_l06Joiner.l0 k x0 x1 (wrap64 (x5 + 1))))) else (some 0)
def spec_l06Joiner.f (k : Nat) (a0 : Int) (l1 : List Int) : Option (Int) := spec_l06Joiner.l0 k a0 l1 1
set_option maxHeartbeats 8000000 in
set_option maxRecDepth 100000 in
theorem spec_l06Joiner.calls (k : Nat) (a0 : Int) (A1 : Option Addr) (c1 : Nat) (l1 : List Int) (r : Int) (w : World) (hr1 : Kd.C (Kd.int .i64) w A1 l1.length l1) (hc1 : l1.length ≤ c1) (h : spec_l06Joiner.f k a0 l1 = some r) :
  Calls Try.prog 39 #[.int .i64 a0,.slice A1 l1.length c1] w fun e w'=>e = .returned (.int .i64 r) ∧ Below w.heap.size w w':=by
 have HR1:=Aside0.mk hr1
 have HC1:=Aside0.mk hc1
 clear hr1 hc1
 have HB:=Aside0.mk (Below.refl w.heap.size w)
 have H : (spec_l06Joiner.l0 k a0 l1 1) = some r:=h
 clear h
 have H':=Aside0.mk H
 clear H
 go_enter Try.func39,Try.ntmps39
 go_wp2
 go_loopg [5] k (fun kq v5 w'=>∃ (x5_1 : Int),v5 = .int .i64 x5_1 ∧ Aside0 (spec_l06Joiner.l0 kq a0 l1 x5_1 = some r) ∧ Aside0 (kq ≤ k) ∧ Aside0 (Below w.heap.size w w'))
 case atStart=>exact ⟨(1),(by first|rfl|(simp;done)|(simp [*];done)),H',⟨Nat.le_refl _⟩,⟨by repeat (first|(with_reducible first|exact HB.out|apply below_alloc|apply pw_below_drewN|apply below_drew1)|exact HB.out)⟩⟩
 case round =>
  clear H'
  try clear c1
  try clear p2
  obtain ⟨x5_1,rfl,HA,HK1,HB⟩:=hrel
  cases gk with
  | zero => exact absurd HA.out (by simp [spec_l06Joiner.l0])
  | succ k1 =>
   have H:=HA.out
   clear HA
   simp only [spec_l06Joiner.l0] at H
   by_cases c3 : x5_1 < 3
   ·rw [if_pos c3] at H
    have c3b0 : decide (x5_1 < 3) = true:=decide_eq_true c3
    clear c3
    replace H:=Option.bind_eq_some_iff.mp H
    obtain ⟨t182,A40,H⟩:=H
    replace H : (if t182 = true then (some x5_1) else (spec_l06Joiner.l0 k1 a0 l1 (wrap64 (x5_1 + 1)))) = some r:=H
    have A4:=Aside0.mk A40
    clear A40
    by_cases c5 : t182 = true
    ·subst c5
     have H1 : (some x5_1) = some r:=by rw [if_pos rfl] at H;exact H
     clear H
     have H:=H1
     clear H1
     obtain rfl:=Option.some.inj H
     go_wp2_with (first|((with_reducible refine gate_callee (f:=64) rfl ?_);refine goesL_ (some 13) rfl rfl Try.func64 (by kernel_rfl) rfl #[.int .i64 a0,.slice A1 l1.length c1,.int .i64 x5_1] rfl (by (try simp only [List.map_toArray,List.map_cons,List.map_nil]);first|done|rfl|(simp only [List.length_drop,List.length_take];rfl)) ?_;(with_reducible refine (spec_l06Joins.calls k1 a0 _ _ l1 x5_1 true _ ?side1 ?side2 A4.out).mono ?_);(case side1=>repeat (first|exact (Kd.C_below HR1.out HB.out)|(with_reducible refine Kd.C_alloc ?_ _)|(with_reducible refine Kd.C_drewN ?_ _)|(with_reducible refine Kd.C_drew ?_)));(case side2=>exact HC1.out);rintro e w6 ⟨rfl,hb⟩;refine ⟨_,rfl,?_⟩;have n0_:=Aside0.mk (below_step (by repeat (first|(with_reducible first|exact HB.out|apply below_alloc|apply pw_below_drewN|apply below_drew1)|exact HB.out)) hb);clear HB;have HB:=n0_;clear n0_;(try clear hb);(try clear hb2);(try clear hk);(try clear hi)))
     go_ret
     exact ⟨by first|rfl|(simp [errW_none,errW_some] <;> rfl)|(simp [*,errW_none,errW_some] <;> rfl),by repeat (first|(with_reducible first|exact HB.out|apply below_alloc|apply pw_below_drewN|apply below_drew1)|exact HB.out)⟩
    ·replace c5:=Bool.eq_false_iff.mpr c5
     subst c5
     have H1 : (spec_l06Joiner.l0 k1 a0 l1 (wrap64 (x5_1 + 1))) = some r:=by rw [if_neg (show ¬ (false = true) by decide)] at H;exact H
     clear H
     have H:=H1
     clear H1
     have H':=Aside0.mk H
     clear H
     go_wp2_with (first|((with_reducible refine gate_callee (f:=64) rfl ?_);refine goesL_ (some 13) rfl rfl Try.func64 (by kernel_rfl) rfl #[.int .i64 a0,.slice A1 l1.length c1,.int .i64 x5_1] rfl (by (try simp only [List.map_toArray,List.map_cons,List.map_nil]);first|done|rfl|(simp only [List.length_drop,List.length_take];rfl)) ?_;(with_reducible refine (spec_l06Joins.calls k1 a0 _ _ l1 x5_1 false _ ?side1 ?side2 A4.out).mono ?_);(case side1=>repeat (first|exact (Kd.C_below HR1.out HB.out)|(with_reducible refine Kd.C_alloc ?_ _)|(with_reducible refine Kd.C_drewN ?_ _)|(with_reducible refine Kd.C_drew ?_)));(case side2=>exact HC1.out);rintro e w7 ⟨rfl,hb⟩;refine ⟨_,rfl,?_⟩;have n0_:=Aside0.mk (below_step (by repeat (first|(with_reducible first|exact HB.out|apply below_alloc|apply pw_below_drewN|apply below_drew1)|exact HB.out)) hb);clear HB;have HB:=n0_;clear n0_;(try clear hb);(try clear hb2);(try clear hk);(try clear hi)))
     go_roundg k1
     case measure=>have:=HK1.out;omega
     case rel=>exact ⟨(wrap64 (x5_1 + 1)),(by first|rfl|(simp;done)|(simp [*];done)),H',⟨by have:=HK1.out;omega⟩,⟨by repeat (first|(with_reducible first|exact HB.out|apply below_alloc|apply pw_below_drewN|apply below_drew1)|exact HB.out)⟩⟩
   ·rw [if_neg c3] at H
    have c3b0 : decide (x5_1 < 3) = false:=decide_eq_false c3
    clear c3
    obtain rfl:=Option.some.inj H
    go_wp2
    go_ret
    exact ⟨by first|rfl|(simp [errW_none,errW_some] <;> rfl)|(simp [*,errW_none,errW_some] <;> rfl),by repeat (first|(with_reducible first|exact HB.out|apply below_alloc|apply pw_below_drewN|apply below_drew1)|exact HB.out)⟩

/-! ### spec_DeadCells: function 6 -/
mutual
def spec_DeadCells.l0 : Nat → List Int → List Int → Int → Int → List Int → Option (List Int × Int)
 | 0, _, _, _, _, _ => none
 | k + 1, x6, x8, x9, x184000, x184001 => if x9 < (x6.length : Int) then (spec_DeadCells.l1 k x6 x8 x9 true 0 x184000 x184001) else (some (x8, 0))
def spec_DeadCells.l1 : Nat → List Int → List Int → Int → Bool → Int → Int → List Int → Option (List Int × Int)
 | 0, _, _, _, _, _, _, _ => none
 | k + 1, x6, x8, x9, x10, x11, x184000, x184001 => if 0 ≤ (IntKind.u64.wrap ((x6.length : Int))) then (if x11 < (shl .i64 1 (IntKind.u64.wrap ((x6.length : Int)))) then (spec_DeadCells.j2 k x6 x8 x9 x10 x11 x10 x184000 x184001) else (spec_DeadCells.j2 k x6 x8 x9 x10 x11 false x184000 x184001)) else (none)
def spec_DeadCells.j2 : Nat → List Int → List Int → Int → Bool → Int → Bool → Int → List Int → Option (List Int × Int)
 | 0, _, _, _, _, _, _, _, _ => none
 | k + 1, x6, x8, x9, x10, x11, x45, x184000, x184001 => if x45 = true then (if 0 ≤ (IntKind.u64.wrap (x9)) then (if (Go.bits .and .i64 (shr .i64 x11 (IntKind.u64.wrap (x9))) 1) = 1 then (spec_DeadCells.l1 k x6 x8 x9 x10 (wrap64 (x11 + 1)) x184000 x184001) else ((spec_l01Own.f x184001).bind fun t200 => (spec_DeadCells.l2 k x6 x8 x9 x11 t200 0 x184000 x184001))) else (none)) else (if x10 = true then (if 0 ≤ x9 then (if x9 < (x6.length : Int) then (if x8.length < 17592186044416 then (spec_DeadCells.l0 k x6 (x8 ++ [rd x6 x9]) (wrap64 (x9 + 1)) x184000 x184001) else (none)) else (none)) else (none)) else (spec_DeadCells.l0 k x6 x8 (wrap64 (x9 + 1)) x184000 x184001))
def spec_DeadCells.l2 : Nat → List Int → List Int → Int → Int → List Int → Int → Int → List Int → Option (List Int × Int)
 | 0, _, _, _, _, _, _, _, _ => none
 | k + 1, x6, x8, x9, x11, x12, x13, x184000, x184001 => if x13 < (x6.length : Int) then (if 0 ≤ x13 then (if 0 ≤ (IntKind.u64.wrap (x13)) then (if 0 ≤ (rd x6 x13) then (if (rd x6 x13) < (x12.length : Int) then (spec_DeadCells.l2 k x6 x8 x9 x11 (x12.set ((rd x6 x13) : Int).toNat (wrap64 (1 + (Go.bits .and .i64 (shr .i64 x11 (IntKind.u64.wrap (x13))) 1)))) (wrap64 (x13 + 1)) x184000 x184001) else (none)) else (none)) else (none)) else (none)) else ((spec_l06Joiner.f k x184000 x12).bind fun t205 => (if 0 ≤ x9 then (if x9 < (x6.length : Int) then (if 0 ≤ (rd x6 x9) then (if (rd x6 x9) < (x12.length : Int) then ((spec_l06Joiner.f k x184000 (x12.set ((rd x6 x9) : Int).toNat 2)).bind fun t208 => (spec_DeadCells.l1 k x6 x8 x9 (t205 == t208) (wrap64 (x11 + 1)) x184000 x184001)) else (none)) else (none)) else (none)) else (none)))
end
def spec_DeadCells.f (k : Nat) (a0_0 : Int) (l0_1 : List Int) : Option (List Int × Int) := (spec_l06Is.f k a0_0 l0_1).bind fun t184 => (if t184 = true then ((spec_l06Mover.f k a0_0 l0_1).bind fun bt185 => (if bt185.2 > 9 then (some (([] : List Int), 3)) else ((spec_l06Empty.f k a0_0 l0_1).bind fun bt187 => (spec_DeadCells.l0 k bt187.1 (([] : List Int)) 0 a0_0 l0_1)))) else (some (([] : List Int), 1)))
set_option maxHeartbeats 8000000 in
set_option maxRecDepth 100000 in
theorem spec_DeadCells.calls (k : Nat) (a0_0 : Int) (A0_1 : Option Addr) (c0_1 : Nat) (l0_1 : List Int) (r1 : List Int) (r2 : Int) (w : World) (hr0_1 : Kd.C (Kd.int .i64) w A0_1 l0_1.length l0_1) (hc0_1 : l0_1.length ≤ c0_1) (h : spec_DeadCells.f k a0_0 l0_1 = some (r1, r2)) :
  Calls Try.prog 6 #[.agg #[.int .i64 a0_0,.slice A0_1 l0_1.length c0_1]] w fun e w'=>∃ v0_ : Value,e = .returned (.tuple #[v0_,.int .i64 r2]) ∧ Kd.R (Kd.int .i64) 2 w' w.heap.size (fun _=>True) v0_ r1 ∧ Below w.heap.size w w':=by
 have hu28:=Try.underlying28
 have HR0_1:=Aside0.mk hr0_1
 have HC0_1:=Aside0.mk hc0_1
 clear hr0_1 hc0_1
 have HB:=Aside0.mk (Below.refl w.heap.size w)
 have H : ((spec_l06Is.f k a0_0 l0_1).bind fun t184=>(if t184 = true then ((spec_l06Mover.f k a0_0 l0_1).bind fun bt185=>(if bt185.2 > 9 then (some (([] : List Int),3)) else ((spec_l06Empty.f k a0_0 l0_1).bind fun bt187=>(spec_DeadCells.l0 k bt187.1 (([] : List Int)) 0 a0_0 l0_1)))) else (some (([] : List Int),1)))) = some (r1,r2):=h
 clear h
 replace H:=Option.bind_eq_some_iff.mp H
 obtain ⟨t184,A20,H⟩:=H
 replace H : (if t184 = true then ((spec_l06Mover.f k a0_0 l0_1).bind fun bt185=>(if bt185.2 > 9 then (some (([] : List Int),3)) else ((spec_l06Empty.f k a0_0 l0_1).bind fun bt187=>(spec_DeadCells.l0 k bt187.1 (([] : List Int)) 0 a0_0 l0_1)))) else (some (([] : List Int),1))) = some (r1,r2):=H
 have A2:=Aside0.mk A20
 clear A20
 by_cases c3 : t184 = true
 ·subst c3
  have H1 : ((spec_l06Mover.f k a0_0 l0_1).bind fun bt185=>(if bt185.2 > 9 then (some (([] : List Int),3)) else ((spec_l06Empty.f k a0_0 l0_1).bind fun bt187=>(spec_DeadCells.l0 k bt187.1 (([] : List Int)) 0 a0_0 l0_1)))) = some (r1,r2):=by rw [if_pos rfl] at H;exact H
  clear H
  have H:=H1
  clear H1
  replace H:=Option.bind_eq_some_iff.mp H
  obtain ⟨⟨t185,t186⟩,A40,H⟩:=H
  replace H : (if t186 > 9 then (some (([] : List Int),3)) else ((spec_l06Empty.f k a0_0 l0_1).bind fun bt187=>(spec_DeadCells.l0 k bt187.1 (([] : List Int)) 0 a0_0 l0_1))) = some (r1,r2):=H
  have A4:=Aside0.mk A40
  clear A40
  by_cases c5 : t186 > 9
  ·rw [if_pos c5] at H
   have c5b0 : decide (9 < t186) = true:=decide_eq_true c5
   clear c5
   simp only [Option.some.injEq,Prod.mk.injEq] at H
   obtain ⟨rfl,rfl⟩:=H
   go_enter Try.func6,Try.ntmps6
   go_wp2_with (first|((with_reducible refine gate_dst (N:=1) rfl ?_);refine box_event ?hg (N:=1) ?hd (cs:=#[.int .i64 a0_0,.slice A0_1 l0_1.length c0_1]) (t:=28) ?hr ?_;(case hd=>rfl);(case hg=>rfl);(case hr=>first|(go_simp;done)|(go_simp;rfl));intro gb183 hg w6 hbox hb;have n0_:=Aside0.mk (below_step (by repeat (first|(with_reducible first|exact HB.out|apply below_alloc|apply pw_below_drewN|apply below_drew1)|exact HB.out)) hb);have n1_:=Aside0.mk (hbox);have n2_:=Aside0.mk ((by rw [hg];exact (below_size (by repeat (first|(with_reducible first|exact HB.out|apply below_alloc|apply pw_below_drewN|apply below_drew1)|exact HB.out))) : w.heap.size ≤ gb183));have n3_:=Aside0.mk ((by rw [hg];exact (below_size (by repeat (first|(with_reducible first|exact HB.out|apply below_alloc|apply pw_below_drewN|apply below_drew1)|exact HB.out))) : w.heap.size ≤ gb183));clear HB;have HB:=n0_;have BK183:=n1_;have GW183:=n2_;have GE183:=n3_;clear n0_ n1_ n2_ n3_;clear hb hbox hg;have hcz7_0 : w6.cell? ⟨gb183,0,none⟩ = some (.int .i64 a0_0):=(blk_cell BK183.out 0).trans rfl;have hcz7_1 : w6.cell? ⟨gb183,1,none⟩ = some (.slice A0_1 l0_1.length c0_1):=(blk_cell BK183.out 1).trans rfl;have hfz7_0:=blk_frozen BK183.out 0;have hfz7_1:=blk_frozen BK183.out 1)|((with_reducible refine gate_callee (f:=35) rfl ?_);refine goesL_ (some 16) rfl rfl Try.func35 (by kernel_rfl) rfl #[.agg #[.int .i64 a0_0,.slice A0_1 l0_1.length c0_1]] rfl (by (try simp only [List.map_toArray,List.map_cons,List.map_nil]);first|done|rfl|(simp only [List.length_drop,List.length_take];rfl)) ?_;(with_reducible refine (spec_l06Is.calls k a0_0 _ _ l0_1 true _ ?side1 ?side2 A2.out).mono ?_);(case side1=>repeat (first|exact (Kd.C_below HR0_1.out HB.out)|(with_reducible refine Kd.C_alloc ?_ _)|(with_reducible refine Kd.C_drewN ?_ _)|(with_reducible refine Kd.C_drew ?_)));(case side2=>exact HC0_1.out);rintro e w8 ⟨rfl,hb⟩;refine ⟨_,rfl,?_⟩;have n0_:=Aside0.mk (blk_below (g:=gb183) (o:=.cells #[.int .i64 a0_0,.slice A0_1 l0_1.length c0_1] 28 (0,0)) (by (with_reducible repeat (first|refine blk_drewN ?_ _|refine blk_drew ?_|refine blk_alloc ?_ _));exact BK183.out) hb);have n1_:=Aside0.mk (below_step (by repeat (first|(with_reducible first|exact HB.out|apply below_alloc|apply pw_below_drewN|apply below_drew1|refine below_set ?_ GE183.out)|exact HB.out)) hb);clear BK183;clear HB;have BK183:=n0_;have HB:=n1_;clear n0_ n1_;(try clear hb);(try clear hb2);(try clear hk);(try clear hi);have hcz9_0 : w8.cell? ⟨gb183,0,none⟩ = some (.int .i64 a0_0):=(blk_cell BK183.out 0).trans rfl;have hcz9_1 : w8.cell? ⟨gb183,1,none⟩ = some (.slice A0_1 l0_1.length c0_1):=(blk_cell BK183.out 1).trans rfl;have hfz9_0:=blk_frozen BK183.out 0;have hfz9_1:=blk_frozen BK183.out 1)|((with_reducible refine gate_callee (f:=36) rfl ?_);refine goesL_ (some 20) rfl rfl Try.func36 (by kernel_rfl) rfl #[.agg #[.int .i64 a0_0,.slice A0_1 l0_1.length c0_1]] rfl (by (try simp only [List.map_toArray,List.map_cons,List.map_nil]);first|done|rfl|(simp only [List.length_drop,List.length_take];rfl)) ?_;(with_reducible refine (spec_l06Mover.calls k a0_0 _ _ l0_1 t185 t186 _ ?side1 ?side2 A4.out).mono ?_);(case side1=>repeat (first|exact (Kd.C_below HR0_1.out HB.out)|(with_reducible refine Kd.C_alloc ?_ _)|(with_reducible refine Kd.C_drewN ?_ _)|(with_reducible refine Kd.C_drew ?_)));(case side2=>exact HC0_1.out);rintro e w10 ⟨rfl,hb⟩;refine ⟨_,rfl,?_⟩;have n0_:=Aside0.mk (blk_below (g:=gb183) (o:=.cells #[.int .i64 a0_0,.slice A0_1 l0_1.length c0_1] 28 (0,0)) (by (with_reducible repeat (first|refine blk_drewN ?_ _|refine blk_drew ?_|refine blk_alloc ?_ _));exact BK183.out) hb);have n1_:=Aside0.mk (below_step (by repeat (first|(with_reducible first|exact HB.out|apply below_alloc|apply pw_below_drewN|apply below_drew1|refine below_set ?_ GE183.out)|exact HB.out)) hb);clear BK183;clear HB;have BK183:=n0_;have HB:=n1_;clear n0_ n1_;(try clear hb);(try clear hb2);(try clear hk);(try clear hi)))
   go_ret2
   exact ⟨_,by first|rfl|(simp [errW_none,errW_some] <;> rfl)|(simp [*,errW_none,errW_some] <;> rfl),by first|exact Kd.R_nil _ _ _ _ _|exact Kd.N_nil _ _ _ _ _|exact Kd.V_nil _ _ _ _ _|exact Kd.Q_nil _ _ _ _ _|exact Kd.S_nil _ _ _ _ _,by repeat (first|(with_reducible first|exact HB.out|apply below_alloc|apply pw_below_drewN|apply below_drew1|refine below_set ?_ GE183.out)|exact HB.out)⟩
  ·rw [if_neg c5] at H
   have c5b0 : decide (9 < t186) = false:=decide_eq_false c5
   clear c5
   replace H:=Option.bind_eq_some_iff.mp H
   obtain ⟨⟨t187,t190⟩,A110,H⟩:=H
   replace H : (spec_DeadCells.l0 k t187 (([] : List Int)) 0 a0_0 l0_1) = some (r1,r2):=H
   have A11:=Aside0.mk A110
   clear A110
   obtain ⟨y193,hy193⟩ : ∃ y_ : List Int,y_ = (([] : List Int)):=⟨_,rfl⟩
   replace H : (spec_DeadCells.l0 k t187 y193 0 a0_0 l0_1) = some (r1,r2):=by first|(rw [hy193];with_reducible exact H)|(have H2_:=(Option.bind_some _ _).symm.trans H;rw [hy193];with_reducible exact H2_)|(have H2_:=(Option.bind_some _ _).symm.trans H;with_reducible exact H2_)|with_reducible exact H|(rw [hy193];exact H)|exact H
   have Ny193:=Aside0.mk hy193
   clear hy193
   have H':=Aside0.mk H
   clear H
   go_enter Try.func6,Try.ntmps6
   go_wp2_with (first|((with_reducible refine gate_dst (N:=1) rfl ?_);refine box_event ?hg (N:=1) ?hd (cs:=#[.int .i64 a0_0,.slice A0_1 l0_1.length c0_1]) (t:=28) ?hr ?_;(case hd=>rfl);(case hg=>rfl);(case hr=>first|(go_simp;done)|(go_simp;rfl));intro gb183 hg w12 hbox hb;have n0_:=Aside0.mk (below_step (by repeat (first|(with_reducible first|exact HB.out|apply below_alloc|apply pw_below_drewN|apply below_drew1)|exact HB.out)) hb);have n1_:=Aside0.mk (hbox);have n2_:=Aside0.mk ((by rw [hg];exact (below_size (by repeat (first|(with_reducible first|exact HB.out|apply below_alloc|apply pw_below_drewN|apply below_drew1)|exact HB.out))) : w.heap.size ≤ gb183));have n3_:=Aside0.mk ((by rw [hg];exact (below_size (by repeat (first|(with_reducible first|exact HB.out|apply below_alloc|apply pw_below_drewN|apply below_drew1)|exact HB.out))) : w.heap.size ≤ gb183));clear HB;have HB:=n0_;have BK183:=n1_;have GW183:=n2_;have GE183:=n3_;clear n0_ n1_ n2_ n3_;clear hb hbox hg;have hcz13_0 : w12.cell? ⟨gb183,0,none⟩ = some (.int .i64 a0_0):=(blk_cell BK183.out 0).trans rfl;have hcz13_1 : w12.cell? ⟨gb183,1,none⟩ = some (.slice A0_1 l0_1.length c0_1):=(blk_cell BK183.out 1).trans rfl;have hfz13_0:=blk_frozen BK183.out 0;have hfz13_1:=blk_frozen BK183.out 1)|((with_reducible refine gate_callee (f:=35) rfl ?_);refine goesL_ (some 16) rfl rfl Try.func35 (by kernel_rfl) rfl #[.agg #[.int .i64 a0_0,.slice A0_1 l0_1.length c0_1]] rfl (by (try simp only [List.map_toArray,List.map_cons,List.map_nil]);first|done|rfl|(simp only [List.length_drop,List.length_take];rfl)) ?_;(with_reducible refine (spec_l06Is.calls k a0_0 _ _ l0_1 true _ ?side1 ?side2 A2.out).mono ?_);(case side1=>repeat (first|exact (Kd.C_below HR0_1.out HB.out)|(with_reducible refine Kd.C_alloc ?_ _)|(with_reducible refine Kd.C_drewN ?_ _)|(with_reducible refine Kd.C_drew ?_)));(case side2=>exact HC0_1.out);rintro e w14 ⟨rfl,hb⟩;refine ⟨_,rfl,?_⟩;have n0_:=Aside0.mk (blk_below (g:=gb183) (o:=.cells #[.int .i64 a0_0,.slice A0_1 l0_1.length c0_1] 28 (0,0)) (by (with_reducible repeat (first|refine blk_drewN ?_ _|refine blk_drew ?_|refine blk_alloc ?_ _));exact BK183.out) hb);have n1_:=Aside0.mk (below_step (by repeat (first|(with_reducible first|exact HB.out|apply below_alloc|apply pw_below_drewN|apply below_drew1|refine below_set ?_ GE183.out)|exact HB.out)) hb);clear BK183;clear HB;have BK183:=n0_;have HB:=n1_;clear n0_ n1_;(try clear hb);(try clear hb2);(try clear hk);(try clear hi);have hcz15_0 : w14.cell? ⟨gb183,0,none⟩ = some (.int .i64 a0_0):=(blk_cell BK183.out 0).trans rfl;have hcz15_1 : w14.cell? ⟨gb183,1,none⟩ = some (.slice A0_1 l0_1.length c0_1):=(blk_cell BK183.out 1).trans rfl;have hfz15_0:=blk_frozen BK183.out 0;have hfz15_1:=blk_frozen BK183.out 1)|((with_reducible refine gate_callee (f:=36) rfl ?_);refine goesL_ (some 20) rfl rfl Try.func36 (by kernel_rfl) rfl #[.agg #[.int .i64 a0_0,.slice A0_1 l0_1.length c0_1]] rfl (by (try simp only [List.map_toArray,List.map_cons,List.map_nil]);first|done|rfl|(simp only [List.length_drop,List.length_take];rfl)) ?_;(with_reducible refine (spec_l06Mover.calls k a0_0 _ _ l0_1 t185 t186 _ ?side1 ?side2 A4.out).mono ?_);(case side1=>repeat (first|exact (Kd.C_below HR0_1.out HB.out)|(with_reducible refine Kd.C_alloc ?_ _)|(with_reducible refine Kd.C_drewN ?_ _)|(with_reducible refine Kd.C_drew ?_)));(case side2=>exact HC0_1.out);rintro e w16 ⟨rfl,hb⟩;refine ⟨_,rfl,?_⟩;have n0_:=Aside0.mk (blk_below (g:=gb183) (o:=.cells #[.int .i64 a0_0,.slice A0_1 l0_1.length c0_1] 28 (0,0)) (by (with_reducible repeat (first|refine blk_drewN ?_ _|refine blk_drew ?_|refine blk_alloc ?_ _));exact BK183.out) hb);have n1_:=Aside0.mk (below_step (by repeat (first|(with_reducible first|exact HB.out|apply below_alloc|apply pw_below_drewN|apply below_drew1|refine below_set ?_ GE183.out)|exact HB.out)) hb);clear BK183;clear HB;have BK183:=n0_;have HB:=n1_;clear n0_ n1_;(try clear hb);(try clear hb2);(try clear hk);(try clear hi);have hcz17_0 : w16.cell? ⟨gb183,0,none⟩ = some (.int .i64 a0_0):=(blk_cell BK183.out 0).trans rfl;have hcz17_1 : w16.cell? ⟨gb183,1,none⟩ = some (.slice A0_1 l0_1.length c0_1):=(blk_cell BK183.out 1).trans rfl;have hfz17_0:=blk_frozen BK183.out 0;have hfz17_1:=blk_frozen BK183.out 1)|((with_reducible refine gate_callee (f:=37) rfl ?_);refine goesL_ (some 27) rfl rfl Try.func37 (by kernel_rfl) rfl #[.agg #[.int .i64 a0_0,.slice A0_1 l0_1.length c0_1]] rfl (by (try simp only [List.map_toArray,List.map_cons,List.map_nil]);first|done|rfl|(simp only [List.length_drop,List.length_take];rfl)) ?_;(with_reducible refine (spec_l06Empty.calls k a0_0 _ _ l0_1 t187 t190 _ ?side1 ?side2 A11.out).mono ?_);(case side1=>repeat (first|exact (Kd.C_below HR0_1.out HB.out)|(with_reducible refine Kd.C_alloc ?_ _)|(with_reducible refine Kd.C_drewN ?_ _)|(with_reducible refine Kd.C_drew ?_)));(case side2=>exact HC0_1.out);rintro e w18 ⟨v188,v191,rfl,ho0,ho1,hb⟩;refine ⟨_,rfl,?_⟩;have n0_:=Aside0.mk (Kd.R_lower ho0 (below_size (by repeat (first|(with_reducible first|exact HB.out|apply below_alloc|apply pw_below_drewN|apply below_drew1|refine below_set ?_ GE183.out)|exact HB.out))));have n1_:=Aside0.mk (Kd.R_lower ho1 (below_size (by repeat (first|(with_reducible first|exact HB.out|apply below_alloc|apply pw_below_drewN|apply below_drew1|refine below_set ?_ GE183.out)|exact HB.out))));have n2_:=Aside0.mk (blk_below (g:=gb183) (o:=.cells #[.int .i64 a0_0,.slice A0_1 l0_1.length c0_1] 28 (0,0)) (by (with_reducible repeat (first|refine blk_drewN ?_ _|refine blk_drew ?_|refine blk_alloc ?_ _));exact BK183.out) hb);have n3_:=Aside0.mk (below_step (by repeat (first|(with_reducible first|exact HB.out|apply below_alloc|apply pw_below_drewN|apply below_drew1|refine below_set ?_ GE183.out)|exact HB.out)) hb);clear BK183;clear HB;have HO189:=n0_;have HO192:=n1_;have BK183:=n2_;have HB:=n3_;clear n0_ n1_ n2_ n3_;(try clear hb);(try clear hb2);(try clear hk);(try clear hi);(try clear ho0);(try clear ho1))|((with_reducible refine gate_dst (N:=30) rfl ?_);refine Kd.R_lit (Kd.int .i64) _ 2 ?hg (N:=30) ?hd (xs:=([] : List Int)) (inner:=[]) (ok:=fun _=>True) (okp:=fun _=>True) ?hr ?hp (fun _ hk=>hk) trivial (Below.refl _ _) (Nat.le_refl _) (by simp) ?_;(case hd=>rfl);(case hg=>rfl);(case hr=>first|(go_simp;done)|(go_simp;rfl));(case hp=>exact (Reps.none _ _));intro v194 w19 ho20 hb hg_ hnew_;clear hg_ hnew_;(first|rw [← Ny193.out] at ho20|(simp only [Int.reduceToNat] at ho20;rw [← Ny193.out] at ho20));have n0_:=Aside0.mk (Kd.R_elder' (by (with_reducible repeat (first|apply Kd.R_alloc|apply Kd.R_drewN|apply Kd.R_drew));exact HO189.out) (Kd.R_base ho20) hb);have n1_:=Aside0.mk (Kd.R_elder' (by (with_reducible repeat (first|apply Kd.R_alloc|apply Kd.R_drewN|apply Kd.R_drew));exact HO192.out) (Kd.R_base ho20) hb);have n2_:=Aside0.mk (Kd.R_lower (Kd.R_new' (Kd.R_new' ho20 (Kd.R_lt (by (with_reducible repeat (first|apply Kd.R_alloc|apply Kd.R_drewN|apply Kd.R_drew));exact HO189.out))) (Kd.R_lt (by (with_reducible repeat (first|apply Kd.R_alloc|apply Kd.R_drewN|apply Kd.R_drew));exact HO192.out))) (below_size (by repeat (first|(with_reducible first|exact HB.out|apply below_alloc|apply pw_below_drewN|apply below_drew1|refine below_set ?_ GE183.out)|exact HB.out))));have n3_:=Aside0.mk (blk_below (g:=gb183) (o:=.cells #[.int .i64 a0_0,.slice A0_1 l0_1.length c0_1] 28 (0,0)) (by (with_reducible repeat (first|refine blk_drewN ?_ _|refine blk_drew ?_|refine blk_alloc ?_ _));exact BK183.out) hb);have n4_:=Aside0.mk (below_step (by repeat (first|(with_reducible first|exact HB.out|apply below_alloc|apply pw_below_drewN|apply below_drew1|refine below_set ?_ GE183.out)|exact HB.out)) hb);clear HO189;clear HO192;clear BK183;clear HB;have HO189:=n0_;have HO192:=n1_;have HO195:=n2_;have BK183:=n3_;have HB:=n4_;clear n0_ n1_ n2_ n3_ n4_;clear hb ho20))
   go_loopg [8,9] k (fun kq v8 v9 w'=>∃ (x6_1 : List Int) (x8_1 : List Int) (x9_1 : Int),v9 = .int .i64 x9_1 ∧ Aside0 (spec_DeadCells.l0 kq x6_1 x8_1 x9_1 a0_0 l0_1 = some (r1,r2)) ∧ Aside0 (kq ≤ k) ∧ Aside0 (Kd.R (Kd.int .i64) 2 w' w.heap.size (fun k_=>some k_ ≠ (v8 : Value).ownBlock) v188 x6_1) ∧ Aside0 (Kd.R (Kd.int .i64) 2 w' w.heap.size (fun k_=>some k_ ≠ (v188 : Value).ownBlock) v8 x8_1) ∧ Aside0 (w'.heap[gb183]? = some (.cells #[.int .i64 a0_0,(.slice A0_1 l0_1.length c0_1)] 28 (0,0))) ∧ Aside0 (Below w.heap.size w w'))
   case atStart=>exact ⟨(t187),(y193),(0),(by first|rfl|(simp;done)|(simp [*];done)),H',⟨Nat.le_refl _⟩,⟨by (with_reducible repeat (first|apply Kd.R_alloc|apply Kd.R_drewN|apply Kd.R_drew));exact Kd.R_mono HO189.out (fun _ hk=>hk.2)⟩,⟨by (with_reducible repeat (first|apply Kd.R_alloc|apply Kd.R_drewN|apply Kd.R_drew));exact Kd.R_mono HO195.out (fun _ hk=>hk.1.2)⟩,⟨by (with_reducible repeat (first|refine blk_drewN ?_ _|refine blk_drew ?_|refine blk_alloc ?_ _));exact BK183.out⟩,⟨by repeat (first|(with_reducible first|exact HB.out|apply below_alloc|apply pw_below_drewN|apply below_drew1|refine below_set ?_ GE183.out)|exact HB.out)⟩⟩
   case round =>
    clear H'
    try clear p2
    try clear c3
    try clear c5
    try clear c5b0
    try clear c6
    try clear hcz13_0
    try clear hcz13_1
    try clear hcz15_0
    try clear hcz15_1
    try clear hcz17_0
    try clear hcz17_1
    try clear hcz7_0
    try clear hcz7_1
    try clear hcz9_0
    try clear hcz9_1
    try clear hfz13_0
    try clear hfz13_1
    try clear hfz15_0
    try clear hfz15_1
    try clear hfz17_0
    try clear hfz17_1
    try clear hfz7_0
    try clear hfz7_1
    try clear hfz9_0
    try clear hfz9_1
    obtain ⟨x6_1,x8_1,x9_1,rfl,HA,HK1,HO_6,HO_8,BK183,HB⟩:=hrel
    cases gk with
    | zero => exact absurd HA.out (by simp [spec_DeadCells.l0])
    | succ k1 =>
     have H:=HA.out
     clear HA
     simp only [spec_DeadCells.l0] at H
     by_cases c21 : x9_1 < (x6_1.length : Int)
     ·rw [if_pos c21] at H
      have c21b0 : decide (x9_1 < (x6_1.length : Int)) = true:=decide_eq_true c21
      clear c21
      have H':=Aside0.mk H
      clear H
      obtain ⟨Ao22,co22,eo22⟩:=Kd.R_slice HO_6.out
      subst eo22
      go_wp2
      go_loopg [10,11] k1 (fun kq v10 v11 w'=>∃ (x6_2 : List Int) (x8_2 : List Int) (x10_2 : Bool) (x11_2 : Int),v10 = .bool x10_2 ∧ v11 = .int .i64 x11_2 ∧ Aside0 (spec_DeadCells.l1 kq x6_2 x8_2 x9_1 x10_2 x11_2 a0_0 l0_1 = some (r1,r2)) ∧ Aside0 (kq ≤ k1) ∧ Aside0 (Kd.R (Kd.int .i64) 2 w' w.heap.size (fun k_=>some k_ ≠ (u8 : Value).ownBlock) (.slice Ao22 x6_1.length co22) x6_2) ∧ Aside0 (Kd.R (Kd.int .i64) 2 w' w.heap.size (fun k_=>some k_ ≠ ((.slice Ao22 x6_1.length co22) : Value).ownBlock) u8 x8_2) ∧ Aside0 (w'.heap[gb183]? = some (.cells #[.int .i64 a0_0,(.slice A0_1 l0_1.length c0_1)] 28 (0,0))) ∧ Aside0 (Below w.heap.size w w'))
      case atStart=>exact ⟨(x6_1),(x8_1),(true),(0),(by first|rfl|(simp;done)|(simp [*];done)),(by first|rfl|(simp;done)|(simp [*];done)),H',⟨Nat.le_refl _⟩,⟨by (with_reducible repeat (first|apply Kd.R_alloc|apply Kd.R_drewN|apply Kd.R_drew));exact HO_6.out⟩,⟨by (with_reducible repeat (first|apply Kd.R_alloc|apply Kd.R_drewN|apply Kd.R_drew));exact HO_8.out⟩,⟨by (with_reducible repeat (first|refine blk_drewN ?_ _|refine blk_drew ?_|refine blk_alloc ?_ _));exact BK183.out⟩,⟨by repeat (first|(with_reducible first|exact HB.out|apply below_alloc|apply pw_below_drewN|apply below_drew1|refine below_set ?_ GE183.out)|exact HB.out)⟩⟩
      case round =>
       clear H'
       try clear c2
       try clear p2
       try clear c3
       try clear c5
       try clear c5b0
       try clear c6
       try clear c21
       try clear c21b0
       try clear hcz13_0
       try clear hcz13_1
       try clear hcz15_0
       try clear hcz15_1
       try clear hcz17_0
       try clear hcz17_1
       try clear hcz7_0
       try clear hcz7_1
       try clear hcz9_0
       try clear hcz9_1
       try clear hfz13_0
       try clear hfz13_1
       try clear hfz15_0
       try clear hfz15_1
       try clear hfz17_0
       try clear hfz17_1
       try clear hfz7_0
       try clear hfz7_1
       try clear hfz9_0
       try clear hfz9_1
       try clear p2
       obtain ⟨x6_2,x8_2,x10_2,x11_2,rfl,rfl,HA,HK2,HO_6,HO_8,BK183,HB⟩:=hrel
       have hl6_2:=(Kd.R_reads' HO_6.out).1
       rw [hl6_2] at HO_6
       (try simp only [hl6_2])
       (try simp only [hl6_2] at BK183)
       (try simp only [hl6_2] at HO_8)
       cases gk with
       | zero => exact absurd HA.out (by simp [spec_DeadCells.l1])
       | succ k2 =>
        have H:=HA.out
        clear HA
        simp only [spec_DeadCells.l1] at H
        have HC23:=Aside0.mk H
        clear H
        go_upto_region 13 with (fail)
        go_cut [45] (fun v45 wc=>∃ (kq : Nat) (x45_22 : Bool),v45 = .bool x45_22 ∧ Aside0 (spec_DeadCells.j2 kq x6_2 x8_2 x9_1 x10_2 x11_2 x45_22 a0_0 l0_1 = some (r1,r2)) ∧ Aside0 (kq ≤ k2) ∧ Aside0 (Kd.R (Kd.int .i64) 2 wc w.heap.size (fun k_=>some k_ ≠ (u8 : Value).ownBlock) (.slice Ao22 x6_2.length co22) x6_2) ∧ Aside0 (Kd.R (Kd.int .i64) 2 wc w.heap.size (fun k_=>some k_ ≠ ((.slice Ao22 x6_2.length co22) : Value).ownBlock) u8 x8_2) ∧ Aside0 (wc.heap[gb183]? = some (.cells #[.int .i64 a0_0,(.slice A0_1 l0_1.length c0_1)] 28 (0,0))) ∧ Aside0 (Below w.heap.size w wc))
        case first =>
         have H:=HC23.out
         clear HC23
         obtain ⟨ji24,hji24⟩ : ∃ j_ : Int,(IntKind.u64.wrap ((x6_2.length : Int))) = j_:=⟨_,rfl⟩
         replace H : (if 0 ≤ (ji24) then (if x11_2 < (shl .i64 1 (ji24)) then (spec_DeadCells.j2 k2 x6_2 x8_2 x9_1 x10_2 x11_2 x10_2 a0_0 l0_1) else (spec_DeadCells.j2 k2 x6_2 x8_2 x9_1 x10_2 x11_2 false a0_0 l0_1)) else (none)) = some (r1,r2):=by first|(rw [hji24] at H;exact H)|(simp only [hji24] at H ⊢;exact H)
         by_cases c25 : 0 ≤ (ji24)
         ·rw [if_pos c25] at H
          have c25b0:=eq_true c25
          have c25b1 : decide (0 ≤ (ji24)) = true:=decide_eq_true c25
          clear c25
          obtain ⟨ji26,hji26⟩ : ∃ j_ : Int,(shl .i64 1 (ji24)) = j_:=⟨_,rfl⟩
          replace H : (if x11_2 < (ji26) then (spec_DeadCells.j2 k2 x6_2 x8_2 x9_1 x10_2 x11_2 x10_2 a0_0 l0_1) else (spec_DeadCells.j2 k2 x6_2 x8_2 x9_1 x10_2 x11_2 false a0_0 l0_1)) = some (r1,r2):=by first|(rw [hji26] at H;exact H)|(simp only [hji26] at H ⊢;exact H)
          have hji26_ : (IntKind.i64.wrap (1 * 2 ^ min (ji24).toNat 64)) = ji26:=hji26
          have hji26z : (ji24) ≤ 64 → (IntKind.i64.wrap (1 * 2 ^ (ji24).toNat)) = ji26:=shl_small hji26
          have hji26u : (IntKind.i64.wrap (2 ^ min (ji24).toNat 64)) = ji26:=by have h_:=hji26_;rw [Int.one_mul] at h_;exact h_
          have hji26v : (ji24) ≤ 64 → (IntKind.i64.wrap (2 ^ (ji24).toNat)) = ji26:=fun hle_=>by have h_:=hji26z hle_;rw [Int.one_mul] at h_;exact h_
          have hji26y : (wrap64 (1 * 2 ^ min (ji24).toNat 64)) = ji26:=(i64_w _).symm.trans hji26_
          have hji26x : (ji24) ≤ 64 → (wrap64 (1 * 2 ^ (ji24).toNat)) = ji26:=fun h_=>(i64_w _).symm.trans (hji26z h_)
          by_cases c27 : x11_2 < (ji26)
          ·rw [if_pos c27] at H
           have c27b0 : decide (x11_2 < (ji26)) = true:=decide_eq_true c27
           clear c27
           (first|rw [c27b0]|(simp only [i64_w,i32_w];rw [c27b0])|skip)
           have H':=Aside0.mk H
           clear H
           go_wp2
           go_meet
           case rel=>exact ⟨_,(x10_2),(by first|rfl|(simp;done)|(simp [*];done)),H',⟨by have:=HK1.out;have:=HK2.out;first|omega|exact Nat.le_refl _⟩,⟨by (try simp only [hl6_2]);(with_reducible repeat (first|apply Kd.R_alloc|apply Kd.R_drewN|apply Kd.R_drew));exact HO_6.out⟩,⟨by (try simp only [hl6_2]);(with_reducible repeat (first|apply Kd.R_alloc|apply Kd.R_drewN|apply Kd.R_drew));exact HO_8.out⟩,⟨by (try simp only [hl6_2]);(with_reducible repeat (first|refine blk_drewN ?_ _|refine blk_drew ?_|refine blk_alloc ?_ _));exact BK183.out⟩,⟨by repeat (first|(with_reducible first|exact HB.out|apply below_alloc|apply pw_below_drewN|apply below_drew1|refine below_set ?_ GE183.out)|exact HB.out)⟩⟩
          ·rw [if_neg c27] at H
           have c27b0 : decide (x11_2 < (ji26)) = false:=decide_eq_false c27
           clear c27
           (first|rw [c27b0]|(simp only [i64_w,i32_w];rw [c27b0])|skip)
           have H':=Aside0.mk H
           clear H
           go_wp2
           go_meet
           case rel=>exact ⟨_,(false),(by first|rfl|(simp;done)|(simp [*];done)),H',⟨by have:=HK1.out;have:=HK2.out;first|omega|exact Nat.le_refl _⟩,⟨by (try simp only [hl6_2]);(with_reducible repeat (first|apply Kd.R_alloc|apply Kd.R_drewN|apply Kd.R_drew));exact HO_6.out⟩,⟨by (try simp only [hl6_2]);(with_reducible repeat (first|apply Kd.R_alloc|apply Kd.R_drewN|apply Kd.R_drew));exact HO_8.out⟩,⟨by (try simp only [hl6_2]);(with_reducible repeat (first|refine blk_drewN ?_ _|refine blk_drew ?_|refine blk_alloc ?_ _));exact BK183.out⟩,⟨by repeat (first|(with_reducible first|exact HB.out|apply below_alloc|apply pw_below_drewN|apply below_drew1|refine below_set ?_ GE183.out)|exact HB.out)⟩⟩
         ·rw [if_neg c25] at H
          exact absurd H (by simp)
        case rest =>
         clear HC23
         try clear c2
         try clear p2
         try clear c3
         try clear c5
         try clear c5b0
         try clear c6
         try clear p6
         try clear c21
         try clear c21b0
         try clear c25
         try clear c25b0
         try clear c25b1
         try clear c27
         try clear c27b0
         try clear hcz13_0
         try clear hcz13_1
         try clear hcz15_0
         try clear hcz15_1
         try clear hcz17_0
         try clear hcz17_1
         try clear hcz7_0
         try clear hcz7_1
         try clear hcz9_0
         try clear hcz9_1
         try clear hfz13_0
         try clear hfz13_1
         try clear hfz15_0
         try clear hfz15_1
         try clear hfz17_0
         try clear hfz17_1
         try clear hfz7_0
         try clear hfz7_1
         try clear hfz9_0
         try clear hfz9_1
         try clear p2
         obtain ⟨kq,x45_22,rfl,HA,HJ22,HO_6,HO_8,BK183,HB⟩:=hcut
         cases kq with
         | zero => exact absurd HA.out (by simp [spec_DeadCells.j2])
         | succ kj22 =>
          have H:=HA.out
          clear HA
          simp only [spec_DeadCells.j2] at H
          by_cases c28 : x45_22 = true
          ·subst c28
           have H1 : (if 0 ≤ (IntKind.u64.wrap (x9_1)) then (if (Go.bits .and .i64 (shr .i64 x11_2 (IntKind.u64.wrap (x9_1))) 1) = 1 then (spec_DeadCells.l1 kj22 x6_2 x8_2 x9_1 x10_2 (wrap64 (x11_2 + 1)) a0_0 l0_1) else ((spec_l01Own.f l0_1).bind fun t200=>(spec_DeadCells.l2 kj22 x6_2 x8_2 x9_1 x11_2 t200 0 a0_0 l0_1))) else (none)) = some (r1,r2):=by rw [if_pos rfl] at H;exact H
           clear H
           have H:=H1
           clear H1
           obtain ⟨ji29,hji29⟩ : ∃ j_ : Int,(IntKind.u64.wrap (x9_1)) = j_:=⟨_,rfl⟩
           replace H : (if 0 ≤ (ji29) then (if (Go.bits .and .i64 (shr .i64 x11_2 (ji29)) 1) = 1 then (spec_DeadCells.l1 kj22 x6_2 x8_2 x9_1 x10_2 (wrap64 (x11_2 + 1)) a0_0 l0_1) else ((spec_l01Own.f l0_1).bind fun t200=>(spec_DeadCells.l2 kj22 x6_2 x8_2 x9_1 x11_2 t200 0 a0_0 l0_1))) else (none)) = some (r1,r2):=by first|(rw [hji29] at H;exact H)|(simp only [hji29] at H ⊢;exact H)
           by_cases c30 : 0 ≤ (ji29)
           ·rw [if_pos c30] at H
            have c30b0:=eq_true c30
            have c30b1 : decide (0 ≤ (ji29)) = true:=decide_eq_true c30
            clear c30
            obtain ⟨ji31,hji31⟩ : ∃ j_ : Int,(shr .i64 x11_2 (ji29)) = j_:=⟨_,rfl⟩
            replace H : (if (Go.bits .and .i64 (ji31) 1) = 1 then (spec_DeadCells.l1 kj22 x6_2 x8_2 x9_1 x10_2 (wrap64 (x11_2 + 1)) a0_0 l0_1) else ((spec_l01Own.f l0_1).bind fun t200=>(spec_DeadCells.l2 kj22 x6_2 x8_2 x9_1 x11_2 t200 0 a0_0 l0_1))) = some (r1,r2):=by first|(rw [hji31] at H;exact H)|(simp only [hji31] at H ⊢;exact H)
            have hji31_ : (x11_2 / 2 ^ min (ji29).toNat 64) = ji31:=hji31
            have hji31z : (ji29) ≤ 64 → (x11_2 / 2 ^ (ji29).toNat) = ji31:=shr_small hji31
            by_cases c32 : (Go.bits .and .i64 (ji31) 1) = 1
            ·rw [if_pos c32] at H
             have c32b0 : ((Go.bits .and .i64 (ji31) 1) == 1) = true:=beq_iff_eq.mpr c32
             have c32b1 : ((Go.bits .and .i64 (ji31) 1) != 1) = false:=bne_eq_false_iff_eq.mpr c32
             clear c32
             have H':=Aside0.mk H
             clear H
             go_wp2
             (try simp only [← hl6_2])
             go_roundg kj22
             case measure=>have:=HK1.out;have:=HK2.out;have:=HJ22.out;omega
             case rel=>exact ⟨(x6_2),(x8_2),(x10_2),(wrap64 (x11_2 + 1)),(by first|rfl|(simp;done)|(simp [*];done)),(by first|rfl|(simp;done)|(simp [*];done)),H',⟨by have:=HK1.out;have:=HK2.out;have:=HJ22.out;omega⟩,⟨by (try simp only [hl6_2]);(with_reducible repeat (first|apply Kd.R_alloc|apply Kd.R_drewN|apply Kd.R_drew));exact HO_6.out⟩,⟨by (try simp only [hl6_2]);(with_reducible repeat (first|apply Kd.R_alloc|apply Kd.R_drewN|apply Kd.R_drew));exact HO_8.out⟩,⟨by (try simp only [hl6_2]);(with_reducible repeat (first|refine blk_drewN ?_ _|refine blk_drew ?_|refine blk_alloc ?_ _));exact BK183.out⟩,⟨by repeat (first|(with_reducible first|exact HB.out|apply below_alloc|apply pw_below_drewN|apply below_drew1|refine below_set ?_ GE183.out)|exact HB.out)⟩⟩
            ·rw [if_neg c32] at H
             have c32b0 : ((Go.bits .and .i64 (ji31) 1) == 1) = false:=beq_eq_false_iff_ne.mpr c32
             have c32b1 : ((Go.bits .and .i64 (ji31) 1) != 1) = true:=bne_iff_ne.mpr c32
             replace H:=Option.bind_eq_some_iff.mp H
             obtain ⟨t200,A330,H⟩:=H
             replace H : (spec_DeadCells.l2 kj22 x6_2 x8_2 x9_1 x11_2 t200 0 a0_0 l0_1) = some (r1,r2):=H
             have A33:=Aside0.mk A330
             clear A330
             have H':=Aside0.mk H
             clear H
             have hcz34_0 : wc.cell? ⟨gb183,0,none⟩ = some (.int .i64 a0_0):=(blk_cell BK183.out 0).trans rfl
             have hcz34_1 : wc.cell? ⟨gb183,1,none⟩ = some (.slice A0_1 l0_1.length c0_1):=(blk_cell BK183.out 1).trans rfl
             have hfz34_0:=blk_frozen BK183.out 0
             have hfz34_1:=blk_frozen BK183.out 1
             go_wp2_with (first|((with_reducible refine gate_callee (f:=38) rfl ?_);refine goesL_ (some 56) rfl rfl Try.func38 (by kernel_rfl) rfl #[.slice A0_1 l0_1.length c0_1] rfl (by (try simp only [List.map_toArray,List.map_cons,List.map_nil]);first|done|rfl|(simp only [List.length_drop,List.length_take];rfl)) ?_;(with_reducible refine (spec_l01Own.calls _ _ l0_1 t200 _ ?side1 ?side2 A33.out).mono ?_);(case side1=>repeat (first|exact (Kd.C_below HR0_1.out HB.out)|(with_reducible refine Kd.C_alloc ?_ _)|(with_reducible refine Kd.C_drewN ?_ _)|(with_reducible refine Kd.C_drew ?_)));(case side2=>exact HC0_1.out);rintro e w35 ⟨v201,rfl,ho0,hb⟩;refine ⟨_,rfl,?_⟩;have n0_:=Aside0.mk (Kd.R_elder' (by (with_reducible repeat (first|apply Kd.R_alloc|apply Kd.R_drewN|apply Kd.R_drew));exact HO_6.out) (Kd.R_base ho0) hb);have n1_:=Aside0.mk (Kd.R_elder' (by (with_reducible repeat (first|apply Kd.R_alloc|apply Kd.R_drewN|apply Kd.R_drew));exact HO_8.out) (Kd.R_base ho0) hb);have n2_:=Aside0.mk (Kd.R_lower (Kd.R_new' (Kd.R_new' ho0 (Kd.R_lt (by (with_reducible repeat (first|apply Kd.R_alloc|apply Kd.R_drewN|apply Kd.R_drew));exact HO_6.out))) (Kd.R_lt (by (with_reducible repeat (first|apply Kd.R_alloc|apply Kd.R_drewN|apply Kd.R_drew));exact HO_8.out))) (below_size (by repeat (first|(with_reducible first|exact HB.out|apply below_alloc|apply pw_below_drewN|apply below_drew1|refine below_set ?_ GE183.out)|exact HB.out))));have n3_:=Aside0.mk (blk_below (g:=gb183) (o:=.cells #[.int .i64 a0_0,.slice A0_1 l0_1.length c0_1] 28 (0,0)) (by (with_reducible repeat (first|refine blk_drewN ?_ _|refine blk_drew ?_|refine blk_alloc ?_ _));exact BK183.out) hb);have n4_:=Aside0.mk (below_step (by repeat (first|(with_reducible first|exact HB.out|apply below_alloc|apply pw_below_drewN|apply below_drew1|refine below_set ?_ GE183.out)|exact HB.out)) hb);clear HO_6;clear HO_8;clear BK183;clear HB;have HO_6:=n0_;have HO_8:=n1_;have HO202:=n2_;have BK183:=n3_;have HB:=n4_;clear n0_ n1_ n2_ n3_ n4_;(try clear hb);(try clear hb2);(try clear hk);(try clear hi);(try clear ho0)))
             go_loopg [13] kj22 (fun kq v13 w'=>∃ (x12_4 : List Int) (x13_4 : Int),v13 = .int .i64 x13_4 ∧ Aside0 (spec_DeadCells.l2 kq x6_2 x8_2 x9_1 x11_2 x12_4 x13_4 a0_0 l0_1 = some (r1,r2)) ∧ Aside0 (kq ≤ kj22) ∧ Aside0 (Kd.R (Kd.int .i64) 2 w' w.heap.size (fun k_=>some k_ ≠ (u8 : Value).ownBlock ∧ some k_ ≠ (v201 : Value).ownBlock) (.slice Ao22 x6_2.length co22) x6_2) ∧ Aside0 (Kd.R (Kd.int .i64) 2 w' w.heap.size (fun k_=>some k_ ≠ ((.slice Ao22 x6_2.length co22) : Value).ownBlock ∧ some k_ ≠ (v201 : Value).ownBlock) u8 x8_2) ∧ Aside0 (Kd.R (Kd.int .i64) 2 w' w.heap.size (fun k_=>some k_ ≠ ((.slice Ao22 x6_2.length co22) : Value).ownBlock ∧ some k_ ≠ (u8 : Value).ownBlock) v201 x12_4) ∧ Aside0 (w'.heap[gb183]? = some (.cells #[.int .i64 a0_0,(.slice A0_1 l0_1.length c0_1)] 28 (0,0))) ∧ Aside0 (Below w.heap.size w w'))
             case atStart=>exact ⟨(t200),(0),(by first|rfl|(simp;done)|(simp [*];done)),H',⟨Nat.le_refl _⟩,⟨by (try simp only [hl6_2]);(with_reducible repeat (first|apply Kd.R_alloc|apply Kd.R_drewN|apply Kd.R_drew));exact HO_6.out⟩,⟨by (try simp only [hl6_2]);(with_reducible repeat (first|apply Kd.R_alloc|apply Kd.R_drewN|apply Kd.R_drew));exact HO_8.out⟩,⟨by (try simp only [hl6_2]);(with_reducible repeat (first|apply Kd.R_alloc|apply Kd.R_drewN|apply Kd.R_drew));exact Kd.R_mono HO202.out (fun _ hk=>⟨hk.1.2,hk.2⟩)⟩,⟨by (try simp only [hl6_2]);(with_reducible repeat (first|refine blk_drewN ?_ _|refine blk_drew ?_|refine blk_alloc ?_ _));exact BK183.out⟩,⟨by repeat (first|(with_reducible first|exact HB.out|apply below_alloc|apply pw_below_drewN|apply below_drew1|refine below_set ?_ GE183.out)|exact HB.out)⟩⟩
             case round =>
              clear H'
              try clear c2
              try clear p2
              try clear c3
              try clear c5
              try clear c5b0
              try clear c6
              try clear p6
              try clear c21
              try clear c21b0
              try clear c25
              try clear c25b0
              try clear c25b1
              try clear c27
              try clear c27b0
              try clear c28
              try clear c30
              try clear c30b0
              try clear c30b1
              try clear c32
              try clear c32b0
              try clear c32b1
              try clear c35
              try clear hcz13_0
              try clear hcz13_1
              try clear hcz15_0
              try clear hcz15_1
              try clear hcz17_0
              try clear hcz17_1
              try clear hcz34_0
              try clear hcz34_1
              try clear hcz7_0
              try clear hcz7_1
              try clear hcz9_0
              try clear hcz9_1
              try clear hfz13_0
              try clear hfz13_1
              try clear hfz15_0
              try clear hfz15_1
              try clear hfz17_0
              try clear hfz17_1
              try clear hfz34_0
              try clear hfz34_1
              try clear hfz7_0
              try clear hfz7_1
              try clear hfz9_0
              try clear hfz9_1
              try clear p2
              try clear p6
              obtain ⟨x12_4,x13_4,rfl,HA,HK4,HO_6,HO_8,HO_12,BK183,HB⟩:=hrel
              cases gk with
              | zero => exact absurd HA.out (by simp [spec_DeadCells.l2])
              | succ k4 =>
               have H:=HA.out
               clear HA
               simp only [spec_DeadCells.l2] at H
               by_cases c36 : x13_4 < (x6_2.length : Int)
               ·rw [if_pos c36] at H
                have c36b0 : decide (x13_4 < (x6_2.length : Int)) = true:=decide_eq_true c36
                (try (have c36b0z:=c36b0;simp only [← hl6_2] at c36b0z))
                (try (have c36b0y:=c36b0;simp only [hl6_2] at c36b0y))
                clear c36
                by_cases c37 : 0 ≤ x13_4
                ·rw [if_pos c37] at H
                 have c37b0 : decide (0 ≤ x13_4) = true:=decide_eq_true c37
                 clear c37
                 obtain ⟨ji38,hji38⟩ : ∃ j_ : Int,(IntKind.u64.wrap (x13_4)) = j_:=⟨_,rfl⟩
                 replace H : (if 0 ≤ (ji38) then (if 0 ≤ (rd x6_2 x13_4) then (if (rd x6_2 x13_4) < (x12_4.length : Int) then (spec_DeadCells.l2 k4 x6_2 x8_2 x9_1 x11_2 (x12_4.set ((rd x6_2 x13_4) : Int).toNat (wrap64 (1 + (Go.bits .and .i64 (shr .i64 x11_2 (ji38)) 1)))) (wrap64 (x13_4 + 1)) a0_0 l0_1) else (none)) else (none)) else (none)) = some (r1,r2):=by first|(rw [hji38] at H;exact H)|(simp only [hji38] at H ⊢;exact H)
                 by_cases c39 : 0 ≤ (ji38)
                 ·rw [if_pos c39] at H
                  have c39b0:=eq_true c39
                  have c39b1 : decide (0 ≤ (ji38)) = true:=decide_eq_true c39
                  clear c39
                  obtain ⟨ji40,hji40⟩ : ∃ j_ : Int,(shr .i64 x11_2 (ji38)) = j_:=⟨_,rfl⟩
                  replace H : (if 0 ≤ (rd x6_2 x13_4) then (if (rd x6_2 x13_4) < (x12_4.length : Int) then (spec_DeadCells.l2 k4 x6_2 x8_2 x9_1 x11_2 (x12_4.set ((rd x6_2 x13_4) : Int).toNat (wrap64 (1 + (Go.bits .and .i64 (ji40) 1)))) (wrap64 (x13_4 + 1)) a0_0 l0_1) else (none)) else (none)) = some (r1,r2):=by first|(rw [hji40] at H;exact H)|(simp only [hji40] at H ⊢;exact H)
                  have hji40_ : (x11_2 / 2 ^ min (ji38).toNat 64) = ji40:=hji40
                  have hji40z : (ji38) ≤ 64 → (x11_2 / 2 ^ (ji38).toNat) = ji40:=shr_small hji40
                  by_cases c41 : 0 ≤ (rd x6_2 x13_4)
                  ·rw [if_pos c41] at H
                   have c41b0 : decide (0 ≤ (rd x6_2 x13_4)) = true:=decide_eq_true c41
                   clear c41
                   by_cases c42 : (rd x6_2 x13_4) < (x12_4.length : Int)
                   ·rw [if_pos c42] at H
                    have c42b0 : decide ((rd x6_2 x13_4) < (x12_4.length : Int)) = true:=decide_eq_true c42
                    (try (have c42b0z:=c42b0;simp only [← hl6_2] at c42b0z))
                    (try (have c42b0y:=c42b0;simp only [hl6_2] at c42b0y))
                    clear c42
                    obtain ⟨y204,hy204⟩ : ∃ y_ : List Int,y_ = (x12_4.set ((rd x6_2 x13_4) : Int).toNat (wrap64 (1 + (Go.bits .and .i64 (ji40) 1)))):=⟨_,rfl⟩
                    replace H : (spec_DeadCells.l2 k4 x6_2 x8_2 x9_1 x11_2 y204 (wrap64 (x13_4 + 1)) a0_0 l0_1) = some (r1,r2):=by first|(rw [hy204];with_reducible exact H)|(have H2_:=(Option.bind_some _ _).symm.trans H;rw [hy204];with_reducible exact H2_)|(have H2_:=(Option.bind_some _ _).symm.trans H;with_reducible exact H2_)|with_reducible exact H|(rw [hy204];exact H)|exact H
                    have Ny204:=Aside0.mk hy204
                    clear hy204
                    have H':=Aside0.mk H
                    clear H
                    have p203 : 0 ≤ (x13_4 : Int):=of_decide_eq_true (by first|(with_reducible assumption)|assumption)
                    have q203 : x13_4 < (x6_2.length : Int):=of_decide_eq_true (by first|(with_reducible assumption)|assumption)
                    obtain ⟨ad203,e203,hx203_0⟩:=Kd.at_int (Kd.R_reads' HO_6.out).2.2 x13_4 p203 q203
                    cases e203
                    replace p203:=eq_true p203
                    replace q203:=eq_true q203
                    have p43 : 0 ≤ ((rd x6_2 x13_4) : Int):=of_decide_eq_true (by first|(with_reducible assumption)|assumption)
                    have q43 : ((rd x6_2 x13_4) : Int) < ((x12_4.length : Int) : Int):=of_decide_eq_true (by first|(with_reducible assumption)|assumption)
                    obtain ⟨go43,co43,eo43,gb43,gl43,cl43,HG43⟩:=Kd.R_form HO_12.out (by omega)
                    (first|cases eo43|(injection eo43 with ea_ en_ ec_;(first|subst ea_|(injection ea_ with ea_;subst ea_));subst ec_;clear en_))
                    have GB43:=Aside0.mk gb43
                    have GG43:=Aside0.mk HG43
                    clear gb43 gl43 HG43
                    obtain ⟨hx43_0,hf43_0⟩:=Kd.R_celln 0 HO_12.out ((rd x6_2 x13_4) : Int) p43 q43
                    replace p43:=eq_true p43
                    replace q43:=eq_true q43
                    have HP44:=Kd.R_putg HO_12.out ((rd x6_2 x13_4) : Int) (wrap64 (1 + (Go.bits .and .i64 (ji40) 1)))
                    go_wp2_with (first|((with_reducible refine gate_store (t:=2) (p:=74) rfl ?_);refine store_event (t:=2) (p:=74) (v:=?vo_w45) (w1:=(wr.setCell ⟨go43,((rd x6_2 x13_4) : Int).toNat,none⟩ (.int .i64 (wrap64 (1 + (Go.bits .and .i64 (ji40) 1)))))) ?hg ?ho ?hn ?hr ?_;(case ho=>rfl);(case hg=>rfl);(case hn=>rfl);(case hr=>first|(go_simp;done)|(go_simp;rfl));intro w45 hw;have hg : wr.grownBy w45 (some go43):=(by rw [hw];exact HP44.2);have hp_ : Kd.R (Kd.int .i64) 2 w45 w.heap.size (fun k_=>some k_ ≠ (.slice (some ad203) x6_2.length co22 : Value).ownBlock ∧ some k_ ≠ (u8 : Value).ownBlock) (.slice (some ⟨go43,0,none⟩) x12_4.length co43) y204:=(by rw [hw,Ny204.out];exact HP44.1);clear HP44;have n0_:=Aside0.mk (Kd.R_after (v:=(.slice (some ⟨go43,0,none⟩) x12_4.length co43)) (v1:=(.slice (some ⟨go43,0,none⟩) x12_4.length co43)) (ok:=(fun k_=>some k_ ≠ (u8 : Value).ownBlock)) (by (with_reducible repeat (first|apply Kd.R_alloc|apply Kd.R_drewN|apply Kd.R_drew));exact HO_6.out) hg (.inl rfl));have n1_:=Aside0.mk (Kd.R_after (v:=(.slice (some ⟨go43,0,none⟩) x12_4.length co43)) (v1:=(.slice (some ⟨go43,0,none⟩) x12_4.length co43)) (ok:=(fun k_=>some k_ ≠ (.slice (some ad203) x6_2.length co22 : Value).ownBlock)) (by (with_reducible repeat (first|apply Kd.R_alloc|apply Kd.R_drewN|apply Kd.R_drew));exact HO_8.out) hg (.inl rfl));have n2_:=Aside0.mk (hp_);have n3_:=Aside0.mk (blk_grown (g:=gb183) (o:=.cells #[.int .i64 a0_0,.slice A0_1 l0_1.length c0_1] 28 (0,0)) (by (with_reducible repeat (first|refine blk_drewN ?_ _|refine blk_drew ?_|refine blk_alloc ?_ _));exact BK183.out) hg (Kd.R_ne HO_12.out BK183.out (by decide)));have n4_:=Aside0.mk ((by rw [hw];exact below_set (HB.out) GB43.out : Below w.heap.size w w45));clear HO_6;clear HO_8;clear HO_12;clear BK183;clear HB;have HO_6:=n0_;have HO_8:=n1_;have HO_12:=n2_;have BK183:=n3_;have HB:=n4_;clear n0_ n1_ n2_ n3_ n4_;clear hg hw hp_))
                    go_roundg k4
                    case measure=>have:=HK1.out;have:=HK2.out;have:=HJ22.out;have:=HK4.out;omega
                    case rel=>exact ⟨(y204),(wrap64 (x13_4 + 1)),(by first|rfl|(simp;done)|(simp [*];done)),H',⟨by have:=HK1.out;have:=HK2.out;have:=HJ22.out;have:=HK4.out;omega⟩,⟨by (try simp only [hl6_2]);(with_reducible repeat (first|apply Kd.R_alloc|apply Kd.R_drewN|apply Kd.R_drew));exact HO_6.out⟩,⟨by (try simp only [hl6_2]);(with_reducible repeat (first|apply Kd.R_alloc|apply Kd.R_drewN|apply Kd.R_drew));exact HO_8.out⟩,⟨by (try simp only [hl6_2]);(with_reducible repeat (first|apply Kd.R_alloc|apply Kd.R_drewN|apply Kd.R_drew));exact HO_12.out⟩,⟨by (try simp only [hl6_2]);(with_reducible repeat (first|refine blk_drewN ?_ _|refine blk_drew ?_|refine blk_alloc ?_ _));exact BK183.out⟩,⟨by repeat (first|(with_reducible first|exact HB.out|apply below_alloc|apply pw_below_drewN|apply below_drew1|refine below_set ?_ GE183.out)|exact HB.out)⟩⟩
                   ·rw [if_neg c42] at H
                    exact absurd H (by simp)
                  ·rw [if_neg c41] at H
                   exact absurd H (by simp)
                 ·rw [if_neg c39] at H
                  exact absurd H (by simp)
                ·rw [if_neg c37] at H
                 exact absurd H (by simp)
               ·rw [if_neg c36] at H
                have c36b0 : decide (x13_4 < (x6_2.length : Int)) = false:=decide_eq_false c36
                (try (have c36b0z:=c36b0;simp only [← hl6_2] at c36b0z))
                (try (have c36b0y:=c36b0;simp only [hl6_2] at c36b0y))
                clear c36
                replace H:=Option.bind_eq_some_iff.mp H
                obtain ⟨t205,A460,H⟩:=H
                replace H : (if 0 ≤ x9_1 then (if x9_1 < (x6_2.length : Int) then (if 0 ≤ (rd x6_2 x9_1) then (if (rd x6_2 x9_1) < (x12_4.length : Int) then ((spec_l06Joiner.f k4 a0_0 (x12_4.set ((rd x6_2 x9_1) : Int).toNat 2)).bind fun t208=>(spec_DeadCells.l1 k4 x6_2 x8_2 x9_1 (t205 == t208) (wrap64 (x11_2 + 1)) a0_0 l0_1)) else (none)) else (none)) else (none)) else (none)) = some (r1,r2):=H
                have A46:=Aside0.mk A460
                clear A460
                by_cases c47 : 0 ≤ x9_1
                ·rw [if_pos c47] at H
                 have c47b0 : decide (0 ≤ x9_1) = true:=decide_eq_true c47
                 clear c47
                 by_cases c48 : x9_1 < (x6_2.length : Int)
                 ·rw [if_pos c48] at H
                  have c48b0 : decide (x9_1 < (x6_2.length : Int)) = true:=decide_eq_true c48
                  (try (have c48b0z:=c48b0;simp only [← hl6_2] at c48b0z))
                  (try (have c48b0y:=c48b0;simp only [hl6_2] at c48b0y))
                  clear c48
                  by_cases c49 : 0 ≤ (rd x6_2 x9_1)
                  ·rw [if_pos c49] at H
                   have c49b0 : decide (0 ≤ (rd x6_2 x9_1)) = true:=decide_eq_true c49
                   clear c49
                   by_cases c50 : (rd x6_2 x9_1) < (x12_4.length : Int)
                   ·rw [if_pos c50] at H
                    have c50b0 : decide ((rd x6_2 x9_1) < (x12_4.length : Int)) = true:=decide_eq_true c50
                    (try (have c50b0z:=c50b0;simp only [← hl6_2] at c50b0z))
                    (try (have c50b0y:=c50b0;simp only [hl6_2] at c50b0y))
                    clear c50
                    obtain ⟨y207,hy207⟩ : ∃ y_ : List Int,y_ = (x12_4.set ((rd x6_2 x9_1) : Int).toNat 2):=⟨_,rfl⟩
                    replace H : ((spec_l06Joiner.f k4 a0_0 y207).bind fun t208=>(spec_DeadCells.l1 k4 x6_2 x8_2 x9_1 (t205 == t208) (wrap64 (x11_2 + 1)) a0_0 l0_1)) = some (r1,r2):=by first|(rw [hy207];with_reducible exact H)|(have H2_:=(Option.bind_some _ _).symm.trans H;rw [hy207];with_reducible exact H2_)|(have H2_:=(Option.bind_some _ _).symm.trans H;with_reducible exact H2_)|with_reducible exact H|(rw [hy207];exact H)|exact H
                    have Ny207:=Aside0.mk hy207
                    clear hy207
                    replace H:=Option.bind_eq_some_iff.mp H
                    obtain ⟨t208,A520,H⟩:=H
                    replace H : (spec_DeadCells.l1 k4 x6_2 x8_2 x9_1 (t205 == t208) (wrap64 (x11_2 + 1)) a0_0 l0_1) = some (r1,r2):=H
                    have A52:=Aside0.mk A520
                    clear A520
                    have H':=Aside0.mk H
                    clear H
                    have hcz53_0 : wr.cell? ⟨gb183,0,none⟩ = some (.int .i64 a0_0):=(blk_cell BK183.out 0).trans rfl
                    have hcz53_1 : wr.cell? ⟨gb183,1,none⟩ = some (.slice A0_1 l0_1.length c0_1):=(blk_cell BK183.out 1).trans rfl
                    have hfz53_0:=blk_frozen BK183.out 0
                    have hfz53_1:=blk_frozen BK183.out 1
                    obtain ⟨Ao54,co54,eo54⟩:=Kd.R_slice HO_12.out
                    subst eo54
                    go_wp2_with (first|((with_reducible refine gate_callee (f:=39) rfl ?_);refine goesL_ (some 78) rfl rfl Try.func39 (by kernel_rfl) rfl #[.int .i64 a0_0,.slice Ao54 x12_4.length co54] rfl (by (try simp only [List.map_toArray,List.map_cons,List.map_nil]);first|done|rfl|(simp only [List.length_drop,List.length_take];rfl)) ?_;(with_reducible refine (spec_l06Joiner.calls k4 a0_0 _ _ x12_4 t205 _ ?side1 ?side2 A46.out).mono ?_);(case side1=>repeat (first|exact (Kd.R_reads' HO_12.out).2.2|(with_reducible refine Kd.C_alloc ?_ _)|(with_reducible refine Kd.C_drewN ?_ _)|(with_reducible refine Kd.C_drew ?_)));(case side2=>exact (Kd.R_reads' HO_12.out).2.1);rintro e w55 ⟨rfl,hb⟩;refine ⟨_,rfl,?_⟩;have n0_:=Aside0.mk (Kd.R_below (by (with_reducible repeat (first|apply Kd.R_alloc|apply Kd.R_drewN|apply Kd.R_drew));exact HO_6.out) hb);have n1_:=Aside0.mk (Kd.R_below (by (with_reducible repeat (first|apply Kd.R_alloc|apply Kd.R_drewN|apply Kd.R_drew));exact HO_8.out) hb);have n2_:=Aside0.mk (Kd.R_below (by (with_reducible repeat (first|apply Kd.R_alloc|apply Kd.R_drewN|apply Kd.R_drew));exact HO_12.out) hb);have n3_:=Aside0.mk (blk_below (g:=gb183) (o:=.cells #[.int .i64 a0_0,.slice A0_1 l0_1.length c0_1] 28 (0,0)) (by (with_reducible repeat (first|refine blk_drewN ?_ _|refine blk_drew ?_|refine blk_alloc ?_ _));exact BK183.out) hb);have n4_:=Aside0.mk (below_step (by repeat (first|(with_reducible first|exact HB.out|apply below_alloc|apply pw_below_drewN|apply below_drew1|refine below_set ?_ GE183.out)|exact HB.out)) hb);clear HO_6;clear HO_8;clear HO_12;clear BK183;clear HB;have HO_6:=n0_;have HO_8:=n1_;have HO_12:=n2_;have BK183:=n3_;have HB:=n4_;clear n0_ n1_ n2_ n3_ n4_;(try clear hb);(try clear hb2);(try clear hk);(try clear hi);have p206 : 0 ≤ (x9_1 : Int):=of_decide_eq_true (by first|(with_reducible assumption)|assumption);have q206 : x9_1 < (x6_2.length : Int):=of_decide_eq_true (by first|(with_reducible assumption)|assumption);obtain ⟨ad206,e206,hx206_0⟩:=Kd.at_int (Kd.R_reads' HO_6.out).2.2 x9_1 p206 q206;cases e206;replace p206:=eq_true p206;replace q206:=eq_true q206;have p51 : 0 ≤ ((rd x6_2 x9_1) : Int):=of_decide_eq_true (by first|(with_reducible assumption)|assumption);have q51 : ((rd x6_2 x9_1) : Int) < ((x12_4.length : Int) : Int):=of_decide_eq_true (by first|(with_reducible assumption)|assumption);obtain ⟨go51,co51,eo51,gb51,gl51,cl51,HG51⟩:=Kd.R_form HO_12.out (by omega);(first|cases eo51|(injection eo51 with ea_ en_ ec_;(first|subst ea_|(injection ea_ with ea_;subst ea_));subst ec_;clear en_));have GB51:=Aside0.mk gb51;have GG51:=Aside0.mk HG51;clear gb51 gl51 HG51;obtain ⟨hx51_0,hf51_0⟩:=Kd.R_celln 0 HO_12.out ((rd x6_2 x9_1) : Int) p51 q51;replace p51:=eq_true p51;replace q51:=eq_true q51;obtain ⟨hy56_,hz56_⟩:=Kd.R_celln 0 HO_12.out ((rd x6_2 x9_1) : Int) (of_decide_eq_true (by first|(with_reducible assumption)|assumption)) (of_decide_eq_true (by first|(with_reducible assumption)|assumption));have HP56:=Kd.R_putg HO_12.out ((rd x6_2 x9_1) : Int) 2)|((with_reducible refine gate_store (t:=2) (p:=84) rfl ?_);refine store_event (t:=2) (p:=84) (v:=?vo_w57) (w1:=(w55.setCell ⟨go51,((rd x6_2 x9_1) : Int).toNat,none⟩ (.int .i64 2))) ?hg ?ho ?hn ?hr ?_;(case ho=>rfl);(case hg=>rfl);(case hn=>rfl);(case hr=>first|(go_simp;done)|(go_simp;rfl));intro w57 hw;have hg : w55.grownBy w57 (some go51):=(by rw [hw];exact HP56.2);have hp_ : Kd.R (Kd.int .i64) 2 w57 w.heap.size (fun k_=>some k_ ≠ (.slice (some ad206) x6_2.length co22 : Value).ownBlock ∧ some k_ ≠ (u8 : Value).ownBlock) (.slice (some ⟨go51,0,none⟩) x12_4.length co54) y207:=(by rw [hw,Ny207.out];exact HP56.1);clear HP56;have n0_:=Aside0.mk (Kd.R_after (v:=(.slice (some ⟨go51,0,none⟩) x12_4.length co54)) (v1:=(.slice (some ⟨go51,0,none⟩) x12_4.length co54)) (ok:=(fun k_=>some k_ ≠ (u8 : Value).ownBlock)) (by (with_reducible repeat (first|apply Kd.R_alloc|apply Kd.R_drewN|apply Kd.R_drew));exact HO_6.out) hg (.inl rfl));have n1_:=Aside0.mk (Kd.R_after (v:=(.slice (some ⟨go51,0,none⟩) x12_4.length co54)) (v1:=(.slice (some ⟨go51,0,none⟩) x12_4.length co54)) (ok:=(fun k_=>some k_ ≠ (.slice (some ad206) x6_2.length co22 : Value).ownBlock)) (by (with_reducible repeat (first|apply Kd.R_alloc|apply Kd.R_drewN|apply Kd.R_drew));exact HO_8.out) hg (.inl rfl));have n2_:=Aside0.mk (hp_);have n3_:=Aside0.mk (blk_grown (g:=gb183) (o:=.cells #[.int .i64 a0_0,.slice A0_1 l0_1.length c0_1] 28 (0,0)) (by (with_reducible repeat (first|refine blk_drewN ?_ _|refine blk_drew ?_|refine blk_alloc ?_ _));exact BK183.out) hg (Kd.R_ne HO_12.out BK183.out (by decide)));have n4_:=Aside0.mk ((by rw [hw];exact below_set (HB.out) GB51.out : Below w.heap.size w w57));clear HO_6;clear HO_8;clear HO_12;clear BK183;clear HB;have HO_6:=n0_;have HO_8:=n1_;have HO_12:=n2_;have BK183:=n3_;have HB:=n4_;clear n0_ n1_ n2_ n3_ n4_;clear hg hw hp_;have hcz58_0 : w57.cell? ⟨gb183,0,none⟩ = some (.int .i64 a0_0):=(blk_cell BK183.out 0).trans rfl;have hcz58_1 : w57.cell? ⟨gb183,1,none⟩ = some (.slice A0_1 l0_1.length c0_1):=(blk_cell BK183.out 1).trans rfl;have hfz58_0:=blk_frozen BK183.out 0;have hfz58_1:=blk_frozen BK183.out 1)|((with_reducible refine gate_callee (f:=39) rfl ?_);refine goesL_ (some 89) rfl rfl Try.func39 (by kernel_rfl) rfl #[.int .i64 a0_0,.slice (some ⟨go51,0,none⟩) y207.length co54] rfl (by (try simp only [List.map_toArray,List.map_cons,List.map_nil]);first|done|(rw [show y207.length = x12_4.length from (Kd.R_reads' HO_12.out).1.symm] <;> rfl)|rfl|(simp only [List.length_drop,List.length_take];rfl)) ?_;(with_reducible refine (spec_l06Joiner.calls k4 a0_0 _ _ y207 t208 _ ?side1 ?side2 A52.out).mono ?_);(case side1=>repeat (first|exact (Kd.R_reads' HO_12.out).2.2|(with_reducible refine Kd.C_alloc ?_ _)|(with_reducible refine Kd.C_drewN ?_ _)|(with_reducible refine Kd.C_drew ?_)));(case side2=>rw [show y207.length = x12_4.length from (Kd.R_reads' HO_12.out).1.symm];exact (Kd.R_reads' HO_12.out).2.1);rintro e w59 ⟨rfl,hb⟩;refine ⟨_,rfl,?_⟩;have n0_:=Aside0.mk (Kd.R_below (by (with_reducible repeat (first|apply Kd.R_alloc|apply Kd.R_drewN|apply Kd.R_drew));exact HO_6.out) hb);have n1_:=Aside0.mk (Kd.R_below (by (with_reducible repeat (first|apply Kd.R_alloc|apply Kd.R_drewN|apply Kd.R_drew));exact HO_8.out) hb);have n2_:=Aside0.mk (Kd.R_below (by (with_reducible repeat (first|apply Kd.R_alloc|apply Kd.R_drewN|apply Kd.R_drew));exact HO_12.out) hb);have n3_:=Aside0.mk (blk_below (g:=gb183) (o:=.cells #[.int .i64 a0_0,.slice A0_1 l0_1.length c0_1] 28 (0,0)) (by (with_reducible repeat (first|refine blk_drewN ?_ _|refine blk_drew ?_|refine blk_alloc ?_ _));exact BK183.out) hb);have n4_:=Aside0.mk (below_step (by repeat (first|(with_reducible first|exact HB.out|apply below_alloc|apply pw_below_drewN|apply below_drew1|refine below_set ?_ GE183.out)|exact HB.out)) hb);clear HO_6;clear HO_8;clear HO_12;clear BK183;clear HB;have HO_6:=n0_;have HO_8:=n1_;have HO_12:=n2_;have BK183:=n3_;have HB:=n4_;clear n0_ n1_ n2_ n3_ n4_;(try clear hb);(try clear hb2);(try clear hk);(try clear hi)))
                    (try simp only [← hl6_2])
                    go_roundg k4
                    case measure=>have:=HK1.out;have:=HK2.out;have:=HJ22.out;have:=HK4.out;omega
                    case rel=>exact ⟨(x6_2),(x8_2),((t205 == t208)),(wrap64 (x11_2 + 1)),(by first|rfl|(simp;done)|(simp [*];done)),(by first|rfl|(simp;done)|(simp [*];done)),H',⟨by have:=HK1.out;have:=HK2.out;have:=HJ22.out;have:=HK4.out;omega⟩,⟨by (try simp only [hl6_2]);(with_reducible repeat (first|apply Kd.R_alloc|apply Kd.R_drewN|apply Kd.R_drew));exact Kd.R_mono HO_6.out (fun _ hk=>hk.1)⟩,⟨by (try simp only [hl6_2]);(with_reducible repeat (first|apply Kd.R_alloc|apply Kd.R_drewN|apply Kd.R_drew));exact Kd.R_mono HO_8.out (fun _ hk=>hk.1)⟩,⟨by (try simp only [hl6_2]);(with_reducible repeat (first|refine blk_drewN ?_ _|refine blk_drew ?_|refine blk_alloc ?_ _));exact BK183.out⟩,⟨by repeat (first|(with_reducible first|exact HB.out|apply below_alloc|apply pw_below_drewN|apply below_drew1|refine below_set ?_ GE183.out)|exact HB.out)⟩⟩
                   ·rw [if_neg c50] at H
                    exact absurd H (by simp)
                  ·rw [if_neg c49] at H
                   exact absurd H (by simp)
                 ·rw [if_neg c48] at H
                  exact absurd H (by simp)
                ·rw [if_neg c47] at H
                 exact absurd H (by simp)
           ·rw [if_neg c30] at H
            exact absurd H (by simp)
          ·replace c28:=Bool.eq_false_iff.mpr c28
           subst c28
           have H1 : (if x10_2 = true then (if 0 ≤ x9_1 then (if x9_1 < (x6_2.length : Int) then (if x8_2.length < 17592186044416 then (spec_DeadCells.l0 kj22 x6_2 (x8_2 ++ [rd x6_2 x9_1]) (wrap64 (x9_1 + 1)) a0_0 l0_1) else (none)) else (none)) else (none)) else (spec_DeadCells.l0 kj22 x6_2 x8_2 (wrap64 (x9_1 + 1)) a0_0 l0_1)) = some (r1,r2):=by rw [if_neg (show ¬ (false = true) by decide)] at H;exact H
           clear H
           have H:=H1
           clear H1
           by_cases c60 : x10_2 = true
           ·subst c60
            have H1 : (if 0 ≤ x9_1 then (if x9_1 < (x6_2.length : Int) then (if x8_2.length < 17592186044416 then (spec_DeadCells.l0 kj22 x6_2 (x8_2 ++ [rd x6_2 x9_1]) (wrap64 (x9_1 + 1)) a0_0 l0_1) else (none)) else (none)) else (none)) = some (r1,r2):=by rw [if_pos rfl] at H;exact H
            clear H
            have H:=H1
            clear H1
            by_cases c61 : 0 ≤ x9_1
            ·rw [if_pos c61] at H
             have c61b0 : decide (0 ≤ x9_1) = true:=decide_eq_true c61
             clear c61
             by_cases c62 : x9_1 < (x6_2.length : Int)
             ·rw [if_pos c62] at H
              have c62b0 : decide (x9_1 < (x6_2.length : Int)) = true:=decide_eq_true c62
              (try (have c62b0z:=c62b0;simp only [← hl6_2] at c62b0z))
              (try (have c62b0y:=c62b0;simp only [hl6_2] at c62b0y))
              clear c62
              by_cases c63 : x8_2.length < 17592186044416
              ·rw [if_pos c63] at H
               have LMc63:=Aside0.mk c63
               clear c63
               obtain ⟨y197,hy197⟩ : ∃ y_ : List Int,y_ = (x8_2 ++ [rd x6_2 x9_1]):=⟨_,rfl⟩
               replace H : (spec_DeadCells.l0 kj22 x6_2 y197 (wrap64 (x9_1 + 1)) a0_0 l0_1) = some (r1,r2):=by first|(rw [hy197];with_reducible exact H)|(have H2_:=(Option.bind_some _ _).symm.trans H;rw [hy197];with_reducible exact H2_)|(have H2_:=(Option.bind_some _ _).symm.trans H;with_reducible exact H2_)|with_reducible exact H|(rw [hy197];exact H)|exact H
               have Ny197:=Aside0.mk hy197
               clear hy197
               have H':=Aside0.mk H
               clear H
               have p196 : 0 ≤ (x9_1 : Int):=of_decide_eq_true (by first|(with_reducible assumption)|assumption)
               have q196 : x9_1 < (x6_2.length : Int):=of_decide_eq_true (by first|(with_reducible assumption)|assumption)
               obtain ⟨ad196,e196,hx196_0⟩:=Kd.at_int (Kd.R_reads' HO_6.out).2.2 x9_1 p196 q196
               cases e196
               replace p196:=eq_true p196
               replace q196:=eq_true q196
               go_wp2_with (first|((with_reducible refine gate_builtin (b:=.append) (xs:=#[.tmp 92,.tmp 97]) rfl ?_);at_builtin;refine Kd.R_append (Kd.int .i64) (w0:=w) w.heap.size rfl (.tmp 92) (.tmp 97) 22 2 (.int .i64 0) 8 rfl Try.underlying22 info2 rfl (by decide) (by omega) u8 x8_2 (rd x6_2 x9_1) [.int .i64 (rd x6_2 x9_1)] (fun k_=>some k_ ≠ (.slice (some ad196) x6_2.length co22 : Value).ownBlock) (fun _=>False) rfl rfl ?aP (fun _ hk=>hk.elim) ?aF ?aO ?aB ?aS ?aL ?_;(case aP=>exact rfl);(case aB=>exact (by repeat (first|(with_reducible first|exact HB.out|apply below_alloc|apply pw_below_drewN|apply below_drew1|refine below_set ?_ GE183.out)|exact HB.out)));(case aF=>exact (fun k_ hk=>Kd.fresh' (Kd.R_lt (by (with_reducible repeat (first|apply Kd.R_alloc|apply Kd.R_drewN|apply Kd.R_drew));exact HO_6.out)) k_ hk));(case aO=>exact (by (with_reducible repeat (first|apply Kd.R_alloc|apply Kd.R_drewN|apply Kd.R_drew));exact HO_8.out));(case aS=>exact (below_size (by repeat (first|(with_reducible first|exact HB.out|apply below_alloc|apply pw_below_drewN|apply below_drew1|refine below_set ?_ GE183.out)|exact HB.out))));(case aL=>have:=LMc63.out;omega);intro v198 w64 ho hb hg hat;rw [← Ny197.out] at ho;have n0_:=Aside0.mk (Kd.R_after (ok:=(fun _=>True)) (by (with_reducible repeat (first|apply Kd.R_alloc|apply Kd.R_drewN|apply Kd.R_drew));exact Kd.R_mono HO_6.out (fun _ hk=>⟨trivial,hk⟩)) hg hat);have n1_:=Aside0.mk (blk_grown (g:=gb183) (o:=.cells #[.int .i64 a0_0,.slice A0_1 l0_1.length c0_1] 28 (0,0)) (by (with_reducible repeat (first|refine blk_drewN ?_ _|refine blk_drew ?_|refine blk_alloc ?_ _));exact BK183.out) hg (Kd.R_ne HO_8.out BK183.out (by decide)));have n2_:=Aside0.mk (hb);have n3_:=Aside0.mk (ho);clear HO_6;clear BK183;clear HB;clear HO_8;have HO_6:=n0_;have BK183:=n1_;have HB:=n2_;have HO199:=n3_;clear n0_ n1_ n2_ n3_;clear ho hb hg hat))
               (try simp only [← hl6_2])
               go_roundg kj22
               case measure=>have:=HK1.out;have:=HK2.out;have:=HJ22.out;omega
               case rel=>exact ⟨(x6_2),(y197),(wrap64 (x9_1 + 1)),(by first|rfl|(simp;done)|(simp [*];done)),H',⟨by have:=HK1.out;have:=HK2.out;have:=HJ22.out;omega⟩,⟨by (try simp only [hl6_2]);(with_reducible repeat (first|apply Kd.R_alloc|apply Kd.R_drewN|apply Kd.R_drew));exact Kd.R_mono HO_6.out (fun _ hk=>hk.2)⟩,⟨by (try simp only [hl6_2]);(with_reducible repeat (first|apply Kd.R_alloc|apply Kd.R_drewN|apply Kd.R_drew));exact HO199.out⟩,⟨by (try simp only [hl6_2]);(with_reducible repeat (first|refine blk_drewN ?_ _|refine blk_drew ?_|refine blk_alloc ?_ _));exact BK183.out⟩,⟨by repeat (first|(with_reducible first|exact HB.out|apply below_alloc|apply pw_below_drewN|apply below_drew1|refine below_set ?_ GE183.out)|exact HB.out)⟩⟩
              ·rw [if_neg c63] at H
               exact absurd H (by simp)
             ·rw [if_neg c62] at H
              exact absurd H (by simp)
            ·rw [if_neg c61] at H
             exact absurd H (by simp)
           ·replace c60:=Bool.eq_false_iff.mpr c60
            subst c60
            have H1 : (spec_DeadCells.l0 kj22 x6_2 x8_2 (wrap64 (x9_1 + 1)) a0_0 l0_1) = some (r1,r2):=by rw [if_neg (show ¬ (false = true) by decide)] at H;exact H
            clear H
            have H:=H1
            clear H1
            have H':=Aside0.mk H
            clear H
            go_wp2
            (try simp only [← hl6_2])
            go_roundg kj22
            case measure=>have:=HK1.out;have:=HK2.out;have:=HJ22.out;omega
            case rel=>exact ⟨(x6_2),(x8_2),(wrap64 (x9_1 + 1)),(by first|rfl|(simp;done)|(simp [*];done)),H',⟨by have:=HK1.out;have:=HK2.out;have:=HJ22.out;omega⟩,⟨by (try simp only [hl6_2]);(with_reducible repeat (first|apply Kd.R_alloc|apply Kd.R_drewN|apply Kd.R_drew));exact HO_6.out⟩,⟨by (try simp only [hl6_2]);(with_reducible repeat (first|apply Kd.R_alloc|apply Kd.R_drewN|apply Kd.R_drew));exact HO_8.out⟩,⟨by (try simp only [hl6_2]);(with_reducible repeat (first|refine blk_drewN ?_ _|refine blk_drew ?_|refine blk_alloc ?_ _));exact BK183.out⟩,⟨by repeat (first|(with_reducible first|exact HB.out|apply below_alloc|apply pw_below_drewN|apply below_drew1|refine below_set ?_ GE183.out)|exact HB.out)⟩⟩
     ·rw [if_neg c21] at H
      have c21b0 : decide (x9_1 < (x6_1.length : Int)) = false:=decide_eq_false c21
      clear c21
      simp only [Option.some.injEq,Prod.mk.injEq] at H
      obtain ⟨rfl,rfl⟩:=H
      obtain ⟨Ao65,co65,eo65⟩:=Kd.R_slice HO_6.out
      subst eo65
      go_wp2
      go_ret2
      exact ⟨_,by first|rfl|(simp [errW_none,errW_some] <;> rfl)|(simp [*,errW_none,errW_some] <;> rfl),by (with_reducible repeat (first|apply Kd.R_alloc|apply Kd.R_drewN|apply Kd.R_drew));exact Kd.R_mono HO_8.out (fun _ hk=>trivial),by repeat (first|(with_reducible first|exact HB.out|apply below_alloc|apply pw_below_drewN|apply below_drew1|refine below_set ?_ GE183.out)|exact HB.out)⟩
 ·replace c3:=Bool.eq_false_iff.mpr c3
  subst c3
  have H1 : (some (([] : List Int),1)) = some (r1,r2):=by rw [if_neg (show ¬ (false = true) by decide)] at H;exact H
  clear H
  have H:=H1
  clear H1
  simp only [Option.some.injEq,Prod.mk.injEq] at H
  obtain ⟨rfl,rfl⟩:=H
  go_enter Try.func6,Try.ntmps6
  go_wp2_with (first|((with_reducible refine gate_dst (N:=1) rfl ?_);refine box_event ?hg (N:=1) ?hd (cs:=#[.int .i64 a0_0,.slice A0_1 l0_1.length c0_1]) (t:=28) ?hr ?_;(case hd=>rfl);(case hg=>rfl);(case hr=>first|(go_simp;done)|(go_simp;rfl));intro gb183 hg w66 hbox hb;have n0_:=Aside0.mk (below_step (by repeat (first|(with_reducible first|exact HB.out|apply below_alloc|apply pw_below_drewN|apply below_drew1)|exact HB.out)) hb);have n1_:=Aside0.mk (hbox);have n2_:=Aside0.mk ((by rw [hg];exact (below_size (by repeat (first|(with_reducible first|exact HB.out|apply below_alloc|apply pw_below_drewN|apply below_drew1)|exact HB.out))) : w.heap.size ≤ gb183));have n3_:=Aside0.mk ((by rw [hg];exact (below_size (by repeat (first|(with_reducible first|exact HB.out|apply below_alloc|apply pw_below_drewN|apply below_drew1)|exact HB.out))) : w.heap.size ≤ gb183));clear HB;have HB:=n0_;have BK183:=n1_;have GW183:=n2_;have GE183:=n3_;clear n0_ n1_ n2_ n3_;clear hb hbox hg;have hcz67_0 : w66.cell? ⟨gb183,0,none⟩ = some (.int .i64 a0_0):=(blk_cell BK183.out 0).trans rfl;have hcz67_1 : w66.cell? ⟨gb183,1,none⟩ = some (.slice A0_1 l0_1.length c0_1):=(blk_cell BK183.out 1).trans rfl;have hfz67_0:=blk_frozen BK183.out 0;have hfz67_1:=blk_frozen BK183.out 1)|((with_reducible refine gate_callee (f:=35) rfl ?_);refine goesL_ (some 16) rfl rfl Try.func35 (by kernel_rfl) rfl #[.agg #[.int .i64 a0_0,.slice A0_1 l0_1.length c0_1]] rfl (by (try simp only [List.map_toArray,List.map_cons,List.map_nil]);first|done|rfl|(simp only [List.length_drop,List.length_take];rfl)) ?_;(with_reducible refine (spec_l06Is.calls k a0_0 _ _ l0_1 false _ ?side1 ?side2 A2.out).mono ?_);(case side1=>repeat (first|exact (Kd.C_below HR0_1.out HB.out)|(with_reducible refine Kd.C_alloc ?_ _)|(with_reducible refine Kd.C_drewN ?_ _)|(with_reducible refine Kd.C_drew ?_)));(case side2=>exact HC0_1.out);rintro e w68 ⟨rfl,hb⟩;refine ⟨_,rfl,?_⟩;have n0_:=Aside0.mk (blk_below (g:=gb183) (o:=.cells #[.int .i64 a0_0,.slice A0_1 l0_1.length c0_1] 28 (0,0)) (by (with_reducible repeat (first|refine blk_drewN ?_ _|refine blk_drew ?_|refine blk_alloc ?_ _));exact BK183.out) hb);have n1_:=Aside0.mk (below_step (by repeat (first|(with_reducible first|exact HB.out|apply below_alloc|apply pw_below_drewN|apply below_drew1|refine below_set ?_ GE183.out)|exact HB.out)) hb);clear BK183;clear HB;have BK183:=n0_;have HB:=n1_;clear n0_ n1_;(try clear hb);(try clear hb2);(try clear hk);(try clear hi)))
  go_ret2
  exact ⟨_,by first|rfl|(simp [errW_none,errW_some] <;> rfl)|(simp [*,errW_none,errW_some] <;> rfl),by first|exact Kd.R_nil _ _ _ _ _|exact Kd.N_nil _ _ _ _ _|exact Kd.V_nil _ _ _ _ _|exact Kd.Q_nil _ _ _ _ _|exact Kd.S_nil _ _ _ _ _,by repeat (first|(with_reducible first|exact HB.out|apply below_alloc|apply pw_below_drewN|apply below_drew1|refine below_set ?_ GE183.out)|exact HB.out)⟩

end Go.Proofs.Ytcfdlbjngpmcaaa.PAll
