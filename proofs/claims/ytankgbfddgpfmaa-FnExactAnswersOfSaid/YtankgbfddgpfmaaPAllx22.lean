-- Written by wip/pp.py of this work (a driver around the kit's print), out of the translation; Lean checks it.
import Derived.Test.YtankgbfddgpfmaaPAllx0
import Derived.Test.YtankgbfddgpfmaaPAllx19
import Derived.Test.YtankgbfddgpfmaaPAllx21
namespace Go.Proofs.Ytankgbfddgpfmaa.PAll
open Go.RowKit Go.Proofs.YtankgbfddgpfmaaW.PrintWords Go.Proofs.YtankgbfddgpfmaaW.PrintLast Go.Proofs.YtankgbfddgpfmaaW.PrintMore
attribute [local go_sem] max2_int min2_int max_two min_two max_three min_three max_four min_four   -- for this text's walks alone
set_option linter.unusedVariables false
set_option linter.unusedSimpArgs false

/-! ### impl_AnswersOf: function 32 -/
def impl_AnswersOf.l0 : Nat → List Int → List Int → Int → List Int → Int → Int → Option (List Int × Int)
 | 0, _, _, _, _, _, _ => none
 | k + 1, x1, x9, x10, x21, x22, x23 => if x23 < x22 then (if 0 ≤ x23 then (if x23 < (x21.length : Int) then ((impl_answer.f k x1 x10 (rd x21 x23)).bind fun t608 => (if x9.length < 17592186044416 then (if 0 ≤ (rd x21 x23) then (impl_AnswersOf.l0 k x1 (x9 ++ [t608]) (Go.bits .or .i64 x10 (shl .i64 1 (rd x21 x23))) x21 x22 (wrap64 (x23 + 1))) else (none)) else (none))) else (none)) else (none)) else (some (x9, 0))
def impl_AnswersOf.f (k : Nat) (a0_0 : Int) (a0_1 : Int) (l0_2 : List Int) (l1 : List Int) (l2 : List Int) : Option (List Int × Int) := (impl_fleetCode.f k a0_0 a0_1 l0_2 l1 l2).bind fun t603 => (if t603 = 0 then (impl_AnswersOf.l0 k l1 (([] : List Int)) 0 l2 (l2.length : Int) 0) else (some (([] : List Int), t603)))
set_option maxHeartbeats 8000000 in
set_option maxRecDepth 100000 in
theorem impl_AnswersOf.calls (k : Nat) (a0_0 : Int) (a0_1 : Int) (A0_2 : Option Addr) (c0_2 : Nat) (l0_2 : List Int) (A1 : Option Addr) (c1 : Nat) (l1 : List Int) (A2 : Option Addr) (c2 : Nat) (l2 : List Int) (r1 : List Int) (r2 : Int) (w : World) (hr0_2 : Kd.C (Kd.int .i64) w A0_2 l0_2.length l0_2) (hc0_2 : l0_2.length ≤ c0_2) (hr1 : Kd.C (Kd.int .i64) w A1 l1.length l1) (hc1 : l1.length ≤ c1) (hr2 : Kd.C (Kd.int .i64) w A2 l2.length l2) (hc2 : l2.length ≤ c2) (h : impl_AnswersOf.f k a0_0 a0_1 l0_2 l1 l2 = some (r1, r2)) :
  Calls Try.prog 32 #[.agg #[.int .i64 a0_0,.int .i64 a0_1,.slice A0_2 l0_2.length c0_2],.slice A1 l1.length c1,.slice A2 l2.length c2] w fun e w'=>∃ v0_ : Value,e = .returned (.tuple #[v0_,.int .i64 r2]) ∧ Kd.R (Kd.int .i64) 2 w' w.heap.size (fun _=>True) v0_ r1 ∧ Below w.heap.size w w':=by
 have hu28:=Try.underlying28
 have HR0_2:=Aside0.mk hr0_2
 have HC0_2:=Aside0.mk hc0_2
 clear hr0_2 hc0_2
 have HR1:=Aside0.mk hr1
 have HC1:=Aside0.mk hc1
 clear hr1 hc1
 have HR2:=Aside0.mk hr2
 have HC2:=Aside0.mk hc2
 clear hr2 hc2
 have HB:=Aside0.mk (Below.refl w.heap.size w)
 have H : ((impl_fleetCode.f k a0_0 a0_1 l0_2 l1 l2).bind fun t603=>(if t603 = 0 then (impl_AnswersOf.l0 k l1 (([] : List Int)) 0 l2 (l2.length : Int) 0) else (some (([] : List Int),t603)))) = some (r1,r2):=h
 clear h
 replace H:=Option.bind_eq_some_iff.mp H
 obtain ⟨t603,A40,H⟩:=H
 replace H : (if t603 = 0 then (impl_AnswersOf.l0 k l1 (([] : List Int)) 0 l2 (l2.length : Int) 0) else (some (([] : List Int),t603))) = some (r1,r2):=H
 have A4:=Aside0.mk A40
 clear A40
 by_cases c5 : t603 = 0
 ·rw [if_pos c5] at H
  have c5b0 : (t603 == 0) = true:=beq_iff_eq.mpr c5
  have c5b1 : (t603 != 0) = false:=bne_eq_false_iff_eq.mpr c5
  clear c5
  obtain ⟨y604,hy604⟩ : ∃ y_ : List Int,y_ = (([] : List Int)):=⟨_,rfl⟩
  replace H : (impl_AnswersOf.l0 k l1 y604 0 l2 (l2.length : Int) 0) = some (r1,r2):=by first|(rw [hy604];with_reducible exact H)|(have H2_:=(Option.bind_some _ _).symm.trans H;rw [hy604];with_reducible exact H2_)|(have H2_:=(Option.bind_some _ _).symm.trans H;with_reducible exact H2_)|with_reducible exact H|(rw [hy604];exact H)|exact H
  have Ny604:=Aside0.mk hy604
  clear hy604
  have H':=Aside0.mk H
  clear H
  go_enter Try.func32,Try.ntmps32
  go_wp2_with (first|((with_reducible refine gate_dst (N:=3) rfl ?_);refine box_event ?hg (N:=3) ?hd (cs:=#[.int .i64 a0_0,.int .i64 a0_1,.slice A0_2 l0_2.length c0_2]) (t:=28) ?hr ?_;(case hd=>rfl);(case hg=>rfl);(case hr=>first|(go_simp;done)|(go_simp;rfl));intro gb602 hg w6 hbox hb;have n0_:=Aside0.mk (below_step (by repeat (first|(with_reducible first|exact HB.out|apply below_alloc|apply pw_below_drewN|apply below_drew1)|exact HB.out)) hb);have n1_:=Aside0.mk (hbox);have n2_:=Aside0.mk ((by rw [hg];exact (below_size (by repeat (first|(with_reducible first|exact HB.out|apply below_alloc|apply pw_below_drewN|apply below_drew1)|exact HB.out))) : w.heap.size ≤ gb602));have n3_:=Aside0.mk ((by rw [hg];exact (below_size (by repeat (first|(with_reducible first|exact HB.out|apply below_alloc|apply pw_below_drewN|apply below_drew1)|exact HB.out))) : w.heap.size ≤ gb602));clear HB;have HB:=n0_;have BK602:=n1_;have GW602:=n2_;have GE602:=n3_;clear n0_ n1_ n2_ n3_;clear hb hbox hg;have hcz7_0 : w6.cell? ⟨gb602,0,none⟩ = some (.int .i64 a0_0):=(blk_cell BK602.out 0).trans rfl;have hcz7_1 : w6.cell? ⟨gb602,1,none⟩ = some (.int .i64 a0_1):=(blk_cell BK602.out 1).trans rfl;have hcz7_2 : w6.cell? ⟨gb602,2,none⟩ = some (.slice A0_2 l0_2.length c0_2):=(blk_cell BK602.out 2).trans rfl;have hfz7_0:=blk_frozen BK602.out 0;have hfz7_1:=blk_frozen BK602.out 1;have hfz7_2:=blk_frozen BK602.out 2)|((with_reducible refine gate_callee (f:=52) rfl ?_);refine goesL_ (some 16) rfl rfl Try.func52 (by kernel_rfl) rfl #[.agg #[.int .i64 a0_0,.int .i64 a0_1,.slice A0_2 l0_2.length c0_2],.slice A1 l1.length c1,.slice A2 l2.length c2] rfl (by (try simp only [List.map_toArray,List.map_cons,List.map_nil]);first|done|rfl|(simp only [List.length_drop,List.length_take];rfl)) ?_;(with_reducible refine (impl_fleetCode.calls k a0_0 a0_1 _ _ l0_2 _ _ l1 _ _ l2 t603 _ ?side1 ?side2 ?side3 ?side4 ?side5 ?side6 A4.out).mono ?_);(case side1=>repeat (first|exact (Kd.C_below HR0_2.out HB.out)|(with_reducible refine Kd.C_alloc ?_ _)|(with_reducible refine Kd.C_drewN ?_ _)|(with_reducible refine Kd.C_drew ?_)));(case side2=>exact HC0_2.out);(case side3=>repeat (first|exact (Kd.C_below HR1.out HB.out)|(with_reducible refine Kd.C_alloc ?_ _)|(with_reducible refine Kd.C_drewN ?_ _)|(with_reducible refine Kd.C_drew ?_)));(case side4=>exact HC1.out);(case side5=>repeat (first|exact (Kd.C_below HR2.out HB.out)|(with_reducible refine Kd.C_alloc ?_ _)|(with_reducible refine Kd.C_drewN ?_ _)|(with_reducible refine Kd.C_drew ?_)));(case side6=>exact HC2.out);rintro e w8 ⟨rfl,hb⟩;refine ⟨_,rfl,?_⟩;have n0_:=Aside0.mk (blk_below (g:=gb602) (o:=.cells #[.int .i64 a0_0,.int .i64 a0_1,.slice A0_2 l0_2.length c0_2] 28 (0,0)) (by (with_reducible repeat (first|refine blk_drewN ?_ _|refine blk_drew ?_|refine blk_alloc ?_ _));exact BK602.out) hb);have n1_:=Aside0.mk (below_step (by repeat (first|(with_reducible first|exact HB.out|apply below_alloc|apply pw_below_drewN|apply below_drew1|refine below_set ?_ GE602.out)|exact HB.out)) hb);clear BK602;clear HB;have BK602:=n0_;have HB:=n1_;clear n0_ n1_;(try clear hb);(try clear hb2);(try clear hk);(try clear hi))|((with_reducible refine gate_dst (N:=20) rfl ?_);refine Kd.R_lit (Kd.int .i64) _ 2 ?hg (N:=20) ?hd (xs:=([] : List Int)) (inner:=[]) (ok:=fun _=>True) (okp:=fun _=>True) ?hr ?hp (fun _ hk=>hk) trivial (Below.refl _ _) (Nat.le_refl _) (by simp) ?_;(case hd=>rfl);(case hg=>rfl);(case hr=>first|(go_simp;done)|(go_simp;rfl));(case hp=>exact (Reps.none _ _));intro v605 w9 ho10 hb hg_ hnew_;clear hg_ hnew_;(first|rw [← Ny604.out] at ho10|(simp only [Int.reduceToNat] at ho10;rw [← Ny604.out] at ho10));have n0_:=Aside0.mk (Kd.R_lower ho10 (below_size (by repeat (first|(with_reducible first|exact HB.out|apply below_alloc|apply pw_below_drewN|apply below_drew1|refine below_set ?_ GE602.out)|exact HB.out))));have n1_:=Aside0.mk (blk_below (g:=gb602) (o:=.cells #[.int .i64 a0_0,.int .i64 a0_1,.slice A0_2 l0_2.length c0_2] 28 (0,0)) (by (with_reducible repeat (first|refine blk_drewN ?_ _|refine blk_drew ?_|refine blk_alloc ?_ _));exact BK602.out) hb);have n2_:=Aside0.mk (below_step (by repeat (first|(with_reducible first|exact HB.out|apply below_alloc|apply pw_below_drewN|apply below_drew1|refine below_set ?_ GE602.out)|exact HB.out)) hb);clear BK602;clear HB;have HO606:=n0_;have BK602:=n1_;have HB:=n2_;clear n0_ n1_ n2_;clear hb ho10))
  go_loopg [9,10,23] k (fun kq v9 v10 v23 w'=>∃ (x9_1 : List Int) (x10_1 : Int) (x23_1 : Int),v10 = .int .i64 x10_1 ∧ v23 = .int .i64 x23_1 ∧ Aside0 (impl_AnswersOf.l0 kq l1 x9_1 x10_1 l2 (l2.length : Int) x23_1 = some (r1,r2)) ∧ Aside0 (kq ≤ k) ∧ Aside0 (Kd.R (Kd.int .i64) 2 w' w.heap.size (fun _=>True) v9 x9_1) ∧ Aside0 (w'.heap[gb602]? = some (.cells #[.int .i64 a0_0,.int .i64 a0_1,(.slice A0_2 l0_2.length c0_2)] 28 (0,0))) ∧ Aside0 (Below w.heap.size w w'))
  case atStart=>exact ⟨(y604),(0),(0),(by first|rfl|(simp;done)|(simp [*];done)),(by first|rfl|(simp;done)|(simp [*];done)),H',⟨Nat.le_refl _⟩,⟨by (with_reducible repeat (first|apply Kd.R_alloc|apply Kd.R_drewN|apply Kd.R_drew));exact HO606.out⟩,⟨by (with_reducible repeat (first|refine blk_drewN ?_ _|refine blk_drew ?_|refine blk_alloc ?_ _));exact BK602.out⟩,⟨by repeat (first|(with_reducible first|exact HB.out|apply below_alloc|apply pw_below_drewN|apply below_drew1|refine below_set ?_ GE602.out)|exact HB.out)⟩⟩
  case round =>
   clear H'
   try clear c1
   try clear c2
   try clear p2
   try clear c3
   try clear c5
   try clear c5b0
   try clear c5b1
   try clear hcz7_0
   try clear hcz7_1
   try clear hcz7_2
   try clear hfz7_0
   try clear hfz7_1
   try clear hfz7_2
   obtain ⟨x9_1,x10_1,x23_1,rfl,rfl,HA,HK1,HO_9,BK602,HB⟩:=hrel
   cases gk with
   | zero => exact absurd HA.out (by simp [impl_AnswersOf.l0])
   | succ k1 =>
    have H:=HA.out
    clear HA
    simp only [impl_AnswersOf.l0] at H
    by_cases c11 : x23_1 < (l2.length : Int)
    ·rw [if_pos c11] at H
     have c11b0 : decide (x23_1 < (l2.length : Int)) = true:=decide_eq_true c11
     clear c11
     by_cases c12 : 0 ≤ x23_1
     ·rw [if_pos c12] at H
      have c12b0 : decide (0 ≤ x23_1) = true:=decide_eq_true c12
      clear c12
      by_cases c13 : x23_1 < (l2.length : Int)
      ·rw [if_pos c13] at H
       have c13b0 : decide (x23_1 < (l2.length : Int)) = true:=decide_eq_true c13
       clear c13
       replace H:=Option.bind_eq_some_iff.mp H
       obtain ⟨t608,A140,H⟩:=H
       replace H : (if x9_1.length < 17592186044416 then (if 0 ≤ (rd l2 x23_1) then (impl_AnswersOf.l0 k1 l1 (x9_1 ++ [t608]) (Go.bits .or .i64 x10_1 (shl .i64 1 (rd l2 x23_1))) l2 (l2.length : Int) (wrap64 (x23_1 + 1))) else (none)) else (none)) = some (r1,r2):=H
       have A14:=Aside0.mk A140
       clear A140
       by_cases c15 : x9_1.length < 17592186044416
       ·rw [if_pos c15] at H
        have LMc15:=Aside0.mk c15
        clear c15
        obtain ⟨y609,hy609⟩ : ∃ y_ : List Int,y_ = (x9_1 ++ [t608]):=⟨_,rfl⟩
        replace H : (if 0 ≤ (rd l2 x23_1) then (impl_AnswersOf.l0 k1 l1 y609 (Go.bits .or .i64 x10_1 (shl .i64 1 (rd l2 x23_1))) l2 (l2.length : Int) (wrap64 (x23_1 + 1))) else (none)) = some (r1,r2):=by first|(rw [hy609];with_reducible exact H)|(have H2_:=(Option.bind_some _ _).symm.trans H;rw [hy609];with_reducible exact H2_)|(have H2_:=(Option.bind_some _ _).symm.trans H;with_reducible exact H2_)|with_reducible exact H|(rw [hy609];exact H)|exact H
        have Ny609:=Aside0.mk hy609
        clear hy609
        by_cases c16 : 0 ≤ (rd l2 x23_1)
        ·rw [if_pos c16] at H
         have c16b0:=eq_true c16
         have c16b1 : decide (0 ≤ (rd l2 x23_1)) = true:=decide_eq_true c16
         clear c16
         obtain ⟨ji17,hji17⟩ : ∃ j_ : Int,(shl .i64 1 (rd l2 x23_1)) = j_:=⟨_,rfl⟩
         replace H : (impl_AnswersOf.l0 k1 l1 y609 (Go.bits .or .i64 x10_1 (ji17)) l2 (l2.length : Int) (wrap64 (x23_1 + 1))) = some (r1,r2):=by first|(rw [hji17] at H;exact H)|(simp only [hji17] at H ⊢;exact H)
         (try rw [hji17] at A14)
         have hji17_ : (IntKind.i64.wrap (1 * 2 ^ min (rd l2 x23_1).toNat 64)) = ji17:=hji17
         have hji17z : (rd l2 x23_1) ≤ 64 → (IntKind.i64.wrap (1 * 2 ^ (rd l2 x23_1).toNat)) = ji17:=shl_small hji17
         have hji17u : (IntKind.i64.wrap (2 ^ min (rd l2 x23_1).toNat 64)) = ji17:=by have h_:=hji17_;rw [Int.one_mul] at h_;exact h_
         have hji17v : (rd l2 x23_1) ≤ 64 → (IntKind.i64.wrap (2 ^ (rd l2 x23_1).toNat)) = ji17:=fun hle_=>by have h_:=hji17z hle_;rw [Int.one_mul] at h_;exact h_
         have hji17y : (wrap64 (1 * 2 ^ min (rd l2 x23_1).toNat 64)) = ji17:=(i64_w _).symm.trans hji17_
         have hji17x : (rd l2 x23_1) ≤ 64 → (wrap64 (1 * 2 ^ (rd l2 x23_1).toNat)) = ji17:=fun h_=>(i64_w _).symm.trans (hji17z h_)
         have H':=Aside0.mk H
         clear H
         have p607 : 0 ≤ (x23_1 : Int):=of_decide_eq_true (by first|(with_reducible assumption)|assumption)
         have q607 : x23_1 < (l2.length : Int):=of_decide_eq_true (by first|(with_reducible assumption)|assumption)
         obtain ⟨ad607,e607,hx607_0⟩:=Kd.at_int HR2.out x23_1 p607 q607
         cases e607
         replace hx607_0:=(HB.out.cell (World.block_lt_of_cell? w _ hx607_0)).trans hx607_0
         replace p607:=eq_true p607
         replace q607:=eq_true q607
         go_wp2_with (first|((with_reducible refine gate_callee (f:=59) rfl ?_);refine goesL_ (some 31) rfl rfl Try.func59 (by kernel_rfl) rfl #[.slice A1 l1.length c1,.int .i64 x10_1,.int .i64 (rd l2 x23_1)] rfl (by (try simp only [List.map_toArray,List.map_cons,List.map_nil]);first|done|rfl|(simp only [List.length_drop,List.length_take];rfl)) ?_;(with_reducible refine (impl_answer.calls k1 _ _ l1 x10_1 (rd l2 x23_1) t608 _ ?side1 ?side2 A14.out).mono ?_);(case side1=>repeat (first|exact (Kd.C_below HR1.out HB.out)|(with_reducible refine Kd.C_alloc ?_ _)|(with_reducible refine Kd.C_drewN ?_ _)|(with_reducible refine Kd.C_drew ?_)));(case side2=>exact HC1.out);rintro e w' ⟨rfl,⟨nd,rfl⟩⟩;refine ⟨_,rfl,?_⟩)|((with_reducible refine gate_builtin (b:=.append) (xs:=#[.tmp 27,.tmp 32]) rfl ?_);at_builtin;refine Kd.R_append (Kd.int .i64) (w0:=w) w.heap.size rfl (.tmp 27) (.tmp 32) 22 2 (.int .i64 0) 8 rfl Try.underlying22 info2 rfl (by decide) (by omega) u9 x9_1 t608 [.int .i64 t608] (fun _=>True) (fun _=>False) rfl rfl ?aP (fun _ hk=>hk.elim) ?aF ?aO ?aB ?aS ?aL ?_;(case aP=>exact rfl);(case aB=>exact (by repeat (first|(with_reducible first|exact HB.out|apply below_alloc|apply pw_below_drewN|apply below_drew1|refine below_set ?_ GE602.out)|exact HB.out)));(case aF=>exact (fun _ _=>trivial));(case aO=>exact (by (with_reducible repeat (first|apply Kd.R_alloc|apply Kd.R_drewN|apply Kd.R_drew));exact HO_9.out));(case aS=>exact (below_size (by repeat (first|(with_reducible first|exact HB.out|apply below_alloc|apply pw_below_drewN|apply below_drew1|refine below_set ?_ GE602.out)|exact HB.out))));(case aL=>have:=LMc15.out;omega);intro v610 w18 ho hb hg hat;rw [← Ny609.out] at ho;have n0_:=Aside0.mk (blk_grown (g:=gb602) (o:=.cells #[.int .i64 a0_0,.int .i64 a0_1,.slice A0_2 l0_2.length c0_2] 28 (0,0)) (by (with_reducible repeat (first|refine blk_drewN ?_ _|refine blk_drew ?_|refine blk_alloc ?_ _));exact BK602.out) hg (Kd.R_ne HO_9.out BK602.out (by decide)));have n1_:=Aside0.mk (hb);have n2_:=Aside0.mk (ho);clear BK602;clear HB;clear HO_9;have BK602:=n0_;have HB:=n1_;have HO611:=n2_;clear n0_ n1_ n2_;clear ho hb hg hat))
         go_roundg k1
         case measure=>have:=HK1.out;omega
         case rel=>exact ⟨(y609),(Go.bits .or .i64 x10_1 (ji17)),(wrap64 (x23_1 + 1)),(by first|rfl|(simp;done)|(simp only [← hji17] <;> (first|rfl|simp))|(simp [*];done)),(by first|rfl|(simp;done)|(simp [*];done)),H',⟨by have:=HK1.out;omega⟩,⟨by (with_reducible repeat (first|apply Kd.R_alloc|apply Kd.R_drewN|apply Kd.R_drew));exact HO611.out⟩,⟨by (with_reducible repeat (first|refine blk_drewN ?_ _|refine blk_drew ?_|refine blk_alloc ?_ _));exact BK602.out⟩,⟨by repeat (first|(with_reducible first|exact HB.out|apply below_alloc|apply pw_below_drewN|apply below_drew1|refine below_set ?_ GE602.out)|exact HB.out)⟩⟩
        ·rw [if_neg c16] at H
         exact absurd H (by simp)
       ·rw [if_neg c15] at H
        exact absurd H (by simp)
      ·rw [if_neg c13] at H
       exact absurd H (by simp)
     ·rw [if_neg c12] at H
      exact absurd H (by simp)
    ·rw [if_neg c11] at H
     have c11b0 : decide (x23_1 < (l2.length : Int)) = false:=decide_eq_false c11
     clear c11
     simp only [Option.some.injEq,Prod.mk.injEq] at H
     obtain ⟨rfl,rfl⟩:=H
     go_wp2
     go_ret2
     exact ⟨_,by first|rfl|(simp [errW_none,errW_some] <;> rfl)|(simp [*,errW_none,errW_some] <;> rfl),by (with_reducible repeat (first|apply Kd.R_alloc|apply Kd.R_drewN|apply Kd.R_drew));exact HO_9.out,by repeat (first|(with_reducible first|exact HB.out|apply below_alloc|apply pw_below_drewN|apply below_drew1|refine below_set ?_ GE602.out)|exact HB.out)⟩
 ·rw [if_neg c5] at H
  have c5b0 : (t603 == 0) = false:=beq_eq_false_iff_ne.mpr c5
  have c5b1 : (t603 != 0) = true:=bne_iff_ne.mpr c5
  simp only [Option.some.injEq,Prod.mk.injEq] at H
  obtain ⟨rfl,rfl⟩:=H
  go_enter Try.func32,Try.ntmps32
  go_wp2_with (first|((with_reducible refine gate_dst (N:=3) rfl ?_);refine box_event ?hg (N:=3) ?hd (cs:=#[.int .i64 a0_0,.int .i64 a0_1,.slice A0_2 l0_2.length c0_2]) (t:=28) ?hr ?_;(case hd=>rfl);(case hg=>rfl);(case hr=>first|(go_simp;done)|(go_simp;rfl));intro gb602 hg w19 hbox hb;have n0_:=Aside0.mk (below_step (by repeat (first|(with_reducible first|exact HB.out|apply below_alloc|apply pw_below_drewN|apply below_drew1)|exact HB.out)) hb);have n1_:=Aside0.mk (hbox);have n2_:=Aside0.mk ((by rw [hg];exact (below_size (by repeat (first|(with_reducible first|exact HB.out|apply below_alloc|apply pw_below_drewN|apply below_drew1)|exact HB.out))) : w.heap.size ≤ gb602));have n3_:=Aside0.mk ((by rw [hg];exact (below_size (by repeat (first|(with_reducible first|exact HB.out|apply below_alloc|apply pw_below_drewN|apply below_drew1)|exact HB.out))) : w.heap.size ≤ gb602));clear HB;have HB:=n0_;have BK602:=n1_;have GW602:=n2_;have GE602:=n3_;clear n0_ n1_ n2_ n3_;clear hb hbox hg;have hcz20_0 : w19.cell? ⟨gb602,0,none⟩ = some (.int .i64 a0_0):=(blk_cell BK602.out 0).trans rfl;have hcz20_1 : w19.cell? ⟨gb602,1,none⟩ = some (.int .i64 a0_1):=(blk_cell BK602.out 1).trans rfl;have hcz20_2 : w19.cell? ⟨gb602,2,none⟩ = some (.slice A0_2 l0_2.length c0_2):=(blk_cell BK602.out 2).trans rfl;have hfz20_0:=blk_frozen BK602.out 0;have hfz20_1:=blk_frozen BK602.out 1;have hfz20_2:=blk_frozen BK602.out 2)|((with_reducible refine gate_callee (f:=52) rfl ?_);refine goesL_ (some 16) rfl rfl Try.func52 (by kernel_rfl) rfl #[.agg #[.int .i64 a0_0,.int .i64 a0_1,.slice A0_2 l0_2.length c0_2],.slice A1 l1.length c1,.slice A2 l2.length c2] rfl (by (try simp only [List.map_toArray,List.map_cons,List.map_nil]);first|done|rfl|(simp only [List.length_drop,List.length_take];rfl)) ?_;(with_reducible refine (impl_fleetCode.calls k a0_0 a0_1 _ _ l0_2 _ _ l1 _ _ l2 t603 _ ?side1 ?side2 ?side3 ?side4 ?side5 ?side6 A4.out).mono ?_);(case side1=>repeat (first|exact (Kd.C_below HR0_2.out HB.out)|(with_reducible refine Kd.C_alloc ?_ _)|(with_reducible refine Kd.C_drewN ?_ _)|(with_reducible refine Kd.C_drew ?_)));(case side2=>exact HC0_2.out);(case side3=>repeat (first|exact (Kd.C_below HR1.out HB.out)|(with_reducible refine Kd.C_alloc ?_ _)|(with_reducible refine Kd.C_drewN ?_ _)|(with_reducible refine Kd.C_drew ?_)));(case side4=>exact HC1.out);(case side5=>repeat (first|exact (Kd.C_below HR2.out HB.out)|(with_reducible refine Kd.C_alloc ?_ _)|(with_reducible refine Kd.C_drewN ?_ _)|(with_reducible refine Kd.C_drew ?_)));(case side6=>exact HC2.out);rintro e w21 ⟨rfl,hb⟩;refine ⟨_,rfl,?_⟩;have n0_:=Aside0.mk (blk_below (g:=gb602) (o:=.cells #[.int .i64 a0_0,.int .i64 a0_1,.slice A0_2 l0_2.length c0_2] 28 (0,0)) (by (with_reducible repeat (first|refine blk_drewN ?_ _|refine blk_drew ?_|refine blk_alloc ?_ _));exact BK602.out) hb);have n1_:=Aside0.mk (below_step (by repeat (first|(with_reducible first|exact HB.out|apply below_alloc|apply pw_below_drewN|apply below_drew1|refine below_set ?_ GE602.out)|exact HB.out)) hb);clear BK602;clear HB;have BK602:=n0_;have HB:=n1_;clear n0_ n1_;(try clear hb);(try clear hb2);(try clear hk);(try clear hi)))
  go_ret2
  exact ⟨_,by first|rfl|(simp [errW_none,errW_some] <;> rfl)|(simp [*,errW_none,errW_some] <;> rfl),by first|exact Kd.R_nil _ _ _ _ _|exact Kd.N_nil _ _ _ _ _|exact Kd.V_nil _ _ _ _ _|exact Kd.Q_nil _ _ _ _ _|exact Kd.S_nil _ _ _ _ _,by repeat (first|(with_reducible first|exact HB.out|apply below_alloc|apply pw_below_drewN|apply below_drew1|refine below_set ?_ GE602.out)|exact HB.out)⟩

end Go.Proofs.Ytankgbfddgpfmaa.PAll
