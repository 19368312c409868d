-- Written by wip/pp.py of this work (a driver around the kit's print), out of the translation; Lean checks it.
import Derived.Test.YtankgbfddgpfmaaPAllx0
import Derived.Test.YtankgbfddgpfmaaPAllx1
import Derived.Test.YtankgbfddgpfmaaPAllx17
namespace Go.Proofs.Ytankgbfddgpfmaa.PAll
open Go.RowKit Go.Proofs.YtankgbfddgpfmaaW.PrintWords Go.Proofs.YtankgbfddgpfmaaW.PrintLast Go.Proofs.YtankgbfddgpfmaaW.PrintMore
attribute [local go_sem] max2_int min2_int max_two min_two max_three min_three max_four min_four   -- for this text's walks alone
set_option linter.unusedVariables false
set_option linter.unusedSimpArgs false

/-! ### spec_l09Different: function 57 -/
def spec_l09Different.l0 : Nat → List Int → Int → Int → Int → Int → List Int → Option (Bool)
 | 0, _, _, _, _, _, _ => none
 | k + 1, x1, x5, x6, x582000, x582001, x582002 => if x6 < (x1.length : Int) then (if 0 ≤ x6 then ((spec_l01In.f (rd x1 x6) 0 (wrap64 ((wrap64 (x582000 * x582001)) - 1))).bind fun t583 => (if t583 = true then (if 0 ≤ (IntKind.u64.wrap (rd x1 x6)) then (if (Go.bits .and .i64 (shr .i64 x5 (IntKind.u64.wrap (rd x1 x6))) 1) = 1 then (some false) else (spec_l09Different.l0 k x1 (Go.bits .or .i64 x5 (shl .i64 1 (IntKind.u64.wrap (rd x1 x6)))) (wrap64 (x6 + 1)) x582000 x582001 x582002)) else (none)) else (some false))) else (none)) else (some true)
def spec_l09Different.f (k : Nat) (a0_0 : Int) (a0_1 : Int) (l0_2 : List Int) (l1 : List Int) : Option (Bool) := spec_l09Different.l0 k l1 0 0 a0_0 a0_1 l0_2
set_option maxHeartbeats 8000000 in
set_option maxRecDepth 100000 in
theorem spec_l09Different.calls (k : Nat) (a0_0 : Int) (a0_1 : Int) (A0_2 : Option Addr) (c0_2 : Nat) (l0_2 : List Int) (A1 : Option Addr) (c1 : Nat) (l1 : List Int) (r : Bool) (w : World) (hr0_2 : Kd.C (Kd.int .i64) w A0_2 l0_2.length l0_2) (hc0_2 : l0_2.length ≤ c0_2) (hr1 : Kd.C (Kd.int .i64) w A1 l1.length l1) (hc1 : l1.length ≤ c1) (h : spec_l09Different.f k a0_0 a0_1 l0_2 l1 = some r) :
  Calls Try.prog 57 #[.agg #[.int .i64 a0_0,.int .i64 a0_1,.slice A0_2 l0_2.length c0_2],.slice A1 l1.length c1] w fun e w'=>e = .returned (.bool r) ∧ Below w.heap.size w w':=by
 have hu28:=Try.underlying28
 have HR0_2:=Aside0.mk hr0_2
 have HC0_2:=Aside0.mk hc0_2
 clear hr0_2 hc0_2
 have HR1:=Aside0.mk hr1
 have HC1:=Aside0.mk hc1
 clear hr1 hc1
 have HB:=Aside0.mk (Below.refl w.heap.size w)
 have H : (spec_l09Different.l0 k l1 0 0 a0_0 a0_1 l0_2) = some r:=h
 clear h
 have H':=Aside0.mk H
 clear H
 go_enter Try.func57,Try.ntmps57
 go_wp2_with (first|((with_reducible refine gate_dst (N:=2) rfl ?_);refine box_event ?hg (N:=2) ?hd (cs:=#[.int .i64 a0_0,.int .i64 a0_1,.slice A0_2 l0_2.length c0_2]) (t:=28) ?hr ?_;(case hd=>rfl);(case hg=>rfl);(case hr=>first|(go_simp;done)|(go_simp;rfl));intro gb581 hg w3 hbox hb;have n0_:=Aside0.mk (below_step (by repeat (first|(with_reducible first|exact HB.out|apply below_alloc|apply pw_below_drewN|apply below_drew1)|exact HB.out)) hb);have n1_:=Aside0.mk (hbox);have n2_:=Aside0.mk ((by rw [hg];exact (below_size (by repeat (first|(with_reducible first|exact HB.out|apply below_alloc|apply pw_below_drewN|apply below_drew1)|exact HB.out))) : w.heap.size ≤ gb581));have n3_:=Aside0.mk ((by rw [hg];exact (below_size (by repeat (first|(with_reducible first|exact HB.out|apply below_alloc|apply pw_below_drewN|apply below_drew1)|exact HB.out))) : w.heap.size ≤ gb581));clear HB;have HB:=n0_;have BK581:=n1_;have GW581:=n2_;have GE581:=n3_;clear n0_ n1_ n2_ n3_;clear hb hbox hg))
 repeat (go_quiet (first|((with_reducible refine gate_dst (N:=2) rfl ?_);refine box_event ?hg (N:=2) ?hd (cs:=#[.int .i64 a0_0,.int .i64 a0_1,.slice A0_2 l0_2.length c0_2]) (t:=28) ?hr ?_;(case hd=>rfl);(case hg=>rfl);(case hr=>first|(go_simp;done)|(go_simp;rfl));intro gb581 hg w3 hbox hb;have n0_:=Aside0.mk (below_step (by repeat (first|(with_reducible first|exact HB.out|apply below_alloc|apply pw_below_drewN|apply below_drew1)|exact HB.out)) hb);have n1_:=Aside0.mk (hbox);have n2_:=Aside0.mk ((by rw [hg];exact (below_size (by repeat (first|(with_reducible first|exact HB.out|apply below_alloc|apply pw_below_drewN|apply below_drew1)|exact HB.out))) : w.heap.size ≤ gb581));have n3_:=Aside0.mk ((by rw [hg];exact (below_size (by repeat (first|(with_reducible first|exact HB.out|apply below_alloc|apply pw_below_drewN|apply below_drew1)|exact HB.out))) : w.heap.size ≤ gb581));clear HB;have HB:=n0_;have BK581:=n1_;have GW581:=n2_;have GE581:=n3_;clear n0_ n1_ n2_ n3_;clear hb hbox hg));try go_wp2_with (first|((with_reducible refine gate_dst (N:=2) rfl ?_);refine box_event ?hg (N:=2) ?hd (cs:=#[.int .i64 a0_0,.int .i64 a0_1,.slice A0_2 l0_2.length c0_2]) (t:=28) ?hr ?_;(case hd=>rfl);(case hg=>rfl);(case hr=>first|(go_simp;done)|(go_simp;rfl));intro gb581 hg w3 hbox hb;have n0_:=Aside0.mk (below_step (by repeat (first|(with_reducible first|exact HB.out|apply below_alloc|apply pw_below_drewN|apply below_drew1)|exact HB.out)) hb);have n1_:=Aside0.mk (hbox);have n2_:=Aside0.mk ((by rw [hg];exact (below_size (by repeat (first|(with_reducible first|exact HB.out|apply below_alloc|apply pw_below_drewN|apply below_drew1)|exact HB.out))) : w.heap.size ≤ gb581));have n3_:=Aside0.mk ((by rw [hg];exact (below_size (by repeat (first|(with_reducible first|exact HB.out|apply below_alloc|apply pw_below_drewN|apply below_drew1)|exact HB.out))) : w.heap.size ≤ gb581));clear HB;have HB:=n0_;have BK581:=n1_;have GW581:=n2_;have GE581:=n3_;clear n0_ n1_ n2_ n3_;clear hb hbox hg)))
 go_loopg [5,6] k (fun kq v5 v6 w'=>∃ (x5_1 : Int) (x6_1 : Int),v5 = .int .i64 x5_1 ∧ v6 = .int .i64 x6_1 ∧ Aside0 (spec_l09Different.l0 kq l1 x5_1 x6_1 a0_0 a0_1 l0_2 = some r) ∧ Aside0 (kq ≤ k) ∧ Aside0 (w'.heap[gb581]? = some (.cells #[.int .i64 a0_0,.int .i64 a0_1,(.slice A0_2 l0_2.length c0_2)] 28 (0,0))) ∧ Aside0 (Below w.heap.size w w'))
 case atStart=>exact ⟨(0),(0),(by first|rfl|(simp;done)|(simp [*];done)),(by first|rfl|(simp;done)|(simp [*];done)),H',⟨Nat.le_refl _⟩,⟨by (with_reducible repeat (first|refine blk_drewN ?_ _|refine blk_drew ?_|refine blk_alloc ?_ _));exact BK581.out⟩,⟨by repeat (first|(with_reducible first|exact HB.out|apply below_alloc|apply pw_below_drewN|apply below_drew1|refine below_set ?_ GE581.out)|exact HB.out)⟩⟩
 case round =>
  clear H'
  try clear c1
  try clear p2
  obtain ⟨x5_1,x6_1,rfl,rfl,HA,HK1,BK581,HB⟩:=hrel
  cases gk with
  | zero => exact absurd HA.out (by simp [spec_l09Different.l0])
  | succ k1 =>
   have H:=HA.out
   clear HA
   simp only [spec_l09Different.l0] at H
   by_cases c4 : x6_1 < (l1.length : Int)
   ·rw [if_pos c4] at H
    have c4b0 : decide (x6_1 < (l1.length : Int)) = true:=decide_eq_true c4
    clear c4
    by_cases c5 : 0 ≤ x6_1
    ·rw [if_pos c5] at H
     have c5b0 : decide (0 ≤ x6_1) = true:=decide_eq_true c5
     clear c5
     replace H:=Option.bind_eq_some_iff.mp H
     obtain ⟨t583,A60,H⟩:=H
     replace H : (if t583 = true then (if 0 ≤ (IntKind.u64.wrap (rd l1 x6_1)) then (if (Go.bits .and .i64 (shr .i64 x5_1 (IntKind.u64.wrap (rd l1 x6_1))) 1) = 1 then (some false) else (spec_l09Different.l0 k1 l1 (Go.bits .or .i64 x5_1 (shl .i64 1 (IntKind.u64.wrap (rd l1 x6_1)))) (wrap64 (x6_1 + 1)) a0_0 a0_1 l0_2)) else (none)) else (some false)) = some r:=H
     have A6:=Aside0.mk A60
     clear A60
     by_cases c7 : t583 = true
     ·subst c7
      have H1 : (if 0 ≤ (IntKind.u64.wrap (rd l1 x6_1)) then (if (Go.bits .and .i64 (shr .i64 x5_1 (IntKind.u64.wrap (rd l1 x6_1))) 1) = 1 then (some false) else (spec_l09Different.l0 k1 l1 (Go.bits .or .i64 x5_1 (shl .i64 1 (IntKind.u64.wrap (rd l1 x6_1)))) (wrap64 (x6_1 + 1)) a0_0 a0_1 l0_2)) else (none)) = some r:=by rw [if_pos rfl] at H;exact H
      clear H
      have H:=H1
      clear H1
      obtain ⟨ji8,hji8⟩ : ∃ j_ : Int,(IntKind.u64.wrap (rd l1 x6_1)) = j_:=⟨_,rfl⟩
      replace H : (if 0 ≤ (ji8) then (if (Go.bits .and .i64 (shr .i64 x5_1 (ji8)) 1) = 1 then (some false) else (spec_l09Different.l0 k1 l1 (Go.bits .or .i64 x5_1 (shl .i64 1 (ji8))) (wrap64 (x6_1 + 1)) a0_0 a0_1 l0_2)) else (none)) = some r:=by first|(rw [hji8] at H;exact H)|(simp only [hji8] at H ⊢;exact H)
      (try rw [hji8] at A6)
      by_cases c9 : 0 ≤ (ji8)
      ·rw [if_pos c9] at H
       have c9b0:=eq_true c9
       have c9b1 : decide (0 ≤ (ji8)) = true:=decide_eq_true c9
       clear c9
       obtain ⟨ji10,hji10⟩ : ∃ j_ : Int,(shr .i64 x5_1 (ji8)) = j_:=⟨_,rfl⟩
       replace H : (if (Go.bits .and .i64 (ji10) 1) = 1 then (some false) else (spec_l09Different.l0 k1 l1 (Go.bits .or .i64 x5_1 (shl .i64 1 (ji8))) (wrap64 (x6_1 + 1)) a0_0 a0_1 l0_2)) = some r:=by first|(rw [hji10] at H;exact H)|(simp only [hji10] at H ⊢;exact H)
       (try rw [hji10] at A6)
       have hji10_ : (x5_1 / 2 ^ min (ji8).toNat 64) = ji10:=hji10
       have hji10z : (ji8) ≤ 64 → (x5_1 / 2 ^ (ji8).toNat) = ji10:=shr_small hji10
       by_cases c11 : (Go.bits .and .i64 (ji10) 1) = 1
       ·rw [if_pos c11] at H
        have c11b0 : ((Go.bits .and .i64 (ji10) 1) == 1) = true:=beq_iff_eq.mpr c11
        have c11b1 : ((Go.bits .and .i64 (ji10) 1) != 1) = false:=bne_eq_false_iff_eq.mpr c11
        clear c11
        obtain rfl:=Option.some.inj H
        have p582 : 0 ≤ (x6_1 : Int):=of_decide_eq_true (by first|(with_reducible assumption)|assumption)
        have q582 : x6_1 < (l1.length : Int):=of_decide_eq_true (by first|(with_reducible assumption)|assumption)
        obtain ⟨ad582,e582,hx582_0⟩:=Kd.at_int HR1.out x6_1 p582 q582
        cases e582
        replace hx582_0:=(HB.out.cell (World.block_lt_of_cell? w _ hx582_0)).trans hx582_0
        replace p582:=eq_true p582
        replace q582:=eq_true q582
        have hcz12_0 : wr.cell? ⟨gb581,0,none⟩ = some (.int .i64 a0_0):=(blk_cell BK581.out 0).trans rfl
        have hcz12_1 : wr.cell? ⟨gb581,1,none⟩ = some (.int .i64 a0_1):=(blk_cell BK581.out 1).trans rfl
        have hcz12_2 : wr.cell? ⟨gb581,2,none⟩ = some (.slice A0_2 l0_2.length c0_2):=(blk_cell BK581.out 2).trans rfl
        have hfz12_0:=blk_frozen BK581.out 0
        have hfz12_1:=blk_frozen BK581.out 1
        have hfz12_2:=blk_frozen BK581.out 2
        go_wp2_with (first|(go_at_call 37;(with_reducible refine (spec_l01In.calls (rd l1 x6_1) 0 (wrap64 ((wrap64 (a0_0 * a0_1)) - 1)) true _ A6.out).mono ?_);rintro e w' ⟨rfl,⟨nd,rfl⟩⟩;(try first|exact ⟨rfl,_,World.drewN_drewN _ _ _⟩|exact ⟨rfl,_,Eq.trans (World.drewN_drewN _ _ _) (congrArg (World.drewN _) (Nat.add_assoc _ _ _))⟩);all_goals (have p584 : 0 ≤ (x6_1 : Int):=of_decide_eq_true (by first|(with_reducible assumption)|assumption);have q584 : x6_1 < (l1.length : Int):=of_decide_eq_true (by first|(with_reducible assumption)|assumption);obtain ⟨ad584,e584,hx584_0⟩:=Kd.at_int HR1.out x6_1 p584 q584;obtain rfl : ad582 = ad584:=(by injection e584);replace hx584_0:=(HB.out.cell (World.block_lt_of_cell? w _ hx584_0)).trans hx584_0;replace p584:=eq_true p584;replace q584:=eq_true q584)))
        repeat (go_quiet (first|(go_at_call 37;(with_reducible refine (spec_l01In.calls (rd l1 x6_1) 0 (wrap64 ((wrap64 (a0_0 * a0_1)) - 1)) true _ A6.out).mono ?_);rintro e w' ⟨rfl,⟨nd,rfl⟩⟩;(try first|exact ⟨rfl,_,World.drewN_drewN _ _ _⟩|exact ⟨rfl,_,Eq.trans (World.drewN_drewN _ _ _) (congrArg (World.drewN _) (Nat.add_assoc _ _ _))⟩);all_goals (have p584 : 0 ≤ (x6_1 : Int):=of_decide_eq_true (by first|(with_reducible assumption)|assumption);have q584 : x6_1 < (l1.length : Int):=of_decide_eq_true (by first|(with_reducible assumption)|assumption);obtain ⟨ad584,e584,hx584_0⟩:=Kd.at_int HR1.out x6_1 p584 q584;obtain rfl : ad582 = ad584:=(by injection e584);replace hx584_0:=(HB.out.cell (World.block_lt_of_cell? w _ hx584_0)).trans hx584_0;replace p584:=eq_true p584;replace q584:=eq_true q584)));try go_wp2_with (first|(go_at_call 37;(with_reducible refine (spec_l01In.calls (rd l1 x6_1) 0 (wrap64 ((wrap64 (a0_0 * a0_1)) - 1)) true _ A6.out).mono ?_);rintro e w' ⟨rfl,⟨nd,rfl⟩⟩;(try first|exact ⟨rfl,_,World.drewN_drewN _ _ _⟩|exact ⟨rfl,_,Eq.trans (World.drewN_drewN _ _ _) (congrArg (World.drewN _) (Nat.add_assoc _ _ _))⟩);all_goals (have p584 : 0 ≤ (x6_1 : Int):=of_decide_eq_true (by first|(with_reducible assumption)|assumption);have q584 : x6_1 < (l1.length : Int):=of_decide_eq_true (by first|(with_reducible assumption)|assumption);obtain ⟨ad584,e584,hx584_0⟩:=Kd.at_int HR1.out x6_1 p584 q584;obtain rfl : ad582 = ad584:=(by injection e584);replace hx584_0:=(HB.out.cell (World.block_lt_of_cell? w _ hx584_0)).trans hx584_0;replace p584:=eq_true p584;replace q584:=eq_true q584))))
        go_ret
        exact ⟨by first|rfl|(simp [errW_none,errW_some] <;> rfl)|(simp only [← hji8,← hji10];first|rfl|(simp [errW_none,errW_some] <;> rfl))|(simp [*,errW_none,errW_some] <;> rfl),by repeat (first|(with_reducible first|exact HB.out|apply below_alloc|apply pw_below_drewN|apply below_drew1|refine below_set ?_ GE581.out)|exact HB.out)⟩
       ·rw [if_neg c11] at H
        have c11b0 : ((Go.bits .and .i64 (ji10) 1) == 1) = false:=beq_eq_false_iff_ne.mpr c11
        have c11b1 : ((Go.bits .and .i64 (ji10) 1) != 1) = true:=bne_iff_ne.mpr c11
        have c13b0:=eq_true (of_decide_eq_true (by first|(with_reducible assumption)|assumption) : 0 ≤ (ji8))
        obtain ⟨ji14,hji14⟩ : ∃ j_ : Int,(shl .i64 1 (ji8)) = j_:=⟨_,rfl⟩
        replace H : (spec_l09Different.l0 k1 l1 (Go.bits .or .i64 x5_1 (ji14)) (wrap64 (x6_1 + 1)) a0_0 a0_1 l0_2) = some r:=by first|(rw [hji14] at H;exact H)|(simp only [hji14] at H ⊢;exact H)
        (try rw [hji14] at A6)
        have hji14_ : (IntKind.i64.wrap (1 * 2 ^ min (ji8).toNat 64)) = ji14:=hji14
        have hji14z : (ji8) ≤ 64 → (IntKind.i64.wrap (1 * 2 ^ (ji8).toNat)) = ji14:=shl_small hji14
        have hji14u : (IntKind.i64.wrap (2 ^ min (ji8).toNat 64)) = ji14:=by have h_:=hji14_;rw [Int.one_mul] at h_;exact h_
        have hji14v : (ji8) ≤ 64 → (IntKind.i64.wrap (2 ^ (ji8).toNat)) = ji14:=fun hle_=>by have h_:=hji14z hle_;rw [Int.one_mul] at h_;exact h_
        have hji14y : (wrap64 (1 * 2 ^ min (ji8).toNat 64)) = ji14:=(i64_w _).symm.trans hji14_
        have hji14x : (ji8) ≤ 64 → (wrap64 (1 * 2 ^ (ji8).toNat)) = ji14:=fun h_=>(i64_w _).symm.trans (hji14z h_)
        have H':=Aside0.mk H
        clear H
        have p582 : 0 ≤ (x6_1 : Int):=of_decide_eq_true (by first|(with_reducible assumption)|assumption)
        have q582 : x6_1 < (l1.length : Int):=of_decide_eq_true (by first|(with_reducible assumption)|assumption)
        obtain ⟨ad582,e582,hx582_0⟩:=Kd.at_int HR1.out x6_1 p582 q582
        cases e582
        replace hx582_0:=(HB.out.cell (World.block_lt_of_cell? w _ hx582_0)).trans hx582_0
        replace p582:=eq_true p582
        replace q582:=eq_true q582
        have hcz15_0 : wr.cell? ⟨gb581,0,none⟩ = some (.int .i64 a0_0):=(blk_cell BK581.out 0).trans rfl
        have hcz15_1 : wr.cell? ⟨gb581,1,none⟩ = some (.int .i64 a0_1):=(blk_cell BK581.out 1).trans rfl
        have hcz15_2 : wr.cell? ⟨gb581,2,none⟩ = some (.slice A0_2 l0_2.length c0_2):=(blk_cell BK581.out 2).trans rfl
        have hfz15_0:=blk_frozen BK581.out 0
        have hfz15_1:=blk_frozen BK581.out 1
        have hfz15_2:=blk_frozen BK581.out 2
        go_wp2_with (first|(go_at_call 37;(with_reducible refine (spec_l01In.calls (rd l1 x6_1) 0 (wrap64 ((wrap64 (a0_0 * a0_1)) - 1)) true _ A6.out).mono ?_);rintro e w' ⟨rfl,⟨nd,rfl⟩⟩;(try first|exact ⟨rfl,_,World.drewN_drewN _ _ _⟩|exact ⟨rfl,_,Eq.trans (World.drewN_drewN _ _ _) (congrArg (World.drewN _) (Nat.add_assoc _ _ _))⟩);all_goals (have p584 : 0 ≤ (x6_1 : Int):=of_decide_eq_true (by first|(with_reducible assumption)|assumption);have q584 : x6_1 < (l1.length : Int):=of_decide_eq_true (by first|(with_reducible assumption)|assumption);obtain ⟨ad584,e584,hx584_0⟩:=Kd.at_int HR1.out x6_1 p584 q584;obtain rfl : ad582 = ad584:=(by injection e584);replace hx584_0:=(HB.out.cell (World.block_lt_of_cell? w _ hx584_0)).trans hx584_0;replace p584:=eq_true p584;replace q584:=eq_true q584;have p585 : 0 ≤ (x6_1 : Int):=of_decide_eq_true (by first|(with_reducible assumption)|assumption);have q585 : x6_1 < (l1.length : Int):=of_decide_eq_true (by first|(with_reducible assumption)|assumption);obtain ⟨ad585,e585,hx585_0⟩:=Kd.at_int HR1.out x6_1 p585 q585;obtain rfl : ad582 = ad585:=(by injection e585);replace hx585_0:=(HB.out.cell (World.block_lt_of_cell? w _ hx585_0)).trans hx585_0;replace p585:=eq_true p585;replace q585:=eq_true q585)))
        repeat (go_quiet (first|(go_at_call 37;(with_reducible refine (spec_l01In.calls (rd l1 x6_1) 0 (wrap64 ((wrap64 (a0_0 * a0_1)) - 1)) true _ A6.out).mono ?_);rintro e w' ⟨rfl,⟨nd,rfl⟩⟩;(try first|exact ⟨rfl,_,World.drewN_drewN _ _ _⟩|exact ⟨rfl,_,Eq.trans (World.drewN_drewN _ _ _) (congrArg (World.drewN _) (Nat.add_assoc _ _ _))⟩);all_goals (have p584 : 0 ≤ (x6_1 : Int):=of_decide_eq_true (by first|(with_reducible assumption)|assumption);have q584 : x6_1 < (l1.length : Int):=of_decide_eq_true (by first|(with_reducible assumption)|assumption);obtain ⟨ad584,e584,hx584_0⟩:=Kd.at_int HR1.out x6_1 p584 q584;obtain rfl : ad582 = ad584:=(by injection e584);replace hx584_0:=(HB.out.cell (World.block_lt_of_cell? w _ hx584_0)).trans hx584_0;replace p584:=eq_true p584;replace q584:=eq_true q584;have p585 : 0 ≤ (x6_1 : Int):=of_decide_eq_true (by first|(with_reducible assumption)|assumption);have q585 : x6_1 < (l1.length : Int):=of_decide_eq_true (by first|(with_reducible assumption)|assumption);obtain ⟨ad585,e585,hx585_0⟩:=Kd.at_int HR1.out x6_1 p585 q585;obtain rfl : ad582 = ad585:=(by injection e585);replace hx585_0:=(HB.out.cell (World.block_lt_of_cell? w _ hx585_0)).trans hx585_0;replace p585:=eq_true p585;replace q585:=eq_true q585)));try go_wp2_with (first|(go_at_call 37;(with_reducible refine (spec_l01In.calls (rd l1 x6_1) 0 (wrap64 ((wrap64 (a0_0 * a0_1)) - 1)) true _ A6.out).mono ?_);rintro e w' ⟨rfl,⟨nd,rfl⟩⟩;(try first|exact ⟨rfl,_,World.drewN_drewN _ _ _⟩|exact ⟨rfl,_,Eq.trans (World.drewN_drewN _ _ _) (congrArg (World.drewN _) (Nat.add_assoc _ _ _))⟩);all_goals (have p584 : 0 ≤ (x6_1 : Int):=of_decide_eq_true (by first|(with_reducible assumption)|assumption);have q584 : x6_1 < (l1.length : Int):=of_decide_eq_true (by first|(with_reducible assumption)|assumption);obtain ⟨ad584,e584,hx584_0⟩:=Kd.at_int HR1.out x6_1 p584 q584;obtain rfl : ad582 = ad584:=(by injection e584);replace hx584_0:=(HB.out.cell (World.block_lt_of_cell? w _ hx584_0)).trans hx584_0;replace p584:=eq_true p584;replace q584:=eq_true q584;have p585 : 0 ≤ (x6_1 : Int):=of_decide_eq_true (by first|(with_reducible assumption)|assumption);have q585 : x6_1 < (l1.length : Int):=of_decide_eq_true (by first|(with_reducible assumption)|assumption);obtain ⟨ad585,e585,hx585_0⟩:=Kd.at_int HR1.out x6_1 p585 q585;obtain rfl : ad582 = ad585:=(by injection e585);replace hx585_0:=(HB.out.cell (World.block_lt_of_cell? w _ hx585_0)).trans hx585_0;replace p585:=eq_true p585;replace q585:=eq_true q585))))
        go_roundg k1
        case measure=>have:=HK1.out;omega
        case rel=>exact ⟨(Go.bits .or .i64 x5_1 (ji14)),(wrap64 (x6_1 + 1)),(by first|rfl|(simp;done)|(simp only [← hji14] <;> (first|rfl|simp))|(simp [*];done)),(by first|rfl|(simp;done)|(simp [*];done)),H',⟨by have:=HK1.out;omega⟩,⟨by (with_reducible repeat (first|refine blk_drewN ?_ _|refine blk_drew ?_|refine blk_alloc ?_ _));exact BK581.out⟩,⟨by repeat (first|(with_reducible first|exact HB.out|apply below_alloc|apply pw_below_drewN|apply below_drew1|refine below_set ?_ GE581.out)|exact HB.out)⟩⟩
      ·rw [if_neg c9] at H
       exact absurd H (by simp)
     ·replace c7:=Bool.eq_false_iff.mpr c7
      subst c7
      have H1 : (some false) = some r:=by rw [if_neg (show ¬ (false = true) by decide)] at H;exact H
      clear H
      have H:=H1
      clear H1
      obtain rfl:=Option.some.inj H
      have p582 : 0 ≤ (x6_1 : Int):=of_decide_eq_true (by first|(with_reducible assumption)|assumption)
      have q582 : x6_1 < (l1.length : Int):=of_decide_eq_true (by first|(with_reducible assumption)|assumption)
      obtain ⟨ad582,e582,hx582_0⟩:=Kd.at_int HR1.out x6_1 p582 q582
      cases e582
      replace hx582_0:=(HB.out.cell (World.block_lt_of_cell? w _ hx582_0)).trans hx582_0
      replace p582:=eq_true p582
      replace q582:=eq_true q582
      have hcz16_0 : wr.cell? ⟨gb581,0,none⟩ = some (.int .i64 a0_0):=(blk_cell BK581.out 0).trans rfl
      have hcz16_1 : wr.cell? ⟨gb581,1,none⟩ = some (.int .i64 a0_1):=(blk_cell BK581.out 1).trans rfl
      have hcz16_2 : wr.cell? ⟨gb581,2,none⟩ = some (.slice A0_2 l0_2.length c0_2):=(blk_cell BK581.out 2).trans rfl
      have hfz16_0:=blk_frozen BK581.out 0
      have hfz16_1:=blk_frozen BK581.out 1
      have hfz16_2:=blk_frozen BK581.out 2
      go_wp2_with (first|(go_at_call 37;(with_reducible refine (spec_l01In.calls (rd l1 x6_1) 0 (wrap64 ((wrap64 (a0_0 * a0_1)) - 1)) false _ A6.out).mono ?_);rintro e w' ⟨rfl,⟨nd,rfl⟩⟩;(try first|exact ⟨rfl,_,World.drewN_drewN _ _ _⟩|exact ⟨rfl,_,Eq.trans (World.drewN_drewN _ _ _) (congrArg (World.drewN _) (Nat.add_assoc _ _ _))⟩)))
      repeat (go_quiet (first|(go_at_call 37;(with_reducible refine (spec_l01In.calls (rd l1 x6_1) 0 (wrap64 ((wrap64 (a0_0 * a0_1)) - 1)) false _ A6.out).mono ?_);rintro e w' ⟨rfl,⟨nd,rfl⟩⟩;(try first|exact ⟨rfl,_,World.drewN_drewN _ _ _⟩|exact ⟨rfl,_,Eq.trans (World.drewN_drewN _ _ _) (congrArg (World.drewN _) (Nat.add_assoc _ _ _))⟩)));try go_wp2_with (first|(go_at_call 37;(with_reducible refine (spec_l01In.calls (rd l1 x6_1) 0 (wrap64 ((wrap64 (a0_0 * a0_1)) - 1)) false _ A6.out).mono ?_);rintro e w' ⟨rfl,⟨nd,rfl⟩⟩;(try first|exact ⟨rfl,_,World.drewN_drewN _ _ _⟩|exact ⟨rfl,_,Eq.trans (World.drewN_drewN _ _ _) (congrArg (World.drewN _) (Nat.add_assoc _ _ _))⟩))))
      go_ret
      exact ⟨by first|rfl|(simp [errW_none,errW_some] <;> rfl)|(simp [*,errW_none,errW_some] <;> rfl),by repeat (first|(with_reducible first|exact HB.out|apply below_alloc|apply pw_below_drewN|apply below_drew1|refine below_set ?_ GE581.out)|exact HB.out)⟩
    ·rw [if_neg c5] at H
     exact absurd H (by simp)
   ·rw [if_neg c4] at H
    have c4b0 : decide (x6_1 < (l1.length : Int)) = false:=decide_eq_false c4
    clear c4
    obtain rfl:=Option.some.inj H
    go_wp2
    repeat (go_quiet (fail);try go_wp2)
    go_ret
    exact ⟨by first|rfl|(simp [errW_none,errW_some] <;> rfl)|(simp [*,errW_none,errW_some] <;> rfl),by repeat (first|(with_reducible first|exact HB.out|apply below_alloc|apply pw_below_drewN|apply below_drew1|refine below_set ?_ GE581.out)|exact HB.out)⟩

/-! ### spec_l09Answer: function 58 -/
def spec_l09Answer.l0 : Nat → List Int → Int → Int → Int → Option (Int)
 | 0, _, _, _, _ => none
 | k + 1, x0, x1, x2, x7 => if x7 < (x0.length : Int) then (if 0 ≤ x7 then (if 0 ≤ (IntKind.u64.wrap (x1)) then (if (Go.bits .and .i64 (shr .i64 (rd x0 x7) (IntKind.u64.wrap (x1))) 1) = 0 then (spec_l09Answer.l0 k x0 x1 x2 (wrap64 (x7 + 1))) else (if (Go.bits .andNot .i64 (rd x0 x7) x2) = 0 then (some 2) else (some 1))) else (none)) else (none)) else (some 0)
def spec_l09Answer.f (k : Nat) (l0 : List Int) (a1 : Int) (a2 : Int) : Option (Int) := spec_l09Answer.l0 k l0 a1 a2 0
set_option maxHeartbeats 8000000 in
set_option maxRecDepth 100000 in
theorem spec_l09Answer.calls (k : Nat) (A0 : Option Addr) (c0 : Nat) (l0 : List Int) (a1 : Int) (a2 : Int) (r : Int) (w : World) (hr0 : Kd.C (Kd.int .i64) w A0 l0.length l0) (hc0 : l0.length ≤ c0) (h : spec_l09Answer.f k l0 a1 a2 = some r) :
  Calls Try.prog 58 #[.slice A0 l0.length c0,.int .i64 a1,.int .i64 a2] w fun e w'=>e = .returned (.int .i64 r) ∧ Drawn0 w w':=by
 have HR0:=Aside0.mk hr0
 have HC0:=Aside0.mk hc0
 clear hr0 hc0
 have H : (spec_l09Answer.l0 k l0 a1 a2 0) = some r:=h
 clear h
 have H':=Aside0.mk H
 clear H
 go_enter Try.func58,Try.ntmps58
 go_wp2
 go_loopg [7] k (fun kq v7 w'=>∃ (x7_1 : Int),v7 = .int .i64 x7_1 ∧ Aside0 (spec_l09Answer.l0 kq l0 a1 a2 x7_1 = some r) ∧ Aside0 (kq ≤ k) ∧ Drawn0 w w')
 case atStart=>exact ⟨(0),(by first|rfl|(simp;done)|(simp [*];done)),H',⟨Nat.le_refl _⟩,by repeat (first|exact Drawn0.refl _|apply Drawn0.step)⟩
 case round =>
  clear H'
  try clear p2
  obtain ⟨x7_1,rfl,HA,HK1,⟨m1,rfl⟩⟩:=hrel
  cases gk with
  | zero => exact absurd HA.out (by simp [spec_l09Answer.l0])
  | succ k1 =>
   have H:=HA.out
   clear HA
   simp only [spec_l09Answer.l0] at H
   by_cases c4 : x7_1 < (l0.length : Int)
   ·rw [if_pos c4] at H
    have c4b0 : decide (x7_1 < (l0.length : Int)) = true:=decide_eq_true c4
    clear c4
    by_cases c5 : 0 ≤ x7_1
    ·rw [if_pos c5] at H
     have c5b0 : decide (0 ≤ x7_1) = true:=decide_eq_true c5
     clear c5
     obtain ⟨ji6,hji6⟩ : ∃ j_ : Int,(IntKind.u64.wrap (a1)) = j_:=⟨_,rfl⟩
     replace H : (if 0 ≤ (ji6) then (if (Go.bits .and .i64 (shr .i64 (rd l0 x7_1) (ji6)) 1) = 0 then (spec_l09Answer.l0 k1 l0 a1 a2 (wrap64 (x7_1 + 1))) else (if (Go.bits .andNot .i64 (rd l0 x7_1) a2) = 0 then (some 2) else (some 1))) else (none)) = some r:=by first|(rw [hji6] at H;exact H)|(simp only [hji6] at H ⊢;exact H)
     by_cases c7 : 0 ≤ (ji6)
     ·rw [if_pos c7] at H
      have c7b0:=eq_true c7
      have c7b1 : decide (0 ≤ (ji6)) = true:=decide_eq_true c7
      clear c7
      obtain ⟨ji8,hji8⟩ : ∃ j_ : Int,(shr .i64 (rd l0 x7_1) (ji6)) = j_:=⟨_,rfl⟩
      replace H : (if (Go.bits .and .i64 (ji8) 1) = 0 then (spec_l09Answer.l0 k1 l0 a1 a2 (wrap64 (x7_1 + 1))) else (if (Go.bits .andNot .i64 (rd l0 x7_1) a2) = 0 then (some 2) else (some 1))) = some r:=by first|(rw [hji8] at H;exact H)|(simp only [hji8] at H ⊢;exact H)
      have hji8_ : ((rd l0 x7_1) / 2 ^ min (ji6).toNat 64) = ji8:=hji8
      have hji8z : (ji6) ≤ 64 → ((rd l0 x7_1) / 2 ^ (ji6).toNat) = ji8:=shr_small hji8
      by_cases c9 : (Go.bits .and .i64 (ji8) 1) = 0
      ·rw [if_pos c9] at H
       have c9b0 : ((Go.bits .and .i64 (ji8) 1) == 0) = true:=beq_iff_eq.mpr c9
       have c9b1 : ((Go.bits .and .i64 (ji8) 1) != 0) = false:=bne_eq_false_iff_eq.mpr c9
       clear c9
       have H':=Aside0.mk H
       clear H
       have p586 : 0 ≤ (x7_1 : Int):=of_decide_eq_true (by first|(with_reducible assumption)|assumption)
       have q586 : x7_1 < (l0.length : Int):=of_decide_eq_true (by first|(with_reducible assumption)|assumption)
       obtain ⟨ad586,e586,hx586_0⟩:=Kd.at_int HR0.out x7_1 p586 q586
       cases e586
       replace p586:=eq_true p586
       replace q586:=eq_true q586
       go_wp2
       go_roundg k1
       case measure=>have:=HK1.out;omega
       case rel=>exact ⟨(wrap64 (x7_1 + 1)),(by first|rfl|(simp;done)|(simp [*];done)),H',⟨by have:=HK1.out;omega⟩,by repeat (first|exact Drawn0.refl _|apply Drawn0.step)⟩
      ·rw [if_neg c9] at H
       have c9b0 : ((Go.bits .and .i64 (ji8) 1) == 0) = false:=beq_eq_false_iff_ne.mpr c9
       have c9b1 : ((Go.bits .and .i64 (ji8) 1) != 0) = true:=bne_iff_ne.mpr c9
       by_cases c10 : (Go.bits .andNot .i64 (rd l0 x7_1) a2) = 0
       ·rw [if_pos c10] at H
        have c10b0 : ((Go.bits .andNot .i64 (rd l0 x7_1) a2) == 0) = true:=beq_iff_eq.mpr c10
        have c10b1 : ((Go.bits .andNot .i64 (rd l0 x7_1) a2) != 0) = false:=bne_eq_false_iff_eq.mpr c10
        clear c10
        obtain rfl:=Option.some.inj H
        have p586 : 0 ≤ (x7_1 : Int):=of_decide_eq_true (by first|(with_reducible assumption)|assumption)
        have q586 : x7_1 < (l0.length : Int):=of_decide_eq_true (by first|(with_reducible assumption)|assumption)
        obtain ⟨ad586,e586,hx586_0⟩:=Kd.at_int HR0.out x7_1 p586 q586
        cases e586
        replace p586:=eq_true p586
        replace q586:=eq_true q586
        have p587 : 0 ≤ (x7_1 : Int):=of_decide_eq_true (by first|(with_reducible assumption)|assumption)
        have q587 : x7_1 < (l0.length : Int):=of_decide_eq_true (by first|(with_reducible assumption)|assumption)
        obtain ⟨ad587,e587,hx587_0⟩:=Kd.at_int HR0.out x7_1 p587 q587
        obtain rfl : ad586 = ad587:=(by injection e587)
        replace p587:=eq_true p587
        replace q587:=eq_true q587
        go_wp2
        go_ret
        exact ⟨by first|rfl|(simp;done)|(simp only [← hji6,← hji8] <;> (first|rfl|simp))|(simp [*];done),by repeat (first|exact Drawn0.refl _|apply Drawn0.step)⟩
       ·rw [if_neg c10] at H
        have c10b0 : ((Go.bits .andNot .i64 (rd l0 x7_1) a2) == 0) = false:=beq_eq_false_iff_ne.mpr c10
        have c10b1 : ((Go.bits .andNot .i64 (rd l0 x7_1) a2) != 0) = true:=bne_iff_ne.mpr c10
        obtain rfl:=Option.some.inj H
        have p586 : 0 ≤ (x7_1 : Int):=of_decide_eq_true (by first|(with_reducible assumption)|assumption)
        have q586 : x7_1 < (l0.length : Int):=of_decide_eq_true (by first|(with_reducible assumption)|assumption)
        obtain ⟨ad586,e586,hx586_0⟩:=Kd.at_int HR0.out x7_1 p586 q586
        cases e586
        replace p586:=eq_true p586
        replace q586:=eq_true q586
        have p587 : 0 ≤ (x7_1 : Int):=of_decide_eq_true (by first|(with_reducible assumption)|assumption)
        have q587 : x7_1 < (l0.length : Int):=of_decide_eq_true (by first|(with_reducible assumption)|assumption)
        obtain ⟨ad587,e587,hx587_0⟩:=Kd.at_int HR0.out x7_1 p587 q587
        obtain rfl : ad586 = ad587:=(by injection e587)
        replace p587:=eq_true p587
        replace q587:=eq_true q587
        go_wp2
        go_ret
        exact ⟨by first|rfl|(simp;done)|(simp only [← hji6,← hji8] <;> (first|rfl|simp))|(simp [*];done),by repeat (first|exact Drawn0.refl _|apply Drawn0.step)⟩
     ·rw [if_neg c7] at H
      exact absurd H (by simp)
    ·rw [if_neg c5] at H
     exact absurd H (by simp)
   ·rw [if_neg c4] at H
    have c4b0 : decide (x7_1 < (l0.length : Int)) = false:=decide_eq_false c4
    clear c4
    obtain rfl:=Option.some.inj H
    go_wp2
    go_ret
    exact ⟨by first|rfl|(simp;done)|(simp [*];done),by repeat (first|exact Drawn0.refl _|apply Drawn0.step)⟩

/-! ### spec_AnswersOf: function 31 -/
def spec_AnswersOf.l0 : Nat → List Int → List Int → List Int → Int → Int → Option (List Int × Int)
 | 0, _, _, _, _, _ => none
 | k + 1, x1, x2, x9, x10, x11 => if x11 < (x2.length : Int) then (if 0 ≤ x11 then (if 0 ≤ (IntKind.u64.wrap (rd x2 x11)) then ((spec_l09Answer.f k x1 (rd x2 x11) (Go.bits .or .i64 x10 (shl .i64 1 (IntKind.u64.wrap (rd x2 x11))))).bind fun t596 => (if x9.length < 17592186044416 then (spec_AnswersOf.l0 k x1 x2 (x9 ++ [t596]) (Go.bits .or .i64 x10 (shl .i64 1 (IntKind.u64.wrap (rd x2 x11)))) (wrap64 (x11 + 1))) else (none))) else (none)) else (none)) else (some (x9, 0))
def spec_AnswersOf.f (k : Nat) (a0_0 : Int) (a0_1 : Int) (l0_2 : List Int) (l1 : List Int) (l2 : List Int) : Option (List Int × Int) := (spec_l09Code.f k a0_0 a0_1 l0_2 l1).bind fun t589 => (if t589 = 0 then ((spec_l09Different.f k a0_0 a0_1 l0_2 l2).bind fun t590 => (if t590 = true then (spec_AnswersOf.l0 k l1 l2 (([] : List Int)) 0 0) else (some (([] : List Int), 2)))) else (some (([] : List Int), t589)))
set_option maxHeartbeats 8000000 in
set_option maxRecDepth 100000 in
theorem spec_AnswersOf.calls (k : Nat) (a0_0 : Int) (a0_1 : Int) (A0_2 : Option Addr) (c0_2 : Nat) (l0_2 : List Int) (A1 : Option Addr) (c1 : Nat) (l1 : List Int) (A2 : Option Addr) (c2 : Nat) (l2 : List Int) (r1 : List Int) (r2 : Int) (w : World) (hr0_2 : Kd.C (Kd.int .i64) w A0_2 l0_2.length l0_2) (hc0_2 : l0_2.length ≤ c0_2) (hr1 : Kd.C (Kd.int .i64) w A1 l1.length l1) (hc1 : l1.length ≤ c1) (hr2 : Kd.C (Kd.int .i64) w A2 l2.length l2) (hc2 : l2.length ≤ c2) (h : spec_AnswersOf.f k a0_0 a0_1 l0_2 l1 l2 = some (r1, r2)) :
  Calls Try.prog 31 #[.agg #[.int .i64 a0_0,.int .i64 a0_1,.slice A0_2 l0_2.length c0_2],.slice A1 l1.length c1,.slice A2 l2.length c2] w fun e w'=>∃ v0_ : Value,e = .returned (.tuple #[v0_,.int .i64 r2]) ∧ Kd.R (Kd.int .i64) 2 w' w.heap.size (fun _=>True) v0_ r1 ∧ Below w.heap.size w w':=by
 have hu28:=Try.underlying28
 have HR0_2:=Aside0.mk hr0_2
 have HC0_2:=Aside0.mk hc0_2
 clear hr0_2 hc0_2
 have HR1:=Aside0.mk hr1
 have HC1:=Aside0.mk hc1
 clear hr1 hc1
 have HR2:=Aside0.mk hr2
 have HC2:=Aside0.mk hc2
 clear hr2 hc2
 have HB:=Aside0.mk (Below.refl w.heap.size w)
 have H : ((spec_l09Code.f k a0_0 a0_1 l0_2 l1).bind fun t589=>(if t589 = 0 then ((spec_l09Different.f k a0_0 a0_1 l0_2 l2).bind fun t590=>(if t590 = true then (spec_AnswersOf.l0 k l1 l2 (([] : List Int)) 0 0) else (some (([] : List Int),2)))) else (some (([] : List Int),t589)))) = some (r1,r2):=h
 clear h
 replace H:=Option.bind_eq_some_iff.mp H
 obtain ⟨t589,A40,H⟩:=H
 replace H : (if t589 = 0 then ((spec_l09Different.f k a0_0 a0_1 l0_2 l2).bind fun t590=>(if t590 = true then (spec_AnswersOf.l0 k l1 l2 (([] : List Int)) 0 0) else (some (([] : List Int),2)))) else (some (([] : List Int),t589))) = some (r1,r2):=H
 have A4:=Aside0.mk A40
 clear A40
 by_cases c5 : t589 = 0
 ·rw [if_pos c5] at H
  have c5b0 : (t589 == 0) = true:=beq_iff_eq.mpr c5
  have c5b1 : (t589 != 0) = false:=bne_eq_false_iff_eq.mpr c5
  clear c5
  replace H:=Option.bind_eq_some_iff.mp H
  obtain ⟨t590,A60,H⟩:=H
  replace H : (if t590 = true then (spec_AnswersOf.l0 k l1 l2 (([] : List Int)) 0 0) else (some (([] : List Int),2))) = some (r1,r2):=H
  have A6:=Aside0.mk A60
  clear A60
  by_cases c7 : t590 = true
  ·subst c7
   have H1 : (spec_AnswersOf.l0 k l1 l2 (([] : List Int)) 0 0) = some (r1,r2):=by rw [if_pos rfl] at H;exact H
   clear H
   have H:=H1
   clear H1
   obtain ⟨y591,hy591⟩ : ∃ y_ : List Int,y_ = (([] : List Int)):=⟨_,rfl⟩
   replace H : (spec_AnswersOf.l0 k l1 l2 y591 0 0) = some (r1,r2):=by first|(rw [hy591];with_reducible exact H)|(have H2_:=(Option.bind_some _ _).symm.trans H;rw [hy591];with_reducible exact H2_)|(have H2_:=(Option.bind_some _ _).symm.trans H;with_reducible exact H2_)|with_reducible exact H|(rw [hy591];exact H)|exact H
   have Ny591:=Aside0.mk hy591
   clear hy591
   have H':=Aside0.mk H
   clear H
   go_enter Try.func31,Try.ntmps31
   go_wp2_with (first|((with_reducible refine gate_dst (N:=3) rfl ?_);refine box_event ?hg (N:=3) ?hd (cs:=#[.int .i64 a0_0,.int .i64 a0_1,.slice A0_2 l0_2.length c0_2]) (t:=28) ?hr ?_;(case hd=>rfl);(case hg=>rfl);(case hr=>first|(go_simp;done)|(go_simp;rfl));intro gb588 hg w8 hbox hb;have n0_:=Aside0.mk (below_step (by repeat (first|(with_reducible first|exact HB.out|apply below_alloc|apply pw_below_drewN|apply below_drew1)|exact HB.out)) hb);have n1_:=Aside0.mk (hbox);have n2_:=Aside0.mk ((by rw [hg];exact (below_size (by repeat (first|(with_reducible first|exact HB.out|apply below_alloc|apply pw_below_drewN|apply below_drew1)|exact HB.out))) : w.heap.size ≤ gb588));have n3_:=Aside0.mk ((by rw [hg];exact (below_size (by repeat (first|(with_reducible first|exact HB.out|apply below_alloc|apply pw_below_drewN|apply below_drew1)|exact HB.out))) : w.heap.size ≤ gb588));clear HB;have HB:=n0_;have BK588:=n1_;have GW588:=n2_;have GE588:=n3_;clear n0_ n1_ n2_ n3_;clear hb hbox hg;have hcz9_0 : w8.cell? ⟨gb588,0,none⟩ = some (.int .i64 a0_0):=(blk_cell BK588.out 0).trans rfl;have hcz9_1 : w8.cell? ⟨gb588,1,none⟩ = some (.int .i64 a0_1):=(blk_cell BK588.out 1).trans rfl;have hcz9_2 : w8.cell? ⟨gb588,2,none⟩ = some (.slice A0_2 l0_2.length c0_2):=(blk_cell BK588.out 2).trans rfl;have hfz9_0:=blk_frozen BK588.out 0;have hfz9_1:=blk_frozen BK588.out 1;have hfz9_2:=blk_frozen BK588.out 2)|((with_reducible refine gate_callee (f:=49) rfl ?_);refine goesL_ (some 14) rfl rfl Try.func49 (by kernel_rfl) rfl #[.agg #[.int .i64 a0_0,.int .i64 a0_1,.slice A0_2 l0_2.length c0_2],.slice A1 l1.length c1] rfl (by (try simp only [List.map_toArray,List.map_cons,List.map_nil]);first|done|rfl|(simp only [List.length_drop,List.length_take];rfl)) ?_;(with_reducible refine (spec_l09Code.calls k a0_0 a0_1 _ _ l0_2 _ _ l1 t589 _ ?side1 ?side2 ?side3 ?side4 A4.out).mono ?_);(case side1=>repeat (first|exact (Kd.C_below HR0_2.out HB.out)|(with_reducible refine Kd.C_alloc ?_ _)|(with_reducible refine Kd.C_drewN ?_ _)|(with_reducible refine Kd.C_drew ?_)));(case side2=>exact HC0_2.out);(case side3=>repeat (first|exact (Kd.C_below HR1.out HB.out)|(with_reducible refine Kd.C_alloc ?_ _)|(with_reducible refine Kd.C_drewN ?_ _)|(with_reducible refine Kd.C_drew ?_)));(case side4=>exact HC1.out);rintro e w10 ⟨rfl,hb⟩;refine ⟨_,rfl,?_⟩;have n0_:=Aside0.mk (blk_below (g:=gb588) (o:=.cells #[.int .i64 a0_0,.int .i64 a0_1,.slice A0_2 l0_2.length c0_2] 28 (0,0)) (by (with_reducible repeat (first|refine blk_drewN ?_ _|refine blk_drew ?_|refine blk_alloc ?_ _));exact BK588.out) hb);have n1_:=Aside0.mk (below_step (by repeat (first|(with_reducible first|exact HB.out|apply below_alloc|apply pw_below_drewN|apply below_drew1|refine below_set ?_ GE588.out)|exact HB.out)) hb);clear BK588;clear HB;have BK588:=n0_;have HB:=n1_;clear n0_ n1_;(try clear hb);(try clear hb2);(try clear hk);(try clear hi);have hcz11_0 : w10.cell? ⟨gb588,0,none⟩ = some (.int .i64 a0_0):=(blk_cell BK588.out 0).trans rfl;have hcz11_1 : w10.cell? ⟨gb588,1,none⟩ = some (.int .i64 a0_1):=(blk_cell BK588.out 1).trans rfl;have hcz11_2 : w10.cell? ⟨gb588,2,none⟩ = some (.slice A0_2 l0_2.length c0_2):=(blk_cell BK588.out 2).trans rfl;have hfz11_0:=blk_frozen BK588.out 0;have hfz11_1:=blk_frozen BK588.out 1;have hfz11_2:=blk_frozen BK588.out 2)|((with_reducible refine gate_callee (f:=57) rfl ?_);refine goesL_ (some 20) rfl rfl Try.func57 (by kernel_rfl) rfl #[.agg #[.int .i64 a0_0,.int .i64 a0_1,.slice A0_2 l0_2.length c0_2],.slice A2 l2.length c2] rfl (by (try simp only [List.map_toArray,List.map_cons,List.map_nil]);first|done|rfl|(simp only [List.length_drop,List.length_take];rfl)) ?_;(with_reducible refine (spec_l09Different.calls k a0_0 a0_1 _ _ l0_2 _ _ l2 true _ ?side1 ?side2 ?side3 ?side4 A6.out).mono ?_);(case side1=>repeat (first|exact (Kd.C_below HR0_2.out HB.out)|(with_reducible refine Kd.C_alloc ?_ _)|(with_reducible refine Kd.C_drewN ?_ _)|(with_reducible refine Kd.C_drew ?_)));(case side2=>exact HC0_2.out);(case side3=>repeat (first|exact (Kd.C_below HR2.out HB.out)|(with_reducible refine Kd.C_alloc ?_ _)|(with_reducible refine Kd.C_drewN ?_ _)|(with_reducible refine Kd.C_drew ?_)));(case side4=>exact HC2.out);rintro e w12 ⟨rfl,hb⟩;refine ⟨_,rfl,?_⟩;have n0_:=Aside0.mk (blk_below (g:=gb588) (o:=.cells #[.int .i64 a0_0,.int .i64 a0_1,.slice A0_2 l0_2.length c0_2] 28 (0,0)) (by (with_reducible repeat (first|refine blk_drewN ?_ _|refine blk_drew ?_|refine blk_alloc ?_ _));exact BK588.out) hb);have n1_:=Aside0.mk (below_step (by repeat (first|(with_reducible first|exact HB.out|apply below_alloc|apply pw_below_drewN|apply below_drew1|refine below_set ?_ GE588.out)|exact HB.out)) hb);clear BK588;clear HB;have BK588:=n0_;have HB:=n1_;clear n0_ n1_;(try clear hb);(try clear hb2);(try clear hk);(try clear hi))|((with_reducible refine gate_dst (N:=22) rfl ?_);refine Kd.R_lit (Kd.int .i64) _ 2 ?hg (N:=22) ?hd (xs:=([] : List Int)) (inner:=[]) (ok:=fun _=>True) (okp:=fun _=>True) ?hr ?hp (fun _ hk=>hk) trivial (Below.refl _ _) (Nat.le_refl _) (by simp) ?_;(case hd=>rfl);(case hg=>rfl);(case hr=>first|(go_simp;done)|(go_simp;rfl));(case hp=>exact (Reps.none _ _));intro v592 w13 ho14 hb hg_ hnew_;clear hg_ hnew_;(first|rw [← Ny591.out] at ho14|(simp only [Int.reduceToNat] at ho14;rw [← Ny591.out] at ho14));have n0_:=Aside0.mk (Kd.R_lower ho14 (below_size (by repeat (first|(with_reducible first|exact HB.out|apply below_alloc|apply pw_below_drewN|apply below_drew1|refine below_set ?_ GE588.out)|exact HB.out))));have n1_:=Aside0.mk (blk_below (g:=gb588) (o:=.cells #[.int .i64 a0_0,.int .i64 a0_1,.slice A0_2 l0_2.length c0_2] 28 (0,0)) (by (with_reducible repeat (first|refine blk_drewN ?_ _|refine blk_drew ?_|refine blk_alloc ?_ _));exact BK588.out) hb);have n2_:=Aside0.mk (below_step (by repeat (first|(with_reducible first|exact HB.out|apply below_alloc|apply pw_below_drewN|apply below_drew1|refine below_set ?_ GE588.out)|exact HB.out)) hb);clear BK588;clear HB;have HO593:=n0_;have BK588:=n1_;have HB:=n2_;clear n0_ n1_ n2_;clear hb ho14))
   go_loopg [9,10,11] k (fun kq v9 v10 v11 w'=>∃ (x9_1 : List Int) (x10_1 : Int) (x11_1 : Int),v10 = .int .i64 x10_1 ∧ v11 = .int .i64 x11_1 ∧ Aside0 (spec_AnswersOf.l0 kq l1 l2 x9_1 x10_1 x11_1 = some (r1,r2)) ∧ Aside0 (kq ≤ k) ∧ Aside0 (Kd.R (Kd.int .i64) 2 w' w.heap.size (fun _=>True) v9 x9_1) ∧ Aside0 (w'.heap[gb588]? = some (.cells #[.int .i64 a0_0,.int .i64 a0_1,(.slice A0_2 l0_2.length c0_2)] 28 (0,0))) ∧ Aside0 (Below w.heap.size w w'))
   case atStart=>exact ⟨(y591),(0),(0),(by first|rfl|(simp;done)|(simp [*];done)),(by first|rfl|(simp;done)|(simp [*];done)),H',⟨Nat.le_refl _⟩,⟨by (with_reducible repeat (first|apply Kd.R_alloc|apply Kd.R_drewN|apply Kd.R_drew));exact HO593.out⟩,⟨by (with_reducible repeat (first|refine blk_drewN ?_ _|refine blk_drew ?_|refine blk_alloc ?_ _));exact BK588.out⟩,⟨by repeat (first|(with_reducible first|exact HB.out|apply below_alloc|apply pw_below_drewN|apply below_drew1|refine below_set ?_ GE588.out)|exact HB.out)⟩⟩
   case round =>
    clear H'
    try clear c1
    try clear c2
    try clear p2
    try clear c3
    try clear c4
    try clear c5
    try clear c5b0
    try clear c5b1
    try clear c7
    try clear hcz11_0
    try clear hcz11_1
    try clear hcz11_2
    try clear hcz9_0
    try clear hcz9_1
    try clear hcz9_2
    try clear hfz11_0
    try clear hfz11_1
    try clear hfz11_2
    try clear hfz9_0
    try clear hfz9_1
    try clear hfz9_2
    obtain ⟨x9_1,x10_1,x11_1,rfl,rfl,HA,HK1,HO_9,BK588,HB⟩:=hrel
    cases gk with
    | zero => exact absurd HA.out (by simp [spec_AnswersOf.l0])
    | succ k1 =>
     have H:=HA.out
     clear HA
     simp only [spec_AnswersOf.l0] at H
     by_cases c15 : x11_1 < (l2.length : Int)
     ·rw [if_pos c15] at H
      have c15b0 : decide (x11_1 < (l2.length : Int)) = true:=decide_eq_true c15
      clear c15
      by_cases c16 : 0 ≤ x11_1
      ·rw [if_pos c16] at H
       have c16b0 : decide (0 ≤ x11_1) = true:=decide_eq_true c16
       clear c16
       obtain ⟨ji17,hji17⟩ : ∃ j_ : Int,(IntKind.u64.wrap (rd l2 x11_1)) = j_:=⟨_,rfl⟩
       replace H : (if 0 ≤ (ji17) then ((spec_l09Answer.f k1 l1 (rd l2 x11_1) (Go.bits .or .i64 x10_1 (shl .i64 1 (ji17)))).bind fun t596=>(if x9_1.length < 17592186044416 then (spec_AnswersOf.l0 k1 l1 l2 (x9_1 ++ [t596]) (Go.bits .or .i64 x10_1 (shl .i64 1 (ji17))) (wrap64 (x11_1 + 1))) else (none))) else (none)) = some (r1,r2):=by first|(rw [hji17] at H;exact H)|(simp only [hji17] at H ⊢;exact H)
       by_cases c18 : 0 ≤ (ji17)
       ·rw [if_pos c18] at H
        have c18b0:=eq_true c18
        have c18b1 : decide (0 ≤ (ji17)) = true:=decide_eq_true c18
        clear c18
        obtain ⟨ji19,hji19⟩ : ∃ j_ : Int,(shl .i64 1 (ji17)) = j_:=⟨_,rfl⟩
        replace H : ((spec_l09Answer.f k1 l1 (rd l2 x11_1) (Go.bits .or .i64 x10_1 (ji19))).bind fun t596=>(if x9_1.length < 17592186044416 then (spec_AnswersOf.l0 k1 l1 l2 (x9_1 ++ [t596]) (Go.bits .or .i64 x10_1 (ji19)) (wrap64 (x11_1 + 1))) else (none))) = some (r1,r2):=by first|(rw [hji19] at H;exact H)|(simp only [hji19] at H ⊢;exact H)
        have hji19_ : (IntKind.i64.wrap (1 * 2 ^ min (ji17).toNat 64)) = ji19:=hji19
        have hji19z : (ji17) ≤ 64 → (IntKind.i64.wrap (1 * 2 ^ (ji17).toNat)) = ji19:=shl_small hji19
        have hji19u : (IntKind.i64.wrap (2 ^ min (ji17).toNat 64)) = ji19:=by have h_:=hji19_;rw [Int.one_mul] at h_;exact h_
        have hji19v : (ji17) ≤ 64 → (IntKind.i64.wrap (2 ^ (ji17).toNat)) = ji19:=fun hle_=>by have h_:=hji19z hle_;rw [Int.one_mul] at h_;exact h_
        have hji19y : (wrap64 (1 * 2 ^ min (ji17).toNat 64)) = ji19:=(i64_w _).symm.trans hji19_
        have hji19x : (ji17) ≤ 64 → (wrap64 (1 * 2 ^ (ji17).toNat)) = ji19:=fun h_=>(i64_w _).symm.trans (hji19z h_)
        replace H:=Option.bind_eq_some_iff.mp H
        obtain ⟨t596,A200,H⟩:=H
        replace H : (if x9_1.length < 17592186044416 then (spec_AnswersOf.l0 k1 l1 l2 (x9_1 ++ [t596]) (Go.bits .or .i64 x10_1 (ji19)) (wrap64 (x11_1 + 1))) else (none)) = some (r1,r2):=H
        have A20:=Aside0.mk A200
        clear A200
        by_cases c21 : x9_1.length < 17592186044416
        ·rw [if_pos c21] at H
         have LMc21:=Aside0.mk c21
         clear c21
         obtain ⟨y597,hy597⟩ : ∃ y_ : List Int,y_ = (x9_1 ++ [t596]):=⟨_,rfl⟩
         replace H : (spec_AnswersOf.l0 k1 l1 l2 y597 (Go.bits .or .i64 x10_1 (ji19)) (wrap64 (x11_1 + 1))) = some (r1,r2):=by first|(rw [hy597];with_reducible exact H)|(have H2_:=(Option.bind_some _ _).symm.trans H;rw [hy597];with_reducible exact H2_)|(have H2_:=(Option.bind_some _ _).symm.trans H;with_reducible exact H2_)|with_reducible exact H|(rw [hy597];exact H)|exact H
         have Ny597:=Aside0.mk hy597
         clear hy597
         have H':=Aside0.mk H
         clear H
         have p594 : 0 ≤ (x11_1 : Int):=of_decide_eq_true (by first|(with_reducible assumption)|assumption)
         have q594 : x11_1 < (l2.length : Int):=of_decide_eq_true (by first|(with_reducible assumption)|assumption)
         obtain ⟨ad594,e594,hx594_0⟩:=Kd.at_int HR2.out x11_1 p594 q594
         cases e594
         replace hx594_0:=(HB.out.cell (World.block_lt_of_cell? w _ hx594_0)).trans hx594_0
         replace p594:=eq_true p594
         replace q594:=eq_true q594
         have p595 : 0 ≤ (x11_1 : Int):=of_decide_eq_true (by first|(with_reducible assumption)|assumption)
         have q595 : x11_1 < (l2.length : Int):=of_decide_eq_true (by first|(with_reducible assumption)|assumption)
         obtain ⟨ad595,e595,hx595_0⟩:=Kd.at_int HR2.out x11_1 p595 q595
         obtain rfl : ad594 = ad595:=(by injection e595)
         replace hx595_0:=(HB.out.cell (World.block_lt_of_cell? w _ hx595_0)).trans hx595_0
         replace p595:=eq_true p595
         replace q595:=eq_true q595
         go_wp2_with (first|((with_reducible refine gate_callee (f:=58) rfl ?_);refine goesL_ (some 44) rfl rfl Try.func58 (by kernel_rfl) rfl #[.slice A1 l1.length c1,.int .i64 (rd l2 x11_1),.int .i64 (Go.bits .or .i64 x10_1 (ji19))] rfl (by (try simp only [List.map_toArray,List.map_cons,List.map_nil]);first|done|(simp only [hji19];rfl)|rfl|(simp only [List.length_drop,List.length_take];rfl)) ?_;(with_reducible refine (spec_l09Answer.calls k1 _ _ l1 (rd l2 x11_1) (Go.bits .or .i64 x10_1 (ji19)) t596 _ ?side1 ?side2 A20.out).mono ?_);(case side1=>repeat (first|exact (Kd.C_below HR1.out HB.out)|(with_reducible refine Kd.C_alloc ?_ _)|(with_reducible refine Kd.C_drewN ?_ _)|(with_reducible refine Kd.C_drew ?_)));(case side2=>exact HC1.out);rintro e w' ⟨rfl,⟨nd,rfl⟩⟩;refine ⟨_,rfl,?_⟩)|((with_reducible refine gate_builtin (b:=.append) (xs:=#[.tmp 37,.tmp 45]) rfl ?_);at_builtin;refine Kd.R_append (Kd.int .i64) (w0:=w) w.heap.size rfl (.tmp 37) (.tmp 45) 22 2 (.int .i64 0) 8 rfl Try.underlying22 info2 rfl (by decide) (by omega) u9 x9_1 t596 [.int .i64 t596] (fun _=>True) (fun _=>False) rfl rfl ?aP (fun _ hk=>hk.elim) ?aF ?aO ?aB ?aS ?aL ?_;(case aP=>exact rfl);(case aB=>exact (by repeat (first|(with_reducible first|exact HB.out|apply below_alloc|apply pw_below_drewN|apply below_drew1|refine below_set ?_ GE588.out)|exact HB.out)));(case aF=>exact (fun _ _=>trivial));(case aO=>exact (by (with_reducible repeat (first|apply Kd.R_alloc|apply Kd.R_drewN|apply Kd.R_drew));exact HO_9.out));(case aS=>exact (below_size (by repeat (first|(with_reducible first|exact HB.out|apply below_alloc|apply pw_below_drewN|apply below_drew1|refine below_set ?_ GE588.out)|exact HB.out))));(case aL=>have:=LMc21.out;omega);intro v598 w22 ho hb hg hat;rw [← Ny597.out] at ho;have n0_:=Aside0.mk (blk_grown (g:=gb588) (o:=.cells #[.int .i64 a0_0,.int .i64 a0_1,.slice A0_2 l0_2.length c0_2] 28 (0,0)) (by (with_reducible repeat (first|refine blk_drewN ?_ _|refine blk_drew ?_|refine blk_alloc ?_ _));exact BK588.out) hg (Kd.R_ne HO_9.out BK588.out (by decide)));have n1_:=Aside0.mk (hb);have n2_:=Aside0.mk (ho);clear BK588;clear HB;clear HO_9;have BK588:=n0_;have HB:=n1_;have HO599:=n2_;clear n0_ n1_ n2_;clear ho hb hg hat))
         go_roundg k1
         case measure=>have:=HK1.out;omega
         case rel=>exact ⟨(y597),(Go.bits .or .i64 x10_1 (ji19)),(wrap64 (x11_1 + 1)),(by first|rfl|(simp;done)|(simp only [← hji19] <;> (first|rfl|simp))|(simp [*];done)),(by first|rfl|(simp;done)|(simp [*];done)),H',⟨by have:=HK1.out;omega⟩,⟨by (with_reducible repeat (first|apply Kd.R_alloc|apply Kd.R_drewN|apply Kd.R_drew));exact HO599.out⟩,⟨by (with_reducible repeat (first|refine blk_drewN ?_ _|refine blk_drew ?_|refine blk_alloc ?_ _));exact BK588.out⟩,⟨by repeat (first|(with_reducible first|exact HB.out|apply below_alloc|apply pw_below_drewN|apply below_drew1|refine below_set ?_ GE588.out)|exact HB.out)⟩⟩
        ·rw [if_neg c21] at H
         exact absurd H (by simp)
       ·rw [if_neg c18] at H
        exact absurd H (by simp)
      ·rw [if_neg c16] at H
       exact absurd H (by simp)
     ·rw [if_neg c15] at H
      have c15b0 : decide (x11_1 < (l2.length : Int)) = false:=decide_eq_false c15
      clear c15
      simp only [Option.some.injEq,Prod.mk.injEq] at H
      obtain ⟨rfl,rfl⟩:=H
      go_wp2
      go_ret2
      exact ⟨_,by first|rfl|(simp [errW_none,errW_some] <;> rfl)|(simp [*,errW_none,errW_some] <;> rfl),by (with_reducible repeat (first|apply Kd.R_alloc|apply Kd.R_drewN|apply Kd.R_drew));exact HO_9.out,by repeat (first|(with_reducible first|exact HB.out|apply below_alloc|apply pw_below_drewN|apply below_drew1|refine below_set ?_ GE588.out)|exact HB.out)⟩
  ·replace c7:=Bool.eq_false_iff.mpr c7
   subst c7
   have H1 : (some (([] : List Int),2)) = some (r1,r2):=by rw [if_neg (show ¬ (false = true) by decide)] at H;exact H
   clear H
   have H:=H1
   clear H1
   simp only [Option.some.injEq,Prod.mk.injEq] at H
   obtain ⟨rfl,rfl⟩:=H
   go_enter Try.func31,Try.ntmps31
   go_wp2_with (first|((with_reducible refine gate_dst (N:=3) rfl ?_);refine box_event ?hg (N:=3) ?hd (cs:=#[.int .i64 a0_0,.int .i64 a0_1,.slice A0_2 l0_2.length c0_2]) (t:=28) ?hr ?_;(case hd=>rfl);(case hg=>rfl);(case hr=>first|(go_simp;done)|(go_simp;rfl));intro gb588 hg w23 hbox hb;have n0_:=Aside0.mk (below_step (by repeat (first|(with_reducible first|exact HB.out|apply below_alloc|apply pw_below_drewN|apply below_drew1)|exact HB.out)) hb);have n1_:=Aside0.mk (hbox);have n2_:=Aside0.mk ((by rw [hg];exact (below_size (by repeat (first|(with_reducible first|exact HB.out|apply below_alloc|apply pw_below_drewN|apply below_drew1)|exact HB.out))) : w.heap.size ≤ gb588));have n3_:=Aside0.mk ((by rw [hg];exact (below_size (by repeat (first|(with_reducible first|exact HB.out|apply below_alloc|apply pw_below_drewN|apply below_drew1)|exact HB.out))) : w.heap.size ≤ gb588));clear HB;have HB:=n0_;have BK588:=n1_;have GW588:=n2_;have GE588:=n3_;clear n0_ n1_ n2_ n3_;clear hb hbox hg;have hcz24_0 : w23.cell? ⟨gb588,0,none⟩ = some (.int .i64 a0_0):=(blk_cell BK588.out 0).trans rfl;have hcz24_1 : w23.cell? ⟨gb588,1,none⟩ = some (.int .i64 a0_1):=(blk_cell BK588.out 1).trans rfl;have hcz24_2 : w23.cell? ⟨gb588,2,none⟩ = some (.slice A0_2 l0_2.length c0_2):=(blk_cell BK588.out 2).trans rfl;have hfz24_0:=blk_frozen BK588.out 0;have hfz24_1:=blk_frozen BK588.out 1;have hfz24_2:=blk_frozen BK588.out 2)|((with_reducible refine gate_callee (f:=49) rfl ?_);refine goesL_ (some 14) rfl rfl Try.func49 (by kernel_rfl) rfl #[.agg #[.int .i64 a0_0,.int .i64 a0_1,.slice A0_2 l0_2.length c0_2],.slice A1 l1.length c1] rfl (by (try simp only [List.map_toArray,List.map_cons,List.map_nil]);first|done|rfl|(simp only [List.length_drop,List.length_take];rfl)) ?_;(with_reducible refine (spec_l09Code.calls k a0_0 a0_1 _ _ l0_2 _ _ l1 t589 _ ?side1 ?side2 ?side3 ?side4 A4.out).mono ?_);(case side1=>repeat (first|exact (Kd.C_below HR0_2.out HB.out)|(with_reducible refine Kd.C_alloc ?_ _)|(with_reducible refine Kd.C_drewN ?_ _)|(with_reducible refine Kd.C_drew ?_)));(case side2=>exact HC0_2.out);(case side3=>repeat (first|exact (Kd.C_below HR1.out HB.out)|(with_reducible refine Kd.C_alloc ?_ _)|(with_reducible refine Kd.C_drewN ?_ _)|(with_reducible refine Kd.C_drew ?_)));(case side4=>exact HC1.out);rintro e w25 ⟨rfl,hb⟩;refine ⟨_,rfl,?_⟩;have n0_:=Aside0.mk (blk_below (g:=gb588) (o:=.cells #[.int .i64 a0_0,.int .i64 a0_1,.slice A0_2 l0_2.length c0_2] 28 (0,0)) (by (with_reducible repeat (first|refine blk_drewN ?_ _|refine blk_drew ?_|refine blk_alloc ?_ _));exact BK588.out) hb);have n1_:=Aside0.mk (below_step (by repeat (first|(with_reducible first|exact HB.out|apply below_alloc|apply pw_below_drewN|apply below_drew1|refine below_set ?_ GE588.out)|exact HB.out)) hb);clear BK588;clear HB;have BK588:=n0_;have HB:=n1_;clear n0_ n1_;(try clear hb);(try clear hb2);(try clear hk);(try clear hi);have hcz26_0 : w25.cell? ⟨gb588,0,none⟩ = some (.int .i64 a0_0):=(blk_cell BK588.out 0).trans rfl;have hcz26_1 : w25.cell? ⟨gb588,1,none⟩ = some (.int .i64 a0_1):=(blk_cell BK588.out 1).trans rfl;have hcz26_2 : w25.cell? ⟨gb588,2,none⟩ = some (.slice A0_2 l0_2.length c0_2):=(blk_cell BK588.out 2).trans rfl;have hfz26_0:=blk_frozen BK588.out 0;have hfz26_1:=blk_frozen BK588.out 1;have hfz26_2:=blk_frozen BK588.out 2)|((with_reducible refine gate_callee (f:=57) rfl ?_);refine goesL_ (some 20) rfl rfl Try.func57 (by kernel_rfl) rfl #[.agg #[.int .i64 a0_0,.int .i64 a0_1,.slice A0_2 l0_2.length c0_2],.slice A2 l2.length c2] rfl (by (try simp only [List.map_toArray,List.map_cons,List.map_nil]);first|done|rfl|(simp only [List.length_drop,List.length_take];rfl)) ?_;(with_reducible refine (spec_l09Different.calls k a0_0 a0_1 _ _ l0_2 _ _ l2 false _ ?side1 ?side2 ?side3 ?side4 A6.out).mono ?_);(case side1=>repeat (first|exact (Kd.C_below HR0_2.out HB.out)|(with_reducible refine Kd.C_alloc ?_ _)|(with_reducible refine Kd.C_drewN ?_ _)|(with_reducible refine Kd.C_drew ?_)));(case side2=>exact HC0_2.out);(case side3=>repeat (first|exact (Kd.C_below HR2.out HB.out)|(with_reducible refine Kd.C_alloc ?_ _)|(with_reducible refine Kd.C_drewN ?_ _)|(with_reducible refine Kd.C_drew ?_)));(case side4=>exact HC2.out);rintro e w27 ⟨rfl,hb⟩;refine ⟨_,rfl,?_⟩;have n0_:=Aside0.mk (blk_below (g:=gb588) (o:=.cells #[.int .i64 a0_0,.int .i64 a0_1,.slice A0_2 l0_2.length c0_2] 28 (0,0)) (by (with_reducible repeat (first|refine blk_drewN ?_ _|refine blk_drew ?_|refine blk_alloc ?_ _));exact BK588.out) hb);have n1_:=Aside0.mk (below_step (by repeat (first|(with_reducible first|exact HB.out|apply below_alloc|apply pw_below_drewN|apply below_drew1|refine below_set ?_ GE588.out)|exact HB.out)) hb);clear BK588;clear HB;have BK588:=n0_;have HB:=n1_;clear n0_ n1_;(try clear hb);(try clear hb2);(try clear hk);(try clear hi)))
   go_ret2
   exact ⟨_,by first|rfl|(simp [errW_none,errW_some] <;> rfl)|(simp [*,errW_none,errW_some] <;> rfl),by first|exact Kd.R_nil _ _ _ _ _|exact Kd.N_nil _ _ _ _ _|exact Kd.V_nil _ _ _ _ _|exact Kd.Q_nil _ _ _ _ _|exact Kd.S_nil _ _ _ _ _,by repeat (first|(with_reducible first|exact HB.out|apply below_alloc|apply pw_below_drewN|apply below_drew1|refine below_set ?_ GE588.out)|exact HB.out)⟩
 ·rw [if_neg c5] at H
  have c5b0 : (t589 == 0) = false:=beq_eq_false_iff_ne.mpr c5
  have c5b1 : (t589 != 0) = true:=bne_iff_ne.mpr c5
  simp only [Option.some.injEq,Prod.mk.injEq] at H
  obtain ⟨rfl,rfl⟩:=H
  go_enter Try.func31,Try.ntmps31
  go_wp2_with (first|((with_reducible refine gate_dst (N:=3) rfl ?_);refine box_event ?hg (N:=3) ?hd (cs:=#[.int .i64 a0_0,.int .i64 a0_1,.slice A0_2 l0_2.length c0_2]) (t:=28) ?hr ?_;(case hd=>rfl);(case hg=>rfl);(case hr=>first|(go_simp;done)|(go_simp;rfl));intro gb588 hg w28 hbox hb;have n0_:=Aside0.mk (below_step (by repeat (first|(with_reducible first|exact HB.out|apply below_alloc|apply pw_below_drewN|apply below_drew1)|exact HB.out)) hb);have n1_:=Aside0.mk (hbox);have n2_:=Aside0.mk ((by rw [hg];exact (below_size (by repeat (first|(with_reducible first|exact HB.out|apply below_alloc|apply pw_below_drewN|apply below_drew1)|exact HB.out))) : w.heap.size ≤ gb588));have n3_:=Aside0.mk ((by rw [hg];exact (below_size (by repeat (first|(with_reducible first|exact HB.out|apply below_alloc|apply pw_below_drewN|apply below_drew1)|exact HB.out))) : w.heap.size ≤ gb588));clear HB;have HB:=n0_;have BK588:=n1_;have GW588:=n2_;have GE588:=n3_;clear n0_ n1_ n2_ n3_;clear hb hbox hg;have hcz29_0 : w28.cell? ⟨gb588,0,none⟩ = some (.int .i64 a0_0):=(blk_cell BK588.out 0).trans rfl;have hcz29_1 : w28.cell? ⟨gb588,1,none⟩ = some (.int .i64 a0_1):=(blk_cell BK588.out 1).trans rfl;have hcz29_2 : w28.cell? ⟨gb588,2,none⟩ = some (.slice A0_2 l0_2.length c0_2):=(blk_cell BK588.out 2).trans rfl;have hfz29_0:=blk_frozen BK588.out 0;have hfz29_1:=blk_frozen BK588.out 1;have hfz29_2:=blk_frozen BK588.out 2)|((with_reducible refine gate_callee (f:=49) rfl ?_);refine goesL_ (some 14) rfl rfl Try.func49 (by kernel_rfl) rfl #[.agg #[.int .i64 a0_0,.int .i64 a0_1,.slice A0_2 l0_2.length c0_2],.slice A1 l1.length c1] rfl (by (try simp only [List.map_toArray,List.map_cons,List.map_nil]);first|done|rfl|(simp only [List.length_drop,List.length_take];rfl)) ?_;(with_reducible refine (spec_l09Code.calls k a0_0 a0_1 _ _ l0_2 _ _ l1 t589 _ ?side1 ?side2 ?side3 ?side4 A4.out).mono ?_);(case side1=>repeat (first|exact (Kd.C_below HR0_2.out HB.out)|(with_reducible refine Kd.C_alloc ?_ _)|(with_reducible refine Kd.C_drewN ?_ _)|(with_reducible refine Kd.C_drew ?_)));(case side2=>exact HC0_2.out);(case side3=>repeat (first|exact (Kd.C_below HR1.out HB.out)|(with_reducible refine Kd.C_alloc ?_ _)|(with_reducible refine Kd.C_drewN ?_ _)|(with_reducible refine Kd.C_drew ?_)));(case side4=>exact HC1.out);rintro e w30 ⟨rfl,hb⟩;refine ⟨_,rfl,?_⟩;have n0_:=Aside0.mk (blk_below (g:=gb588) (o:=.cells #[.int .i64 a0_0,.int .i64 a0_1,.slice A0_2 l0_2.length c0_2] 28 (0,0)) (by (with_reducible repeat (first|refine blk_drewN ?_ _|refine blk_drew ?_|refine blk_alloc ?_ _));exact BK588.out) hb);have n1_:=Aside0.mk (below_step (by repeat (first|(with_reducible first|exact HB.out|apply below_alloc|apply pw_below_drewN|apply below_drew1|refine below_set ?_ GE588.out)|exact HB.out)) hb);clear BK588;clear HB;have BK588:=n0_;have HB:=n1_;clear n0_ n1_;(try clear hb);(try clear hb2);(try clear hk);(try clear hi)))
  go_ret2
  exact ⟨_,by first|rfl|(simp [errW_none,errW_some] <;> rfl)|(simp [*,errW_none,errW_some] <;> rfl),by first|exact Kd.R_nil _ _ _ _ _|exact Kd.N_nil _ _ _ _ _|exact Kd.V_nil _ _ _ _ _|exact Kd.Q_nil _ _ _ _ _|exact Kd.S_nil _ _ _ _ _,by repeat (first|(with_reducible first|exact HB.out|apply below_alloc|apply pw_below_drewN|apply below_drew1|refine below_set ?_ GE588.out)|exact HB.out)⟩

/-! ### impl_bit: function 75 -/
def impl_bit.f (a0 : Bool) : Option (Int) := if a0 = true then (some 1) else (some 0)
set_option maxHeartbeats 8000000 in
set_option maxRecDepth 100000 in
theorem impl_bit.calls (a0 : Bool) (r : Int) (w : World) (h : impl_bit.f a0 = some r) :
  Calls Try.prog 75 #[.bool a0] w fun e w'=>e = .returned (.int .i64 r) ∧ Drawn0 w w':=by
 have H : (if a0 = true then (some 1) else (some 0)) = some r:=h
 clear h
 by_cases c2 : a0 = true
 ·subst c2
  have H1 : (some 1) = some r:=by rw [if_pos rfl] at H;exact H
  clear H
  have H:=H1
  clear H1
  obtain rfl:=Option.some.inj H
  go_enter Try.func75,Try.ntmps75
  go_wp2
  go_ret
  exact ⟨by first|rfl|(simp;done)|(simp [*];done),by repeat (first|exact Drawn0.refl _|apply Drawn0.step)⟩
 ·replace c2:=Bool.eq_false_iff.mpr c2
  subst c2
  have H1 : (some 0) = some r:=by rw [if_neg (show ¬ (false = true) by decide)] at H;exact H
  clear H
  have H:=H1
  clear H1
  obtain rfl:=Option.some.inj H
  go_enter Try.func75,Try.ntmps75
  go_wp2
  go_ret
  exact ⟨by first|rfl|(simp;done)|(simp [*];done),by repeat (first|exact Drawn0.refl _|apply Drawn0.step)⟩

/-! ### impl_answer: function 59 -/
def impl_answer.l0 : Nat → Int → Int → List Int → Int → Int → Option (Int)
 | 0, _, _, _, _, _ => none
 | k + 1, x1, x2, x9, x10, x11 => if x11 < x10 then (if 0 ≤ x11 then (if x11 < (x9.length : Int) then (if 0 ≤ x2 then (if (Go.bits .and .i64 (shr .i64 (rd x9 x11) x2) 1) = 1 then ((impl_bit.f ((Go.bits .andNot .i64 (rd x9 x11) (Go.bits .or .i64 x1 (shl .i64 1 x2))) == 0)).bind fun t601 => (some (wrap64 (1 + t601)))) else (impl_answer.l0 k x1 x2 x9 x10 (wrap64 (x11 + 1)))) else (none)) else (none)) else (none)) else (some 0)
def impl_answer.f (k : Nat) (l0 : List Int) (a1 : Int) (a2 : Int) : Option (Int) := impl_answer.l0 k a1 a2 l0 (l0.length : Int) 0
set_option maxHeartbeats 8000000 in
set_option maxRecDepth 100000 in
theorem impl_answer.calls (k : Nat) (A0 : Option Addr) (c0 : Nat) (l0 : List Int) (a1 : Int) (a2 : Int) (r : Int) (w : World) (hr0 : Kd.C (Kd.int .i64) w A0 l0.length l0) (hc0 : l0.length ≤ c0) (h : impl_answer.f k l0 a1 a2 = some r) :
  Calls Try.prog 59 #[.slice A0 l0.length c0,.int .i64 a1,.int .i64 a2] w fun e w'=>e = .returned (.int .i64 r) ∧ Drawn0 w w':=by
 have HR0:=Aside0.mk hr0
 have HC0:=Aside0.mk hc0
 clear hr0 hc0
 have H : (impl_answer.l0 k a1 a2 l0 (l0.length : Int) 0) = some r:=h
 clear h
 have H':=Aside0.mk H
 clear H
 go_enter Try.func59,Try.ntmps59
 go_wp2
 go_loopg [11] k (fun kq v11 w'=>∃ (x11_1 : Int),v11 = .int .i64 x11_1 ∧ Aside0 (impl_answer.l0 kq a1 a2 l0 (l0.length : Int) x11_1 = some r) ∧ Aside0 (kq ≤ k) ∧ Drawn0 w w')
 case atStart=>exact ⟨(0),(by first|rfl|(simp;done)|(simp [*];done)),H',⟨Nat.le_refl _⟩,by repeat (first|exact Drawn0.refl _|apply Drawn0.step)⟩
 case round =>
  clear H'
  try clear p2
  obtain ⟨x11_1,rfl,HA,HK1,⟨m1,rfl⟩⟩:=hrel
  cases gk with
  | zero => exact absurd HA.out (by simp [impl_answer.l0])
  | succ k1 =>
   have H:=HA.out
   clear HA
   simp only [impl_answer.l0] at H
   by_cases c4 : x11_1 < (l0.length : Int)
   ·rw [if_pos c4] at H
    have c4b0 : decide (x11_1 < (l0.length : Int)) = true:=decide_eq_true c4
    clear c4
    by_cases c5 : 0 ≤ x11_1
    ·rw [if_pos c5] at H
     have c5b0 : decide (0 ≤ x11_1) = true:=decide_eq_true c5
     clear c5
     by_cases c6 : x11_1 < (l0.length : Int)
     ·rw [if_pos c6] at H
      have c6b0 : decide (x11_1 < (l0.length : Int)) = true:=decide_eq_true c6
      clear c6
      by_cases c7 : 0 ≤ a2
      ·rw [if_pos c7] at H
       have c7b0:=eq_true c7
       have c7b1 : decide (0 ≤ a2) = true:=decide_eq_true c7
       clear c7
       obtain ⟨ji8,hji8⟩ : ∃ j_ : Int,(shr .i64 (rd l0 x11_1) a2) = j_:=⟨_,rfl⟩
       replace H : (if (Go.bits .and .i64 (ji8) 1) = 1 then ((impl_bit.f ((Go.bits .andNot .i64 (rd l0 x11_1) (Go.bits .or .i64 a1 (shl .i64 1 a2))) == 0)).bind fun t601=>(some (wrap64 (1 + t601)))) else (impl_answer.l0 k1 a1 a2 l0 (l0.length : Int) (wrap64 (x11_1 + 1)))) = some r:=by first|(rw [hji8] at H;exact H)|(simp only [hji8] at H ⊢;exact H)
       have hji8_ : ((rd l0 x11_1) / 2 ^ min a2.toNat 64) = ji8:=hji8
       have hji8z : a2 ≤ 64 → ((rd l0 x11_1) / 2 ^ a2.toNat) = ji8:=shr_small hji8
       by_cases c9 : (Go.bits .and .i64 (ji8) 1) = 1
       ·rw [if_pos c9] at H
        have c9b0 : ((Go.bits .and .i64 (ji8) 1) == 1) = true:=beq_iff_eq.mpr c9
        have c9b1 : ((Go.bits .and .i64 (ji8) 1) != 1) = false:=bne_eq_false_iff_eq.mpr c9
        clear c9
        have c10b0:=eq_true (of_decide_eq_true (by first|(with_reducible assumption)|assumption) : 0 ≤ a2)
        obtain ⟨ji11,hji11⟩ : ∃ j_ : Int,(shl .i64 1 a2) = j_:=⟨_,rfl⟩
        replace H : ((impl_bit.f ((Go.bits .andNot .i64 (rd l0 x11_1) (Go.bits .or .i64 a1 (ji11))) == 0)).bind fun t601=>(some (wrap64 (1 + t601)))) = some r:=by first|(rw [hji11] at H;exact H)|(simp only [hji11] at H ⊢;exact H)
        have hji11_ : (IntKind.i64.wrap (1 * 2 ^ min a2.toNat 64)) = ji11:=hji11
        have hji11z : a2 ≤ 64 → (IntKind.i64.wrap (1 * 2 ^ a2.toNat)) = ji11:=shl_small hji11
        have hji11u : (IntKind.i64.wrap (2 ^ min a2.toNat 64)) = ji11:=by have h_:=hji11_;rw [Int.one_mul] at h_;exact h_
        have hji11v : a2 ≤ 64 → (IntKind.i64.wrap (2 ^ a2.toNat)) = ji11:=fun hle_=>by have h_:=hji11z hle_;rw [Int.one_mul] at h_;exact h_
        have hji11y : (wrap64 (1 * 2 ^ min a2.toNat 64)) = ji11:=(i64_w _).symm.trans hji11_
        have hji11x : a2 ≤ 64 → (wrap64 (1 * 2 ^ a2.toNat)) = ji11:=fun h_=>(i64_w _).symm.trans (hji11z h_)
        replace H:=Option.bind_eq_some_iff.mp H
        obtain ⟨t601,A120,H⟩:=H
        replace H : (some (wrap64 (1 + t601))) = some r:=H
        have A12:=Aside0.mk A120
        clear A120
        obtain rfl:=Option.some.inj H
        have p600 : 0 ≤ (x11_1 : Int):=of_decide_eq_true (by first|(with_reducible assumption)|assumption)
        have q600 : x11_1 < (l0.length : Int):=of_decide_eq_true (by first|(with_reducible assumption)|assumption)
        obtain ⟨ad600,e600,hx600_0⟩:=Kd.at_int HR0.out x11_1 p600 q600
        cases e600
        replace p600:=eq_true p600
        replace q600:=eq_true q600
        go_wp2_with (first|((with_reducible refine gate_callee (f:=75) rfl ?_);refine goesL_ (some 27) rfl rfl Try.func75 (by kernel_rfl) rfl #[.bool ((Go.bits .andNot .i64 (rd l0 x11_1) (Go.bits .or .i64 a1 (ji11))) == 0)] rfl (by (try simp only [List.map_toArray,List.map_cons,List.map_nil]);first|done|(simp only [hji11];rfl)|rfl|(simp only [List.length_drop,List.length_take];rfl)) ?_;(with_reducible refine (impl_bit.calls ((Go.bits .andNot .i64 (rd l0 x11_1) (Go.bits .or .i64 a1 (ji11))) == 0) t601 _ A12.out).mono ?_);rintro e w' ⟨rfl,⟨nd,rfl⟩⟩;refine ⟨_,rfl,?_⟩))
        go_ret
        exact ⟨by first|rfl|(simp;done)|(simp only [← hji8,← hji11] <;> (first|rfl|simp))|(simp [*];done),by repeat (first|exact Drawn0.refl _|apply Drawn0.step)⟩
       ·rw [if_neg c9] at H
        have c9b0 : ((Go.bits .and .i64 (ji8) 1) == 1) = false:=beq_eq_false_iff_ne.mpr c9
        have c9b1 : ((Go.bits .and .i64 (ji8) 1) != 1) = true:=bne_iff_ne.mpr c9
        have H':=Aside0.mk H
        clear H
        have p600 : 0 ≤ (x11_1 : Int):=of_decide_eq_true (by first|(with_reducible assumption)|assumption)
        have q600 : x11_1 < (l0.length : Int):=of_decide_eq_true (by first|(with_reducible assumption)|assumption)
        obtain ⟨ad600,e600,hx600_0⟩:=Kd.at_int HR0.out x11_1 p600 q600
        cases e600
        replace p600:=eq_true p600
        replace q600:=eq_true q600
        go_wp2
        go_roundg k1
        case measure=>have:=HK1.out;omega
        case rel=>exact ⟨(wrap64 (x11_1 + 1)),(by first|rfl|(simp;done)|(simp [*];done)),H',⟨by have:=HK1.out;omega⟩,by repeat (first|exact Drawn0.refl _|apply Drawn0.step)⟩
      ·rw [if_neg c7] at H
       exact absurd H (by simp)
     ·rw [if_neg c6] at H
      exact absurd H (by simp)
    ·rw [if_neg c5] at H
     exact absurd H (by simp)
   ·rw [if_neg c4] at H
    have c4b0 : decide (x11_1 < (l0.length : Int)) = false:=decide_eq_false c4
    clear c4
    obtain rfl:=Option.some.inj H
    go_wp2
    go_ret
    exact ⟨by first|rfl|(simp;done)|(simp [*];done),by repeat (first|exact Drawn0.refl _|apply Drawn0.step)⟩

end Go.Proofs.Ytankgbfddgpfmaa.PAll
