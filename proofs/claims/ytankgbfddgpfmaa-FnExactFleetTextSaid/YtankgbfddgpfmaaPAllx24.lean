-- Written by wip/pp.py of this work (a driver around the kit's print), out of the translation; Lean checks it.
import Derived.Test.YtankgbfddgpfmaaPAllx0
import Derived.Test.YtankgbfddgpfmaaPAllx17
namespace Go.Proofs.Ytankgbfddgpfmaa.PAll
open Go.RowKit Go.Proofs.YtankgbfddgpfmaaW.PrintWords Go.Proofs.YtankgbfddgpfmaaW.PrintLast Go.Proofs.YtankgbfddgpfmaaW.PrintMore
attribute [local go_sem] max2_int min2_int max_two min_two max_three min_three max_four min_four   -- for this text's walks alone
set_option linter.unusedVariables false
set_option linter.unusedSimpArgs false

/-! ### spec_l09Text: function 60 -/
mutual
def spec_l09Text.l0 : Nat → List Int → ByteArray → Int → Int → Int → List Int → Option (ByteArray)
 | 0, _, _, _, _, _, _ => none
 | k + 1, x1, x5, x6, x688000, x688001, x688002 => if x6 < (wrap64 (x688000 * x688001)) then (if x6 > 0 then (if x688000 = 0 then (none) else (spec_l09Text.j1 k x1 x5 x6 ((Int.tmod x6 x688000) == 0) x688000 x688001 x688002)) else (spec_l09Text.j1 k x1 x5 x6 false x688000 x688001 x688002)) else (some x5)
def spec_l09Text.j1 : Nat → List Int → ByteArray → Int → Bool → Int → Int → List Int → Option (ByteArray)
 | 0, _, _, _, _, _, _, _ => none
 | k + 1, x1, x5, x6, x26, x688000, x688001, x688002 => if x26 = true then (if x5.size + 1 ≤ 9223372036854775807 then (spec_l09Text.j2 k x1 (x5 ++ (⟨#[47]⟩ : ByteArray)) x6 x688000 x688001 x688002) else (none)) else (spec_l09Text.j2 k x1 x5 x6 x688000 x688001 x688002)
def spec_l09Text.j2 : Nat → List Int → ByteArray → Int → Int → Int → List Int → Option (ByteArray)
 | 0, _, _, _, _, _, _ => none
 | k + 1, x1, x5, x6, x688000, x688001, x688002 => spec_l09Text.l1 k x1 x5 x6 (⟨#[46]⟩ : ByteArray) 0 x688000 x688001 x688002
def spec_l09Text.l1 : Nat → List Int → ByteArray → Int → ByteArray → Int → Int → Int → List Int → Option (ByteArray)
 | 0, _, _, _, _, _, _, _, _ => none
 | k + 1, x1, x5, x6, x7, x8, x688000, x688001, x688002 => if x8 < (x1.length : Int) then (if 0 ≤ x8 then (if 0 ≤ (IntKind.u64.wrap (x6)) then (if (Go.bits .and .i64 (shr .i64 (rd x1 x8) (IntKind.u64.wrap (x6))) 1) = 1 then (spec_l09Text.l1 k x1 x5 x6 (strOfNums (([(wrap64 (97 + x8)) % 256] : List Int))) (wrap64 (x8 + 1)) x688000 x688001 x688002) else (spec_l09Text.l1 k x1 x5 x6 x7 (wrap64 (x8 + 1)) x688000 x688001 x688002)) else (none)) else (none)) else (if x5.size + x7.size ≤ 9223372036854775807 then (spec_l09Text.l0 k x1 (x5 ++ x7) (wrap64 (x6 + 1)) x688000 x688001 x688002) else (none))
end
def spec_l09Text.f (k : Nat) (a0_0 : Int) (a0_1 : Int) (l0_2 : List Int) (l1 : List Int) : Option (ByteArray) := spec_l09Text.l0 k l1 (⟨#[]⟩ : ByteArray) 0 a0_0 a0_1 l0_2
set_option maxHeartbeats 8000000 in
set_option maxRecDepth 100000 in
theorem spec_l09Text.calls (k : Nat) (a0_0 : Int) (a0_1 : Int) (A0_2 : Option Addr) (c0_2 : Nat) (l0_2 : List Int) (A1 : Option Addr) (c1 : Nat) (l1 : List Int) (r : ByteArray) (w : World) (hr0_2 : Kd.C (Kd.int .i64) w A0_2 l0_2.length l0_2) (hc0_2 : l0_2.length ≤ c0_2) (hr1 : Kd.C (Kd.int .i64) w A1 l1.length l1) (hc1 : l1.length ≤ c1) (h : spec_l09Text.f k a0_0 a0_1 l0_2 l1 = some r) :
  Calls Try.prog 60 #[.agg #[.int .i64 a0_0,.int .i64 a0_1,.slice A0_2 l0_2.length c0_2],.slice A1 l1.length c1] w fun e w'=>e = .returned (.string r) ∧ Below w.heap.size w w':=by
 have hu28:=Try.underlying28
 have HR0_2:=Aside0.mk hr0_2
 have HC0_2:=Aside0.mk hc0_2
 clear hr0_2 hc0_2
 have HR1:=Aside0.mk hr1
 have HC1:=Aside0.mk hc1
 clear hr1 hc1
 have HB:=Aside0.mk (Below.refl w.heap.size w)
 have H : (spec_l09Text.l0 k l1 (⟨#[]⟩ : ByteArray) 0 a0_0 a0_1 l0_2) = some r:=h
 clear h
 have H':=Aside0.mk H
 clear H
 go_enter Try.func60,Try.ntmps60
 go_wp2_with (first|((with_reducible refine gate_dst (N:=2) rfl ?_);refine box_event ?hg (N:=2) ?hd (cs:=#[.int .i64 a0_0,.int .i64 a0_1,.slice A0_2 l0_2.length c0_2]) (t:=28) ?hr ?_;(case hd=>rfl);(case hg=>rfl);(case hr=>first|(go_simp;done)|(go_simp;rfl));intro gb687 hg w3 hbox hb;have n0_:=Aside0.mk (below_step (by repeat (first|(with_reducible first|exact HB.out|apply below_alloc|apply pw_below_drewN|apply below_drew1)|exact HB.out)) hb);have n1_:=Aside0.mk (hbox);have n2_:=Aside0.mk ((by rw [hg];exact (below_size (by repeat (first|(with_reducible first|exact HB.out|apply below_alloc|apply pw_below_drewN|apply below_drew1)|exact HB.out))) : w.heap.size ≤ gb687));have n3_:=Aside0.mk ((by rw [hg];exact (below_size (by repeat (first|(with_reducible first|exact HB.out|apply below_alloc|apply pw_below_drewN|apply below_drew1)|exact HB.out))) : w.heap.size ≤ gb687));clear HB;have HB:=n0_;have BK687:=n1_;have GW687:=n2_;have GE687:=n3_;clear n0_ n1_ n2_ n3_;clear hb hbox hg))
 go_loopg [5,6] k (fun kq v5 v6 w'=>∃ (x5_1 : ByteArray) (x6_1 : Int),v5 = .string x5_1 ∧ v6 = .int .i64 x6_1 ∧ Aside0 (spec_l09Text.l0 kq l1 x5_1 x6_1 a0_0 a0_1 l0_2 = some r) ∧ Aside0 (kq ≤ k) ∧ Aside0 (w'.heap[gb687]? = some (.cells #[.int .i64 a0_0,.int .i64 a0_1,(.slice A0_2 l0_2.length c0_2)] 28 (0,0))) ∧ Aside0 (Below w.heap.size w w'))
 case atStart=>exact ⟨((⟨#[]⟩ : ByteArray)),(0),(by first|rfl|(simp;done)|(simp [*];done)),(by first|rfl|(simp;done)|(simp [*];done)),H',⟨Nat.le_refl _⟩,⟨by (with_reducible repeat (first|refine blk_drewN ?_ _|refine blk_drew ?_|refine blk_alloc ?_ _));exact BK687.out⟩,⟨by repeat (first|(with_reducible first|exact HB.out|apply below_alloc|apply pw_below_drewN|apply below_drew1|refine below_set ?_ GE687.out)|exact HB.out)⟩⟩
 case round =>
  clear H'
  try clear c1
  try clear p2
  obtain ⟨x5_1,x6_1,rfl,rfl,HA,HK1,BK687,HB⟩:=hrel
  cases gk with
  | zero => exact absurd HA.out (by simp [spec_l09Text.l0])
  | succ k1 =>
   have H:=HA.out
   clear HA
   simp only [spec_l09Text.l0] at H
   by_cases c4 : x6_1 < (wrap64 (a0_0 * a0_1))
   ·rw [if_pos c4] at H
    have c4b0 : decide (x6_1 < (wrap64 (a0_0 * a0_1))) = true:=decide_eq_true c4
    clear c4
    have HC5:=Aside0.mk H
    clear H
    have hcz6_0 : wr.cell? ⟨gb687,0,none⟩ = some (.int .i64 a0_0):=(blk_cell BK687.out 0).trans rfl
    have hcz6_1 : wr.cell? ⟨gb687,1,none⟩ = some (.int .i64 a0_1):=(blk_cell BK687.out 1).trans rfl
    have hcz6_2 : wr.cell? ⟨gb687,2,none⟩ = some (.slice A0_2 l0_2.length c0_2):=(blk_cell BK687.out 2).trans rfl
    have hfz6_0:=blk_frozen BK687.out 0
    have hfz6_1:=blk_frozen BK687.out 1
    have hfz6_2:=blk_frozen BK687.out 2
    go_upto_region 5 with (fail)
    go_cut [26] (fun v26 wc=>∃ (kq : Nat) (x26_4 : Bool),v26 = .bool x26_4 ∧ Aside0 (spec_l09Text.j1 kq l1 x5_1 x6_1 x26_4 a0_0 a0_1 l0_2 = some r) ∧ Aside0 (kq ≤ k1) ∧ Aside0 (wc.heap[gb687]? = some (.cells #[.int .i64 a0_0,.int .i64 a0_1,(.slice A0_2 l0_2.length c0_2)] 28 (0,0))) ∧ Aside0 (Below w.heap.size w wc))
    case first =>
     have H:=HC5.out
     clear HC5
     by_cases c7 : x6_1 > 0
     ·rw [if_pos c7] at H
      have c7b0 : decide (0 < x6_1) = true:=decide_eq_true c7
      clear c7
      (first|rw [c7b0]|(simp only [i64_w,i32_w];rw [c7b0])|skip)
      by_cases c8 : a0_0 = 0
      ·rw [if_pos c8] at H
       exact absurd H (by simp)
      ·rw [if_neg c8] at H
       have c8b0 : (a0_0 == 0) = false:=beq_eq_false_iff_ne.mpr c8
       have c8b1 : (a0_0 != 0) = true:=bne_iff_ne.mpr c8
       have H':=Aside0.mk H
       clear H
       have hcz9_0 : wr.cell? ⟨gb687,0,none⟩ = some (.int .i64 a0_0):=(blk_cell BK687.out 0).trans rfl
       have hcz9_1 : wr.cell? ⟨gb687,1,none⟩ = some (.int .i64 a0_1):=(blk_cell BK687.out 1).trans rfl
       have hcz9_2 : wr.cell? ⟨gb687,2,none⟩ = some (.slice A0_2 l0_2.length c0_2):=(blk_cell BK687.out 2).trans rfl
       have hfz9_0:=blk_frozen BK687.out 0
       have hfz9_1:=blk_frozen BK687.out 1
       have hfz9_2:=blk_frozen BK687.out 2
       go_wp2
       go_meet
       case rel=>exact ⟨_,(((Int.tmod x6_1 a0_0) == 0)),(by first|rfl|(simp;done)|(simp [*];done)),H',⟨by have:=HK1.out;first|omega|exact Nat.le_refl _⟩,⟨by (with_reducible repeat (first|refine blk_drewN ?_ _|refine blk_drew ?_|refine blk_alloc ?_ _));exact BK687.out⟩,⟨by repeat (first|(with_reducible first|exact HB.out|apply below_alloc|apply pw_below_drewN|apply below_drew1|refine below_set ?_ GE687.out)|exact HB.out)⟩⟩
     ·rw [if_neg c7] at H
      have c7b0 : decide (0 < x6_1) = false:=decide_eq_false c7
      clear c7
      (first|rw [c7b0]|(simp only [i64_w,i32_w];rw [c7b0])|skip)
      have H':=Aside0.mk H
      clear H
      go_wp2
      go_meet
      case rel=>exact ⟨_,(false),(by first|rfl|(simp;done)|(simp [*];done)),H',⟨by have:=HK1.out;first|omega|exact Nat.le_refl _⟩,⟨by (with_reducible repeat (first|refine blk_drewN ?_ _|refine blk_drew ?_|refine blk_alloc ?_ _));exact BK687.out⟩,⟨by repeat (first|(with_reducible first|exact HB.out|apply below_alloc|apply pw_below_drewN|apply below_drew1|refine below_set ?_ GE687.out)|exact HB.out)⟩⟩
    case rest =>
     clear HC5
     try clear c1
     try clear p2
     try clear c4
     try clear c4b0
     try clear c6
     try clear p6
     try clear c7
     try clear c7b0
     try clear c8
     try clear c8b0
     try clear c8b1
     try clear hcz6_0
     try clear hcz6_1
     try clear hcz6_2
     try clear hcz9_0
     try clear hcz9_1
     try clear hcz9_2
     try clear hfz6_0
     try clear hfz6_1
     try clear hfz6_2
     try clear hfz9_0
     try clear hfz9_1
     try clear hfz9_2
     try clear p2
     obtain ⟨kq,x26_4,rfl,HA,HJ4,BK687,HB⟩:=hcut
     cases kq with
     | zero => exact absurd HA.out (by simp [spec_l09Text.j1])
     | succ kj4 =>
      have H:=HA.out
      clear HA
      simp only [spec_l09Text.j1] at H
      have HC10:=Aside0.mk H
      clear H
      go_upto_if 26 with (fail)
      go_cut [5] (fun v5 wc=>∃ (kq : Nat) (x5_9 : ByteArray),v5 = .string x5_9 ∧ Aside0 (spec_l09Text.j2 kq l1 x5_9 x6_1 a0_0 a0_1 l0_2 = some r) ∧ Aside0 (kq ≤ kj4) ∧ Aside0 (wc.heap[gb687]? = some (.cells #[.int .i64 a0_0,.int .i64 a0_1,(.slice A0_2 l0_2.length c0_2)] 28 (0,0))) ∧ Aside0 (Below w.heap.size w wc))
      case first =>
       have H:=HC10.out
       clear HC10
       by_cases c11 : x26_4 = true
       ·subst c11
        have H1 : (if x5_1.size + 1 ≤ 9223372036854775807 then (spec_l09Text.j2 kj4 l1 (x5_1 ++ (⟨#[47]⟩ : ByteArray)) x6_1 a0_0 a0_1 l0_2) else (none)) = some r:=by rw [if_pos rfl] at H;exact H
        clear H
        have H:=H1
        clear H1
        by_cases c12 : x5_1.size + 1 ≤ 9223372036854775807
        ·rw [if_pos c12] at H
         have c12b0:=eq_true c12
         have c12b1 : decide (x5_1.size + 1 ≤ 9223372036854775807) = true:=decide_eq_true c12
         try have c12b2 : (9223372036854775807 < x5_1.size + 1) = False:=eq_false (Nat.not_lt.2 c12)
         have H':=Aside0.mk H
         clear H
         go_wp2
         go_meet
         case rel=>exact ⟨_,(x5_1 ++ (⟨#[47]⟩ : ByteArray)),(by first|rfl|(simp;done)|(simp [*];done)),H',⟨by have:=HK1.out;have:=HJ4.out;first|omega|exact Nat.le_refl _⟩,⟨by (with_reducible repeat (first|refine blk_drewN ?_ _|refine blk_drew ?_|refine blk_alloc ?_ _));exact BK687.out⟩,⟨by repeat (first|(with_reducible first|exact HB.out|apply below_alloc|apply pw_below_drewN|apply below_drew1|refine below_set ?_ GE687.out)|exact HB.out)⟩⟩
        ·rw [if_neg c12] at H
         exact absurd H (by simp)
       ·replace c11:=Bool.eq_false_iff.mpr c11
        subst c11
        have H1 : (spec_l09Text.j2 kj4 l1 x5_1 x6_1 a0_0 a0_1 l0_2) = some r:=by rw [if_neg (show ¬ (false = true) by decide)] at H;exact H
        clear H
        have H:=H1
        clear H1
        have H':=Aside0.mk H
        clear H
        go_wp2
        go_meet
        case rel=>exact ⟨_,(x5_1),(by first|rfl|(simp;done)|(simp [*];done)),H',⟨by have:=HK1.out;have:=HJ4.out;first|omega|exact Nat.le_refl _⟩,⟨by (with_reducible repeat (first|refine blk_drewN ?_ _|refine blk_drew ?_|refine blk_alloc ?_ _));exact BK687.out⟩,⟨by repeat (first|(with_reducible first|exact HB.out|apply below_alloc|apply pw_below_drewN|apply below_drew1|refine below_set ?_ GE687.out)|exact HB.out)⟩⟩
      case rest =>
       clear HC10
       try clear c1
       try clear p2
       try clear c4
       try clear c4b0
       try clear c6
       try clear p6
       try clear c7
       try clear c7b0
       try clear c8
       try clear c8b0
       try clear c8b1
       try clear c11
       try clear c12
       try clear c12b0
       try clear c12b1
       try clear c12b2
       try clear hcz6_0
       try clear hcz6_1
       try clear hcz6_2
       try clear hcz9_0
       try clear hcz9_1
       try clear hcz9_2
       try clear hfz6_0
       try clear hfz6_1
       try clear hfz6_2
       try clear hfz9_0
       try clear hfz9_1
       try clear hfz9_2
       try clear p2
       try clear p6
       obtain ⟨kq,x5_9,rfl,HA,HJ9,BK687,HB⟩:=hcut
       cases kq with
       | zero => exact absurd HA.out (by simp [spec_l09Text.j2])
       | succ kj9 =>
        have H:=HA.out
        clear HA
        simp only [spec_l09Text.j2] at H
        have H':=Aside0.mk H
        clear H
        go_wp2
        go_loopg [7,8] kj9 (fun kq v7 v8 w'=>∃ (x7_4 : ByteArray) (x8_4 : Int),v7 = .string x7_4 ∧ v8 = .int .i64 x8_4 ∧ Aside0 (spec_l09Text.l1 kq l1 x5_9 x6_1 x7_4 x8_4 a0_0 a0_1 l0_2 = some r) ∧ Aside0 (kq ≤ kj9) ∧ Aside0 (w'.heap[gb687]? = some (.cells #[.int .i64 a0_0,.int .i64 a0_1,(.slice A0_2 l0_2.length c0_2)] 28 (0,0))) ∧ Aside0 (Below w.heap.size w w'))
        case atStart=>exact ⟨((⟨#[46]⟩ : ByteArray)),(0),(by first|rfl|(simp;done)|(simp [*];done)),(by first|rfl|(simp;done)|(simp [*];done)),H',⟨Nat.le_refl _⟩,⟨by (with_reducible repeat (first|refine blk_drewN ?_ _|refine blk_drew ?_|refine blk_alloc ?_ _));exact BK687.out⟩,⟨by repeat (first|(with_reducible first|exact HB.out|apply below_alloc|apply pw_below_drewN|apply below_drew1|refine below_set ?_ GE687.out)|exact HB.out)⟩⟩
        case round =>
         clear H'
         try clear c1
         try clear p2
         try clear c4
         try clear c4b0
         try clear c6
         try clear p6
         try clear c7
         try clear c7b0
         try clear c8
         try clear c8b0
         try clear c8b1
         try clear c11
         try clear c12
         try clear c12b0
         try clear c12b1
         try clear c12b2
         try clear hcz6_0
         try clear hcz6_1
         try clear hcz6_2
         try clear hcz9_0
         try clear hcz9_1
         try clear hcz9_2
         try clear hfz6_0
         try clear hfz6_1
         try clear hfz6_2
         try clear hfz9_0
         try clear hfz9_1
         try clear hfz9_2
         try clear p2
         try clear p6
         obtain ⟨x7_4,x8_4,rfl,rfl,HA,HK4,BK687,HB⟩:=hrel
         cases gk with
         | zero => exact absurd HA.out (by simp [spec_l09Text.l1])
         | succ k4 =>
          have H:=HA.out
          clear HA
          simp only [spec_l09Text.l1] at H
          by_cases c13 : x8_4 < (l1.length : Int)
          ·rw [if_pos c13] at H
           have c13b0 : decide (x8_4 < (l1.length : Int)) = true:=decide_eq_true c13
           clear c13
           by_cases c14 : 0 ≤ x8_4
           ·rw [if_pos c14] at H
            have c14b0 : decide (0 ≤ x8_4) = true:=decide_eq_true c14
            clear c14
            obtain ⟨ji15,hji15⟩ : ∃ j_ : Int,(IntKind.u64.wrap (x6_1)) = j_:=⟨_,rfl⟩
            replace H : (if 0 ≤ (ji15) then (if (Go.bits .and .i64 (shr .i64 (rd l1 x8_4) (ji15)) 1) = 1 then (spec_l09Text.l1 k4 l1 x5_9 x6_1 (strOfNums (([(wrap64 (97 + x8_4)) % 256] : List Int))) (wrap64 (x8_4 + 1)) a0_0 a0_1 l0_2) else (spec_l09Text.l1 k4 l1 x5_9 x6_1 x7_4 (wrap64 (x8_4 + 1)) a0_0 a0_1 l0_2)) else (none)) = some r:=by first|(rw [hji15] at H;exact H)|(simp only [hji15] at H ⊢;exact H)
            by_cases c16 : 0 ≤ (ji15)
            ·rw [if_pos c16] at H
             have c16b0:=eq_true c16
             have c16b1 : decide (0 ≤ (ji15)) = true:=decide_eq_true c16
             clear c16
             obtain ⟨ji17,hji17⟩ : ∃ j_ : Int,(shr .i64 (rd l1 x8_4) (ji15)) = j_:=⟨_,rfl⟩
             replace H : (if (Go.bits .and .i64 (ji17) 1) = 1 then (spec_l09Text.l1 k4 l1 x5_9 x6_1 (strOfNums (([(wrap64 (97 + x8_4)) % 256] : List Int))) (wrap64 (x8_4 + 1)) a0_0 a0_1 l0_2) else (spec_l09Text.l1 k4 l1 x5_9 x6_1 x7_4 (wrap64 (x8_4 + 1)) a0_0 a0_1 l0_2)) = some r:=by first|(rw [hji17] at H;exact H)|(simp only [hji17] at H ⊢;exact H)
             have hji17_ : ((rd l1 x8_4) / 2 ^ min (ji15).toNat 64) = ji17:=hji17
             have hji17z : (ji15) ≤ 64 → ((rd l1 x8_4) / 2 ^ (ji15).toNat) = ji17:=shr_small hji17
             by_cases c18 : (Go.bits .and .i64 (ji17) 1) = 1
             ·rw [if_pos c18] at H
              have c18b0 : ((Go.bits .and .i64 (ji17) 1) == 1) = true:=beq_iff_eq.mpr c18
              have c18b1 : ((Go.bits .and .i64 (ji17) 1) != 1) = false:=bne_eq_false_iff_eq.mpr c18
              clear c18
              obtain ⟨y689,hy689⟩ : ∃ y_ : List Int,y_ = (([(wrap64 (97 + x8_4)) % 256] : List Int)):=⟨_,rfl⟩
              replace H : (spec_l09Text.l1 k4 l1 x5_9 x6_1 (strOfNums y689) (wrap64 (x8_4 + 1)) a0_0 a0_1 l0_2) = some r:=by first|(rw [hy689];with_reducible exact H)|(have H2_:=(Option.bind_some _ _).symm.trans H;rw [hy689];with_reducible exact H2_)|(have H2_:=(Option.bind_some _ _).symm.trans H;with_reducible exact H2_)|with_reducible exact H|(rw [hy689];exact H)|exact H
              have Ny689:=Aside0.mk hy689
              clear hy689
              have H':=Aside0.mk H
              clear H
              have p688 : 0 ≤ (x8_4 : Int):=of_decide_eq_true (by first|(with_reducible assumption)|assumption)
              have q688 : x8_4 < (l1.length : Int):=of_decide_eq_true (by first|(with_reducible assumption)|assumption)
              obtain ⟨ad688,e688,hx688_0⟩:=Kd.at_int HR1.out x8_4 p688 q688
              cases e688
              replace hx688_0:=(HB.out.cell (World.block_lt_of_cell? w _ hx688_0)).trans hx688_0
              replace p688:=eq_true p688
              replace q688:=eq_true q688
              go_wp2_with (first|((with_reducible refine gate_dst (N:=47) rfl ?_);refine Kd.R_lit (Kd.int .u8) _ 5 ?hg (N:=47) ?hd (xs:=([(wrap64 (97 + x8_4)) % 256] : List Int)) (inner:=[.int .u8 ((wrap64 (97 + x8_4)) % 256)]) (ok:=fun _=>True) (okp:=fun _=>True) ?hr ?hp (fun _ hk=>hk) trivial (Below.refl _ _) (Nat.le_refl _) (by simp) ?_;(case hd=>rfl);(case hg=>rfl);(case hr=>first|(go_simp;done)|(go_simp;rfl));(case hp=>exact (Reps.one (show Kd.M (Kd.int .u8) _ _ _ ((wrap64 (97 + x8_4)) % 256) [.int .u8 ((wrap64 (97 + x8_4)) % 256)] from rfl) (Reps.none _ _)));intro v690 w19 ho20 hb hg_ hnew_;clear hg_ hnew_;(first|rw [← Ny689.out] at ho20|(simp only [Int.reduceToNat] at ho20;rw [← Ny689.out] at ho20));have n0_:=Aside0.mk (Kd.R_lower ho20 (below_size (by repeat (first|(with_reducible first|exact HB.out|apply below_alloc|apply pw_below_drewN|apply below_drew1|refine below_set ?_ GE687.out)|exact HB.out))));have n1_:=Aside0.mk (blk_below (g:=gb687) (o:=.cells #[.int .i64 a0_0,.int .i64 a0_1,.slice A0_2 l0_2.length c0_2] 28 (0,0)) (by (with_reducible repeat (first|refine blk_drewN ?_ _|refine blk_drew ?_|refine blk_alloc ?_ _));exact BK687.out) hb);have n2_:=Aside0.mk (below_step (by repeat (first|(with_reducible first|exact HB.out|apply below_alloc|apply pw_below_drewN|apply below_drew1|refine below_set ?_ GE687.out)|exact HB.out)) hb);clear BK687;clear HB;have HO691:=n0_;have BK687:=n1_;have HB:=n2_;clear n0_ n1_ n2_;clear hb ho20;have hcv21:=own_string (P:=Try.prog) Try.underlying74 Try.underlying5 Try.underlying9 (Kd.own_of_R HO691.out)))
              go_roundg k4
              case measure=>have:=HK1.out;have:=HJ4.out;have:=HJ9.out;have:=HK4.out;omega
              case rel=>exact ⟨(strOfNums y689),(wrap64 (x8_4 + 1)),(by first|rfl|(simp;done)|(simp [*];done)),(by first|rfl|(simp;done)|(simp [*];done)),H',⟨by have:=HK1.out;have:=HJ4.out;have:=HJ9.out;have:=HK4.out;omega⟩,⟨by (with_reducible repeat (first|refine blk_drewN ?_ _|refine blk_drew ?_|refine blk_alloc ?_ _));exact BK687.out⟩,⟨by repeat (first|(with_reducible first|exact HB.out|apply below_alloc|apply pw_below_drewN|apply below_drew1|refine below_set ?_ GE687.out)|exact HB.out)⟩⟩
             ·rw [if_neg c18] at H
              have c18b0 : ((Go.bits .and .i64 (ji17) 1) == 1) = false:=beq_eq_false_iff_ne.mpr c18
              have c18b1 : ((Go.bits .and .i64 (ji17) 1) != 1) = true:=bne_iff_ne.mpr c18
              have H':=Aside0.mk H
              clear H
              have p688 : 0 ≤ (x8_4 : Int):=of_decide_eq_true (by first|(with_reducible assumption)|assumption)
              have q688 : x8_4 < (l1.length : Int):=of_decide_eq_true (by first|(with_reducible assumption)|assumption)
              obtain ⟨ad688,e688,hx688_0⟩:=Kd.at_int HR1.out x8_4 p688 q688
              cases e688
              replace hx688_0:=(HB.out.cell (World.block_lt_of_cell? w _ hx688_0)).trans hx688_0
              replace p688:=eq_true p688
              replace q688:=eq_true q688
              go_wp2
              go_roundg k4
              case measure=>have:=HK1.out;have:=HJ4.out;have:=HJ9.out;have:=HK4.out;omega
              case rel=>exact ⟨(x7_4),(wrap64 (x8_4 + 1)),(by first|rfl|(simp;done)|(simp [*];done)),(by first|rfl|(simp;done)|(simp [*];done)),H',⟨by have:=HK1.out;have:=HJ4.out;have:=HJ9.out;have:=HK4.out;omega⟩,⟨by (with_reducible repeat (first|refine blk_drewN ?_ _|refine blk_drew ?_|refine blk_alloc ?_ _));exact BK687.out⟩,⟨by repeat (first|(with_reducible first|exact HB.out|apply below_alloc|apply pw_below_drewN|apply below_drew1|refine below_set ?_ GE687.out)|exact HB.out)⟩⟩
            ·rw [if_neg c16] at H
             exact absurd H (by simp)
           ·rw [if_neg c14] at H
            exact absurd H (by simp)
          ·rw [if_neg c13] at H
           have c13b0 : decide (x8_4 < (l1.length : Int)) = false:=decide_eq_false c13
           clear c13
           by_cases c22 : x5_9.size + x7_4.size ≤ 9223372036854775807
           ·rw [if_pos c22] at H
            have c22b0:=eq_true c22
            have c22b1 : decide (x5_9.size + x7_4.size ≤ 9223372036854775807) = true:=decide_eq_true c22
            try have c22b2 : (9223372036854775807 < x5_9.size + x7_4.size) = False:=eq_false (Nat.not_lt.2 c22)
            have H':=Aside0.mk H
            clear H
            go_wp2
            go_roundg k4
            case measure=>have:=HK1.out;have:=HJ4.out;have:=HJ9.out;have:=HK4.out;omega
            case rel=>exact ⟨(x5_9 ++ x7_4),(wrap64 (x6_1 + 1)),(by first|rfl|(simp;done)|(simp [*];done)),(by first|rfl|(simp;done)|(simp [*];done)),H',⟨by have:=HK1.out;have:=HJ4.out;have:=HJ9.out;have:=HK4.out;omega⟩,⟨by (with_reducible repeat (first|refine blk_drewN ?_ _|refine blk_drew ?_|refine blk_alloc ?_ _));exact BK687.out⟩,⟨by repeat (first|(with_reducible first|exact HB.out|apply below_alloc|apply pw_below_drewN|apply below_drew1|refine below_set ?_ GE687.out)|exact HB.out)⟩⟩
           ·rw [if_neg c22] at H
            exact absurd H (by simp)
   ·rw [if_neg c4] at H
    have c4b0 : decide (x6_1 < (wrap64 (a0_0 * a0_1))) = false:=decide_eq_false c4
    clear c4
    obtain rfl:=Option.some.inj H
    have hcz23_0 : wr.cell? ⟨gb687,0,none⟩ = some (.int .i64 a0_0):=(blk_cell BK687.out 0).trans rfl
    have hcz23_1 : wr.cell? ⟨gb687,1,none⟩ = some (.int .i64 a0_1):=(blk_cell BK687.out 1).trans rfl
    have hcz23_2 : wr.cell? ⟨gb687,2,none⟩ = some (.slice A0_2 l0_2.length c0_2):=(blk_cell BK687.out 2).trans rfl
    have hfz23_0:=blk_frozen BK687.out 0
    have hfz23_1:=blk_frozen BK687.out 1
    have hfz23_2:=blk_frozen BK687.out 2
    go_wp2
    go_ret
    exact ⟨by first|rfl|(simp [errW_none,errW_some] <;> rfl)|(simp [*,errW_none,errW_some] <;> rfl),by repeat (first|(with_reducible first|exact HB.out|apply below_alloc|apply pw_below_drewN|apply below_drew1|refine below_set ?_ GE687.out)|exact HB.out)⟩

/-! ### spec_FleetText: function 33 -/
def spec_FleetText.f (k : Nat) (a0_0 : Int) (a0_1 : Int) (l0_2 : List Int) (l1 : List Int) : Option (ByteArray × Int) := (spec_l09Code.f k a0_0 a0_1 l0_2 l1).bind fun t693 => (if t693 = 0 then ((spec_l09Text.f k a0_0 a0_1 l0_2 l1).bind fun t694 => (some (t694, 0))) else (some ((⟨#[]⟩ : ByteArray), t693)))
set_option maxHeartbeats 8000000 in
set_option maxRecDepth 100000 in
theorem spec_FleetText.calls (k : Nat) (a0_0 : Int) (a0_1 : Int) (A0_2 : Option Addr) (c0_2 : Nat) (l0_2 : List Int) (A1 : Option Addr) (c1 : Nat) (l1 : List Int) (r1 : ByteArray) (r2 : Int) (w : World) (hr0_2 : Kd.C (Kd.int .i64) w A0_2 l0_2.length l0_2) (hc0_2 : l0_2.length ≤ c0_2) (hr1 : Kd.C (Kd.int .i64) w A1 l1.length l1) (hc1 : l1.length ≤ c1) (h : spec_FleetText.f k a0_0 a0_1 l0_2 l1 = some (r1, r2)) :
  Calls Try.prog 33 #[.agg #[.int .i64 a0_0,.int .i64 a0_1,.slice A0_2 l0_2.length c0_2],.slice A1 l1.length c1] w fun e w'=>e = .returned (.tuple #[.string r1,.int .i64 r2]) ∧ Below w.heap.size w w':=by
 have hu28:=Try.underlying28
 have HR0_2:=Aside0.mk hr0_2
 have HC0_2:=Aside0.mk hc0_2
 clear hr0_2 hc0_2
 have HR1:=Aside0.mk hr1
 have HC1:=Aside0.mk hc1
 clear hr1 hc1
 have HB:=Aside0.mk (Below.refl w.heap.size w)
 have H : ((spec_l09Code.f k a0_0 a0_1 l0_2 l1).bind fun t693=>(if t693 = 0 then ((spec_l09Text.f k a0_0 a0_1 l0_2 l1).bind fun t694=>(some (t694,0))) else (some ((⟨#[]⟩ : ByteArray),t693)))) = some (r1,r2):=h
 clear h
 replace H:=Option.bind_eq_some_iff.mp H
 obtain ⟨t693,A30,H⟩:=H
 replace H : (if t693 = 0 then ((spec_l09Text.f k a0_0 a0_1 l0_2 l1).bind fun t694=>(some (t694,0))) else (some ((⟨#[]⟩ : ByteArray),t693))) = some (r1,r2):=H
 have A3:=Aside0.mk A30
 clear A30
 by_cases c4 : t693 = 0
 ·rw [if_pos c4] at H
  have c4b0 : (t693 == 0) = true:=beq_iff_eq.mpr c4
  have c4b1 : (t693 != 0) = false:=bne_eq_false_iff_eq.mpr c4
  clear c4
  replace H:=Option.bind_eq_some_iff.mp H
  obtain ⟨t694,A50,H⟩:=H
  replace H : (some (t694,0)) = some (r1,r2):=H
  have A5:=Aside0.mk A50
  clear A50
  simp only [Option.some.injEq,Prod.mk.injEq] at H
  obtain ⟨rfl,rfl⟩:=H
  go_enter Try.func33,Try.ntmps33
  go_wp2_with (first|((with_reducible refine gate_dst (N:=2) rfl ?_);refine box_event ?hg (N:=2) ?hd (cs:=#[.int .i64 a0_0,.int .i64 a0_1,.slice A0_2 l0_2.length c0_2]) (t:=28) ?hr ?_;(case hd=>rfl);(case hg=>rfl);(case hr=>first|(go_simp;done)|(go_simp;rfl));intro gb692 hg w6 hbox hb;have n0_:=Aside0.mk (below_step (by repeat (first|(with_reducible first|exact HB.out|apply below_alloc|apply pw_below_drewN|apply below_drew1)|exact HB.out)) hb);have n1_:=Aside0.mk (hbox);have n2_:=Aside0.mk ((by rw [hg];exact (below_size (by repeat (first|(with_reducible first|exact HB.out|apply below_alloc|apply pw_below_drewN|apply below_drew1)|exact HB.out))) : w.heap.size ≤ gb692));have n3_:=Aside0.mk ((by rw [hg];exact (below_size (by repeat (first|(with_reducible first|exact HB.out|apply below_alloc|apply pw_below_drewN|apply below_drew1)|exact HB.out))) : w.heap.size ≤ gb692));clear HB;have HB:=n0_;have BK692:=n1_;have GW692:=n2_;have GE692:=n3_;clear n0_ n1_ n2_ n3_;clear hb hbox hg;have hcz7_0 : w6.cell? ⟨gb692,0,none⟩ = some (.int .i64 a0_0):=(blk_cell BK692.out 0).trans rfl;have hcz7_1 : w6.cell? ⟨gb692,1,none⟩ = some (.int .i64 a0_1):=(blk_cell BK692.out 1).trans rfl;have hcz7_2 : w6.cell? ⟨gb692,2,none⟩ = some (.slice A0_2 l0_2.length c0_2):=(blk_cell BK692.out 2).trans rfl;have hfz7_0:=blk_frozen BK692.out 0;have hfz7_1:=blk_frozen BK692.out 1;have hfz7_2:=blk_frozen BK692.out 2)|((with_reducible refine gate_callee (f:=49) rfl ?_);refine goesL_ (some 9) rfl rfl Try.func49 (by kernel_rfl) rfl #[.agg #[.int .i64 a0_0,.int .i64 a0_1,.slice A0_2 l0_2.length c0_2],.slice A1 l1.length c1] rfl (by (try simp only [List.map_toArray,List.map_cons,List.map_nil]);first|done|rfl|(simp only [List.length_drop,List.length_take];rfl)) ?_;(with_reducible refine (spec_l09Code.calls k a0_0 a0_1 _ _ l0_2 _ _ l1 t693 _ ?side1 ?side2 ?side3 ?side4 A3.out).mono ?_);(case side1=>repeat (first|exact (Kd.C_below HR0_2.out HB.out)|(with_reducible refine Kd.C_alloc ?_ _)|(with_reducible refine Kd.C_drewN ?_ _)|(with_reducible refine Kd.C_drew ?_)));(case side2=>exact HC0_2.out);(case side3=>repeat (first|exact (Kd.C_below HR1.out HB.out)|(with_reducible refine Kd.C_alloc ?_ _)|(with_reducible refine Kd.C_drewN ?_ _)|(with_reducible refine Kd.C_drew ?_)));(case side4=>exact HC1.out);rintro e w8 ⟨rfl,hb⟩;refine ⟨_,rfl,?_⟩;have n0_:=Aside0.mk (blk_below (g:=gb692) (o:=.cells #[.int .i64 a0_0,.int .i64 a0_1,.slice A0_2 l0_2.length c0_2] 28 (0,0)) (by (with_reducible repeat (first|refine blk_drewN ?_ _|refine blk_drew ?_|refine blk_alloc ?_ _));exact BK692.out) hb);have n1_:=Aside0.mk (below_step (by repeat (first|(with_reducible first|exact HB.out|apply below_alloc|apply pw_below_drewN|apply below_drew1|refine below_set ?_ GE692.out)|exact HB.out)) hb);clear BK692;clear HB;have BK692:=n0_;have HB:=n1_;clear n0_ n1_;(try clear hb);(try clear hb2);(try clear hk);(try clear hi);have hcz9_0 : w8.cell? ⟨gb692,0,none⟩ = some (.int .i64 a0_0):=(blk_cell BK692.out 0).trans rfl;have hcz9_1 : w8.cell? ⟨gb692,1,none⟩ = some (.int .i64 a0_1):=(blk_cell BK692.out 1).trans rfl;have hcz9_2 : w8.cell? ⟨gb692,2,none⟩ = some (.slice A0_2 l0_2.length c0_2):=(blk_cell BK692.out 2).trans rfl;have hfz9_0:=blk_frozen BK692.out 0;have hfz9_1:=blk_frozen BK692.out 1;have hfz9_2:=blk_frozen BK692.out 2)|((with_reducible refine gate_callee (f:=60) rfl ?_);refine goesL_ (some 15) rfl rfl Try.func60 (by kernel_rfl) rfl #[.agg #[.int .i64 a0_0,.int .i64 a0_1,.slice A0_2 l0_2.length c0_2],.slice A1 l1.length c1] rfl (by (try simp only [List.map_toArray,List.map_cons,List.map_nil]);first|done|rfl|(simp only [List.length_drop,List.length_take];rfl)) ?_;(with_reducible refine (spec_l09Text.calls k a0_0 a0_1 _ _ l0_2 _ _ l1 t694 _ ?side1 ?side2 ?side3 ?side4 A5.out).mono ?_);(case side1=>repeat (first|exact (Kd.C_below HR0_2.out HB.out)|(with_reducible refine Kd.C_alloc ?_ _)|(with_reducible refine Kd.C_drewN ?_ _)|(with_reducible refine Kd.C_drew ?_)));(case side2=>exact HC0_2.out);(case side3=>repeat (first|exact (Kd.C_below HR1.out HB.out)|(with_reducible refine Kd.C_alloc ?_ _)|(with_reducible refine Kd.C_drewN ?_ _)|(with_reducible refine Kd.C_drew ?_)));(case side4=>exact HC1.out);rintro e w10 ⟨rfl,hb⟩;refine ⟨_,rfl,?_⟩;have n0_:=Aside0.mk (blk_below (g:=gb692) (o:=.cells #[.int .i64 a0_0,.int .i64 a0_1,.slice A0_2 l0_2.length c0_2] 28 (0,0)) (by (with_reducible repeat (first|refine blk_drewN ?_ _|refine blk_drew ?_|refine blk_alloc ?_ _));exact BK692.out) hb);have n1_:=Aside0.mk (below_step (by repeat (first|(with_reducible first|exact HB.out|apply below_alloc|apply pw_below_drewN|apply below_drew1|refine below_set ?_ GE692.out)|exact HB.out)) hb);clear BK692;clear HB;have BK692:=n0_;have HB:=n1_;clear n0_ n1_;(try clear hb);(try clear hb2);(try clear hk);(try clear hi)))
  go_ret2
  exact ⟨by first|rfl|(simp [errW_none,errW_some] <;> rfl)|(simp [*,errW_none,errW_some] <;> rfl),by repeat (first|(with_reducible first|exact HB.out|apply below_alloc|apply pw_below_drewN|apply below_drew1|refine below_set ?_ GE692.out)|exact HB.out)⟩
 ·rw [if_neg c4] at H
  have c4b0 : (t693 == 0) = false:=beq_eq_false_iff_ne.mpr c4
  have c4b1 : (t693 != 0) = true:=bne_iff_ne.mpr c4
  simp only [Option.some.injEq,Prod.mk.injEq] at H
  obtain ⟨rfl,rfl⟩:=H
  go_enter Try.func33,Try.ntmps33
  go_wp2_with (first|((with_reducible refine gate_dst (N:=2) rfl ?_);refine box_event ?hg (N:=2) ?hd (cs:=#[.int .i64 a0_0,.int .i64 a0_1,.slice A0_2 l0_2.length c0_2]) (t:=28) ?hr ?_;(case hd=>rfl);(case hg=>rfl);(case hr=>first|(go_simp;done)|(go_simp;rfl));intro gb692 hg w11 hbox hb;have n0_:=Aside0.mk (below_step (by repeat (first|(with_reducible first|exact HB.out|apply below_alloc|apply pw_below_drewN|apply below_drew1)|exact HB.out)) hb);have n1_:=Aside0.mk (hbox);have n2_:=Aside0.mk ((by rw [hg];exact (below_size (by repeat (first|(with_reducible first|exact HB.out|apply below_alloc|apply pw_below_drewN|apply below_drew1)|exact HB.out))) : w.heap.size ≤ gb692));have n3_:=Aside0.mk ((by rw [hg];exact (below_size (by repeat (first|(with_reducible first|exact HB.out|apply below_alloc|apply pw_below_drewN|apply below_drew1)|exact HB.out))) : w.heap.size ≤ gb692));clear HB;have HB:=n0_;have BK692:=n1_;have GW692:=n2_;have GE692:=n3_;clear n0_ n1_ n2_ n3_;clear hb hbox hg;have hcz12_0 : w11.cell? ⟨gb692,0,none⟩ = some (.int .i64 a0_0):=(blk_cell BK692.out 0).trans rfl;have hcz12_1 : w11.cell? ⟨gb692,1,none⟩ = some (.int .i64 a0_1):=(blk_cell BK692.out 1).trans rfl;have hcz12_2 : w11.cell? ⟨gb692,2,none⟩ = some (.slice A0_2 l0_2.length c0_2):=(blk_cell BK692.out 2).trans rfl;have hfz12_0:=blk_frozen BK692.out 0;have hfz12_1:=blk_frozen BK692.out 1;have hfz12_2:=blk_frozen BK692.out 2)|((with_reducible refine gate_callee (f:=49) rfl ?_);refine goesL_ (some 9) rfl rfl Try.func49 (by kernel_rfl) rfl #[.agg #[.int .i64 a0_0,.int .i64 a0_1,.slice A0_2 l0_2.length c0_2],.slice A1 l1.length c1] rfl (by (try simp only [List.map_toArray,List.map_cons,List.map_nil]);first|done|rfl|(simp only [List.length_drop,List.length_take];rfl)) ?_;(with_reducible refine (spec_l09Code.calls k a0_0 a0_1 _ _ l0_2 _ _ l1 t693 _ ?side1 ?side2 ?side3 ?side4 A3.out).mono ?_);(case side1=>repeat (first|exact (Kd.C_below HR0_2.out HB.out)|(with_reducible refine Kd.C_alloc ?_ _)|(with_reducible refine Kd.C_drewN ?_ _)|(with_reducible refine Kd.C_drew ?_)));(case side2=>exact HC0_2.out);(case side3=>repeat (first|exact (Kd.C_below HR1.out HB.out)|(with_reducible refine Kd.C_alloc ?_ _)|(with_reducible refine Kd.C_drewN ?_ _)|(with_reducible refine Kd.C_drew ?_)));(case side4=>exact HC1.out);rintro e w13 ⟨rfl,hb⟩;refine ⟨_,rfl,?_⟩;have n0_:=Aside0.mk (blk_below (g:=gb692) (o:=.cells #[.int .i64 a0_0,.int .i64 a0_1,.slice A0_2 l0_2.length c0_2] 28 (0,0)) (by (with_reducible repeat (first|refine blk_drewN ?_ _|refine blk_drew ?_|refine blk_alloc ?_ _));exact BK692.out) hb);have n1_:=Aside0.mk (below_step (by repeat (first|(with_reducible first|exact HB.out|apply below_alloc|apply pw_below_drewN|apply below_drew1|refine below_set ?_ GE692.out)|exact HB.out)) hb);clear BK692;clear HB;have BK692:=n0_;have HB:=n1_;clear n0_ n1_;(try clear hb);(try clear hb2);(try clear hk);(try clear hi)))
  go_ret2
  exact ⟨by first|rfl|(simp [errW_none,errW_some] <;> rfl)|(simp [*,errW_none,errW_some] <;> rfl),by repeat (first|(with_reducible first|exact HB.out|apply below_alloc|apply pw_below_drewN|apply below_drew1|refine below_set ?_ GE692.out)|exact HB.out)⟩

-- NOT PRINTED: function 102 (abi_NoEscape)

-- NOT PRINTED: function 87 (strings_Builder_copyCheck)

-- NOT PRINTED: function 103 (bytealg_MakeNoZero)

-- NOT PRINTED: function 88 (strings_Builder_grow)

-- NOT PRINTED: function 76 (strings_Builder_Grow)

-- NOT PRINTED: function 77 (strings_Builder_WriteString)

-- NOT PRINTED: function 78 (strings_Builder_String)

end Go.Proofs.Ytankgbfddgpfmaa.PAll
