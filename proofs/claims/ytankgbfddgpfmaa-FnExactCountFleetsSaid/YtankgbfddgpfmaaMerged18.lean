/- Texts of this claim that follow each other, laid together. -/
import Derived.Test.YtankgbfddgpfmaaPAllx0
import Derived.Test.YtankgbfddgpfmaaPAllx19
import Derived.Test.YtankgbfddgpfmaaGJoin
import Derived.Test.YtankgbfddgpfmaaPAllx1
import Derived.Test.YtankgbfddgpfmaaPAllx2
import Derived.Test.YtankgbfddgpfmaaPAllx11
import Derived.Test.YtankgbfddgpfmaaMerged10

section
-- Written by wip/pp.py of this work (a driver around the kit's print), out of the translation; Lean checks it.
namespace Go.Proofs.Ytankgbfddgpfmaa.PAll
open Go.RowKit Go.Proofs.YtankgbfddgpfmaaW.PrintWords Go.Proofs.YtankgbfddgpfmaaW.PrintLast Go.Proofs.YtankgbfddgpfmaaW.PrintMore
attribute [local go_sem] max2_int min2_int max_two min_two max_three min_three max_four min_four   -- for this text's walks alone
set_option linter.unusedVariables false
set_option linter.unusedSimpArgs false

end Go.Proofs.Ytankgbfddgpfmaa.PAll
end

section
-- Written by wip/pp.py of this work (a driver around the kit's print), out of the translation; Lean checks it.
namespace Go.Proofs.Ytankgbfddgpfmaa.PAll
open Go.RowKit Go.Proofs.YtankgbfddgpfmaaW.PrintWords Go.Proofs.YtankgbfddgpfmaaW.PrintLast Go.Proofs.YtankgbfddgpfmaaW.PrintMore
attribute [local go_sem] max2_int min2_int max_two min_two max_three min_three max_four min_four   -- for this text's walks alone
set_option linter.unusedVariables false
set_option linter.unusedSimpArgs false

/-! ### spec_l09Agrees: function 70 -/
def spec_l09Agrees.l0 : Nat → List Int → List (S100) → Int → Int → Option (Bool)
 | 0, _, _, _, _ => none
 | k + 1, x0, x1, x5, x6 => if x6 < (x1.length : Int) then (if 0 ≤ x6 then (if 0 ≤ (IntKind.u64.wrap ((rd_T100 x1 x6).f0)) then ((spec_l09Answer.f k x0 ((rd_T100 x1 x6).f0) (Go.bits .or .i64 x5 (shl .i64 1 (IntKind.u64.wrap ((rd_T100 x1 x6).f0))))).bind fun t749 => (if t749 = ((rd_T100 x1 x6).f1) then (spec_l09Agrees.l0 k x0 x1 (Go.bits .or .i64 x5 (shl .i64 1 (IntKind.u64.wrap ((rd_T100 x1 x6).f0)))) (wrap64 (x6 + 1))) else (some false))) else (none)) else (none)) else (some true)
def spec_l09Agrees.f (k : Nat) (l0 : List Int) (l1 : List (S100)) : Option (Bool) := spec_l09Agrees.l0 k l0 l1 0 0
set_option maxHeartbeats 8000000 in
set_option maxRecDepth 100000 in
theorem spec_l09Agrees.calls (k : Nat) (A0 : Option Addr) (c0 : Nat) (l0 : List Int) (A1 : Option Addr) (c1 : Nat) (l1 : List (S100)) (r : Bool) (w : World) (hr0 : Kd.C (Kd.int .i64) w A0 l0.length l0) (hc0 : l0.length ≤ c0) (hr1 : Kd.C k100 w A1 l1.length l1) (hc1 : l1.length ≤ c1) (h : spec_l09Agrees.f k l0 l1 = some r) :
  Calls Try.prog 70 #[.slice A0 l0.length c0,.slice A1 l1.length c1] w fun e w'=>e = .returned (.bool r) ∧ Drawn0 w w':=by
 have HR0:=Aside0.mk hr0
 have HC0:=Aside0.mk hc0
 clear hr0 hc0
 have HR1:=Aside0.mk hr1
 have HC1:=Aside0.mk hc1
 clear hr1 hc1
 have H : (spec_l09Agrees.l0 k l0 l1 0 0) = some r:=h
 clear h
 have H':=Aside0.mk H
 clear H
 go_enter Try.func70,Try.ntmps70
 go_wp2
 repeat (go_quiet (fail);try go_wp2)
 go_loopg [5,6] k (fun kq v5 v6 w'=>∃ (x5_1 : Int) (x6_1 : Int),v5 = .int .i64 x5_1 ∧ v6 = .int .i64 x6_1 ∧ Aside0 (spec_l09Agrees.l0 kq l0 l1 x5_1 x6_1 = some r) ∧ Aside0 (kq ≤ k) ∧ Drawn0 w w')
 case atStart=>exact ⟨(0),(0),(by first|rfl|(simp;done)|(simp [*];done)),(by first|rfl|(simp;done)|(simp [*];done)),H',⟨Nat.le_refl _⟩,by repeat (first|exact Drawn0.refl _|apply Drawn0.step)⟩
 case round =>
  clear H'
  try clear c1
  try clear p2
  obtain ⟨x5_1,x6_1,rfl,rfl,HA,HK1,⟨m1,rfl⟩⟩:=hrel
  cases gk with
  | zero => exact absurd HA.out (by simp [spec_l09Agrees.l0])
  | succ k1 =>
   have H:=HA.out
   clear HA
   simp only [spec_l09Agrees.l0] at H
   by_cases c3 : x6_1 < (l1.length : Int)
   ·rw [if_pos c3] at H
    have c3b0 : decide (x6_1 < (l1.length : Int)) = true:=decide_eq_true c3
    clear c3
    by_cases c4 : 0 ≤ x6_1
    ·rw [if_pos c4] at H
     have c4b0 : decide (0 ≤ x6_1) = true:=decide_eq_true c4
     clear c4
     obtain ⟨ji5,hji5⟩ : ∃ j_ : Int,(IntKind.u64.wrap ((rd_T100 l1 x6_1).f0)) = j_:=⟨_,rfl⟩
     replace H : (if 0 ≤ (ji5) then ((spec_l09Answer.f k1 l0 ((rd_T100 l1 x6_1).f0) (Go.bits .or .i64 x5_1 (shl .i64 1 (ji5)))).bind fun t749=>(if t749 = ((rd_T100 l1 x6_1).f1) then (spec_l09Agrees.l0 k1 l0 l1 (Go.bits .or .i64 x5_1 (shl .i64 1 (ji5))) (wrap64 (x6_1 + 1))) else (some false))) else (none)) = some r:=by first|(rw [hji5] at H;exact H)|(simp only [hji5] at H ⊢;exact H)
     by_cases c6 : 0 ≤ (ji5)
     ·rw [if_pos c6] at H
      have c6b0:=eq_true c6
      have c6b1 : decide (0 ≤ (ji5)) = true:=decide_eq_true c6
      clear c6
      obtain ⟨ji7,hji7⟩ : ∃ j_ : Int,(shl .i64 1 (ji5)) = j_:=⟨_,rfl⟩
      replace H : ((spec_l09Answer.f k1 l0 ((rd_T100 l1 x6_1).f0) (Go.bits .or .i64 x5_1 (ji7))).bind fun t749=>(if t749 = ((rd_T100 l1 x6_1).f1) then (spec_l09Agrees.l0 k1 l0 l1 (Go.bits .or .i64 x5_1 (ji7)) (wrap64 (x6_1 + 1))) else (some false))) = some r:=by first|(rw [hji7] at H;exact H)|(simp only [hji7] at H ⊢;exact H)
      have hji7_ : (IntKind.i64.wrap (1 * 2 ^ min (ji5).toNat 64)) = ji7:=hji7
      have hji7z : (ji5) ≤ 64 → (IntKind.i64.wrap (1 * 2 ^ (ji5).toNat)) = ji7:=shl_small hji7
      have hji7u : (IntKind.i64.wrap (2 ^ min (ji5).toNat 64)) = ji7:=by have h_:=hji7_;rw [Int.one_mul] at h_;exact h_
      have hji7v : (ji5) ≤ 64 → (IntKind.i64.wrap (2 ^ (ji5).toNat)) = ji7:=fun hle_=>by have h_:=hji7z hle_;rw [Int.one_mul] at h_;exact h_
      have hji7y : (wrap64 (1 * 2 ^ min (ji5).toNat 64)) = ji7:=(i64_w _).symm.trans hji7_
      have hji7x : (ji5) ≤ 64 → (wrap64 (1 * 2 ^ (ji5).toNat)) = ji7:=fun h_=>(i64_w _).symm.trans (hji7z h_)
      replace H:=Option.bind_eq_some_iff.mp H
      obtain ⟨t749,A80,H⟩:=H
      replace H : (if t749 = ((rd_T100 l1 x6_1).f1) then (spec_l09Agrees.l0 k1 l0 l1 (Go.bits .or .i64 x5_1 (ji7)) (wrap64 (x6_1 + 1))) else (some false)) = some r:=H
      have A8:=Aside0.mk A80
      clear A80
      by_cases c9 : t749 = ((rd_T100 l1 x6_1).f1)
      ·rw [if_pos c9] at H
       have c9b0 : (t749 == ((rd_T100 l1 x6_1).f1)) = true:=beq_iff_eq.mpr c9
       have c9b1 : (t749 != ((rd_T100 l1 x6_1).f1)) = false:=bne_eq_false_iff_eq.mpr c9
       clear c9
       have H':=Aside0.mk H
       clear H
       have p747 : 0 ≤ (x6_1 : Int):=of_decide_eq_true (by first|(with_reducible assumption)|assumption)
       have q747 : x6_1 < (l1.length : Int):=of_decide_eq_true (by first|(with_reducible assumption)|assumption)
       obtain ⟨ad747,e747,hx747_0,hx747_1⟩:=at_T100 HR1.out x6_1 p747 q747
       cases e747
       replace p747:=eq_true p747
       replace q747:=eq_true q747
       have p748 : 0 ≤ (x6_1 : Int):=of_decide_eq_true (by first|(with_reducible assumption)|assumption)
       have q748 : x6_1 < (l1.length : Int):=of_decide_eq_true (by first|(with_reducible assumption)|assumption)
       obtain ⟨ad748,e748,hx748_0,hx748_1⟩:=at_T100 HR1.out x6_1 p748 q748
       obtain rfl : ad747 = ad748:=(by injection e748)
       replace p748:=eq_true p748
       replace q748:=eq_true q748
       go_wp2_with (first|(go_at_call 58;(with_reducible refine (spec_l09Answer.calls k1 _ _ l0 ((rd_T100 l1 x6_1).f0) (Go.bits .or .i64 x5_1 (ji7)) t749 _ ?side1 ?side2 A8.out).mono ?_);(case side1=>repeat (first|exact HR0.out|(with_reducible refine Kd.C_alloc ?_ _)|(with_reducible refine Kd.C_drewN ?_ _)|(with_reducible refine Kd.C_drew ?_)));(case side2=>exact HC0.out);rintro e w' ⟨rfl,⟨nd,rfl⟩⟩;(try first|exact ⟨rfl,_,World.drewN_drewN _ _ _⟩|exact ⟨rfl,_,Eq.trans (World.drewN_drewN _ _ _) (congrArg (World.drewN _) (Nat.add_assoc _ _ _))⟩);all_goals (have p750 : 0 ≤ (x6_1 : Int):=of_decide_eq_true (by first|(with_reducible assumption)|assumption);have q750 : x6_1 < (l1.length : Int):=of_decide_eq_true (by first|(with_reducible assumption)|assumption);obtain ⟨ad750,e750,hx750_0,hx750_1⟩:=at_T100 HR1.out x6_1 p750 q750;obtain rfl : ad747 = ad750:=(by injection e750);replace p750:=eq_true p750;replace q750:=eq_true q750)))
       repeat (go_quiet (first|(go_at_call 58;(with_reducible refine (spec_l09Answer.calls k1 _ _ l0 ((rd_T100 l1 x6_1).f0) (Go.bits .or .i64 x5_1 (ji7)) t749 _ ?side1 ?side2 A8.out).mono ?_);(case side1=>repeat (first|exact HR0.out|(with_reducible refine Kd.C_alloc ?_ _)|(with_reducible refine Kd.C_drewN ?_ _)|(with_reducible refine Kd.C_drew ?_)));(case side2=>exact HC0.out);rintro e w' ⟨rfl,⟨nd,rfl⟩⟩;(try first|exact ⟨rfl,_,World.drewN_drewN _ _ _⟩|exact ⟨rfl,_,Eq.trans (World.drewN_drewN _ _ _) (congrArg (World.drewN _) (Nat.add_assoc _ _ _))⟩);all_goals (have p750 : 0 ≤ (x6_1 : Int):=of_decide_eq_true (by first|(with_reducible assumption)|assumption);have q750 : x6_1 < (l1.length : Int):=of_decide_eq_true (by first|(with_reducible assumption)|assumption);obtain ⟨ad750,e750,hx750_0,hx750_1⟩:=at_T100 HR1.out x6_1 p750 q750;obtain rfl : ad747 = ad750:=(by injection e750);replace p750:=eq_true p750;replace q750:=eq_true q750)));try go_wp2_with (first|(go_at_call 58;(with_reducible refine (spec_l09Answer.calls k1 _ _ l0 ((rd_T100 l1 x6_1).f0) (Go.bits .or .i64 x5_1 (ji7)) t749 _ ?side1 ?side2 A8.out).mono ?_);(case side1=>repeat (first|exact HR0.out|(with_reducible refine Kd.C_alloc ?_ _)|(with_reducible refine Kd.C_drewN ?_ _)|(with_reducible refine Kd.C_drew ?_)));(case side2=>exact HC0.out);rintro e w' ⟨rfl,⟨nd,rfl⟩⟩;(try first|exact ⟨rfl,_,World.drewN_drewN _ _ _⟩|exact ⟨rfl,_,Eq.trans (World.drewN_drewN _ _ _) (congrArg (World.drewN _) (Nat.add_assoc _ _ _))⟩);all_goals (have p750 : 0 ≤ (x6_1 : Int):=of_decide_eq_true (by first|(with_reducible assumption)|assumption);have q750 : x6_1 < (l1.length : Int):=of_decide_eq_true (by first|(with_reducible assumption)|assumption);obtain ⟨ad750,e750,hx750_0,hx750_1⟩:=at_T100 HR1.out x6_1 p750 q750;obtain rfl : ad747 = ad750:=(by injection e750);replace p750:=eq_true p750;replace q750:=eq_true q750))))
       go_roundg k1
       case measure=>have:=HK1.out;omega
       case rel=>exact ⟨(Go.bits .or .i64 x5_1 (ji7)),(wrap64 (x6_1 + 1)),(by first|rfl|(simp;done)|(simp only [← hji7] <;> (first|rfl|simp))|(simp [*];done)),(by first|rfl|(simp;done)|(simp [*];done)),H',⟨by have:=HK1.out;omega⟩,by repeat (first|exact Drawn0.refl _|apply Drawn0.step)⟩
      ·rw [if_neg c9] at H
       have c9b0 : (t749 == ((rd_T100 l1 x6_1).f1)) = false:=beq_eq_false_iff_ne.mpr c9
       have c9b1 : (t749 != ((rd_T100 l1 x6_1).f1)) = true:=bne_iff_ne.mpr c9
       obtain rfl:=Option.some.inj H
       have p747 : 0 ≤ (x6_1 : Int):=of_decide_eq_true (by first|(with_reducible assumption)|assumption)
       have q747 : x6_1 < (l1.length : Int):=of_decide_eq_true (by first|(with_reducible assumption)|assumption)
       obtain ⟨ad747,e747,hx747_0,hx747_1⟩:=at_T100 HR1.out x6_1 p747 q747
       cases e747
       replace p747:=eq_true p747
       replace q747:=eq_true q747
       have p748 : 0 ≤ (x6_1 : Int):=of_decide_eq_true (by first|(with_reducible assumption)|assumption)
       have q748 : x6_1 < (l1.length : Int):=of_decide_eq_true (by first|(with_reducible assumption)|assumption)
       obtain ⟨ad748,e748,hx748_0,hx748_1⟩:=at_T100 HR1.out x6_1 p748 q748
       obtain rfl : ad747 = ad748:=(by injection e748)
       replace p748:=eq_true p748
       replace q748:=eq_true q748
       go_wp2_with (first|(go_at_call 58;(with_reducible refine (spec_l09Answer.calls k1 _ _ l0 ((rd_T100 l1 x6_1).f0) (Go.bits .or .i64 x5_1 (ji7)) t749 _ ?side1 ?side2 A8.out).mono ?_);(case side1=>repeat (first|exact HR0.out|(with_reducible refine Kd.C_alloc ?_ _)|(with_reducible refine Kd.C_drewN ?_ _)|(with_reducible refine Kd.C_drew ?_)));(case side2=>exact HC0.out);rintro e w' ⟨rfl,⟨nd,rfl⟩⟩;(try first|exact ⟨rfl,_,World.drewN_drewN _ _ _⟩|exact ⟨rfl,_,Eq.trans (World.drewN_drewN _ _ _) (congrArg (World.drewN _) (Nat.add_assoc _ _ _))⟩);all_goals (have p750 : 0 ≤ (x6_1 : Int):=of_decide_eq_true (by first|(with_reducible assumption)|assumption);have q750 : x6_1 < (l1.length : Int):=of_decide_eq_true (by first|(with_reducible assumption)|assumption);obtain ⟨ad750,e750,hx750_0,hx750_1⟩:=at_T100 HR1.out x6_1 p750 q750;obtain rfl : ad747 = ad750:=(by injection e750);replace p750:=eq_true p750;replace q750:=eq_true q750)))
       repeat (go_quiet (first|(go_at_call 58;(with_reducible refine (spec_l09Answer.calls k1 _ _ l0 ((rd_T100 l1 x6_1).f0) (Go.bits .or .i64 x5_1 (ji7)) t749 _ ?side1 ?side2 A8.out).mono ?_);(case side1=>repeat (first|exact HR0.out|(with_reducible refine Kd.C_alloc ?_ _)|(with_reducible refine Kd.C_drewN ?_ _)|(with_reducible refine Kd.C_drew ?_)));(case side2=>exact HC0.out);rintro e w' ⟨rfl,⟨nd,rfl⟩⟩;(try first|exact ⟨rfl,_,World.drewN_drewN _ _ _⟩|exact ⟨rfl,_,Eq.trans (World.drewN_drewN _ _ _) (congrArg (World.drewN _) (Nat.add_assoc _ _ _))⟩);all_goals (have p750 : 0 ≤ (x6_1 : Int):=of_decide_eq_true (by first|(with_reducible assumption)|assumption);have q750 : x6_1 < (l1.length : Int):=of_decide_eq_true (by first|(with_reducible assumption)|assumption);obtain ⟨ad750,e750,hx750_0,hx750_1⟩:=at_T100 HR1.out x6_1 p750 q750;obtain rfl : ad747 = ad750:=(by injection e750);replace p750:=eq_true p750;replace q750:=eq_true q750)));try go_wp2_with (first|(go_at_call 58;(with_reducible refine (spec_l09Answer.calls k1 _ _ l0 ((rd_T100 l1 x6_1).f0) (Go.bits .or .i64 x5_1 (ji7)) t749 _ ?side1 ?side2 A8.out).mono ?_);(case side1=>repeat (first|exact HR0.out|(with_reducible refine Kd.C_alloc ?_ _)|(with_reducible refine Kd.C_drewN ?_ _)|(with_reducible refine Kd.C_drew ?_)));(case side2=>exact HC0.out);rintro e w' ⟨rfl,⟨nd,rfl⟩⟩;(try first|exact ⟨rfl,_,World.drewN_drewN _ _ _⟩|exact ⟨rfl,_,Eq.trans (World.drewN_drewN _ _ _) (congrArg (World.drewN _) (Nat.add_assoc _ _ _))⟩);all_goals (have p750 : 0 ≤ (x6_1 : Int):=of_decide_eq_true (by first|(with_reducible assumption)|assumption);have q750 : x6_1 < (l1.length : Int):=of_decide_eq_true (by first|(with_reducible assumption)|assumption);obtain ⟨ad750,e750,hx750_0,hx750_1⟩:=at_T100 HR1.out x6_1 p750 q750;obtain rfl : ad747 = ad750:=(by injection e750);replace p750:=eq_true p750;replace q750:=eq_true q750))))
       go_ret
       exact ⟨by first|rfl|(simp;done)|(simp only [← hji5,← hji7] <;> (first|rfl|simp))|(simp [*];done),by repeat (first|exact Drawn0.refl _|apply Drawn0.step)⟩
     ·rw [if_neg c6] at H
      exact absurd H (by simp)
    ·rw [if_neg c4] at H
     exact absurd H (by simp)
   ·rw [if_neg c3] at H
    have c3b0 : decide (x6_1 < (l1.length : Int)) = false:=decide_eq_false c3
    clear c3
    obtain rfl:=Option.some.inj H
    go_wp2
    repeat (go_quiet (fail);try go_wp2)
    go_ret
    exact ⟨by first|rfl|(simp;done)|(simp [*];done),by repeat (first|exact Drawn0.refl _|apply Drawn0.step)⟩

-- NOT PRINTED: function 45 (spec_l09Go)

end Go.Proofs.Ytankgbfddgpfmaa.PAll
end
