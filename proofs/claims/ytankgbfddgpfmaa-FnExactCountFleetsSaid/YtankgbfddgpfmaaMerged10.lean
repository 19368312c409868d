/- Texts of this claim that follow each other, laid together. -/
import Derived.Test.YtankgbfddgpfmaaPAllx0
import Derived.Test.YtankgbfddgpfmaaPAllx11
import Derived.Test.YtankgbfddgpfmaaPAllx15
import Derived.Test.YtankgbfddgpfmaaPAllx1
import Derived.Test.YtankgbfddgpfmaaPAllx2
import Derived.Test.YtankgbfddgpfmaaPAllx3
import Derived.Test.YtankgbfddgpfmaaPAllx14

section
-- Written by wip/pp.py of this work (a driver around the kit's print), out of the translation; Lean checks it.
namespace Go.Proofs.Ytankgbfddgpfmaa.PAll
open Go.RowKit Go.Proofs.YtankgbfddgpfmaaW.PrintWords Go.Proofs.YtankgbfddgpfmaaW.PrintLast Go.Proofs.YtankgbfddgpfmaaW.PrintMore
attribute [local go_sem] max2_int min2_int max_two min_two max_three min_three max_four min_four   -- for this text's walks alone
set_option linter.unusedVariables false
set_option linter.unusedSimpArgs false

def impl_Sea_isFleet.B6 : List Nat := [0, 0, 2, 0, 14, 30, 63, 0, 255, 511, 1023, 2047, 2047, 2047, 14335, 2047, 65535, 131071, 262143]
end Go.Proofs.Ytankgbfddgpfmaa.PAll
end

section
-- Written by wip/pp.py of this work (a driver around the kit's print), out of the translation; Lean checks it.
namespace Go.Proofs.Ytankgbfddgpfmaa.PAll
open Go.RowKit Go.Proofs.YtankgbfddgpfmaaW.PrintWords Go.Proofs.YtankgbfddgpfmaaW.PrintLast Go.Proofs.YtankgbfddgpfmaaW.PrintMore
attribute [local go_sem] max2_int min2_int max_two min_two max_three min_three max_four min_four   -- for this text's walks alone
set_option linter.unusedVariables false
set_option linter.unusedSimpArgs false

end Go.Proofs.Ytankgbfddgpfmaa.PAll
end

section
-- Written by wip/pp.py of this work (a driver around the kit's print), out of the translation; Lean checks it.
namespace Go.Proofs.Ytankgbfddgpfmaa.PAll
open Go.RowKit Go.Proofs.YtankgbfddgpfmaaW.PrintWords Go.Proofs.YtankgbfddgpfmaaW.PrintLast Go.Proofs.YtankgbfddgpfmaaW.PrintMore
attribute [local go_sem] max2_int min2_int max_two min_two max_three min_three max_four min_four   -- for this text's walks alone
set_option linter.unusedVariables false
set_option linter.unusedSimpArgs false

/-! ### spec_l09Answer: function 58 -/
def spec_l09Answer.l0 : Nat → List Int → Int → Int → Int → Option (Int)
 | 0, _, _, _, _ => none
 | k + 1, x0, x1, x2, x7 => if x7 < (x0.length : Int) then (if 0 ≤ x7 then (if 0 ≤ (IntKind.u64.wrap (x1)) then (if (Go.bits .and .i64 (shr .i64 (rd x0 x7) (IntKind.u64.wrap (x1))) 1) = 0 then (spec_l09Answer.l0 k x0 x1 x2 (wrap64 (x7 + 1))) else (if (Go.bits .andNot .i64 (rd x0 x7) x2) = 0 then (some 2) else (some 1))) else (none)) else (none)) else (some 0)
def spec_l09Answer.f (k : Nat) (l0 : List Int) (a1 : Int) (a2 : Int) : Option (Int) := spec_l09Answer.l0 k l0 a1 a2 0
set_option maxHeartbeats 8000000 in
set_option maxRecDepth 100000 in
theorem spec_l09Answer.calls (k : Nat) (A0 : Option Addr) (c0 : Nat) (l0 : List Int) (a1 : Int) (a2 : Int) (r : Int) (w : World) (hr0 : Kd.C (Kd.int .i64) w A0 l0.length l0) (hc0 : l0.length ≤ c0) (h : spec_l09Answer.f k l0 a1 a2 = some r) :
  Calls Try.prog 58 #[.slice A0 l0.length c0,.int .i64 a1,.int .i64 a2] w fun e w'=>e = .returned (.int .i64 r) ∧ Drawn0 w w':=by
 have HR0:=Aside0.mk hr0
 have HC0:=Aside0.mk hc0
 clear hr0 hc0
 have H : (spec_l09Answer.l0 k l0 a1 a2 0) = some r:=h
 clear h
 have H':=Aside0.mk H
 clear H
 go_enter Try.func58,Try.ntmps58
 go_wp2
 go_loopg [7] k (fun kq v7 w'=>∃ (x7_1 : Int),v7 = .int .i64 x7_1 ∧ Aside0 (spec_l09Answer.l0 kq l0 a1 a2 x7_1 = some r) ∧ Aside0 (kq ≤ k) ∧ Drawn0 w w')
 case atStart=>exact ⟨(0),(by first|rfl|(simp;done)|(simp [*];done)),H',⟨Nat.le_refl _⟩,by repeat (first|exact Drawn0.refl _|apply Drawn0.step)⟩
 case round =>
  clear H'
  try clear p2
  obtain ⟨x7_1,rfl,HA,HK1,⟨m1,rfl⟩⟩:=hrel
  cases gk with
  | zero => exact absurd HA.out (by simp [spec_l09Answer.l0])
  | succ k1 =>
   have H:=HA.out
   clear HA
   simp only [spec_l09Answer.l0] at H
   by_cases c4 : x7_1 < (l0.length : Int)
   ·rw [if_pos c4] at H
    have c4b0 : decide (x7_1 < (l0.length : Int)) = true:=decide_eq_true c4
    clear c4
    by_cases c5 : 0 ≤ x7_1
    ·rw [if_pos c5] at H
     have c5b0 : decide (0 ≤ x7_1) = true:=decide_eq_true c5
     clear c5
     obtain ⟨ji6,hji6⟩ : ∃ j_ : Int,(IntKind.u64.wrap (a1)) = j_:=⟨_,rfl⟩
     replace H : (if 0 ≤ (ji6) then (if (Go.bits .and .i64 (shr .i64 (rd l0 x7_1) (ji6)) 1) = 0 then (spec_l09Answer.l0 k1 l0 a1 a2 (wrap64 (x7_1 + 1))) else (if (Go.bits .andNot .i64 (rd l0 x7_1) a2) = 0 then (some 2) else (some 1))) else (none)) = some r:=by first|(rw [hji6] at H;exact H)|(simp only [hji6] at H ⊢;exact H)
     by_cases c7 : 0 ≤ (ji6)
     ·rw [if_pos c7] at H
      have c7b0:=eq_true c7
      have c7b1 : decide (0 ≤ (ji6)) = true:=decide_eq_true c7
      clear c7
      obtain ⟨ji8,hji8⟩ : ∃ j_ : Int,(shr .i64 (rd l0 x7_1) (ji6)) = j_:=⟨_,rfl⟩
      replace H : (if (Go.bits .and .i64 (ji8) 1) = 0 then (spec_l09Answer.l0 k1 l0 a1 a2 (wrap64 (x7_1 + 1))) else (if (Go.bits .andNot .i64 (rd l0 x7_1) a2) = 0 then (some 2) else (some 1))) = some r:=by first|(rw [hji8] at H;exact H)|(simp only [hji8] at H ⊢;exact H)
      have hji8_ : ((rd l0 x7_1) / 2 ^ min (ji6).toNat 64) = ji8:=hji8
      have hji8z : (ji6) ≤ 64 → ((rd l0 x7_1) / 2 ^ (ji6).toNat) = ji8:=shr_small hji8
      by_cases c9 : (Go.bits .and .i64 (ji8) 1) = 0
      ·rw [if_pos c9] at H
       have c9b0 : ((Go.bits .and .i64 (ji8) 1) == 0) = true:=beq_iff_eq.mpr c9
       have c9b1 : ((Go.bits .and .i64 (ji8) 1) != 0) = false:=bne_eq_false_iff_eq.mpr c9
       clear c9
       have H':=Aside0.mk H
       clear H
       have p586 : 0 ≤ (x7_1 : Int):=of_decide_eq_true (by first|(with_reducible assumption)|assumption)
       have q586 : x7_1 < (l0.length : Int):=of_decide_eq_true (by first|(with_reducible assumption)|assumption)
       obtain ⟨ad586,e586,hx586_0⟩:=Kd.at_int HR0.out x7_1 p586 q586
       cases e586
       replace p586:=eq_true p586
       replace q586:=eq_true q586
       go_wp2
       go_roundg k1
       case measure=>have:=HK1.out;omega
       case rel=>exact ⟨(wrap64 (x7_1 + 1)),(by first|rfl|(simp;done)|(simp [*];done)),H',⟨by have:=HK1.out;omega⟩,by repeat (first|exact Drawn0.refl _|apply Drawn0.step)⟩
      ·rw [if_neg c9] at H
       have c9b0 : ((Go.bits .and .i64 (ji8) 1) == 0) = false:=beq_eq_false_iff_ne.mpr c9
       have c9b1 : ((Go.bits .and .i64 (ji8) 1) != 0) = true:=bne_iff_ne.mpr c9
       by_cases c10 : (Go.bits .andNot .i64 (rd l0 x7_1) a2) = 0
       ·rw [if_pos c10] at H
        have c10b0 : ((Go.bits .andNot .i64 (rd l0 x7_1) a2) == 0) = true:=beq_iff_eq.mpr c10
        have c10b1 : ((Go.bits .andNot .i64 (rd l0 x7_1) a2) != 0) = false:=bne_eq_false_iff_eq.mpr c10
        clear c10
        obtain rfl:=Option.some.inj H
        have p586 : 0 ≤ (x7_1 : Int):=of_decide_eq_true (by first|(with_reducible assumption)|assumption)
        have q586 : x7_1 < (l0.length : Int):=of_decide_eq_true (by first|(with_reducible assumption)|assumption)
        obtain ⟨ad586,e586,hx586_0⟩:=Kd.at_int HR0.out x7_1 p586 q586
        cases e586
        replace p586:=eq_true p586
        replace q586:=eq_true q586
        have p587 : 0 ≤ (x7_1 : Int):=of_decide_eq_true (by first|(with_reducible assumption)|assumption)
        have q587 : x7_1 < (l0.length : Int):=of_decide_eq_true (by first|(with_reducible assumption)|assumption)
        obtain ⟨ad587,e587,hx587_0⟩:=Kd.at_int HR0.out x7_1 p587 q587
        obtain rfl : ad586 = ad587:=(by injection e587)
        replace p587:=eq_true p587
        replace q587:=eq_true q587
        go_wp2
        go_ret
        exact ⟨by first|rfl|(simp;done)|(simp only [← hji6,← hji8] <;> (first|rfl|simp))|(simp [*];done),by repeat (first|exact Drawn0.refl _|apply Drawn0.step)⟩
       ·rw [if_neg c10] at H
        have c10b0 : ((Go.bits .andNot .i64 (rd l0 x7_1) a2) == 0) = false:=beq_eq_false_iff_ne.mpr c10
        have c10b1 : ((Go.bits .andNot .i64 (rd l0 x7_1) a2) != 0) = true:=bne_iff_ne.mpr c10
        obtain rfl:=Option.some.inj H
        have p586 : 0 ≤ (x7_1 : Int):=of_decide_eq_true (by first|(with_reducible assumption)|assumption)
        have q586 : x7_1 < (l0.length : Int):=of_decide_eq_true (by first|(with_reducible assumption)|assumption)
        obtain ⟨ad586,e586,hx586_0⟩:=Kd.at_int HR0.out x7_1 p586 q586
        cases e586
        replace p586:=eq_true p586
        replace q586:=eq_true q586
        have p587 : 0 ≤ (x7_1 : Int):=of_decide_eq_true (by first|(with_reducible assumption)|assumption)
        have q587 : x7_1 < (l0.length : Int):=of_decide_eq_true (by first|(with_reducible assumption)|assumption)
        obtain ⟨ad587,e587,hx587_0⟩:=Kd.at_int HR0.out x7_1 p587 q587
        obtain rfl : ad586 = ad587:=(by injection e587)
        replace p587:=eq_true p587
        replace q587:=eq_true q587
        go_wp2
        go_ret
        exact ⟨by first|rfl|(simp;done)|(simp only [← hji6,← hji8] <;> (first|rfl|simp))|(simp [*];done),by repeat (first|exact Drawn0.refl _|apply Drawn0.step)⟩
     ·rw [if_neg c7] at H
      exact absurd H (by simp)
    ·rw [if_neg c5] at H
     exact absurd H (by simp)
   ·rw [if_neg c4] at H
    have c4b0 : decide (x7_1 < (l0.length : Int)) = false:=decide_eq_false c4
    clear c4
    obtain rfl:=Option.some.inj H
    go_wp2
    go_ret
    exact ⟨by first|rfl|(simp;done)|(simp [*];done),by repeat (first|exact Drawn0.refl _|apply Drawn0.step)⟩

end Go.Proofs.Ytankgbfddgpfmaa.PAll
end

section
-- Written by wip/pp.py of this work (a driver around the kit's print), out of the translation; Lean checks it.
namespace Go.Proofs.Ytankgbfddgpfmaa.PAll
open Go.RowKit Go.Proofs.YtankgbfddgpfmaaW.PrintWords Go.Proofs.YtankgbfddgpfmaaW.PrintLast Go.Proofs.YtankgbfddgpfmaaW.PrintMore
attribute [local go_sem] max2_int min2_int max_two min_two max_three min_three max_four min_four   -- for this text's walks alone
set_option linter.unusedVariables false
set_option linter.unusedSimpArgs false

-- NOT PRINTED: function 102 (abi_NoEscape)

-- NOT PRINTED: function 87 (strings_Builder_copyCheck)

-- NOT PRINTED: function 103 (bytealg_MakeNoZero)

-- NOT PRINTED: function 88 (strings_Builder_grow)

-- NOT PRINTED: function 76 (strings_Builder_Grow)

-- NOT PRINTED: function 77 (strings_Builder_WriteString)

-- NOT PRINTED: function 78 (strings_Builder_String)

end Go.Proofs.Ytankgbfddgpfmaa.PAll
end
