-- Written by wip/pp.py of this work (a driver around the kit's print), out of the translation; Lean checks it.
import Derived.Test.YtcfdlbjngpmcaaaPAllx0
import Derived.Test.YtcfdlbjngpmcaaaPAllx13
namespace Go.Proofs.Ytcfdlbjngpmcaaa.PAll
open Go.RowKit Go.Proofs.YtcfdlbjngpmcaaaW.PrintWords Go.Proofs.YtcfdlbjngpmcaaaW.PrintLast Go.Proofs.YtcfdlbjngpmcaaaW.PrintMore
attribute [local go_sem] max2_int min2_int max_two min_two max_three min_three max_four min_four   -- for this text's walks alone
set_option linter.unusedVariables false
set_option linter.unusedSimpArgs false

/-! ### impl_Hex_need_1: function 100005 -/
def impl_Hex_need_1.f (a0 : Int) (a1_0_0 : Int) (l1_0_1 : List Int) : Option (Int) := if 0 ≤ a0 then (if a0 < (l1_0_1.length : Int) then ((impl_bit.f ((rd l1_0_1 a0) == 0)).bind fun t350 => (some t350)) else (none)) else (none)
set_option maxHeartbeats 8000000 in
set_option maxRecDepth 100000 in
theorem impl_Hex_need_1.calls (a0 : Int) (g1_0 : Nat) (a1_0_0 : Int) (A1_0_1 : Option Addr) (c1_0_1 : Nat) (l1_0_1 : List Int) (r : Int) (w : World) (hb1_0 : w.heap[g1_0]? = some (.cells #[.int .i64 a1_0_0, .slice A1_0_1 l1_0_1.length c1_0_1] 28 (0, 0))) (hr1_0_1 : Kd.C (Kd.int .i64) w A1_0_1 l1_0_1.length l1_0_1) (hc1_0_1 : l1_0_1.length ≤ c1_0_1) (h : impl_Hex_need_1.f a0 a1_0_0 l1_0_1 = some r) :
  Calls Try.prog 70 #[.int .i64 a0,.pointer (some ⟨g1_0,0,none⟩)] w fun e w'=>e = .returned (.int .i64 r) ∧ Drawn0 w w':=by
 have HR1_0_1:=Aside0.mk hr1_0_1
 have HC1_0_1:=Aside0.mk hc1_0_1
 clear hr1_0_1 hc1_0_1
 have HBX90010:=Aside0.mk hb1_0
 clear hb1_0
 have H : (if 0 ≤ a0 then (if a0 < (l1_0_1.length : Int) then ((impl_bit.f ((rd l1_0_1 a0) == 0)).bind fun t350=>(some t350)) else (none)) else (none)) = some r:=h
 clear h
 by_cases c3 : 0 ≤ a0
 ·rw [if_pos c3] at H
  have c3b0 : decide (0 ≤ a0) = true:=decide_eq_true c3
  clear c3
  by_cases c4 : a0 < (l1_0_1.length : Int)
  ·rw [if_pos c4] at H
   have c4b0 : decide (a0 < (l1_0_1.length : Int)) = true:=decide_eq_true c4
   clear c4
   replace H:=Option.bind_eq_some_iff.mp H
   obtain ⟨t350,A50,H⟩:=H
   replace H : (some t350) = some r:=H
   have A5:=Aside0.mk A50
   clear A50
   obtain rfl:=Option.some.inj H
   have hcz6_0 : w.cell? ⟨g1_0,0,none⟩ = some (.int .i64 a1_0_0):=(blk_cell HBX90010.out 0).trans rfl
   have hcz6_1 : w.cell? ⟨g1_0,1,none⟩ = some (.slice A1_0_1 l1_0_1.length c1_0_1):=(blk_cell HBX90010.out 1).trans rfl
   have hfz6_0:=blk_frozen HBX90010.out 0
   have hfz6_1:=blk_frozen HBX90010.out 1
   have p349 : 0 ≤ (a0 : Int):=of_decide_eq_true (by first|(with_reducible assumption)|assumption)
   have q349 : a0 < (l1_0_1.length : Int):=of_decide_eq_true (by first|(with_reducible assumption)|assumption)
   obtain ⟨ad349,e349,hx349_0⟩:=Kd.at_int HR1_0_1.out a0 p349 q349
   cases e349
   replace p349:=eq_true p349
   replace q349:=eq_true q349
   go_enter Try.func70,Try.ntmps70
   go_wp2_with (first|((with_reducible refine gate_callee (f:=71) rfl ?_);refine goesL_ (some 10) rfl rfl Try.func71 (by kernel_rfl) rfl #[.bool ((rd l1_0_1 a0) == 0)] rfl (by (try simp only [List.map_toArray,List.map_cons,List.map_nil]);first|done|rfl|(simp only [List.length_drop,List.length_take];rfl)) ?_;(with_reducible refine (impl_bit.calls ((rd l1_0_1 a0) == 0) t350 _ A5.out).mono ?_);rintro e w' ⟨rfl,⟨nd,rfl⟩⟩;refine ⟨_,rfl,?_⟩))
   go_ret
   exact ⟨by first|rfl|(simp;done)|(simp [*];done),by repeat (first|exact Drawn0.refl _|apply Drawn0.step)⟩
  ·rw [if_neg c4] at H
   exact absurd H (by simp)
 ·rw [if_neg c3] at H
  exact absurd H (by simp)

/-! ### impl_Hex_need_2: function 100006 -/
def impl_Hex_need_2.f (a0 : Int) (a1_0_0 : Int) (l1_0_1 : List Int) (a2_0_0 : Int) : Option (Bool) := if 0 ≤ a0 then (if a0 < (l1_0_1.length : Int) then (if (rd l1_0_1 a0) = 0 then (some true) else (some ((rd l1_0_1 a0) == a2_0_0))) else (none)) else (none)
set_option maxHeartbeats 8000000 in
set_option maxRecDepth 100000 in
theorem impl_Hex_need_2.calls (a0 : Int) (g1_0 : Nat) (a1_0_0 : Int) (A1_0_1 : Option Addr) (c1_0_1 : Nat) (l1_0_1 : List Int) (g2_0 : Nat) (a2_0_0 : Int) (r : Bool) (w : World) (hb1_0 : w.heap[g1_0]? = some (.cells #[.int .i64 a1_0_0, .slice A1_0_1 l1_0_1.length c1_0_1] 28 (0, 0))) (hr1_0_1 : Kd.C (Kd.int .i64) w A1_0_1 l1_0_1.length l1_0_1) (hc1_0_1 : l1_0_1.length ≤ c1_0_1) (hb2_0 : w.heap[g2_0]? = some (.cells #[.int .i64 a2_0_0] 2 (0, 0))) (h : impl_Hex_need_2.f a0 a1_0_0 l1_0_1 a2_0_0 = some r) :
  Calls Try.prog 72 #[.int .i64 a0,.pointer (some ⟨g1_0,0,none⟩),.pointer (some ⟨g2_0,0,none⟩)] w fun e w'=>e = .returned (.bool r) ∧ Drawn0 w w':=by
 have HR1_0_1:=Aside0.mk hr1_0_1
 have HC1_0_1:=Aside0.mk hc1_0_1
 clear hr1_0_1 hc1_0_1
 have HBX90010:=Aside0.mk hb1_0
 clear hb1_0
 have HBX90020:=Aside0.mk hb2_0
 clear hb2_0
 have H : (if 0 ≤ a0 then (if a0 < (l1_0_1.length : Int) then (if (rd l1_0_1 a0) = 0 then (some true) else (some ((rd l1_0_1 a0) == a2_0_0))) else (none)) else (none)) = some r:=h
 clear h
 by_cases c4 : 0 ≤ a0
 ·rw [if_pos c4] at H
  have c4b0 : decide (0 ≤ a0) = true:=decide_eq_true c4
  clear c4
  by_cases c5 : a0 < (l1_0_1.length : Int)
  ·rw [if_pos c5] at H
   have c5b0 : decide (a0 < (l1_0_1.length : Int)) = true:=decide_eq_true c5
   clear c5
   by_cases c6 : (rd l1_0_1 a0) = 0
   ·rw [if_pos c6] at H
    have c6b0 : ((rd l1_0_1 a0) == 0) = true:=beq_iff_eq.mpr c6
    have c6b1 : ((rd l1_0_1 a0) != 0) = false:=bne_eq_false_iff_eq.mpr c6
    clear c6
    obtain rfl:=Option.some.inj H
    have hcz7_0 : w.cell? ⟨g1_0,0,none⟩ = some (.int .i64 a1_0_0):=(blk_cell HBX90010.out 0).trans rfl
    have hcz7_1 : w.cell? ⟨g1_0,1,none⟩ = some (.slice A1_0_1 l1_0_1.length c1_0_1):=(blk_cell HBX90010.out 1).trans rfl
    have hfz7_0:=blk_frozen HBX90010.out 0
    have hfz7_1:=blk_frozen HBX90010.out 1
    have p351 : 0 ≤ (a0 : Int):=of_decide_eq_true (by first|(with_reducible assumption)|assumption)
    have q351 : a0 < (l1_0_1.length : Int):=of_decide_eq_true (by first|(with_reducible assumption)|assumption)
    obtain ⟨ad351,e351,hx351_0⟩:=Kd.at_int HR1_0_1.out a0 p351 q351
    cases e351
    replace p351:=eq_true p351
    replace q351:=eq_true q351
    go_enter Try.func72,Try.ntmps72
    go_wp2
    repeat (go_quiet (fail);try go_wp2)
    go_ret
    exact ⟨by first|rfl|(simp;done)|(simp [*];done),by repeat (first|exact Drawn0.refl _|apply Drawn0.step)⟩
   ·rw [if_neg c6] at H
    have c6b0 : ((rd l1_0_1 a0) == 0) = false:=beq_eq_false_iff_ne.mpr c6
    have c6b1 : ((rd l1_0_1 a0) != 0) = true:=bne_iff_ne.mpr c6
    obtain rfl:=Option.some.inj H
    have hcz8_0 : w.cell? ⟨g1_0,0,none⟩ = some (.int .i64 a1_0_0):=(blk_cell HBX90010.out 0).trans rfl
    have hcz8_1 : w.cell? ⟨g1_0,1,none⟩ = some (.slice A1_0_1 l1_0_1.length c1_0_1):=(blk_cell HBX90010.out 1).trans rfl
    have hfz8_0:=blk_frozen HBX90010.out 0
    have hfz8_1:=blk_frozen HBX90010.out 1
    have p351 : 0 ≤ (a0 : Int):=of_decide_eq_true (by first|(with_reducible assumption)|assumption)
    have q351 : a0 < (l1_0_1.length : Int):=of_decide_eq_true (by first|(with_reducible assumption)|assumption)
    obtain ⟨ad351,e351,hx351_0⟩:=Kd.at_int HR1_0_1.out a0 p351 q351
    cases e351
    replace p351:=eq_true p351
    replace q351:=eq_true q351
    have p352 : 0 ≤ (a0 : Int):=of_decide_eq_true (by first|(with_reducible assumption)|assumption)
    have q352 : a0 < (l1_0_1.length : Int):=of_decide_eq_true (by first|(with_reducible assumption)|assumption)
    obtain ⟨ad352,e352,hx352_0⟩:=Kd.at_int HR1_0_1.out a0 p352 q352
    obtain rfl : ad351 = ad352:=(by injection e352)
    replace p352:=eq_true p352
    replace q352:=eq_true q352
    have hcz9_0 : w.cell? ⟨g2_0,0,none⟩ = some (.int .i64 a2_0_0):=(blk_cell HBX90020.out 0).trans rfl
    have hfz9_0:=blk_frozen HBX90020.out 0
    go_enter Try.func72,Try.ntmps72
    go_wp2
    repeat (go_quiet (fail);try go_wp2)
    go_ret
    exact ⟨by first|rfl|(simp;done)|(simp [*];done),by repeat (first|exact Drawn0.refl _|apply Drawn0.step)⟩
  ·rw [if_neg c5] at H
   exact absurd H (by simp)
 ·rw [if_neg c4] at H
  exact absurd H (by simp)

end Go.Proofs.Ytcfdlbjngpmcaaa.PAll
