-- Written by wip/pp.py of this work (a driver around the kit's print), out of the translation; Lean checks it.
import Derived.Test.YtcfdlbjngpmcaaaDoorPAllx0
import Derived.Test.YtcfdlbjngpmcaaaDoorPAllx1
import Derived.Test.YtcfdlbjngpmcaaaDoorPAllx2
import Derived.Test.YtcfdlbjngpmcaaaDoorPAllx3
namespace Go.Proofs.YtcfdlbjngpmcaaaDoor.PAll
open Go.RowKit Go.Proofs.YtcfdlbjngpmcaaaDoorW.PrintWords Go.Proofs.YtcfdlbjngpmcaaaDoorW.PrintLast Go.Proofs.YtcfdlbjngpmcaaaDoorW.PrintMore
attribute [local go_sem] max2_int min2_int max_two min_two max_three min_three max_four min_four   -- for this text's walks alone
set_option linter.unusedVariables false
set_option linter.unusedSimpArgs false

/-! ### spec_l06Joiner: function 31 -/
def spec_l06Joiner.l0 : Nat → Int → List Int → Int → Option (Int)
 | 0, _, _, _ => none
 | k + 1, x0, x1, x5 => if x5 < 3 then ((spec_l06Joins.f k x0 x1 x5).bind fun t186 => (if t186 = true then (some x5) else (spec_l06Joiner.l0 k x0 x1 (wrap64 (x5 + 1))))) else (some 0)
def spec_l06Joiner.f (k : Nat) (a0 : Int) (l1 : List Int) : Option (Int) := spec_l06Joiner.l0 k a0 l1 1
set_option maxHeartbeats 8000000 in
set_option maxRecDepth 100000 in
theorem spec_l06Joiner.calls (k : Nat) (a0 : Int) (A1 : Option Addr) (c1 : Nat) (l1 : List Int) (r : Int) (w : World) (hr1 : Kd.C (Kd.int .i64) w A1 l1.length l1) (hc1 : l1.length ≤ c1) (h : spec_l06Joiner.f k a0 l1 = some r) :
  Calls Tryd.prog 31 #[.int .i64 a0,.slice A1 l1.length c1] w fun e w'=>e = .returned (.int .i64 r) ∧ Below w.heap.size w w':=by
 have HR1:=Aside0.mk hr1
 have HC1:=Aside0.mk hc1
 clear hr1 hc1
 have HB:=Aside0.mk (Below.refl w.heap.size w)
 have H : (spec_l06Joiner.l0 k a0 l1 1) = some r:=h
 clear h
 have H':=Aside0.mk H
 clear H
 go_enter Tryd.func31,Tryd.ntmps31
 go_wp2
 go_loopg [5] k (fun kq v5 w'=>∃ (x5_1 : Int),v5 = .int .i64 x5_1 ∧ Aside0 (spec_l06Joiner.l0 kq a0 l1 x5_1 = some r) ∧ Aside0 (kq ≤ k) ∧ Aside0 (Below w.heap.size w w'))
 case atStart=>exact ⟨(1),(by first|rfl|(simp;done)|(simp [*];done)),H',⟨Nat.le_refl _⟩,⟨by repeat (first|(with_reducible first|exact HB.out|apply below_alloc|apply pw_below_drewN|apply below_drew1)|exact HB.out)⟩⟩
 case round =>
  clear H'
  try clear c1
  try clear p2
  obtain ⟨x5_1,rfl,HA,HK1,HB⟩:=hrel
  cases gk with
  | zero => exact absurd HA.out (by simp [spec_l06Joiner.l0])
  | succ k1 =>
   have H:=HA.out
   clear HA
   simp only [spec_l06Joiner.l0] at H
   by_cases c3 : x5_1 < 3
   ·rw [if_pos c3] at H
    have c3b0 : decide (x5_1 < 3) = true:=decide_eq_true c3
    clear c3
    replace H:=Option.bind_eq_some_iff.mp H
    obtain ⟨t186,A40,H⟩:=H
    replace H : (if t186 = true then (some x5_1) else (spec_l06Joiner.l0 k1 a0 l1 (wrap64 (x5_1 + 1)))) = some r:=H
    have A4:=Aside0.mk A40
    clear A40
    by_cases c5 : t186 = true
    ·subst c5
     have H1 : (some x5_1) = some r:=by rw [if_pos rfl] at H;exact H
     clear H
     have H:=H1
     clear H1
     obtain rfl:=Option.some.inj H
     go_wp2_with (first|((with_reducible refine gate_callee (f:=42) rfl ?_);refine goesL_ (some 13) rfl rfl Tryd.func42 (by kernel_rfl) rfl #[.int .i64 a0,.slice A1 l1.length c1,.int .i64 x5_1] rfl (by (try simp only [List.map_toArray,List.map_cons,List.map_nil]);first|done|rfl|(simp only [List.length_drop,List.length_take];rfl)) ?_;(with_reducible refine (spec_l06Joins.calls k1 a0 _ _ l1 x5_1 true _ ?side1 ?side2 A4.out).mono ?_);(case side1=>repeat (first|exact (Kd.C_below HR1.out HB.out)|(with_reducible refine Kd.C_alloc ?_ _)|(with_reducible refine Kd.C_drewN ?_ _)|(with_reducible refine Kd.C_drew ?_)));(case side2=>exact HC1.out);rintro e w6 ⟨rfl,hb⟩;refine ⟨_,rfl,?_⟩;have n0_:=Aside0.mk (below_step (by repeat (first|(with_reducible first|exact HB.out|apply below_alloc|apply pw_below_drewN|apply below_drew1)|exact HB.out)) hb);clear HB;have HB:=n0_;clear n0_;(try clear hb);(try clear hb2);(try clear hk);(try clear hi)))
     go_ret
     exact ⟨by first|rfl|(simp [errW_none,errW_some] <;> rfl)|(simp [*,errW_none,errW_some] <;> rfl),by repeat (first|(with_reducible first|exact HB.out|apply below_alloc|apply pw_below_drewN|apply below_drew1)|exact HB.out)⟩
    ·replace c5:=Bool.eq_false_iff.mpr c5
     subst c5
     have H1 : (spec_l06Joiner.l0 k1 a0 l1 (wrap64 (x5_1 + 1))) = some r:=by rw [if_neg (show ¬ (false = true) by decide)] at H;exact H
     clear H
     have H:=H1
     clear H1
     have H':=Aside0.mk H
     clear H
     go_wp2_with (first|((with_reducible refine gate_callee (f:=42) rfl ?_);refine goesL_ (some 13) rfl rfl Tryd.func42 (by kernel_rfl) rfl #[.int .i64 a0,.slice A1 l1.length c1,.int .i64 x5_1] rfl (by (try simp only [List.map_toArray,List.map_cons,List.map_nil]);first|done|rfl|(simp only [List.length_drop,List.length_take];rfl)) ?_;(with_reducible refine (spec_l06Joins.calls k1 a0 _ _ l1 x5_1 false _ ?side1 ?side2 A4.out).mono ?_);(case side1=>repeat (first|exact (Kd.C_below HR1.out HB.out)|(with_reducible refine Kd.C_alloc ?_ _)|(with_reducible refine Kd.C_drewN ?_ _)|(with_reducible refine Kd.C_drew ?_)));(case side2=>exact HC1.out);rintro e w7 ⟨rfl,hb⟩;refine ⟨_,rfl,?_⟩;have n0_:=Aside0.mk (below_step (by repeat (first|(with_reducible first|exact HB.out|apply below_alloc|apply pw_below_drewN|apply below_drew1)|exact HB.out)) hb);clear HB;have HB:=n0_;clear n0_;(try clear hb);(try clear hb2);(try clear hk);(try clear hi)))
     go_roundg k1
     case measure=>have:=HK1.out;omega
     case rel=>exact ⟨(wrap64 (x5_1 + 1)),(by first|rfl|(simp;done)|(simp [*];done)),H',⟨by have:=HK1.out;omega⟩,⟨by repeat (first|(with_reducible first|exact HB.out|apply below_alloc|apply pw_below_drewN|apply below_drew1)|exact HB.out)⟩⟩
   ·rw [if_neg c3] at H
    have c3b0 : decide (x5_1 < 3) = false:=decide_eq_false c3
    clear c3
    obtain rfl:=Option.some.inj H
    go_wp2
    go_ret
    exact ⟨by first|rfl|(simp [errW_none,errW_some] <;> rfl)|(simp [*,errW_none,errW_some] <;> rfl),by repeat (first|(with_reducible first|exact HB.out|apply below_alloc|apply pw_below_drewN|apply below_drew1)|exact HB.out)⟩

/-! ### spec_l06Winner: function 19 -/
mutual
def spec_l06Winner.l0 : Nat → Int → List Int → List Int → List Int → Int → Int → Int → Int → Int → Option (Int × List Int)
 | 0, _, _, _, _, _, _, _, _, _ => none
 | k + 1, x0, x1, x2, x3, x4, x5, x13, x14, x15 => if x15 < (x2.length : Int) then (spec_l06Winner.j1 k x0 x1 x2 x3 x4 x5 x13 x14 x15 (x13 != x5)) else (spec_l06Winner.j1 k x0 x1 x2 x3 x4 x5 x13 x14 x15 false)
def spec_l06Winner.j1 : Nat → Int → List Int → List Int → List Int → Int → Int → Int → Int → Int → Bool → Option (Int × List Int)
 | 0, _, _, _, _, _, _, _, _, _, _ => none
 | k + 1, x0, x1, x2, x3, x4, x5, x13, x14, x15, x41 => if x41 = true then (if 0 ≤ x15 then (if x15 < (x2.length : Int) then (if 0 ≤ (rd x2 x15) then (if (rd x2 x15) < (x1.length : Int) then (if (rd x1 (rd x2 x15)) = 0 then ((spec_l01Own.f x1).bind fun t193 => (if (rd x2 x15) < (t193.length : Int) then ((spec_l06Winner.f k x0 (t193.set ((rd x2 x15) : Int).toNat x5) x2 x3 (wrap64 (x4 + (wrap64 (x5 * x14)))) (wrap64 (3 - x5))).bind fun bt198 => (if bt198.1 = x5 then (spec_l06Winner.l0 k x0 x1 x2 bt198.2 x4 x5 x5 (wrap64 (x14 * 3)) (wrap64 (x15 + 1))) else (spec_l06Winner.l0 k x0 x1 x2 bt198.2 x4 x5 x13 (wrap64 (x14 * 3)) (wrap64 (x15 + 1))))) else (none))) else (spec_l06Winner.l0 k x0 x1 x2 x3 x4 x5 x13 (wrap64 (x14 * 3)) (wrap64 (x15 + 1)))) else (none)) else (none)) else (none)) else (none)) else (if 0 ≤ x4 then (if x4 < (x3.length : Int) then (some (x13, (x3.set (x4 : Int).toNat x13))) else (none)) else (none))
def spec_l06Winner.f : Nat → Int → List Int → List Int → List Int → Int → Int → Option (Int × List Int)
 | 0, _, _, _, _, _, _ => none
 | k + 1, a0, l1, l2, l3, a4, a5 => if 0 ≤ a4 then (if a4 < (l3.length : Int) then (if (rd l3 a4) > 0 then (some (rd l3 a4, l3)) else ((spec_l06Joiner.f k a0 l1).bind fun t189 => (if t189 = 0 then (spec_l06Winner.l0 k a0 l1 l2 l3 a4 a5 (wrap64 (3 - a5)) 1 0) else (some (t189, (l3.set (a4 : Int).toNat t189)))))) else (none)) else (none)
end
set_option maxHeartbeats 8000000 in
set_option maxRecDepth 100000 in
theorem spec_l06Winner.calls (k : Nat) : ∀ (a0 : Int) (A1 : Option Addr) (c1 : Nat) (l1 : List Int) (A2 : Option Addr) (c2 : Nat) (l2 : List Int) (P3_ : Nat → Prop) (u9000_ : Value) (l3 : List Int) (a4 : Int) (a5 : Int) (r1 : Int) (r2 : List Int) (w0 w : World) (hB : Below w0.heap.size w0 w) (hr1 : ∀ W_, Kept w W_ (fun k_ => P3_ k_) → Kd.C (Kd.int .i64) W_ A1 l1.length l1) (hc1 : l1.length ≤ c1) (hr2 : ∀ W_, Kept w W_ (fun k_ => P3_ k_) → Kd.C (Kd.int .i64) W_ A2 l2.length l2) (hc2 : l2.length ≤ c2) (ho3 : Kd.R (Kd.int .i64) 2 w w0.heap.size P3_ u9000_ l3) (h : spec_l06Winner.f k a0 l1 l2 l3 a4 a5 = some (r1, r2)),
  Calls Tryd.prog 19 #[.int .i64 a0,.slice A1 l1.length c1,.slice A2 l2.length c2,u9000_,.int .i64 a4,.int .i64 a5] w fun e w'=>e = .returned (.int .i64 r1) ∧ Kd.R (Kd.int .i64) 2 w' w0.heap.size (fun k_=>(P3_ k_ ∨ w.heap.size ≤ k_)) u9000_ r2 ∧ Below w0.heap.size w0 w' ∧ Kept w w' (fun k_=>P3_ k_):=by
 induction k using Nat.strongRecOn with
 | _ k ih =>
 intro a0 A1 c1 l1 A2 c2 l2 P3_ u9000_ l3 a4 a5 r1 r2 w0 w hB hr1 hc1 hr2 hc2 ho3 h
 cases k with
 | zero => exact absurd h (by simp [spec_l06Winner.f])
 | succ k =>
 simp only [spec_l06Winner.f] at h
 have HR1:=Aside0.mk hr1
 have HC1:=Aside0.mk hc1
 clear hr1 hc1
 have HR2:=Aside0.mk hr2
 have HC2:=Aside0.mk hc2
 clear hr2 hc2
 have HO3:=Aside0.mk (show Kd.R (Kd.int .i64) 2 w w0.heap.size (fun k_=>(P3_ k_ ∨ w.heap.size ≤ k_)) u9000_ l3 from Kd.R_mono ho3 (fun k_ hk=>(.inl hk)))
 have HK:=Aside0.mk (Kept.refl w (fun k_=>P3_ k_))
 have HW0:=Aside0.mk hB.size
 have HB:=Aside0.mk hB
 clear hB
 have H : (if 0 ≤ a4 then (if a4 < (l3.length : Int) then (if (rd l3 a4) > 0 then (some (rd l3 a4,l3)) else ((spec_l06Joiner.f k a0 l1).bind fun t189=>(if t189 = 0 then (spec_l06Winner.l0 k a0 l1 l2 l3 a4 a5 (wrap64 (3 - a5)) 1 0) else (some (t189,(l3.set (a4 : Int).toNat t189)))))) else (none)) else (none)) = some (r1,r2):=h
 clear h
 by_cases c7 : 0 ≤ a4
 ·rw [if_pos c7] at H
  have c7b0 : decide (0 ≤ a4) = true:=decide_eq_true c7
  clear c7
  by_cases c8 : a4 < (l3.length : Int)
  ·rw [if_pos c8] at H
   have c8b0 : decide (a4 < (l3.length : Int)) = true:=decide_eq_true c8
   clear c8
   by_cases c9 : (rd l3 a4) > 0
   ·rw [if_pos c9] at H
    have c9b0 : decide (0 < (rd l3 a4)) = true:=decide_eq_true c9
    clear c9
    simp only [Option.some.injEq,Prod.mk.injEq] at H
    obtain ⟨rfl,rfl⟩:=H
    obtain ⟨Ao10,co10,eo10⟩:=Kd.R_slice HO3.out
    subst eo10
    have p187 : 0 ≤ (a4 : Int):=of_decide_eq_true (by first|(with_reducible assumption)|assumption)
    have q187 : a4 < (l3.length : Int):=of_decide_eq_true (by first|(with_reducible assumption)|assumption)
    obtain ⟨ad187,e187,hx187_0⟩:=Kd.at_int (Kd.R_reads' HO3.out).2.2 a4 p187 q187
    cases e187
    replace p187:=eq_true p187
    replace q187:=eq_true q187
    have p188 : 0 ≤ (a4 : Int):=of_decide_eq_true (by first|(with_reducible assumption)|assumption)
    have q188 : a4 < (l3.length : Int):=of_decide_eq_true (by first|(with_reducible assumption)|assumption)
    obtain ⟨ad188,e188,hx188_0⟩:=Kd.at_int (Kd.R_reads' HO3.out).2.2 a4 p188 q188
    obtain rfl : ad187 = ad188:=(by injection e188)
    replace p188:=eq_true p188
    replace q188:=eq_true q188
    go_enter Tryd.func19,Tryd.ntmps19
    go_wp2
    go_ret
    exact ⟨by first|rfl|(simp [errW_none,errW_some] <;> rfl)|(simp [*,errW_none,errW_some] <;> rfl),by (with_reducible repeat (first|apply Kd.R_alloc|apply Kd.R_drewN|apply Kd.R_drew));exact HO3.out,by repeat (first|(with_reducible first|exact HB.out|apply below_alloc|apply pw_below_drewN|apply below_drew1)|exact HB.out),by repeat (first|(with_reducible first|exact HK.out|apply Kept.alloc|apply Kept.drewN|apply Kept.drew)|exact HK.out)⟩
   ·rw [if_neg c9] at H
    have c9b0 : decide (0 < (rd l3 a4)) = false:=decide_eq_false c9
    clear c9
    replace H:=Option.bind_eq_some_iff.mp H
    obtain ⟨t189,A110,H⟩:=H
    replace H : (if t189 = 0 then (spec_l06Winner.l0 k a0 l1 l2 l3 a4 a5 (wrap64 (3 - a5)) 1 0) else (some (t189,(l3.set (a4 : Int).toNat t189)))) = some (r1,r2):=H
    have A11:=Aside0.mk A110
    clear A110
    by_cases c12 : t189 = 0
    ·rw [if_pos c12] at H
     have c12b0 : (t189 == 0) = true:=beq_iff_eq.mpr c12
     have c12b1 : (t189 != 0) = false:=bne_eq_false_iff_eq.mpr c12
     clear c12
     have H':=Aside0.mk H
     clear H
     obtain ⟨Ao13,co13,eo13⟩:=Kd.R_slice HO3.out
     subst eo13
     have p187 : 0 ≤ (a4 : Int):=of_decide_eq_true (by first|(with_reducible assumption)|assumption)
     have q187 : a4 < (l3.length : Int):=of_decide_eq_true (by first|(with_reducible assumption)|assumption)
     obtain ⟨ad187,e187,hx187_0⟩:=Kd.at_int (Kd.R_reads' HO3.out).2.2 a4 p187 q187
     cases e187
     replace p187:=eq_true p187
     replace q187:=eq_true q187
     go_enter Tryd.func19,Tryd.ntmps19
     go_wp2_with (first|((with_reducible refine gate_callee (f:=31) rfl ?_);refine goesL_ (some 28) rfl rfl Tryd.func31 (by kernel_rfl) rfl #[.int .i64 a0,.slice A1 l1.length c1] rfl (by (try simp only [List.map_toArray,List.map_cons,List.map_nil]);first|done|rfl|(simp only [List.length_drop,List.length_take];rfl)) ?_;(with_reducible refine (spec_l06Joiner.calls k a0 _ _ l1 t189 _ ?side1 ?side2 A11.out).mono ?_);(case side1=>exact Kd.C_kept_now HR1.out (by repeat (first|(with_reducible first|exact HK.out|apply Kept.alloc|apply Kept.drewN|apply Kept.drew)|exact HK.out)));(case side2=>exact HC1.out);rintro e w14 ⟨rfl,hb⟩;refine ⟨_,rfl,?_⟩;have n0_:=Aside0.mk (Kd.R_below (by (with_reducible repeat (first|apply Kd.R_alloc|apply Kd.R_drewN|apply Kd.R_drew));exact HO3.out) hb);have n1_:=Aside0.mk (Kept.below (S:=(fun k_=>P3_ k_)) (by repeat (first|(with_reducible first|exact HK.out|apply Kept.alloc|apply Kept.drewN|apply Kept.drew)|exact HK.out)) hb);have n2_:=Aside0.mk (below_step (by repeat (first|(with_reducible first|exact HB.out|apply below_alloc|apply pw_below_drewN|apply below_drew1)|exact HB.out)) hb);clear HO3;clear HK;clear HB;have HO3:=n0_;have HK:=n1_;have HB:=n2_;clear n0_ n1_ n2_;(try clear hb);(try clear hb2);(try clear hk);(try clear hi)))
     go_loopg [13,14,15] k (fun kq v13 v14 v15 w'=>∃ (x3_1 : List Int) (x13_1 : Int) (x14_1 : Int) (x15_1 : Int),v13 = .int .i64 x13_1 ∧ v14 = .int .i64 x14_1 ∧ v15 = .int .i64 x15_1 ∧ Aside0 (spec_l06Winner.l0 kq a0 l1 l2 x3_1 a4 a5 x13_1 x14_1 x15_1 = some (r1,r2)) ∧ Aside0 (kq ≤ k) ∧ Aside0 (Kd.R (Kd.int .i64) 2 w' w0.heap.size (fun k_=>(P3_ k_ ∨ w.heap.size ≤ k_)) (.slice (some ad187) l3.length co13) x3_1) ∧ Aside0 (Kept w w' (fun k_=>P3_ k_)) ∧ Aside0 (Below w0.heap.size w0 w'))
     case atStart=>exact ⟨(l3),(wrap64 (3 - a5)),(1),(0),(by first|rfl|(simp;done)|(simp [*];done)),(by first|rfl|(simp;done)|(simp [*];done)),(by first|rfl|(simp;done)|(simp [*];done)),H',⟨Nat.le_refl _⟩,⟨by (with_reducible repeat (first|apply Kd.R_alloc|apply Kd.R_drewN|apply Kd.R_drew));exact HO3.out⟩,⟨by repeat (first|(with_reducible first|exact HK.out|apply Kept.alloc|apply Kept.drewN|apply Kept.drew)|exact HK.out)⟩,⟨by repeat (first|(with_reducible first|exact HB.out|apply below_alloc|apply pw_below_drewN|apply below_drew1)|exact HB.out)⟩⟩
     case round =>
      clear H'
      try clear c1
      try clear p1
      try clear q1
      try clear hx1
      try clear c2
      try clear p2
      try clear c3
      try clear p6
      try clear c7
      try clear c7b0
      try clear c8
      try clear c8b0
      try clear c9
      try clear c9b0
      try clear c12
      try clear c12b0
      try clear c12b1
      try clear hx187_0
      try clear hx188_0
      try clear p187
      try clear p188
      try clear q187
      try clear q188
      obtain ⟨x3_1,x13_1,x14_1,x15_1,rfl,rfl,rfl,HA,HK1,HO_3,HK,HB⟩:=hrel
      have hl3_1:=(Kd.R_reads' HO_3.out).1
      rw [hl3_1] at HO_3
      (try simp only [hl3_1])
      cases gk with
      | zero => exact absurd HA.out (by simp [spec_l06Winner.l0])
      | succ k1 =>
       have H:=HA.out
       clear HA
       simp only [spec_l06Winner.l0] at H
       have HC15:=Aside0.mk H
       clear H
       go_upto_region 8 with (fail)
       go_cut [41] (fun v41 wc=>∃ (kq : Nat) (x41_14 : Bool),v41 = .bool x41_14 ∧ Aside0 (spec_l06Winner.j1 kq a0 l1 l2 x3_1 a4 a5 x13_1 x14_1 x15_1 x41_14 = some (r1,r2)) ∧ Aside0 (kq ≤ k1) ∧ Aside0 (Kd.R (Kd.int .i64) 2 wc w0.heap.size (fun k_=>(P3_ k_ ∨ w.heap.size ≤ k_)) (.slice (some ad187) x3_1.length co13) x3_1) ∧ Aside0 (Kept w wc (fun k_=>P3_ k_)) ∧ Aside0 (Below w0.heap.size w0 wc))
       case first =>
        have H:=HC15.out
        clear HC15
        by_cases c16 : x15_1 < (l2.length : Int)
        ·rw [if_pos c16] at H
         have c16b0 : decide (x15_1 < (l2.length : Int)) = true:=decide_eq_true c16
         (try (have c16b0z:=c16b0;simp only [← hl3_1] at c16b0z))
         (try (have c16b0y:=c16b0;simp only [hl3_1] at c16b0y))
         clear c16
         (first|rw [c16b0]|(simp only [i64_w,i32_w];rw [c16b0])|skip)
         have H':=Aside0.mk H
         clear H
         go_wp2
         go_meet
         case rel=>exact ⟨_,((x13_1 != a5)),(by first|rfl|(simp;done)|(simp [*];done)),H',⟨by have:=HK1.out;first|omega|exact Nat.le_refl _⟩,⟨by (try simp only [hl3_1]);(with_reducible repeat (first|apply Kd.R_alloc|apply Kd.R_drewN|apply Kd.R_drew));exact HO_3.out⟩,⟨by repeat (first|(with_reducible first|exact HK.out|apply Kept.alloc|apply Kept.drewN|apply Kept.drew)|exact HK.out)⟩,⟨by repeat (first|(with_reducible first|exact HB.out|apply below_alloc|apply pw_below_drewN|apply below_drew1)|exact HB.out)⟩⟩
        ·rw [if_neg c16] at H
         have c16b0 : decide (x15_1 < (l2.length : Int)) = false:=decide_eq_false c16
         (try (have c16b0z:=c16b0;simp only [← hl3_1] at c16b0z))
         (try (have c16b0y:=c16b0;simp only [hl3_1] at c16b0y))
         clear c16
         (first|rw [c16b0]|(simp only [i64_w,i32_w];rw [c16b0])|skip)
         have H':=Aside0.mk H
         clear H
         go_wp2
         go_meet
         case rel=>exact ⟨_,(false),(by first|rfl|(simp;done)|(simp [*];done)),H',⟨by have:=HK1.out;first|omega|exact Nat.le_refl _⟩,⟨by (try simp only [hl3_1]);(with_reducible repeat (first|apply Kd.R_alloc|apply Kd.R_drewN|apply Kd.R_drew));exact HO_3.out⟩,⟨by repeat (first|(with_reducible first|exact HK.out|apply Kept.alloc|apply Kept.drewN|apply Kept.drew)|exact HK.out)⟩,⟨by repeat (first|(with_reducible first|exact HB.out|apply below_alloc|apply pw_below_drewN|apply below_drew1)|exact HB.out)⟩⟩
       case rest =>
        clear HC15
        try clear c1
        try clear p1
        try clear q1
        try clear hx1
        try clear c2
        try clear p2
        try clear c3
        try clear p6
        try clear c7
        try clear c7b0
        try clear c8
        try clear c8b0
        try clear c9
        try clear c9b0
        try clear c12
        try clear c12b0
        try clear c12b1
        try clear c16
        try clear c16b0
        try clear hx187_0
        try clear hx188_0
        try clear p1
        try clear p187
        try clear p188
        try clear p2
        try clear p6
        try clear q1
        try clear q187
        try clear q188
        obtain ⟨kq,x41_14,rfl,HA,HJ14,HO_3,HK,HB⟩:=hcut
        cases kq with
        | zero => exact absurd HA.out (by simp [spec_l06Winner.j1])
        | succ kj14 =>
         have H:=HA.out
         clear HA
         simp only [spec_l06Winner.j1] at H
         by_cases c17 : x41_14 = true
         ·subst c17
          have H1 : (if 0 ≤ x15_1 then (if x15_1 < (l2.length : Int) then (if 0 ≤ (rd l2 x15_1) then (if (rd l2 x15_1) < (l1.length : Int) then (if (rd l1 (rd l2 x15_1)) = 0 then ((spec_l01Own.f l1).bind fun t193=>(if (rd l2 x15_1) < (t193.length : Int) then ((spec_l06Winner.f kj14 a0 (t193.set ((rd l2 x15_1) : Int).toNat a5) l2 x3_1 (wrap64 (a4 + (wrap64 (a5 * x14_1)))) (wrap64 (3 - a5))).bind fun bt198=>(if bt198.1 = a5 then (spec_l06Winner.l0 kj14 a0 l1 l2 bt198.2 a4 a5 a5 (wrap64 (x14_1 * 3)) (wrap64 (x15_1 + 1))) else (spec_l06Winner.l0 kj14 a0 l1 l2 bt198.2 a4 a5 x13_1 (wrap64 (x14_1 * 3)) (wrap64 (x15_1 + 1))))) else (none))) else (spec_l06Winner.l0 kj14 a0 l1 l2 x3_1 a4 a5 x13_1 (wrap64 (x14_1 * 3)) (wrap64 (x15_1 + 1)))) else (none)) else (none)) else (none)) else (none)) = some (r1,r2):=by rw [if_pos rfl] at H;exact H
          clear H
          have H:=H1
          clear H1
          by_cases c18 : 0 ≤ x15_1
          ·rw [if_pos c18] at H
           have c18b0 : decide (0 ≤ x15_1) = true:=decide_eq_true c18
           clear c18
           by_cases c19 : x15_1 < (l2.length : Int)
           ·rw [if_pos c19] at H
            have c19b0 : decide (x15_1 < (l2.length : Int)) = true:=decide_eq_true c19
            (try (have c19b0z:=c19b0;simp only [← hl3_1] at c19b0z))
            (try (have c19b0y:=c19b0;simp only [hl3_1] at c19b0y))
            clear c19
            by_cases c20 : 0 ≤ (rd l2 x15_1)
            ·rw [if_pos c20] at H
             have c20b0 : decide (0 ≤ (rd l2 x15_1)) = true:=decide_eq_true c20
             clear c20
             by_cases c21 : (rd l2 x15_1) < (l1.length : Int)
             ·rw [if_pos c21] at H
              have c21b0 : decide ((rd l2 x15_1) < (l1.length : Int)) = true:=decide_eq_true c21
              (try (have c21b0z:=c21b0;simp only [← hl3_1] at c21b0z))
              (try (have c21b0y:=c21b0;simp only [hl3_1] at c21b0y))
              clear c21
              by_cases c22 : (rd l1 (rd l2 x15_1)) = 0
              ·rw [if_pos c22] at H
               have c22b0 : ((rd l1 (rd l2 x15_1)) == 0) = true:=beq_iff_eq.mpr c22
               have c22b1 : ((rd l1 (rd l2 x15_1)) != 0) = false:=bne_eq_false_iff_eq.mpr c22
               clear c22
               replace H:=Option.bind_eq_some_iff.mp H
               obtain ⟨t193,A230,H⟩:=H
               replace H : (if (rd l2 x15_1) < (t193.length : Int) then ((spec_l06Winner.f kj14 a0 (t193.set ((rd l2 x15_1) : Int).toNat a5) l2 x3_1 (wrap64 (a4 + (wrap64 (a5 * x14_1)))) (wrap64 (3 - a5))).bind fun bt198=>(if bt198.1 = a5 then (spec_l06Winner.l0 kj14 a0 l1 l2 bt198.2 a4 a5 a5 (wrap64 (x14_1 * 3)) (wrap64 (x15_1 + 1))) else (spec_l06Winner.l0 kj14 a0 l1 l2 bt198.2 a4 a5 x13_1 (wrap64 (x14_1 * 3)) (wrap64 (x15_1 + 1))))) else (none)) = some (r1,r2):=H
               have A23:=Aside0.mk A230
               clear A230
               by_cases c24 : (rd l2 x15_1) < (t193.length : Int)
               ·rw [if_pos c24] at H
                have c24b0 : decide ((rd l2 x15_1) < (t193.length : Int)) = true:=decide_eq_true c24
                (try (have c24b0z:=c24b0;simp only [← hl3_1] at c24b0z))
                (try (have c24b0y:=c24b0;simp only [hl3_1] at c24b0y))
                clear c24
                obtain ⟨y197,hy197⟩ : ∃ y_ : List Int,y_ = (t193.set ((rd l2 x15_1) : Int).toNat a5):=⟨_,rfl⟩
                replace H : ((spec_l06Winner.f kj14 a0 y197 l2 x3_1 (wrap64 (a4 + (wrap64 (a5 * x14_1)))) (wrap64 (3 - a5))).bind fun bt198=>(if bt198.1 = a5 then (spec_l06Winner.l0 kj14 a0 l1 l2 bt198.2 a4 a5 a5 (wrap64 (x14_1 * 3)) (wrap64 (x15_1 + 1))) else (spec_l06Winner.l0 kj14 a0 l1 l2 bt198.2 a4 a5 x13_1 (wrap64 (x14_1 * 3)) (wrap64 (x15_1 + 1))))) = some (r1,r2):=by first|(rw [hy197];with_reducible exact H)|(have H2_:=(Option.bind_some _ _).symm.trans H;rw [hy197];with_reducible exact H2_)|(have H2_:=(Option.bind_some _ _).symm.trans H;with_reducible exact H2_)|with_reducible exact H|(rw [hy197];exact H)|exact H
                have Ny197:=Aside0.mk hy197
                clear hy197
                replace H:=Option.bind_eq_some_iff.mp H
                obtain ⟨⟨t198,t199⟩,A260,H⟩:=H
                replace H : (if t198 = a5 then (spec_l06Winner.l0 kj14 a0 l1 l2 t199 a4 a5 a5 (wrap64 (x14_1 * 3)) (wrap64 (x15_1 + 1))) else (spec_l06Winner.l0 kj14 a0 l1 l2 t199 a4 a5 x13_1 (wrap64 (x14_1 * 3)) (wrap64 (x15_1 + 1)))) = some (r1,r2):=H
                have A26:=Aside0.mk A260
                clear A260
                by_cases c27 : t198 = a5
                ·rw [if_pos c27] at H
                 have c27b0 : (t198 == a5) = true:=beq_iff_eq.mpr c27
                 have c27b1 : (t198 != a5) = false:=bne_eq_false_iff_eq.mpr c27
                 clear c27
                 have H':=Aside0.mk H
                 clear H
                 have p191 : 0 ≤ (x15_1 : Int):=of_decide_eq_true (by first|(with_reducible assumption)|assumption)
                 have q191 : x15_1 < (l2.length : Int):=of_decide_eq_true (by first|(with_reducible assumption)|assumption)
                 obtain ⟨ad191,e191,hx191_0⟩:=Kd.at_int (Kd.C_kept_now HR2.out HK.out) x15_1 p191 q191
                 cases e191
                 replace p191:=eq_true p191
                 replace q191:=eq_true q191
                 have p192 : 0 ≤ ((rd l2 x15_1) : Int):=of_decide_eq_true (by first|(with_reducible assumption)|assumption)
                 have q192 : (rd l2 x15_1) < (l1.length : Int):=of_decide_eq_true (by first|(with_reducible assumption)|assumption)
                 obtain ⟨ad192,e192,hx192_0⟩:=Kd.at_int (Kd.C_kept_now HR1.out HK.out) (rd l2 x15_1) p192 q192
                 cases e192
                 replace p192:=eq_true p192
                 replace q192:=eq_true q192
                 go_wp2_with (first|((with_reducible refine gate_callee (f:=23) rfl ?_);refine goesL_ (some 53) rfl rfl Tryd.func23 (by kernel_rfl) rfl #[.slice (some ad192) l1.length c1] rfl (by (try simp only [List.map_toArray,List.map_cons,List.map_nil]);first|done|rfl|(simp only [List.length_drop,List.length_take];rfl)) ?_;(with_reducible refine (spec_l01Own.calls _ _ l1 t193 _ ?side1 ?side2 A23.out).mono ?_);(case side1=>exact Kd.C_kept_now HR1.out (by repeat (first|(with_reducible first|exact HK.out|apply Kept.alloc|apply Kept.drewN|apply Kept.drew)|exact HK.out)));(case side2=>exact HC1.out);rintro e w28 ⟨v194,rfl,ho0,hb⟩;refine ⟨_,rfl,?_⟩;have n0_:=Aside0.mk (Kd.R_elder' (by (with_reducible repeat (first|apply Kd.R_alloc|apply Kd.R_drewN|apply Kd.R_drew));exact HO_3.out) (Kd.R_base ho0) hb);have n1_:=Aside0.mk (Kd.R_lower (Kd.R_new' (Kd.R_newM (M:=fun k_=>(P3_ k_ ∨ w.heap.size ≤ k_)) ho0 (by first|exact HK.out.1|exact (show Kept w _ (fun k_=>P3_ k_) from by repeat (first|(with_reducible first|exact HK.out|apply Kept.alloc|apply Kept.drewN|apply Kept.drew)|exact HK.out)).1) (fun k_ h_=>.inr h_)) (Kd.R_lt (by (with_reducible repeat (first|apply Kd.R_alloc|apply Kd.R_drewN|apply Kd.R_drew));exact HO_3.out))) (below_size (by repeat (first|(with_reducible first|exact HB.out|apply below_alloc|apply pw_below_drewN|apply below_drew1)|exact HB.out))));have n2_:=Aside0.mk (Kept.below (S:=(fun k_=>P3_ k_)) (by repeat (first|(with_reducible first|exact HK.out|apply Kept.alloc|apply Kept.drewN|apply Kept.drew)|exact HK.out)) hb);have n3_:=Aside0.mk (below_step (by repeat (first|(with_reducible first|exact HB.out|apply below_alloc|apply pw_below_drewN|apply below_drew1)|exact HB.out)) hb);clear HO_3;clear HK;clear HB;have HO_3:=n0_;have HO195:=n1_;have HK:=n2_;have HB:=n3_;clear n0_ n1_ n2_ n3_;(try clear hb);(try clear hb2);(try clear hk);(try clear hi);(try clear ho0);have p196 : 0 ≤ (x15_1 : Int):=of_decide_eq_true (by first|(with_reducible assumption)|assumption);have q196 : x15_1 < (l2.length : Int):=of_decide_eq_true (by first|(with_reducible assumption)|assumption);obtain ⟨ad196,e196,hx196_0⟩:=Kd.at_int (Kd.C_kept_now HR2.out HK.out) x15_1 p196 q196;obtain rfl : ad191 = ad196:=(by injection e196);replace p196:=eq_true p196;replace q196:=eq_true q196;have p25 : 0 ≤ ((rd l2 x15_1) : Int):=of_decide_eq_true (by first|(with_reducible assumption)|assumption);have q25 : ((rd l2 x15_1) : Int) < ((t193.length : Int) : Int):=of_decide_eq_true (by first|(with_reducible assumption)|assumption);obtain ⟨go25,co25,eo25,gb25,gl25,cl25,HG25⟩:=Kd.R_form HO195.out (by omega);(first|cases eo25|(injection eo25 with ea_ en_ ec_;(first|subst ea_|(injection ea_ with ea_;subst ea_));subst ec_;clear en_));have GB25:=Aside0.mk gb25;have GG25:=Aside0.mk HG25;clear gb25 gl25 HG25;have HMgo25:=Aside0.mk (show (P3_ go25 ∨ w.heap.size ≤ go25) from (HO195.out.1 _ rfl).1.1);obtain ⟨hx25_0,hf25_0⟩:=Kd.R_celln 0 HO195.out ((rd l2 x15_1) : Int) p25 q25;replace p25:=eq_true p25;replace q25:=eq_true q25;have n_:=Aside0.mk (Kd.R_mono (ok':=(fun k_=>(P3_ k_ ∨ w.heap.size ≤ k_) ∧ some k_ ≠ (.slice (some ad187) x3_1.length co13 : Value).ownBlock)) HO195.out (fun k_ hk=>⟨hk.1.1,hk.2⟩));clear HO195;have HO195:=n_;clear n_;obtain ⟨hy29_,hz29_⟩:=Kd.R_celln 0 HO195.out ((rd l2 x15_1) : Int) (of_decide_eq_true (by first|(with_reducible assumption)|assumption)) (of_decide_eq_true (by first|(with_reducible assumption)|assumption));have HP29:=Kd.R_putg HO195.out ((rd l2 x15_1) : Int) a5)|((with_reducible refine gate_store (t:=2) (p:=60) rfl ?_);refine store_event (t:=2) (p:=60) (v:=?vo_w30) (w1:=(w28.setCell ⟨go25,((rd l2 x15_1) : Int).toNat,none⟩ (.int .i64 a5))) ?hg ?ho ?hn ?hr ?_;(case ho=>rfl);(case hg=>rfl);(case hn=>rfl);(case hr=>first|(go_simp;done)|(go_simp;rfl));intro w30 hw;have hg : w28.grownBy w30 (some go25):=(by rw [hw];exact HP29.2);have hp_ : Kd.R (Kd.int .i64) 2 w30 w0.heap.size (fun k_=>(P3_ k_ ∨ w.heap.size ≤ k_) ∧ some k_ ≠ (.slice (some ad187) x3_1.length co13 : Value).ownBlock) (.slice (some ⟨go25,0,none⟩) t193.length co25) y197:=(by rw [hw,Ny197.out];exact HP29.1);clear HP29;have n0_:=Aside0.mk (Kd.R_after (v:=(.slice (some ⟨go25,0,none⟩) t193.length co25)) (v1:=(.slice (some ⟨go25,0,none⟩) t193.length co25)) (ok:=(fun k_=>(P3_ k_ ∨ w.heap.size ≤ k_))) (by (with_reducible repeat (first|apply Kd.R_alloc|apply Kd.R_drewN|apply Kd.R_drew));exact HO_3.out) hg (.inl rfl));have n1_:=Aside0.mk (hp_);have n2_:=Aside0.mk ((by rw [hw];exact below_set (HB.out) GB25.out : Below w0.heap.size w0 w30));have n3_:=Aside0.mk (Kept.of_grown (S:=(fun k_=>P3_ k_)) hg (by repeat (first|(with_reducible first|exact HK.out|apply Kept.alloc|apply Kept.drewN|apply Kept.drew)|exact HK.out)) (fun k_ e_=>(HO195.out.1 k_ e_).1));clear HO_3;clear HO195;clear HB;clear HK;have HO_3:=n0_;have HO195:=n1_;have HB:=n2_;have HK:=n3_;clear n0_ n1_ n2_ n3_;clear hg hw hp_)|((with_reducible refine gate_callee (f:=19) rfl ?_);refine goesL_ (some 72) rfl rfl Tryd.func19 (by kernel_rfl) rfl #[.int .i64 a0,.slice (some ⟨go25,0,none⟩) y197.length co25,.slice (some ad191) l2.length c2,.slice (some ad187) x3_1.length co13,.int .i64 (wrap64 (a4 + (wrap64 (a5 * x14_1)))),.int .i64 (wrap64 (3 - a5))] rfl (by (try simp only [List.map_toArray,List.map_cons,List.map_nil]);first|done|(rw [show y197.length = t193.length from (Kd.R_reads' HO195.out).1.symm] <;> rfl)|(rw [show y197.length = t193.length from (Kd.R_reads' HO195.out).1.symm,← hl3_1] <;> rfl)|rfl|(simp only [List.length_drop,List.length_take];rfl)) ?_;(with_reducible refine (ih kj14 (by have:=HK1.out;have:=HJ14.out;omega) a0 _ _ y197 _ _ l2 (fun k_=>some k_ = (.slice (some ad187) x3_1.length co13 : Value).ownBlock) (.slice (some ad187) x3_1.length co13) x3_1 (wrap64 (a4 + (wrap64 (a5 * x14_1)))) (wrap64 (3 - a5)) t198 t199 w0 _ ?side1 ?side2 ?side3 ?side4 ?side5 ?side6 A26.out).mono ?_);(case side1=>repeat (first|(with_reducible first|exact HB.out|apply below_alloc|apply pw_below_drewN|apply below_drew1)|exact HB.out));(case side2=>first|exact Kd.C_kept_own (HO195.out) (fun k_ hk_ hs_=>(hk_.2) hs_)|(rw [show y197.length = t193.length from (Kd.R_reads' HO195.out).1.symm];exact Kd.C_kept_own (HO195.out) (fun k_ hk_ hs_=>(hk_.2) hs_)));(case side3=>rw [show y197.length = t193.length from (Kd.R_reads' HO195.out).1.symm];exact (Kd.R_reads' HO195.out).2.1);(case side4=>exact Kd.C_kept_call HR2.out (by repeat (first|(with_reducible first|exact HK.out|apply Kept.alloc|apply Kept.drewN|apply Kept.drew)|exact HK.out)) (fun k_ hs_=>(fun e_=>(HO_3.out.1 k_ e_.symm).1) hs_));(case side5=>exact HC2.out);(case side6=>exact Kd.R_tight rfl HO_3.out);rintro e w31 ⟨rfl,hy0,hb,hkp⟩;refine ⟨_,rfl,?_⟩;have n0_:=Aside0.mk (Kd.R_reok rfl hy0 (fun k_ e_=>HO_3.out.1 k_ e_));have n1_:=Aside0.mk (Kd.R_mono (ok':=fun k_=>(P3_ k_ ∨ w.heap.size ≤ k_) ∧ some k_ ≠ (.slice (some ad187) x3_1.length co13 : Value).ownBlock) (Kd.R_keptB (HO195.out) hkp (fun k_ hk_ hs_=>(hk_.2) hs_)) (fun k_ hk_=>⟨hk_.1.1,hk_.1.2⟩));have n2_:=Aside0.mk (Kept.then_ (S:=(fun k_=>P3_ k_)) (by repeat (first|(with_reducible first|exact HK.out|apply Kept.alloc|apply Kept.drewN|apply Kept.drew)|exact HK.out)) hkp (fun k_ hs_=>(fun e_=>(HO_3.out.1 k_ e_.symm).1) hs_));have n3_:=Aside0.mk (hb);clear HO_3;clear HO195;clear HK;clear HB;have HO_3:=n0_;have HO195:=n1_;have HK:=n2_;have HB:=n3_;clear n0_ n1_ n2_ n3_;(try clear hb);(try clear hkp);(try clear hy0)))
                 (try simp only [← hl3_1])
                 go_roundg kj14
                 case measure=>have:=HK1.out;have:=HJ14.out;omega
                 case rel=>exact ⟨(t199),(a5),(wrap64 (x14_1 * 3)),(wrap64 (x15_1 + 1)),(by first|rfl|(simp;done)|(simp [*];done)),(by first|rfl|(simp;done)|(simp [*];done)),(by first|rfl|(simp;done)|(simp [*];done)),H',⟨by have:=HK1.out;have:=HJ14.out;omega⟩,⟨by (try simp only [hl3_1]);(with_reducible repeat (first|apply Kd.R_alloc|apply Kd.R_drewN|apply Kd.R_drew));exact Kd.R_mono HO_3.out (fun _ hk=>hk.1)⟩,⟨by repeat (first|(with_reducible first|exact HK.out|apply Kept.alloc|apply Kept.drewN|apply Kept.drew)|exact HK.out)⟩,⟨by repeat (first|(with_reducible first|exact HB.out|apply below_alloc|apply pw_below_drewN|apply below_drew1)|exact HB.out)⟩⟩
                ·rw [if_neg c27] at H
                 have c27b0 : (t198 == a5) = false:=beq_eq_false_iff_ne.mpr c27
                 have c27b1 : (t198 != a5) = true:=bne_iff_ne.mpr c27
                 have H':=Aside0.mk H
                 clear H
                 have p191 : 0 ≤ (x15_1 : Int):=of_decide_eq_true (by first|(with_reducible assumption)|assumption)
                 have q191 : x15_1 < (l2.length : Int):=of_decide_eq_true (by first|(with_reducible assumption)|assumption)
                 obtain ⟨ad191,e191,hx191_0⟩:=Kd.at_int (Kd.C_kept_now HR2.out HK.out) x15_1 p191 q191
                 cases e191
                 replace p191:=eq_true p191
                 replace q191:=eq_true q191
                 have p192 : 0 ≤ ((rd l2 x15_1) : Int):=of_decide_eq_true (by first|(with_reducible assumption)|assumption)
                 have q192 : (rd l2 x15_1) < (l1.length : Int):=of_decide_eq_true (by first|(with_reducible assumption)|assumption)
                 obtain ⟨ad192,e192,hx192_0⟩:=Kd.at_int (Kd.C_kept_now HR1.out HK.out) (rd l2 x15_1) p192 q192
                 cases e192
                 replace p192:=eq_true p192
                 replace q192:=eq_true q192
                 go_wp2_with (first|((with_reducible refine gate_callee (f:=23) rfl ?_);refine goesL_ (some 53) rfl rfl Tryd.func23 (by kernel_rfl) rfl #[.slice (some ad192) l1.length c1] rfl (by (try simp only [List.map_toArray,List.map_cons,List.map_nil]);first|done|rfl|(simp only [List.length_drop,List.length_take];rfl)) ?_;(with_reducible refine (spec_l01Own.calls _ _ l1 t193 _ ?side1 ?side2 A23.out).mono ?_);(case side1=>exact Kd.C_kept_now HR1.out (by repeat (first|(with_reducible first|exact HK.out|apply Kept.alloc|apply Kept.drewN|apply Kept.drew)|exact HK.out)));(case side2=>exact HC1.out);rintro e w32 ⟨v194,rfl,ho0,hb⟩;refine ⟨_,rfl,?_⟩;have n0_:=Aside0.mk (Kd.R_elder' (by (with_reducible repeat (first|apply Kd.R_alloc|apply Kd.R_drewN|apply Kd.R_drew));exact HO_3.out) (Kd.R_base ho0) hb);have n1_:=Aside0.mk (Kd.R_lower (Kd.R_new' (Kd.R_newM (M:=fun k_=>(P3_ k_ ∨ w.heap.size ≤ k_)) ho0 (by first|exact HK.out.1|exact (show Kept w _ (fun k_=>P3_ k_) from by repeat (first|(with_reducible first|exact HK.out|apply Kept.alloc|apply Kept.drewN|apply Kept.drew)|exact HK.out)).1) (fun k_ h_=>.inr h_)) (Kd.R_lt (by (with_reducible repeat (first|apply Kd.R_alloc|apply Kd.R_drewN|apply Kd.R_drew));exact HO_3.out))) (below_size (by repeat (first|(with_reducible first|exact HB.out|apply below_alloc|apply pw_below_drewN|apply below_drew1)|exact HB.out))));have n2_:=Aside0.mk (Kept.below (S:=(fun k_=>P3_ k_)) (by repeat (first|(with_reducible first|exact HK.out|apply Kept.alloc|apply Kept.drewN|apply Kept.drew)|exact HK.out)) hb);have n3_:=Aside0.mk (below_step (by repeat (first|(with_reducible first|exact HB.out|apply below_alloc|apply pw_below_drewN|apply below_drew1)|exact HB.out)) hb);clear HO_3;clear HK;clear HB;have HO_3:=n0_;have HO195:=n1_;have HK:=n2_;have HB:=n3_;clear n0_ n1_ n2_ n3_;(try clear hb);(try clear hb2);(try clear hk);(try clear hi);(try clear ho0);have p196 : 0 ≤ (x15_1 : Int):=of_decide_eq_true (by first|(with_reducible assumption)|assumption);have q196 : x15_1 < (l2.length : Int):=of_decide_eq_true (by first|(with_reducible assumption)|assumption);obtain ⟨ad196,e196,hx196_0⟩:=Kd.at_int (Kd.C_kept_now HR2.out HK.out) x15_1 p196 q196;obtain rfl : ad191 = ad196:=(by injection e196);replace p196:=eq_true p196;replace q196:=eq_true q196;have p25 : 0 ≤ ((rd l2 x15_1) : Int):=of_decide_eq_true (by first|(with_reducible assumption)|assumption);have q25 : ((rd l2 x15_1) : Int) < ((t193.length : Int) : Int):=of_decide_eq_true (by first|(with_reducible assumption)|assumption);obtain ⟨go25,co25,eo25,gb25,gl25,cl25,HG25⟩:=Kd.R_form HO195.out (by omega);(first|cases eo25|(injection eo25 with ea_ en_ ec_;(first|subst ea_|(injection ea_ with ea_;subst ea_));subst ec_;clear en_));have GB25:=Aside0.mk gb25;have GG25:=Aside0.mk HG25;clear gb25 gl25 HG25;have HMgo25:=Aside0.mk (show (P3_ go25 ∨ w.heap.size ≤ go25) from (HO195.out.1 _ rfl).1.1);obtain ⟨hx25_0,hf25_0⟩:=Kd.R_celln 0 HO195.out ((rd l2 x15_1) : Int) p25 q25;replace p25:=eq_true p25;replace q25:=eq_true q25;have n_:=Aside0.mk (Kd.R_mono (ok':=(fun k_=>(P3_ k_ ∨ w.heap.size ≤ k_) ∧ some k_ ≠ (.slice (some ad187) x3_1.length co13 : Value).ownBlock)) HO195.out (fun k_ hk=>⟨hk.1.1,hk.2⟩));clear HO195;have HO195:=n_;clear n_;obtain ⟨hy33_,hz33_⟩:=Kd.R_celln 0 HO195.out ((rd l2 x15_1) : Int) (of_decide_eq_true (by first|(with_reducible assumption)|assumption)) (of_decide_eq_true (by first|(with_reducible assumption)|assumption));have HP33:=Kd.R_putg HO195.out ((rd l2 x15_1) : Int) a5)|((with_reducible refine gate_store (t:=2) (p:=60) rfl ?_);refine store_event (t:=2) (p:=60) (v:=?vo_w34) (w1:=(w32.setCell ⟨go25,((rd l2 x15_1) : Int).toNat,none⟩ (.int .i64 a5))) ?hg ?ho ?hn ?hr ?_;(case ho=>rfl);(case hg=>rfl);(case hn=>rfl);(case hr=>first|(go_simp;done)|(go_simp;rfl));intro w34 hw;have hg : w32.grownBy w34 (some go25):=(by rw [hw];exact HP33.2);have hp_ : Kd.R (Kd.int .i64) 2 w34 w0.heap.size (fun k_=>(P3_ k_ ∨ w.heap.size ≤ k_) ∧ some k_ ≠ (.slice (some ad187) x3_1.length co13 : Value).ownBlock) (.slice (some ⟨go25,0,none⟩) t193.length co25) y197:=(by rw [hw,Ny197.out];exact HP33.1);clear HP33;have n0_:=Aside0.mk (Kd.R_after (v:=(.slice (some ⟨go25,0,none⟩) t193.length co25)) (v1:=(.slice (some ⟨go25,0,none⟩) t193.length co25)) (ok:=(fun k_=>(P3_ k_ ∨ w.heap.size ≤ k_))) (by (with_reducible repeat (first|apply Kd.R_alloc|apply Kd.R_drewN|apply Kd.R_drew));exact HO_3.out) hg (.inl rfl));have n1_:=Aside0.mk (hp_);have n2_:=Aside0.mk ((by rw [hw];exact below_set (HB.out) GB25.out : Below w0.heap.size w0 w34));have n3_:=Aside0.mk (Kept.of_grown (S:=(fun k_=>P3_ k_)) hg (by repeat (first|(with_reducible first|exact HK.out|apply Kept.alloc|apply Kept.drewN|apply Kept.drew)|exact HK.out)) (fun k_ e_=>(HO195.out.1 k_ e_).1));clear HO_3;clear HO195;clear HB;clear HK;have HO_3:=n0_;have HO195:=n1_;have HB:=n2_;have HK:=n3_;clear n0_ n1_ n2_ n3_;clear hg hw hp_)|((with_reducible refine gate_callee (f:=19) rfl ?_);refine goesL_ (some 72) rfl rfl Tryd.func19 (by kernel_rfl) rfl #[.int .i64 a0,.slice (some ⟨go25,0,none⟩) y197.length co25,.slice (some ad191) l2.length c2,.slice (some ad187) x3_1.length co13,.int .i64 (wrap64 (a4 + (wrap64 (a5 * x14_1)))),.int .i64 (wrap64 (3 - a5))] rfl (by (try simp only [List.map_toArray,List.map_cons,List.map_nil]);first|done|(rw [show y197.length = t193.length from (Kd.R_reads' HO195.out).1.symm] <;> rfl)|(rw [show y197.length = t193.length from (Kd.R_reads' HO195.out).1.symm,← hl3_1] <;> rfl)|rfl|(simp only [List.length_drop,List.length_take];rfl)) ?_;(with_reducible refine (ih kj14 (by have:=HK1.out;have:=HJ14.out;omega) a0 _ _ y197 _ _ l2 (fun k_=>some k_ = (.slice (some ad187) x3_1.length co13 : Value).ownBlock) (.slice (some ad187) x3_1.length co13) x3_1 (wrap64 (a4 + (wrap64 (a5 * x14_1)))) (wrap64 (3 - a5)) t198 t199 w0 _ ?side1 ?side2 ?side3 ?side4 ?side5 ?side6 A26.out).mono ?_);(case side1=>repeat (first|(with_reducible first|exact HB.out|apply below_alloc|apply pw_below_drewN|apply below_drew1)|exact HB.out));(case side2=>first|exact Kd.C_kept_own (HO195.out) (fun k_ hk_ hs_=>(hk_.2) hs_)|(rw [show y197.length = t193.length from (Kd.R_reads' HO195.out).1.symm];exact Kd.C_kept_own (HO195.out) (fun k_ hk_ hs_=>(hk_.2) hs_)));(case side3=>rw [show y197.length = t193.length from (Kd.R_reads' HO195.out).1.symm];exact (Kd.R_reads' HO195.out).2.1);(case side4=>exact Kd.C_kept_call HR2.out (by repeat (first|(with_reducible first|exact HK.out|apply Kept.alloc|apply Kept.drewN|apply Kept.drew)|exact HK.out)) (fun k_ hs_=>(fun e_=>(HO_3.out.1 k_ e_.symm).1) hs_));(case side5=>exact HC2.out);(case side6=>exact Kd.R_tight rfl HO_3.out);rintro e w35 ⟨rfl,hy0,hb,hkp⟩;refine ⟨_,rfl,?_⟩;have n0_:=Aside0.mk (Kd.R_reok rfl hy0 (fun k_ e_=>HO_3.out.1 k_ e_));have n1_:=Aside0.mk (Kd.R_mono (ok':=fun k_=>(P3_ k_ ∨ w.heap.size ≤ k_) ∧ some k_ ≠ (.slice (some ad187) x3_1.length co13 : Value).ownBlock) (Kd.R_keptB (HO195.out) hkp (fun k_ hk_ hs_=>(hk_.2) hs_)) (fun k_ hk_=>⟨hk_.1.1,hk_.1.2⟩));have n2_:=Aside0.mk (Kept.then_ (S:=(fun k_=>P3_ k_)) (by repeat (first|(with_reducible first|exact HK.out|apply Kept.alloc|apply Kept.drewN|apply Kept.drew)|exact HK.out)) hkp (fun k_ hs_=>(fun e_=>(HO_3.out.1 k_ e_.symm).1) hs_));have n3_:=Aside0.mk (hb);clear HO_3;clear HO195;clear HK;clear HB;have HO_3:=n0_;have HO195:=n1_;have HK:=n2_;have HB:=n3_;clear n0_ n1_ n2_ n3_;(try clear hb);(try clear hkp);(try clear hy0)))
                 (try simp only [← hl3_1])
                 go_roundg kj14
                 case measure=>have:=HK1.out;have:=HJ14.out;omega
                 case rel=>exact ⟨(t199),(x13_1),(wrap64 (x14_1 * 3)),(wrap64 (x15_1 + 1)),(by first|rfl|(simp;done)|(simp [*];done)),(by first|rfl|(simp;done)|(simp [*];done)),(by first|rfl|(simp;done)|(simp [*];done)),H',⟨by have:=HK1.out;have:=HJ14.out;omega⟩,⟨by (try simp only [hl3_1]);(with_reducible repeat (first|apply Kd.R_alloc|apply Kd.R_drewN|apply Kd.R_drew));exact Kd.R_mono HO_3.out (fun _ hk=>hk.1)⟩,⟨by repeat (first|(with_reducible first|exact HK.out|apply Kept.alloc|apply Kept.drewN|apply Kept.drew)|exact HK.out)⟩,⟨by repeat (first|(with_reducible first|exact HB.out|apply below_alloc|apply pw_below_drewN|apply below_drew1)|exact HB.out)⟩⟩
               ·rw [if_neg c24] at H
                exact absurd H (by simp)
              ·rw [if_neg c22] at H
               have c22b0 : ((rd l1 (rd l2 x15_1)) == 0) = false:=beq_eq_false_iff_ne.mpr c22
               have c22b1 : ((rd l1 (rd l2 x15_1)) != 0) = true:=bne_iff_ne.mpr c22
               have H':=Aside0.mk H
               clear H
               have p191 : 0 ≤ (x15_1 : Int):=of_decide_eq_true (by first|(with_reducible assumption)|assumption)
               have q191 : x15_1 < (l2.length : Int):=of_decide_eq_true (by first|(with_reducible assumption)|assumption)
               obtain ⟨ad191,e191,hx191_0⟩:=Kd.at_int (Kd.C_kept_now HR2.out HK.out) x15_1 p191 q191
               cases e191
               replace p191:=eq_true p191
               replace q191:=eq_true q191
               have p192 : 0 ≤ ((rd l2 x15_1) : Int):=of_decide_eq_true (by first|(with_reducible assumption)|assumption)
               have q192 : (rd l2 x15_1) < (l1.length : Int):=of_decide_eq_true (by first|(with_reducible assumption)|assumption)
               obtain ⟨ad192,e192,hx192_0⟩:=Kd.at_int (Kd.C_kept_now HR1.out HK.out) (rd l2 x15_1) p192 q192
               cases e192
               replace p192:=eq_true p192
               replace q192:=eq_true q192
               go_wp2
               (try simp only [← hl3_1])
               go_roundg kj14
               case measure=>have:=HK1.out;have:=HJ14.out;omega
               case rel=>exact ⟨(x3_1),(x13_1),(wrap64 (x14_1 * 3)),(wrap64 (x15_1 + 1)),(by first|rfl|(simp;done)|(simp [*];done)),(by first|rfl|(simp;done)|(simp [*];done)),(by first|rfl|(simp;done)|(simp [*];done)),H',⟨by have:=HK1.out;have:=HJ14.out;omega⟩,⟨by (try simp only [hl3_1]);(with_reducible repeat (first|apply Kd.R_alloc|apply Kd.R_drewN|apply Kd.R_drew));exact HO_3.out⟩,⟨by repeat (first|(with_reducible first|exact HK.out|apply Kept.alloc|apply Kept.drewN|apply Kept.drew)|exact HK.out)⟩,⟨by repeat (first|(with_reducible first|exact HB.out|apply below_alloc|apply pw_below_drewN|apply below_drew1)|exact HB.out)⟩⟩
             ·rw [if_neg c21] at H
              exact absurd H (by simp)
            ·rw [if_neg c20] at H
             exact absurd H (by simp)
           ·rw [if_neg c19] at H
            exact absurd H (by simp)
          ·rw [if_neg c18] at H
           exact absurd H (by simp)
         ·replace c17:=Bool.eq_false_iff.mpr c17
          subst c17
          have H1 : (if 0 ≤ a4 then (if a4 < (x3_1.length : Int) then (some (x13_1,(x3_1.set (a4 : Int).toNat x13_1))) else (none)) else (none)) = some (r1,r2):=by rw [if_neg (show ¬ (false = true) by decide)] at H;exact H
          clear H
          have H:=H1
          clear H1
          by_cases c36 : 0 ≤ a4
          ·rw [if_pos c36] at H
           have c36b0 : decide (0 ≤ a4) = true:=decide_eq_true c36
           clear c36
           by_cases c37 : a4 < (x3_1.length : Int)
           ·rw [if_pos c37] at H
            have c37b0 : decide (a4 < (x3_1.length : Int)) = true:=decide_eq_true c37
            (try (have c37b0z:=c37b0;simp only [← hl3_1] at c37b0z))
            (try (have c37b0y:=c37b0;simp only [hl3_1] at c37b0y))
            clear c37
            obtain ⟨y190,hy190⟩ : ∃ y_ : List Int,y_ = (x3_1.set (a4 : Int).toNat x13_1):=⟨_,rfl⟩
            replace H : (some (x13_1,y190)) = some (r1,r2):=by first|(rw [hy190];with_reducible exact H)|(have H2_:=(Option.bind_some _ _).symm.trans H;rw [hy190];with_reducible exact H2_)|(have H2_:=(Option.bind_some _ _).symm.trans H;with_reducible exact H2_)|with_reducible exact H|(rw [hy190];exact H)|exact H
            have Ny190:=Aside0.mk hy190
            clear hy190
            simp only [Option.some.injEq,Prod.mk.injEq] at H
            obtain ⟨rfl,rfl⟩:=H
            have p38 : 0 ≤ (a4 : Int):=of_decide_eq_true (by first|(with_reducible assumption)|assumption)
            have q38 : (a4 : Int) < ((x3_1.length : Int) : Int):=of_decide_eq_true (by first|(with_reducible assumption)|assumption)
            obtain ⟨go38,co38,eo38,gb38,gl38,cl38,HG38⟩:=Kd.R_form HO_3.out (by omega)
            (first|cases eo38|(injection eo38 with ea_ en_ ec_;(first|subst ea_|(injection ea_ with ea_;subst ea_));subst ec_;clear en_))
            have GB38:=Aside0.mk gb38
            have GG38:=Aside0.mk HG38
            clear gb38 gl38 HG38
            have HMgo38:=Aside0.mk (show (P3_ go38 ∨ w.heap.size ≤ go38) from (HO_3.out.1 _ rfl))
            (first|simp only [add_plain] at hx187_0|skip)
            (first|simp only [add_plain] at hx188_0|skip)
            obtain ⟨hx38_0,hf38_0⟩:=Kd.R_celln 0 HO_3.out (a4 : Int) p38 q38
            replace p38:=eq_true p38
            replace q38:=eq_true q38
            have HP39:=Kd.R_putg HO_3.out (a4 : Int) x13_1
            go_wp2_with (first|((with_reducible refine gate_store (t:=2) (p:=81) rfl ?_);refine store_event (t:=2) (p:=81) (v:=?vo_w40) (w1:=(wc.setCell ⟨go38,(a4 : Int).toNat,none⟩ (.int .i64 x13_1))) ?hg ?ho ?hn ?hr ?_;(case ho=>rfl);(case hg=>rfl);(case hn=>rfl);(case hr=>first|(go_simp;done)|(go_simp;rfl));intro w40 hw;have hg : wc.grownBy w40 (some go38):=(by rw [hw];exact HP39.2);have hp_ : Kd.R (Kd.int .i64) 2 w40 w0.heap.size (fun k_=>(P3_ k_ ∨ w.heap.size ≤ k_)) (.slice (some ⟨go38,0,none⟩) x3_1.length co13) y190:=(by rw [hw,Ny190.out];exact HP39.1);clear HP39;have n0_:=Aside0.mk (hp_);have n1_:=Aside0.mk ((by rw [hw];exact below_set (HB.out) GB38.out : Below w0.heap.size w0 w40));have n2_:=Aside0.mk (Kept.of_grown (S:=(fun k_=>P3_ k_)) hg (by repeat (first|(with_reducible first|exact HK.out|apply Kept.alloc|apply Kept.drewN|apply Kept.drew)|exact HK.out)) (fun k_ e_=>(HO_3.out.1 k_ e_)));clear HO_3;clear HB;clear HK;have HO_3:=n0_;have HB:=n1_;have HK:=n2_;clear n0_ n1_ n2_;clear hg hw hp_))
            go_ret
            exact ⟨by first|rfl|(simp [errW_none,errW_some] <;> rfl)|(simp [*,errW_none,errW_some] <;> rfl),(by first|exact (by (with_reducible repeat (first|apply Kd.R_alloc|apply Kd.R_drewN|apply Kd.R_drew));exact HO_3.out)|(simp only [hl3_1];exact (by (with_reducible repeat (first|apply Kd.R_alloc|apply Kd.R_drewN|apply Kd.R_drew));exact HO_3.out))),by repeat (first|(with_reducible first|exact HB.out|apply below_alloc|apply pw_below_drewN|apply below_drew1)|exact HB.out),by repeat (first|(with_reducible first|exact HK.out|apply Kept.alloc|apply Kept.drewN|apply Kept.drew)|exact HK.out)⟩
           ·rw [if_neg c37] at H
            exact absurd H (by simp)
          ·rw [if_neg c36] at H
           exact absurd H (by simp)
    ·rw [if_neg c12] at H
     have c12b0 : (t189 == 0) = false:=beq_eq_false_iff_ne.mpr c12
     have c12b1 : (t189 != 0) = true:=bne_iff_ne.mpr c12
     obtain ⟨y200,hy200⟩ : ∃ y_ : List Int,y_ = (l3.set (a4 : Int).toNat t189):=⟨_,rfl⟩
     replace H : (some (t189,y200)) = some (r1,r2):=by first|(rw [hy200];with_reducible exact H)|(have H2_:=(Option.bind_some _ _).symm.trans H;rw [hy200];with_reducible exact H2_)|(have H2_:=(Option.bind_some _ _).symm.trans H;with_reducible exact H2_)|with_reducible exact H|(rw [hy200];exact H)|exact H
     have Ny200:=Aside0.mk hy200
     clear hy200
     simp only [Option.some.injEq,Prod.mk.injEq] at H
     obtain ⟨rfl,rfl⟩:=H
     obtain ⟨Ao42,co42,eo42⟩:=Kd.R_slice HO3.out
     subst eo42
     have p187 : 0 ≤ (a4 : Int):=of_decide_eq_true (by first|(with_reducible assumption)|assumption)
     have q187 : a4 < (l3.length : Int):=of_decide_eq_true (by first|(with_reducible assumption)|assumption)
     obtain ⟨ad187,e187,hx187_0⟩:=Kd.at_int (Kd.R_reads' HO3.out).2.2 a4 p187 q187
     cases e187
     replace p187:=eq_true p187
     replace q187:=eq_true q187
     go_enter Tryd.func19,Tryd.ntmps19
     go_wp2_with (first|((with_reducible refine gate_callee (f:=31) rfl ?_);refine goesL_ (some 28) rfl rfl Tryd.func31 (by kernel_rfl) rfl #[.int .i64 a0,.slice A1 l1.length c1] rfl (by (try simp only [List.map_toArray,List.map_cons,List.map_nil]);first|done|rfl|(simp only [List.length_drop,List.length_take];rfl)) ?_;(with_reducible refine (spec_l06Joiner.calls k a0 _ _ l1 t189 _ ?side1 ?side2 A11.out).mono ?_);(case side1=>exact Kd.C_kept_now HR1.out (by repeat (first|(with_reducible first|exact HK.out|apply Kept.alloc|apply Kept.drewN|apply Kept.drew)|exact HK.out)));(case side2=>exact HC1.out);rintro e w43 ⟨rfl,hb⟩;refine ⟨_,rfl,?_⟩;have n0_:=Aside0.mk (Kd.R_below (by (with_reducible repeat (first|apply Kd.R_alloc|apply Kd.R_drewN|apply Kd.R_drew));exact HO3.out) hb);have n1_:=Aside0.mk (Kept.below (S:=(fun k_=>P3_ k_)) (by repeat (first|(with_reducible first|exact HK.out|apply Kept.alloc|apply Kept.drewN|apply Kept.drew)|exact HK.out)) hb);have n2_:=Aside0.mk (below_step (by repeat (first|(with_reducible first|exact HB.out|apply below_alloc|apply pw_below_drewN|apply below_drew1)|exact HB.out)) hb);clear HO3;clear HK;clear HB;have HO3:=n0_;have HK:=n1_;have HB:=n2_;clear n0_ n1_ n2_;(try clear hb);(try clear hb2);(try clear hk);(try clear hi);have p41 : 0 ≤ (a4 : Int):=of_decide_eq_true (by first|(with_reducible assumption)|assumption);have q41 : (a4 : Int) < ((l3.length : Int) : Int):=of_decide_eq_true (by first|(with_reducible assumption)|assumption);obtain ⟨go41,co41,eo41,gb41,gl41,cl41,HG41⟩:=Kd.R_form HO3.out (by omega);(first|cases eo41|(injection eo41 with ea_ en_ ec_;(first|subst ea_|(injection ea_ with ea_;subst ea_));subst ec_;clear en_));have GB41:=Aside0.mk gb41;have GG41:=Aside0.mk HG41;clear gb41 gl41 HG41;have HMgo41:=Aside0.mk (show (P3_ go41 ∨ w.heap.size ≤ go41) from (HO3.out.1 _ rfl));(first|simp only [add_plain] at hx187_0|skip);obtain ⟨hx41_0,hf41_0⟩:=Kd.R_celln 0 HO3.out (a4 : Int) p41 q41;replace p41:=eq_true p41;replace q41:=eq_true q41;obtain ⟨hy44_,hz44_⟩:=Kd.R_celln 0 HO3.out (a4 : Int) (of_decide_eq_true (by first|(with_reducible assumption)|assumption)) (of_decide_eq_true (by first|(with_reducible assumption)|assumption));have HP44:=Kd.R_putg HO3.out (a4 : Int) t189)|((with_reducible refine gate_store (t:=2) (p:=81) rfl ?_);refine store_event (t:=2) (p:=81) (v:=?vo_w45) (w1:=(w43.setCell ⟨go41,(a4 : Int).toNat,none⟩ (.int .i64 t189))) ?hg ?ho ?hn ?hr ?_;(case ho=>rfl);(case hg=>rfl);(case hn=>rfl);(case hr=>first|(go_simp;done)|(go_simp;rfl));intro w45 hw;have hg : w43.grownBy w45 (some go41):=(by rw [hw];exact HP44.2);have hp_ : Kd.R (Kd.int .i64) 2 w45 w0.heap.size (fun k_=>(P3_ k_ ∨ w.heap.size ≤ k_)) (.slice (some ⟨go41,0,none⟩) l3.length co42) y200:=(by rw [hw,Ny200.out];exact HP44.1);clear HP44;have n0_:=Aside0.mk (hp_);have n1_:=Aside0.mk ((by rw [hw];exact below_set (HB.out) GB41.out : Below w0.heap.size w0 w45));have n2_:=Aside0.mk (Kept.of_grown (S:=(fun k_=>P3_ k_)) hg (by repeat (first|(with_reducible first|exact HK.out|apply Kept.alloc|apply Kept.drewN|apply Kept.drew)|exact HK.out)) (fun k_ e_=>(HO3.out.1 k_ e_)));clear HO3;clear HB;clear HK;have HO3:=n0_;have HB:=n1_;have HK:=n2_;clear n0_ n1_ n2_;clear hg hw hp_))
     go_ret
     exact ⟨by first|rfl|(simp [errW_none,errW_some] <;> rfl)|(simp [*,errW_none,errW_some] <;> rfl),by (with_reducible repeat (first|apply Kd.R_alloc|apply Kd.R_drewN|apply Kd.R_drew));exact HO3.out,by repeat (first|(with_reducible first|exact HB.out|apply below_alloc|apply pw_below_drewN|apply below_drew1)|exact HB.out),by repeat (first|(with_reducible first|exact HK.out|apply Kept.alloc|apply Kept.drewN|apply Kept.drew)|exact HK.out)⟩
  ·rw [if_neg c8] at H
   exact absurd H (by simp)
 ·rw [if_neg c7] at H
  exact absurd H (by simp)

/-! ### laws_toInt64S: function 20 -/
def laws_toInt64S.l0 : Nat → List Int → List Int → Int → Option (List Int)
 | 0, _, _, _ => none
 | k + 1, x0, x3, x4 => if x4 < (x0.length : Int) then (if 0 ≤ x4 then (if x4 < (x3.length : Int) then (laws_toInt64S.l0 k x0 (x3.set (x4 : Int).toNat (rd x0 x4)) (wrap64 (x4 + 1))) else (none)) else (none)) else (some x3)
def laws_toInt64S.f (k : Nat) (l0 : List Int) : Option (List Int) := if 0 ≤ (l0.length : Int) then (if ((l0.length : Int) : Int).toNat ≤ 35184372088832 then (laws_toInt64S.l0 k l0 (List.replicate ((l0.length : Int) : Int).toNat 0) 0) else (none)) else (none)
set_option maxHeartbeats 8000000 in
set_option maxRecDepth 100000 in
theorem laws_toInt64S.calls (k : Nat) (A0 : Option Addr) (c0 : Nat) (l0 : List Int) (r : List Int) (w : World) (hr0 : Kd.C (Kd.int .i64) w A0 l0.length l0) (hc0 : l0.length ≤ c0) (h : laws_toInt64S.f k l0 = some r) :
  Calls Tryd.prog 20 #[.slice A0 l0.length c0] w fun e w'=>∃ v0_ : Value,e = .returned (v0_) ∧ Kd.R (Kd.int .i64) 2 w' w.heap.size (fun _=>True) v0_ r ∧ Below w.heap.size w w':=by
 have HR0:=Aside0.mk hr0
 have HC0:=Aside0.mk hc0
 clear hr0 hc0
 have HB:=Aside0.mk (Below.refl w.heap.size w)
 have H : (if 0 ≤ (l0.length : Int) then (if ((l0.length : Int) : Int).toNat ≤ 35184372088832 then (laws_toInt64S.l0 k l0 (List.replicate ((l0.length : Int) : Int).toNat 0) 0) else (none)) else (none)) = some r:=h
 clear h
 by_cases c2 : 0 ≤ (l0.length : Int)
 ·rw [if_pos c2] at H
  have c2b0:=eq_true c2
  have c2b1 : decide (0 ≤ (l0.length : Int)) = true:=decide_eq_true c2
  clear c2
  by_cases c3 : ((l0.length : Int) : Int).toNat ≤ 35184372088832
  ·rw [if_pos c3] at H
   have c3b0:=eq_true c3
   have c3b1 : decide (((l0.length : Int) : Int).toNat ≤ 35184372088832) = true:=decide_eq_true c3
   clear c3
   obtain ⟨y212,hy212⟩ : ∃ y_ : List Int,y_ = (List.replicate ((l0.length : Int) : Int).toNat 0):=⟨_,rfl⟩
   replace H : (laws_toInt64S.l0 k l0 y212 0) = some r:=by first|(rw [hy212];with_reducible exact H)|(have H2_:=(Option.bind_some _ _).symm.trans H;rw [hy212];with_reducible exact H2_)|(have H2_:=(Option.bind_some _ _).symm.trans H;with_reducible exact H2_)|with_reducible exact H|(rw [hy212];exact H)|exact H
   have Ny212:=Aside0.mk hy212
   clear hy212
   have H':=Aside0.mk H
   clear H
   go_enter Tryd.func20,Tryd.ntmps20
   go_wp2_with (first|((with_reducible refine gate_dst (N:=7) rfl ?_);refine Kd.R_make (Kd.int .i64) _ 2 rfl (N:=7) rfl 22 _ _ rfl (l0.length : Int) rfl rfl Tryd.underlying22 (.int .i64 0) 8 info2 rfl (by decide) (by omega) 0 (ok:=fun _=>True) (okp:=fun _=>True) rfl (fun _ hk=>hk) trivial (of_decide_eq_true (by first|(with_reducible assumption)|assumption)) (Nat.le_trans (Nat.mul_le_mul_right _ (of_decide_eq_true (by first|(with_reducible assumption)|assumption) : (l0.length : Int).toNat ≤ 35184372088832)) (by omega)) (Below.refl _ _) (Nat.le_refl _) ?_;intro v213 w4 ho5 hb hg_ hnew_;clear hg_ hnew_;(first|rw [← Ny212.out] at ho5|(simp only [Int.reduceToNat] at ho5;rw [← Ny212.out] at ho5));have n0_:=Aside0.mk (Kd.R_lower ho5 (below_size (by repeat (first|(with_reducible first|exact HB.out|apply below_alloc|apply pw_below_drewN|apply below_drew1)|exact HB.out))));have n1_:=Aside0.mk (below_step (by repeat (first|(with_reducible first|exact HB.out|apply below_alloc|apply pw_below_drewN|apply below_drew1)|exact HB.out)) hb);clear HB;have HO214:=n0_;have HB:=n1_;clear n0_ n1_;clear hb ho5))
   go_loopg [4] k (fun kq v4 w'=>∃ (x3_1 : List Int) (x4_1 : Int),v4 = .int .i64 x4_1 ∧ Aside0 (laws_toInt64S.l0 kq l0 x3_1 x4_1 = some r) ∧ Aside0 (kq ≤ k) ∧ Aside0 (Kd.R (Kd.int .i64) 2 w' w.heap.size (fun _=>True) v213 x3_1) ∧ Aside0 (Below w.heap.size w w'))
   case atStart=>exact ⟨(y212),(0),(by first|rfl|(simp;done)|(simp [*];done)),H',⟨Nat.le_refl _⟩,⟨by (with_reducible repeat (first|apply Kd.R_alloc|apply Kd.R_drewN|apply Kd.R_drew));exact HO214.out⟩,⟨by repeat (first|(with_reducible first|exact HB.out|apply below_alloc|apply pw_below_drewN|apply below_drew1)|exact HB.out)⟩⟩
   case round =>
    clear H'
    try clear c2
    try clear c2b0
    try clear c2b1
    try clear p2
    try clear c3
    try clear c3b0
    try clear c3b1
    obtain ⟨x3_1,x4_1,rfl,HA,HK1,HO_3,HB⟩:=hrel
    cases gk with
    | zero => exact absurd HA.out (by simp [laws_toInt64S.l0])
    | succ k1 =>
     have H:=HA.out
     clear HA
     simp only [laws_toInt64S.l0] at H
     by_cases c6 : x4_1 < (l0.length : Int)
     ·rw [if_pos c6] at H
      have c6b0 : decide (x4_1 < (l0.length : Int)) = true:=decide_eq_true c6
      clear c6
      by_cases c7 : 0 ≤ x4_1
      ·rw [if_pos c7] at H
       have c7b0 : decide (0 ≤ x4_1) = true:=decide_eq_true c7
       clear c7
       by_cases c8 : x4_1 < (x3_1.length : Int)
       ·rw [if_pos c8] at H
        have c8b0 : decide (x4_1 < (x3_1.length : Int)) = true:=decide_eq_true c8
        clear c8
        obtain ⟨y216,hy216⟩ : ∃ y_ : List Int,y_ = (x3_1.set (x4_1 : Int).toNat (rd l0 x4_1)):=⟨_,rfl⟩
        replace H : (laws_toInt64S.l0 k1 l0 y216 (wrap64 (x4_1 + 1))) = some r:=by first|(rw [hy216];with_reducible exact H)|(have H2_:=(Option.bind_some _ _).symm.trans H;rw [hy216];with_reducible exact H2_)|(have H2_:=(Option.bind_some _ _).symm.trans H;with_reducible exact H2_)|with_reducible exact H|(rw [hy216];exact H)|exact H
        have Ny216:=Aside0.mk hy216
        clear hy216
        have H':=Aside0.mk H
        clear H
        have p215 : 0 ≤ (x4_1 : Int):=of_decide_eq_true (by first|(with_reducible assumption)|assumption)
        have q215 : x4_1 < (l0.length : Int):=of_decide_eq_true (by first|(with_reducible assumption)|assumption)
        obtain ⟨ad215,e215,hx215_0⟩:=Kd.at_int HR0.out x4_1 p215 q215
        cases e215
        replace hx215_0:=(HB.out.cell (World.block_lt_of_cell? w _ hx215_0)).trans hx215_0
        replace p215:=eq_true p215
        replace q215:=eq_true q215
        have p9 : 0 ≤ (x4_1 : Int):=of_decide_eq_true (by first|(with_reducible assumption)|assumption)
        have q9 : (x4_1 : Int) < ((x3_1.length : Int) : Int):=of_decide_eq_true (by first|(with_reducible assumption)|assumption)
        obtain ⟨go9,co9,eo9,gb9,gl9,cl9,HG9⟩:=Kd.R_form HO_3.out (by omega)
        (first|cases eo9|(injection eo9 with ea_ en_ ec_;(first|subst ea_|(injection ea_ with ea_;subst ea_));subst ec_;clear en_))
        have GB9:=Aside0.mk gb9
        have GG9:=Aside0.mk HG9
        clear gb9 gl9 HG9
        obtain ⟨hx9_0,hf9_0⟩:=Kd.R_celln 0 HO_3.out (x4_1 : Int) p9 q9
        replace p9:=eq_true p9
        replace q9:=eq_true q9
        have HP10:=Kd.R_putg HO_3.out (x4_1 : Int) (rd l0 x4_1)
        go_wp2_with (first|((with_reducible refine gate_store (t:=2) (p:=20) rfl ?_);refine store_event (t:=2) (p:=20) (v:=?vo_w11) (w1:=(wr.setCell ⟨go9,(x4_1 : Int).toNat,none⟩ (.int .i64 (rd l0 x4_1)))) ?hg ?ho ?hn ?hr ?_;(case ho=>rfl);(case hg=>rfl);(case hn=>rfl);(case hr=>first|(go_simp;done)|(go_simp;rfl));intro w11 hw;have hg : wr.grownBy w11 (some go9):=(by rw [hw];exact HP10.2);have hp_ : Kd.R (Kd.int .i64) 2 w11 w.heap.size (fun _=>True) (.slice (some ⟨go9,0,none⟩) x3_1.length co9) y216:=(by rw [hw,Ny216.out];exact HP10.1);clear HP10;have n0_:=Aside0.mk (hp_);have n1_:=Aside0.mk ((by rw [hw];exact below_set (HB.out) GB9.out : Below w.heap.size w w11));clear HO_3;clear HB;have HO_3:=n0_;have HB:=n1_;clear n0_ n1_;clear hg hw hp_))
        go_roundg k1
        case measure=>have:=HK1.out;omega
        case rel=>exact ⟨(y216),(wrap64 (x4_1 + 1)),(by first|rfl|(simp;done)|(simp [*];done)),H',⟨by have:=HK1.out;omega⟩,⟨by (with_reducible repeat (first|apply Kd.R_alloc|apply Kd.R_drewN|apply Kd.R_drew));exact HO_3.out⟩,⟨by repeat (first|(with_reducible first|exact HB.out|apply below_alloc|apply pw_below_drewN|apply below_drew1)|exact HB.out)⟩⟩
       ·rw [if_neg c8] at H
        exact absurd H (by simp)
      ·rw [if_neg c7] at H
       exact absurd H (by simp)
     ·rw [if_neg c6] at H
      have c6b0 : decide (x4_1 < (l0.length : Int)) = false:=decide_eq_false c6
      clear c6
      obtain rfl:=Option.some.inj H
      go_wp2
      go_ret
      exact ⟨_,by first|rfl|(simp [errW_none,errW_some] <;> rfl)|(simp [*,errW_none,errW_some] <;> rfl),by (with_reducible repeat (first|apply Kd.R_alloc|apply Kd.R_drewN|apply Kd.R_drew));exact HO_3.out,by repeat (first|(with_reducible first|exact HB.out|apply below_alloc|apply pw_below_drewN|apply below_drew1)|exact HB.out)⟩
  ·rw [if_neg c3] at H
   exact absurd H (by simp)
 ·rw [if_neg c2] at H
  exact absurd H (by simp)

/-! ### laws_toHex: function 7 -/
def laws_toHex.f (k : Nat) (a0_0 : Int) (l0_1 : List Int) : Option (Int × List Int) := (laws_toInt64S.f k l0_1).bind fun t220 => (some (a0_0, t220))
set_option maxHeartbeats 8000000 in
set_option maxRecDepth 100000 in
theorem laws_toHex.calls (k : Nat) (a0_0 : Int) (A0_1 : Option Addr) (c0_1 : Nat) (l0_1 : List Int) (r1 : Int) (r2 : List Int) (w : World) (hr0_1 : Kd.C (Kd.int .i64) w A0_1 l0_1.length l0_1) (hc0_1 : l0_1.length ≤ c0_1) (h : laws_toHex.f k a0_0 l0_1 = some (r1, r2)) :
  Calls Tryd.prog 7 #[.agg #[.int .i64 a0_0,.slice A0_1 l0_1.length c0_1]] w fun e w'=>∃ v1_ : Value,e = .returned (.agg #[.int .i64 r1,v1_]) ∧ Kd.R (Kd.int .i64) 2 w' w.heap.size (fun _=>True) v1_ r2 ∧ Below w.heap.size w w':=by
 have hu24:=Tryd.underlying24
 have hu28:=Tryd.underlying28
 have HR0_1:=Aside0.mk hr0_1
 have HC0_1:=Aside0.mk hc0_1
 clear hr0_1 hc0_1
 have HB:=Aside0.mk (Below.refl w.heap.size w)
 have H : ((laws_toInt64S.f k l0_1).bind fun t220=>(some (a0_0,t220))) = some (r1,r2):=h
 clear h
 replace H:=Option.bind_eq_some_iff.mp H
 obtain ⟨t220,A20,H⟩:=H
 replace H : (some (a0_0,t220)) = some (r1,r2):=H
 have A2:=Aside0.mk A20
 clear A20
 simp only [Option.some.injEq,Prod.mk.injEq] at H
 obtain ⟨rfl,rfl⟩:=H
 go_enter Tryd.func7,Tryd.ntmps7
 go_wp2_with (first|((with_reducible refine gate_dst (N:=1) rfl ?_);refine box_event ?hg (N:=1) ?hd (cs:=#[.int .i64 a0_0,.slice A0_1 l0_1.length c0_1]) (t:=24) ?hr ?_;(case hd=>rfl);(case hg=>rfl);(case hr=>first|(go_simp;done)|(go_simp;rfl));intro gb217 hg w3 hbox hb;have n0_:=Aside0.mk (below_step (by repeat (first|(with_reducible first|exact HB.out|apply below_alloc|apply pw_below_drewN|apply below_drew1)|exact HB.out)) hb);have n1_:=Aside0.mk (hbox);have n2_:=Aside0.mk ((by rw [hg];exact (below_size (by repeat (first|(with_reducible first|exact HB.out|apply below_alloc|apply pw_below_drewN|apply below_drew1)|exact HB.out))) : w.heap.size ≤ gb217));have n3_:=Aside0.mk ((by rw [hg];exact (below_size (by repeat (first|(with_reducible first|exact HB.out|apply below_alloc|apply pw_below_drewN|apply below_drew1)|exact HB.out))) : w.heap.size ≤ gb217));clear HB;have HB:=n0_;have BK217:=n1_;have GW217:=n2_;have GE217:=n3_;clear n0_ n1_ n2_ n3_;clear hb hbox hg)|((with_reducible refine gate_dst (N:=2) rfl ?_);refine box_event ?hg (N:=2) ?hd (cs:=#[.int .i64 0,.slice none 0 0]) (t:=28) ?hr ?_;(case hd=>rfl);(case hg=>rfl);(case hr=>first|(go_simp;done)|(go_simp;rfl));intro gb218 hg w4 hbox hb;have n0_:=Aside0.mk (blk_below (g:=gb217) (o:=.cells #[.int .i64 a0_0,.slice A0_1 l0_1.length c0_1] 24 (0,0)) (by (with_reducible repeat (first|refine blk_drewN ?_ _|refine blk_drew ?_|refine blk_alloc ?_ _));exact BK217.out) hb);have n1_:=Aside0.mk (below_step (by repeat (first|(with_reducible first|exact HB.out|apply below_alloc|apply pw_below_drewN|apply below_drew1|refine below_set ?_ GE217.out)|exact HB.out)) hb);have n2_:=Aside0.mk (hbox);have n3_:=Aside0.mk ((by rw [hg];exact (below_size (by repeat (first|(with_reducible first|exact HB.out|apply below_alloc|apply pw_below_drewN|apply below_drew1|refine below_set ?_ GE217.out)|exact HB.out))) : w.heap.size ≤ gb218));have n4_:=Aside0.mk ((by rw [hg];exact (below_size (by repeat (first|(with_reducible first|exact HB.out|apply below_alloc|apply pw_below_drewN|apply below_drew1|refine below_set ?_ GE217.out)|exact HB.out))) : w.heap.size ≤ gb218));have n5_:=Aside0.mk ((by rw [hg];exact Nat.ne_of_lt (blk_lt (g:=gb217) (o:=.cells #[.int .i64 a0_0,.slice A0_1 l0_1.length c0_1] 24 (0,0)) (by (with_reducible repeat (first|refine blk_drewN ?_ _|refine blk_drew ?_|refine blk_alloc ?_ _));exact BK217.out)) : gb217 ≠ gb218));have n6_:=Aside0.mk ((by rw [hg];exact Nat.ne_of_gt (blk_lt (g:=gb217) (o:=.cells #[.int .i64 a0_0,.slice A0_1 l0_1.length c0_1] 24 (0,0)) (by (with_reducible repeat (first|refine blk_drewN ?_ _|refine blk_drew ?_|refine blk_alloc ?_ _));exact BK217.out)) : gb218 ≠ gb217));clear BK217;clear HB;have BK217:=n0_;have HB:=n1_;have BK218:=n2_;have GW218:=n3_;have GE218:=n4_;have NB217_218:=n5_;have NB218_217:=n6_;clear n0_ n1_ n2_ n3_ n4_ n5_ n6_;clear hb hbox hg)|((with_reducible refine gate_dst (N:=3) rfl ?_);refine box_event ?hg (N:=3) ?hd (cs:=#[.int .i64 0,.slice none 0 0]) (t:=28) ?hr ?_;(case hd=>rfl);(case hg=>rfl);(case hr=>first|(go_simp;done)|(go_simp;rfl));intro gb219 hg w5 hbox hb;have n0_:=Aside0.mk (blk_below (g:=gb217) (o:=.cells #[.int .i64 a0_0,.slice A0_1 l0_1.length c0_1] 24 (0,0)) (by (with_reducible repeat (first|refine blk_drewN ?_ _|refine blk_drew ?_|refine blk_alloc ?_ _));exact BK217.out) hb);have n1_:=Aside0.mk (blk_below (g:=gb218) (o:=.cells #[.int .i64 0,.slice none 0 0] 28 (0,0)) (by (with_reducible repeat (first|refine blk_drewN ?_ _|refine blk_drew ?_|refine blk_alloc ?_ _));exact BK218.out) hb);have n2_:=Aside0.mk (below_step (by repeat (first|(with_reducible first|exact HB.out|apply below_alloc|apply pw_below_drewN|apply below_drew1|refine below_set ?_ GE217.out|refine below_set ?_ GE218.out)|exact HB.out)) hb);have n3_:=Aside0.mk (hbox);have n4_:=Aside0.mk ((by rw [hg];exact (below_size (by repeat (first|(with_reducible first|exact HB.out|apply below_alloc|apply pw_below_drewN|apply below_drew1|refine below_set ?_ GE217.out|refine below_set ?_ GE218.out)|exact HB.out))) : w.heap.size ≤ gb219));have n5_:=Aside0.mk ((by rw [hg];exact (below_size (by repeat (first|(with_reducible first|exact HB.out|apply below_alloc|apply pw_below_drewN|apply below_drew1|refine below_set ?_ GE217.out|refine below_set ?_ GE218.out)|exact HB.out))) : w.heap.size ≤ gb219));have n6_:=Aside0.mk ((by rw [hg];exact Nat.ne_of_lt (blk_lt (g:=gb217) (o:=.cells #[.int .i64 a0_0,.slice A0_1 l0_1.length c0_1] 24 (0,0)) (by (with_reducible repeat (first|refine blk_drewN ?_ _|refine blk_drew ?_|refine blk_alloc ?_ _));exact BK217.out)) : gb217 ≠ gb219));have n7_:=Aside0.mk ((by rw [hg];exact Nat.ne_of_gt (blk_lt (g:=gb217) (o:=.cells #[.int .i64 a0_0,.slice A0_1 l0_1.length c0_1] 24 (0,0)) (by (with_reducible repeat (first|refine blk_drewN ?_ _|refine blk_drew ?_|refine blk_alloc ?_ _));exact BK217.out)) : gb219 ≠ gb217));have n8_:=Aside0.mk ((by rw [hg];exact Nat.ne_of_lt (blk_lt (g:=gb218) (o:=.cells #[.int .i64 0,.slice none 0 0] 28 (0,0)) (by (with_reducible repeat (first|refine blk_drewN ?_ _|refine blk_drew ?_|refine blk_alloc ?_ _));exact BK218.out)) : gb218 ≠ gb219));have n9_:=Aside0.mk ((by rw [hg];exact Nat.ne_of_gt (blk_lt (g:=gb218) (o:=.cells #[.int .i64 0,.slice none 0 0] 28 (0,0)) (by (with_reducible repeat (first|refine blk_drewN ?_ _|refine blk_drew ?_|refine blk_alloc ?_ _));exact BK218.out)) : gb219 ≠ gb218));clear BK217;clear BK218;clear HB;have BK217:=n0_;have BK218:=n1_;have HB:=n2_;have BK219:=n3_;have GW219:=n4_;have GE219:=n5_;have NB217_219:=n6_;have NB219_217:=n7_;have NB218_219:=n8_;have NB219_218:=n9_;clear n0_ n1_ n2_ n3_ n4_ n5_ n6_ n7_ n8_ n9_;clear hb hbox hg;have hnb6:=NB217_218.out;have hnc6:=NB218_217.out;have hnb7:=NB217_219.out;have hnc7:=NB219_217.out;have hcz8_0 : w5.cell? ⟨gb217,0,none⟩ = some (.int .i64 a0_0):=(blk_cell BK217.out 0).trans rfl;have hcz8_1 : w5.cell? ⟨gb217,1,none⟩ = some (.slice A0_1 l0_1.length c0_1):=(blk_cell BK217.out 1).trans rfl;have hfz8_0:=blk_frozen BK217.out 0;have hfz8_1:=blk_frozen BK217.out 1;have hnb9:=NB219_218.out;have hnc9:=NB218_219.out;have hcz10_0 : w5.cell? ⟨gb219,0,none⟩ = some (.int .i64 0):=(blk_cell BK219.out 0).trans rfl;have hcz10_1 : w5.cell? ⟨gb219,1,none⟩ = some (.slice none 0 0):=(blk_cell BK219.out 1).trans rfl;have hfz10_0:=blk_frozen BK219.out 0;have hfz10_1:=blk_frozen BK219.out 1)|((with_reducible refine gate_callee (f:=20) rfl ?_);refine goesL_ (some 9) rfl rfl Tryd.func20 (by kernel_rfl) rfl #[.slice A0_1 l0_1.length c0_1] rfl (by (try simp only [List.map_toArray,List.map_cons,List.map_nil]);first|done|rfl|(simp only [List.length_drop,List.length_take];rfl)) ?_;(with_reducible refine (laws_toInt64S.calls k _ _ l0_1 t220 _ ?side1 ?side2 A2.out).mono ?_);(case side1=>exact Kd.C_below HR0_1.out (by repeat (first|(with_reducible first|exact HB.out|apply below_alloc|apply pw_below_drewN|apply below_drew1|refine below_set ?_ GE217.out|refine below_set ?_ GE218.out|refine below_set ?_ GE219.out)|exact HB.out)));(case side2=>exact HC0_1.out);rintro e w11 ⟨v221,rfl,ho0,hb⟩;refine ⟨_,rfl,?_⟩;have n0_:=Aside0.mk (Kd.R_lower ho0 (below_size (by repeat (first|(with_reducible first|exact HB.out|apply below_alloc|apply pw_below_drewN|apply below_drew1|refine below_set ?_ GE217.out|refine below_set ?_ GE218.out|refine below_set ?_ GE219.out)|exact HB.out))));have n1_:=Aside0.mk (blk_below (g:=gb217) (o:=.cells #[.int .i64 a0_0,.slice A0_1 l0_1.length c0_1] 24 (0,0)) (by (with_reducible repeat (first|refine blk_drewN ?_ _|refine blk_drew ?_|refine blk_alloc ?_ _));refine blk_far ?_ NB217_219.out _;(with_reducible repeat (first|refine blk_drewN ?_ _|refine blk_drew ?_|refine blk_alloc ?_ _));exact BK217.out) hb);have n2_:=Aside0.mk (blk_below (g:=gb218) (o:=.cells #[.int .i64 0,.slice none 0 0] 28 (0,0)) (by (with_reducible repeat (first|refine blk_drewN ?_ _|refine blk_drew ?_|refine blk_alloc ?_ _));refine blk_far ?_ NB218_219.out _;(with_reducible repeat (first|refine blk_drewN ?_ _|refine blk_drew ?_|refine blk_alloc ?_ _));exact BK218.out) hb);have n3_:=Aside0.mk (blk_below (g:=gb219) (o:=.cells #[.int .i64 a0_0,.slice none 0 0] 28 (0,0)) (by (with_reducible repeat (first|refine blk_drewN ?_ _|refine blk_drew ?_|refine blk_alloc ?_ _));refine blk_put (cs:=#[.int .i64 0,.slice none 0 0]) ?_ 0 _ rfl;(with_reducible repeat (first|refine blk_drewN ?_ _|refine blk_drew ?_|refine blk_alloc ?_ _));exact BK219.out) hb);have n4_:=Aside0.mk (below_step (by repeat (first|(with_reducible first|exact HB.out|apply below_alloc|apply pw_below_drewN|apply below_drew1|refine below_set ?_ GE217.out|refine below_set ?_ GE218.out|refine below_set ?_ GE219.out)|exact HB.out)) hb);clear BK217;clear BK218;clear BK219;clear HB;have HO222:=n0_;have BK217:=n1_;have BK218:=n2_;have BK219:=n3_;have HB:=n4_;clear n0_ n1_ n2_ n3_ n4_;(try clear hb);(try clear hb2);(try clear hk);(try clear hi);(try clear ho0);obtain ⟨Ao12,co12,eo12⟩:=Kd.R_slice HO222.out;subst eo12;have hcz13_0 : w11.cell? ⟨gb219,0,none⟩ = some (.int .i64 a0_0):=(blk_cell BK219.out 0).trans rfl;have hcz13_1 : w11.cell? ⟨gb219,1,none⟩ = some (.slice none 0 0):=(blk_cell BK219.out 1).trans rfl;have hfz13_0:=blk_frozen BK219.out 0;have hfz13_1:=blk_frozen BK219.out 1;have hcz14_0 : w11.cell? ⟨gb218,0,none⟩ = some (.int .i64 0):=(blk_cell BK218.out 0).trans rfl;have hcz14_1 : w11.cell? ⟨gb218,1,none⟩ = some (.slice none 0 0):=(blk_cell BK218.out 1).trans rfl;have hfz14_0:=blk_frozen BK218.out 0;have hfz14_1:=blk_frozen BK218.out 1))
 refine bodyPost_ret (results_cell_row rfl _ _ gb218 28 #[.int .i64 a0_0,.slice Ao12 t220.length co12] (0,0) _ rfl (by (with_reducible repeat (first|refine blk_drewN ?_ _|refine blk_drew ?_|refine blk_alloc ?_ _));refine blk_put (cs:=#[.int .i64 a0_0,.slice none 0 0]) ?_ 1 _ rfl;(with_reducible repeat (first|refine blk_drewN ?_ _|refine blk_drew ?_|refine blk_alloc ?_ _));refine blk_put (cs:=#[.int .i64 0,.slice none 0 0]) ?_ 0 _ rfl;(with_reducible repeat (first|refine blk_drewN ?_ _|refine blk_drew ?_|refine blk_alloc ?_ _));refine blk_far ?_ NB218_219.out _;(with_reducible repeat (first|refine blk_drewN ?_ _|refine blk_drew ?_|refine blk_alloc ?_ _));exact BK218.out) Tryd.underlying28 rfl (by kernel_rfl)) rfl ?_
 exact ⟨_,by first|rfl|(simp [errW_none,errW_some] <;> rfl)|(simp [*,errW_none,errW_some] <;> rfl),by (with_reducible repeat (first|apply Kd.R_alloc|apply Kd.R_drewN|apply Kd.R_drew));exact Kd.R_mono (Kd.R_far (p:=⟨gb218,1,none⟩) (Kd.R_far (p:=⟨gb218,0,none⟩) (Kd.R_far (p:=⟨gb219,1,none⟩) (Kd.R_types (Kd.R_types HO222.out BK219.out (by decide)) BK218.out (by decide)) (fun _ hk=>hk.1.2) (.slice Ao12 t220.length co12)) (fun _ hk=>hk.2) (.int .i64 a0_0)) (fun _ hk=>hk.2) (.slice Ao12 t220.length co12)) (fun _ hk=>trivial),by repeat (first|(with_reducible first|exact HB.out|apply below_alloc|apply pw_below_drewN|apply below_drew1|refine below_set ?_ GE217.out|refine below_set ?_ GE218.out|refine below_set ?_ GE219.out)|exact HB.out)⟩

-- NOT PRINTED: function 37 (impl_chosen)

/-! ### impl_size_int64: function 38 -/
def impl_size_int64.f (l0 : List Int) : Option (Int) := some (l0.length : Int)
set_option maxHeartbeats 8000000 in
set_option maxRecDepth 100000 in
theorem impl_size_int64.calls (A0 : Option Addr) (c0 : Nat) (l0 : List Int) (r : Int) (w : World) (hr0 : Kd.C (Kd.int .i64) w A0 l0.length l0) (hc0 : l0.length ≤ c0) (h : impl_size_int64.f l0 = some r) :
  Calls Tryd.prog 38 #[.slice A0 l0.length c0] w fun e w'=>e = .returned (.int .i64 r) ∧ Drawn0 w w':=by
 have HR0:=Aside0.mk hr0
 have HC0:=Aside0.mk hc0
 clear hr0 hc0
 have H : (some (l0.length : Int)) = some r:=h
 clear h
 obtain rfl:=Option.some.inj H
 go_enter Tryd.func38,Tryd.ntmps38
 go_wp2
 go_ret
 exact ⟨by first|rfl|(simp;done)|(simp [*];done),by repeat (first|exact Drawn0.refl _|apply Drawn0.step)⟩

/-! ### impl_Hex_cells_1: function 100001 -/
def impl_Hex_cells_1.f (a0 : Int) (a1_0_0 : Int) (l1_0_1 : List Int) (a2_0_0 : Int) : Option (Bool) := if 0 ≤ a0 then (if a0 < (l1_0_1.length : Int) then (some ((rd l1_0_1 a0) == a2_0_0)) else (none)) else (none)
set_option maxHeartbeats 8000000 in
set_option maxRecDepth 100000 in
theorem impl_Hex_cells_1.calls (a0 : Int) (g1_0 : Nat) (a1_0_0 : Int) (A1_0_1 : Option Addr) (c1_0_1 : Nat) (l1_0_1 : List Int) (g2_0 : Nat) (a2_0_0 : Int) (r : Bool) (w : World) (hb1_0 : w.heap[g1_0]? = some (.cells #[.int .i64 a1_0_0, .slice A1_0_1 l1_0_1.length c1_0_1] 28 (0, 0))) (hr1_0_1 : Kd.C (Kd.int .i64) w A1_0_1 l1_0_1.length l1_0_1) (hc1_0_1 : l1_0_1.length ≤ c1_0_1) (hb2_0 : w.heap[g2_0]? = some (.cells #[.int .i64 a2_0_0] 2 (0, 0))) (h : impl_Hex_cells_1.f a0 a1_0_0 l1_0_1 a2_0_0 = some r) :
  Calls Tryd.prog 39 #[.int .i64 a0,.pointer (some ⟨g1_0,0,none⟩),.pointer (some ⟨g2_0,0,none⟩)] w fun e w'=>e = .returned (.bool r) ∧ Drawn0 w w':=by
 have HR1_0_1:=Aside0.mk hr1_0_1
 have HC1_0_1:=Aside0.mk hc1_0_1
 clear hr1_0_1 hc1_0_1
 have HBX90010:=Aside0.mk hb1_0
 clear hb1_0
 have HBX90020:=Aside0.mk hb2_0
 clear hb2_0
 have H : (if 0 ≤ a0 then (if a0 < (l1_0_1.length : Int) then (some ((rd l1_0_1 a0) == a2_0_0)) else (none)) else (none)) = some r:=h
 clear h
 by_cases c4 : 0 ≤ a0
 ·rw [if_pos c4] at H
  have c4b0 : decide (0 ≤ a0) = true:=decide_eq_true c4
  clear c4
  by_cases c5 : a0 < (l1_0_1.length : Int)
  ·rw [if_pos c5] at H
   have c5b0 : decide (a0 < (l1_0_1.length : Int)) = true:=decide_eq_true c5
   clear c5
   obtain rfl:=Option.some.inj H
   have hcz6_0 : w.cell? ⟨g1_0,0,none⟩ = some (.int .i64 a1_0_0):=(blk_cell HBX90010.out 0).trans rfl
   have hcz6_1 : w.cell? ⟨g1_0,1,none⟩ = some (.slice A1_0_1 l1_0_1.length c1_0_1):=(blk_cell HBX90010.out 1).trans rfl
   have hfz6_0:=blk_frozen HBX90010.out 0
   have hfz6_1:=blk_frozen HBX90010.out 1
   have p223 : 0 ≤ (a0 : Int):=of_decide_eq_true (by first|(with_reducible assumption)|assumption)
   have q223 : a0 < (l1_0_1.length : Int):=of_decide_eq_true (by first|(with_reducible assumption)|assumption)
   obtain ⟨ad223,e223,hx223_0⟩:=Kd.at_int HR1_0_1.out a0 p223 q223
   cases e223
   replace p223:=eq_true p223
   replace q223:=eq_true q223
   have hcz7_0 : w.cell? ⟨g2_0,0,none⟩ = some (.int .i64 a2_0_0):=(blk_cell HBX90020.out 0).trans rfl
   have hfz7_0:=blk_frozen HBX90020.out 0
   go_enter Tryd.func39,Tryd.ntmps39
   go_wp2
   repeat (go_quiet (fail);try go_wp2)
   go_ret
   exact ⟨by first|rfl|(simp;done)|(simp [*];done),by repeat (first|exact Drawn0.refl _|apply Drawn0.step)⟩
  ·rw [if_neg c5] at H
   exact absurd H (by simp)
 ·rw [if_neg c4] at H
  exact absurd H (by simp)

end Go.Proofs.YtcfdlbjngpmcaaaDoor.PAll
