-- Written by wip/pp.py of this work (a driver around the kit's print), out of the translation; Lean checks it.
import Derived.Test.YtankgbfddgpfmaaPAllx0
import Derived.Test.YtankgbfddgpfmaaPAllx19
import Derived.Test.YtankgbfddgpfmaaGJoin
namespace Go.Proofs.Ytankgbfddgpfmaa.PAll
open Go.RowKit Go.Proofs.YtankgbfddgpfmaaW.PrintWords Go.Proofs.YtankgbfddgpfmaaW.PrintLast Go.Proofs.YtankgbfddgpfmaaW.PrintMore
attribute [local go_sem] max2_int min2_int max_two min_two max_three min_three max_four min_four   -- for this text's walks alone
set_option linter.unusedVariables false
set_option linter.unusedSimpArgs false

/-! ### impl_FleetText_1: function 100006 -/
def impl_FleetText_1.f (a0 : Int) (a1_0_0 : Int) : Option (Bool) := if 0 ≤ a1_0_0 then (some ((Go.bits .and .i64 (shr .i64 a0 a1_0_0) 1) == 1)) else (none)
set_option maxHeartbeats 8000000 in
set_option maxRecDepth 100000 in
theorem impl_FleetText_1.calls (a0 : Int) (g1_0 : Nat) (a1_0_0 : Int) (r : Bool) (w : World) (hb1_0 : w.heap[g1_0]? = some (.cells #[.int .i64 a1_0_0] 2 (0, 0))) (h : impl_FleetText_1.f a0 a1_0_0 = some r) :
  Calls Try.prog 62 #[.int .i64 a0,.pointer (some ⟨g1_0,0,none⟩)] w fun e w'=>e = .returned (.bool r) ∧ Drawn0 w w':=by
 have HBX90010:=Aside0.mk hb1_0
 clear hb1_0
 have H : (if 0 ≤ a1_0_0 then (some ((Go.bits .and .i64 (shr .i64 a0 a1_0_0) 1) == 1)) else (none)) = some r:=h
 clear h
 by_cases c3 : 0 ≤ a1_0_0
 ·rw [if_pos c3] at H
  have c3b0:=eq_true c3
  have c3b1 : decide (0 ≤ a1_0_0) = true:=decide_eq_true c3
  clear c3
  obtain ⟨ji4,hji4⟩ : ∃ j_ : Int,(shr .i64 a0 a1_0_0) = j_:=⟨_,rfl⟩
  replace H : (some ((Go.bits .and .i64 (ji4) 1) == 1)) = some r:=by first|(rw [hji4] at H;exact H)|(simp only [hji4] at H ⊢;exact H)
  have hji4_ : (a0 / 2 ^ min a1_0_0.toNat 64) = ji4:=hji4
  have hji4z : a1_0_0 ≤ 64 → (a0 / 2 ^ a1_0_0.toNat) = ji4:=shr_small hji4
  obtain rfl:=Option.some.inj H
  have hcz5_0 : w.cell? ⟨g1_0,0,none⟩ = some (.int .i64 a1_0_0):=(blk_cell HBX90010.out 0).trans rfl
  have hfz5_0:=blk_frozen HBX90010.out 0
  go_enter Try.func62,Try.ntmps62
  go_wp2
  go_ret
  exact ⟨by first|rfl|(simp;done)|(simp only [← hji4] <;> (first|rfl|simp))|(simp [*];done),by repeat (first|exact Drawn0.refl _|apply Drawn0.step)⟩
 ·rw [if_neg c3] at H
  exact absurd H (by simp)

/-! ### slices_IndexFunc_int64_int64_impl_FleetText_1: function 100005 -/
def slices_IndexFunc_int64_int64_impl_FleetText_1.l0 : Nat → List Int → Int → Int → Int → Option (Int)
 | 0, _, _, _, _ => none
 | k + 1, x0, x7, x8, x90011000 => if x8 < x7 then (if 0 ≤ x8 then (if x8 < (x0.length : Int) then ((impl_FleetText_1.f (rd x0 x8) x90011000).bind fun t696 => (if t696 = true then (some x8) else (slices_IndexFunc_int64_int64_impl_FleetText_1.l0 k x0 x7 (wrap64 (x8 + 1)) x90011000))) else (none)) else (none)) else (some (-1))
def slices_IndexFunc_int64_int64_impl_FleetText_1.f (k : Nat) (l0 : List Int) (a1_0_0 : Int) : Option (Int) := slices_IndexFunc_int64_int64_impl_FleetText_1.l0 k l0 (l0.length : Int) 0 a1_0_0
set_option maxHeartbeats 8000000 in
set_option maxRecDepth 100000 in
theorem slices_IndexFunc_int64_int64_impl_FleetText_1.calls (k : Nat) (A0 : Option Addr) (c0 : Nat) (l0 : List Int) (g1_0 : Nat) (a1_0_0 : Int) (r : Int) (w : World) (hr0 : Kd.C (Kd.int .i64) w A0 l0.length l0) (hc0 : l0.length ≤ c0) (hb1_0 : w.heap[g1_0]? = some (.cells #[.int .i64 a1_0_0] 2 (0, 0))) (h : slices_IndexFunc_int64_int64_impl_FleetText_1.f k l0 a1_0_0 = some r) :
  Calls Try.prog 61 #[.slice A0 l0.length c0,.func (.func 62) #[] #[.pointer (some ⟨g1_0,0,none⟩)]] w fun e w'=>e = .returned (.int .i64 r) ∧ Drawn0 w w':=by
 have HR0:=Aside0.mk hr0
 have HC0:=Aside0.mk hc0
 clear hr0 hc0
 have HBX90010:=Aside0.mk hb1_0
 clear hb1_0
 have H : (slices_IndexFunc_int64_int64_impl_FleetText_1.l0 k l0 (l0.length : Int) 0 a1_0_0) = some r:=h
 clear h
 have H':=Aside0.mk H
 clear H
 go_enter Try.func61,Try.ntmps61
 go_wp2
 go_loopg [8] k (fun kq v8 w'=>∃ (x8_1 : Int),v8 = .int .i64 x8_1 ∧ Aside0 (slices_IndexFunc_int64_int64_impl_FleetText_1.l0 kq l0 (l0.length : Int) x8_1 a1_0_0 = some r) ∧ Aside0 (kq ≤ k) ∧ Aside0 (w'.heap[g1_0]? = some (.cells #[.int .i64 a1_0_0] 2 (0,0))) ∧ Drawn0 w w')
 case atStart=>exact ⟨(0),(by first|rfl|(simp;done)|(simp [*];done)),H',⟨Nat.le_refl _⟩,⟨by (with_reducible repeat (first|refine blk_drewN ?_ _|refine blk_drew ?_|refine blk_alloc ?_ _));exact HBX90010.out⟩,by repeat (first|exact Drawn0.refl _|apply Drawn0.step)⟩
 case round =>
  clear H'
  try clear p2
  obtain ⟨x8_1,rfl,HA,HK1,HBX90010,⟨m1,rfl⟩⟩:=hrel
  cases gk with
  | zero => exact absurd HA.out (by simp [slices_IndexFunc_int64_int64_impl_FleetText_1.l0])
  | succ k1 =>
   have H:=HA.out
   clear HA
   simp only [slices_IndexFunc_int64_int64_impl_FleetText_1.l0] at H
   by_cases c3 : x8_1 < (l0.length : Int)
   ·rw [if_pos c3] at H
    have c3b0 : decide (x8_1 < (l0.length : Int)) = true:=decide_eq_true c3
    clear c3
    by_cases c4 : 0 ≤ x8_1
    ·rw [if_pos c4] at H
     have c4b0 : decide (0 ≤ x8_1) = true:=decide_eq_true c4
     clear c4
     by_cases c5 : x8_1 < (l0.length : Int)
     ·rw [if_pos c5] at H
      have c5b0 : decide (x8_1 < (l0.length : Int)) = true:=decide_eq_true c5
      clear c5
      replace H:=Option.bind_eq_some_iff.mp H
      obtain ⟨t696,A60,H⟩:=H
      replace H : (if t696 = true then (some x8_1) else (slices_IndexFunc_int64_int64_impl_FleetText_1.l0 k1 l0 (l0.length : Int) (wrap64 (x8_1 + 1)) a1_0_0)) = some r:=H
      have A6:=Aside0.mk A60
      clear A60
      by_cases c7 : t696 = true
      ·subst c7
       have H1 : (some x8_1) = some r:=by rw [if_pos rfl] at H;exact H
       clear H
       have H:=H1
       clear H1
       obtain rfl:=Option.some.inj H
       have p695 : 0 ≤ (x8_1 : Int):=of_decide_eq_true (by first|(with_reducible assumption)|assumption)
       have q695 : x8_1 < (l0.length : Int):=of_decide_eq_true (by first|(with_reducible assumption)|assumption)
       obtain ⟨ad695,e695,hx695_0⟩:=Kd.at_int HR0.out x8_1 p695 q695
       cases e695
       replace p695:=eq_true p695
       replace q695:=eq_true q695
       go_wp2_with (first|(go_at_call 62;(with_reducible refine (impl_FleetText_1.calls (rd l0 x8_1) g1_0 a1_0_0 true _ ?side1 A6.out).mono ?_);(case side1=>(with_reducible repeat (first|refine blk_drewN ?_ _|refine blk_drew ?_|refine blk_alloc ?_ _));exact HBX90010.out);rintro e w' ⟨rfl,⟨nd,rfl⟩⟩))
       go_ret
       exact ⟨by first|rfl|(simp;done)|(simp [*];done),by repeat (first|exact Drawn0.refl _|apply Drawn0.step)⟩
      ·replace c7:=Bool.eq_false_iff.mpr c7
       subst c7
       have H1 : (slices_IndexFunc_int64_int64_impl_FleetText_1.l0 k1 l0 (l0.length : Int) (wrap64 (x8_1 + 1)) a1_0_0) = some r:=by rw [if_neg (show ¬ (false = true) by decide)] at H;exact H
       clear H
       have H:=H1
       clear H1
       have H':=Aside0.mk H
       clear H
       have p695 : 0 ≤ (x8_1 : Int):=of_decide_eq_true (by first|(with_reducible assumption)|assumption)
       have q695 : x8_1 < (l0.length : Int):=of_decide_eq_true (by first|(with_reducible assumption)|assumption)
       obtain ⟨ad695,e695,hx695_0⟩:=Kd.at_int HR0.out x8_1 p695 q695
       cases e695
       replace p695:=eq_true p695
       replace q695:=eq_true q695
       go_wp2_with (first|(go_at_call 62;(with_reducible refine (impl_FleetText_1.calls (rd l0 x8_1) g1_0 a1_0_0 false _ ?side1 A6.out).mono ?_);(case side1=>(with_reducible repeat (first|refine blk_drewN ?_ _|refine blk_drew ?_|refine blk_alloc ?_ _));exact HBX90010.out);rintro e w' ⟨rfl,⟨nd,rfl⟩⟩))
       go_roundg k1
       case measure=>have:=HK1.out;omega
       case rel=>exact ⟨(wrap64 (x8_1 + 1)),(by first|rfl|(simp;done)|(simp [*];done)),H',⟨by have:=HK1.out;omega⟩,⟨by (with_reducible repeat (first|refine blk_drewN ?_ _|refine blk_drew ?_|refine blk_alloc ?_ _));exact HBX90010.out⟩,by repeat (first|exact Drawn0.refl _|apply Drawn0.step)⟩
     ·rw [if_neg c5] at H
      exact absurd H (by simp)
    ·rw [if_neg c4] at H
     exact absurd H (by simp)
   ·rw [if_neg c3] at H
    have c3b0 : decide (x8_1 < (l0.length : Int)) = false:=decide_eq_false c3
    clear c3
    obtain rfl:=Option.some.inj H
    go_wp2
    go_ret
    exact ⟨by first|rfl|(simp;done)|(simp [*];done),by repeat (first|exact Drawn0.refl _|apply Drawn0.step)⟩

/-! ### impl_FleetText: function 34 -/
mutual
def impl_FleetText.l0 : Nat → List Int → List ByteArray → Int → Int → Int → Int → List Int → Option (ByteArray × Int)
 | 0, _, _, _, _, _, _, _ => none
 | k + 1, x1, x7, x21, x22, x698000, x698001, x698002 => if x22 < x21 then (impl_FleetText.l1 k x1 x7 x22 (([] : List Int)) x21 x22 x698000 0 x698000 x698001 x698002) else ((strings_Join.f x7 (⟨#[47]⟩ : ByteArray)).bind fun t702 => (some (t702, 0)))
def impl_FleetText.l1 : Nat → List Int → List ByteArray → Int → List Int → Int → Int → Int → Int → Int → Int → List Int → Option (ByteArray × Int)
 | 0, _, _, _, _, _, _, _, _, _, _, _ => none
 | k + 1, x1, x7, x8, x9, x21, x22, x27, x28, x698000, x698001, x698002 => if x28 < x27 then ((slices_IndexFunc_int64_int64_impl_FleetText_1.f k x1 (wrap64 ((wrap64 (x8 * x698000)) + x28))).bind fun t707 => (if 0 ≤ (wrap64 (t707 + 1)) then (if (wrap64 (t707 + 1)) < 4 then (if x9.length < 140737488355328 then (impl_FleetText.l1 k x1 x7 x8 (x9 ++ [bt (⟨#[46, 97, 98, 99]⟩ : ByteArray) (wrap64 (t707 + 1))]) x21 x22 x27 (wrap64 (x28 + 1)) x698000 x698001 x698002) else (none)) else (none)) else (none))) else (if x7.length < 8796093022208 then (impl_FleetText.l0 k x1 (x7 ++ [strOfNums x9]) x21 (wrap64 (x22 + 1)) x698000 x698001 x698002) else (none))
end
def impl_FleetText.f (k : Nat) (a0_0 : Int) (a0_1 : Int) (l0_2 : List Int) (l1 : List Int) : Option (ByteArray × Int) := (impl_fleetCode.f k a0_0 a0_1 l0_2 l1 ([] : List Int)).bind fun t698 => (if t698 = 0 then (impl_FleetText.l0 k l1 (([] : List ByteArray)) a0_1 0 a0_0 a0_1 l0_2) else (some ((⟨#[]⟩ : ByteArray), t698)))
set_option maxHeartbeats 8000000 in
set_option maxRecDepth 100000 in
theorem impl_FleetText.calls (k : Nat) (a0_0 : Int) (a0_1 : Int) (A0_2 : Option Addr) (c0_2 : Nat) (l0_2 : List Int) (A1 : Option Addr) (c1 : Nat) (l1 : List Int) (r1 : ByteArray) (r2 : Int) (w : World) (hr0_2 : Kd.C (Kd.int .i64) w A0_2 l0_2.length l0_2) (hc0_2 : l0_2.length ≤ c0_2) (hr1 : Kd.C (Kd.int .i64) w A1 l1.length l1) (hc1 : l1.length ≤ c1) (h : impl_FleetText.f k a0_0 a0_1 l0_2 l1 = some (r1, r2)) :
  Calls Try.prog 34 #[.agg #[.int .i64 a0_0,.int .i64 a0_1,.slice A0_2 l0_2.length c0_2],.slice A1 l1.length c1] w fun e w'=>e = .returned (.tuple #[.string r1,.int .i64 r2]) ∧ Below w.heap.size w w':=by
 have hu28:=Try.underlying28
 have hmf : ∀ (fn : Fn) (first cap : Array Value) (w : World),(Instr.makeFunc fn first cap).run Try.prog w = .ok (.func fn first cap) w:=fun _ _ _ _=>rfl
 have HR0_2:=Aside0.mk hr0_2
 have HC0_2:=Aside0.mk hc0_2
 clear hr0_2 hc0_2
 have HR1:=Aside0.mk hr1
 have HC1:=Aside0.mk hc1
 clear hr1 hc1
 have HB:=Aside0.mk (Below.refl w.heap.size w)
 have H : ((impl_fleetCode.f k a0_0 a0_1 l0_2 l1 ([] : List Int)).bind fun t698=>(if t698 = 0 then (impl_FleetText.l0 k l1 (([] : List ByteArray)) a0_1 0 a0_0 a0_1 l0_2) else (some ((⟨#[]⟩ : ByteArray),t698)))) = some (r1,r2):=h
 clear h
 replace H:=Option.bind_eq_some_iff.mp H
 obtain ⟨t698,A30,H⟩:=H
 replace H : (if t698 = 0 then (impl_FleetText.l0 k l1 (([] : List ByteArray)) a0_1 0 a0_0 a0_1 l0_2) else (some ((⟨#[]⟩ : ByteArray),t698))) = some (r1,r2):=H
 have A3:=Aside0.mk A30
 clear A30
 by_cases c4 : t698 = 0
 ·rw [if_pos c4] at H
  have c4b0 : (t698 == 0) = true:=beq_iff_eq.mpr c4
  have c4b1 : (t698 != 0) = false:=bne_eq_false_iff_eq.mpr c4
  clear c4
  obtain ⟨y699,hy699⟩ : ∃ y_ : List ByteArray,y_ = (([] : List ByteArray)):=⟨_,rfl⟩
  replace H : (impl_FleetText.l0 k l1 y699 a0_1 0 a0_0 a0_1 l0_2) = some (r1,r2):=by first|(rw [hy699];with_reducible exact H)|(have H2_:=(Option.bind_some _ _).symm.trans H;rw [hy699];with_reducible exact H2_)|(have H2_:=(Option.bind_some _ _).symm.trans H;with_reducible exact H2_)|with_reducible exact H|(rw [hy699];exact H)|exact H
  have Ny699:=Aside0.mk hy699
  clear hy699
  have H':=Aside0.mk H
  clear H
  go_enter Try.func34,Try.ntmps34
  go_wp2_with (first|((with_reducible refine gate_dst (N:=2) rfl ?_);refine box_event ?hg (N:=2) ?hd (cs:=#[.int .i64 a0_0,.int .i64 a0_1,.slice A0_2 l0_2.length c0_2]) (t:=28) ?hr ?_;(case hd=>rfl);(case hg=>rfl);(case hr=>first|(go_simp;done)|(go_simp;rfl));intro gb697 hg w5 hbox hb;have n0_:=Aside0.mk (below_step (by repeat (first|(with_reducible first|exact HB.out|apply below_alloc|apply pw_below_drewN|apply below_drew1)|exact HB.out)) hb);have n1_:=Aside0.mk (hbox);have n2_:=Aside0.mk ((by rw [hg];exact (below_size (by repeat (first|(with_reducible first|exact HB.out|apply below_alloc|apply pw_below_drewN|apply below_drew1)|exact HB.out))) : w.heap.size ≤ gb697));have n3_:=Aside0.mk ((by rw [hg];exact (below_size (by repeat (first|(with_reducible first|exact HB.out|apply below_alloc|apply pw_below_drewN|apply below_drew1)|exact HB.out))) : w.heap.size ≤ gb697));clear HB;have HB:=n0_;have BK697:=n1_;have GW697:=n2_;have GE697:=n3_;clear n0_ n1_ n2_ n3_;clear hb hbox hg;have hcz6_0 : w5.cell? ⟨gb697,0,none⟩ = some (.int .i64 a0_0):=(blk_cell BK697.out 0).trans rfl;have hcz6_1 : w5.cell? ⟨gb697,1,none⟩ = some (.int .i64 a0_1):=(blk_cell BK697.out 1).trans rfl;have hcz6_2 : w5.cell? ⟨gb697,2,none⟩ = some (.slice A0_2 l0_2.length c0_2):=(blk_cell BK697.out 2).trans rfl;have hfz6_0:=blk_frozen BK697.out 0;have hfz6_1:=blk_frozen BK697.out 1;have hfz6_2:=blk_frozen BK697.out 2)|((with_reducible refine gate_callee (f:=52) rfl ?_);refine goesL_ (some 15) rfl rfl Try.func52 (by kernel_rfl) rfl #[.agg #[.int .i64 a0_0,.int .i64 a0_1,.slice A0_2 l0_2.length c0_2],.slice A1 l1.length c1,.slice none 0 0] rfl (by (try simp only [List.map_toArray,List.map_cons,List.map_nil]);first|done|rfl|(simp only [List.length_drop,List.length_take];rfl)) ?_;(refine (impl_fleetCode.calls k a0_0 a0_1 _ _ l0_2 _ _ l1 _ _ ([] : List Int) t698 _ ?side1 ?side2 ?side3 ?side4 ?side5 ?side6 A3.out).mono ?_);(case side1=>repeat (first|exact (Kd.C_below HR0_2.out HB.out)|(with_reducible refine Kd.C_alloc ?_ _)|(with_reducible refine Kd.C_drewN ?_ _)|(with_reducible refine Kd.C_drew ?_)));(case side2=>exact HC0_2.out);(case side3=>repeat (first|exact (Kd.C_below HR1.out HB.out)|(with_reducible refine Kd.C_alloc ?_ _)|(with_reducible refine Kd.C_drewN ?_ _)|(with_reducible refine Kd.C_drew ?_)));(case side4=>exact HC1.out);(case side5=>exact Kd.C_nil _ _);(case side6=>exact Nat.le_refl _);rintro e w7 ⟨rfl,hb⟩;refine ⟨_,rfl,?_⟩;have n0_:=Aside0.mk (blk_below (g:=gb697) (o:=.cells #[.int .i64 a0_0,.int .i64 a0_1,.slice A0_2 l0_2.length c0_2] 28 (0,0)) (by (with_reducible repeat (first|refine blk_drewN ?_ _|refine blk_drew ?_|refine blk_alloc ?_ _));exact BK697.out) hb);have n1_:=Aside0.mk (below_step (by repeat (first|(with_reducible first|exact HB.out|apply below_alloc|apply pw_below_drewN|apply below_drew1|refine below_set ?_ GE697.out)|exact HB.out)) hb);clear BK697;clear HB;have BK697:=n0_;have HB:=n1_;clear n0_ n1_;(try clear hb);(try clear hb2);(try clear hk);(try clear hi))|((with_reducible refine gate_dst (N:=19) rfl ?_);refine Kd.R_lit Kd.string _ 9 ?hg (N:=19) ?hd (xs:=([] : List ByteArray)) (inner:=[]) (ok:=fun _=>True) (okp:=fun _=>True) ?hr ?hp (fun _ hk=>hk) trivial (Below.refl _ _) (Nat.le_refl _) (by simp) ?_;(case hd=>rfl);(case hg=>rfl);(case hr=>first|(go_simp;done)|(go_simp;rfl));(case hp=>exact (Reps.none _ _));intro v700 w8 ho9 hb hg_ hnew_;clear hg_ hnew_;(first|rw [← Ny699.out] at ho9|(simp only [Int.reduceToNat] at ho9;rw [← Ny699.out] at ho9));have n0_:=Aside0.mk (Kd.R_lower ho9 (below_size (by repeat (first|(with_reducible first|exact HB.out|apply below_alloc|apply pw_below_drewN|apply below_drew1|refine below_set ?_ GE697.out)|exact HB.out))));have n1_:=Aside0.mk (blk_below (g:=gb697) (o:=.cells #[.int .i64 a0_0,.int .i64 a0_1,.slice A0_2 l0_2.length c0_2] 28 (0,0)) (by (with_reducible repeat (first|refine blk_drewN ?_ _|refine blk_drew ?_|refine blk_alloc ?_ _));exact BK697.out) hb);have n2_:=Aside0.mk (below_step (by repeat (first|(with_reducible first|exact HB.out|apply below_alloc|apply pw_below_drewN|apply below_drew1|refine below_set ?_ GE697.out)|exact HB.out)) hb);clear BK697;clear HB;have HO701:=n0_;have BK697:=n1_;have HB:=n2_;clear n0_ n1_ n2_;clear hb ho9;have hcz10_0 : w8.cell? ⟨gb697,0,none⟩ = some (.int .i64 a0_0):=(blk_cell BK697.out 0).trans rfl;have hcz10_1 : w8.cell? ⟨gb697,1,none⟩ = some (.int .i64 a0_1):=(blk_cell BK697.out 1).trans rfl;have hcz10_2 : w8.cell? ⟨gb697,2,none⟩ = some (.slice A0_2 l0_2.length c0_2):=(blk_cell BK697.out 2).trans rfl;have hfz10_0:=blk_frozen BK697.out 0;have hfz10_1:=blk_frozen BK697.out 1;have hfz10_2:=blk_frozen BK697.out 2))
  go_loopg [7,22] k (fun kq v7 v22 w'=>∃ (x7_1 : List ByteArray) (x22_1 : Int),v22 = .int .i64 x22_1 ∧ Aside0 (impl_FleetText.l0 kq l1 x7_1 a0_1 x22_1 a0_0 a0_1 l0_2 = some (r1,r2)) ∧ Aside0 (kq ≤ k) ∧ Aside0 (Kd.R Kd.string 9 w' w.heap.size (fun _=>True) v7 x7_1) ∧ Aside0 (w'.heap[gb697]? = some (.cells #[.int .i64 a0_0,.int .i64 a0_1,(.slice A0_2 l0_2.length c0_2)] 28 (0,0))) ∧ Aside0 (Below w.heap.size w w'))
  case atStart=>exact ⟨(y699),(0),(by first|rfl|(simp;done)|(simp [*];done)),H',⟨Nat.le_refl _⟩,⟨by (with_reducible repeat (first|apply Kd.R_alloc|apply Kd.R_drewN|apply Kd.R_drew));exact HO701.out⟩,⟨by (with_reducible repeat (first|refine blk_drewN ?_ _|refine blk_drew ?_|refine blk_alloc ?_ _));exact BK697.out⟩,⟨by repeat (first|(with_reducible first|exact HB.out|apply below_alloc|apply pw_below_drewN|apply below_drew1|refine below_set ?_ GE697.out)|exact HB.out)⟩⟩
  case round =>
   clear H'
   try clear c1
   try clear p2
   try clear c3
   try clear c4
   try clear c4b0
   try clear c4b1
   try clear c5
   try clear hcz10_0
   try clear hcz10_1
   try clear hcz10_2
   try clear hcz6_0
   try clear hcz6_1
   try clear hcz6_2
   try clear hfz10_0
   try clear hfz10_1
   try clear hfz10_2
   try clear hfz6_0
   try clear hfz6_1
   try clear hfz6_2
   obtain ⟨x7_1,x22_1,rfl,HA,HK1,HO_7,BK697,HB⟩:=hrel
   cases gk with
   | zero => exact absurd HA.out (by simp [impl_FleetText.l0])
   | succ k1 =>
    have H:=HA.out
    clear HA
    simp only [impl_FleetText.l0] at H
    by_cases c11 : x22_1 < a0_1
    ·rw [if_pos c11] at H
     have c11b0 : decide (x22_1 < a0_1) = true:=decide_eq_true c11
     clear c11
     obtain ⟨y703,hy703⟩ : ∃ y_ : List Int,y_ = (([] : List Int)):=⟨_,rfl⟩
     replace H : (impl_FleetText.l1 k1 l1 x7_1 x22_1 y703 a0_1 x22_1 a0_0 0 a0_0 a0_1 l0_2) = some (r1,r2):=by first|(rw [hy703];with_reducible exact H)|(have H2_:=(Option.bind_some _ _).symm.trans H;rw [hy703];with_reducible exact H2_)|(have H2_:=(Option.bind_some _ _).symm.trans H;with_reducible exact H2_)|with_reducible exact H|(rw [hy703];exact H)|exact H
     have Ny703:=Aside0.mk hy703
     clear hy703
     have H':=Aside0.mk H
     clear H
     go_wp2_with (first|((with_reducible refine gate_dst (N:=25) rfl ?_);refine Kd.R_lit (Kd.int .u8) _ 5 ?hg (N:=25) ?hd (xs:=([] : List Int)) (inner:=[]) (ok:=fun _=>True) (okp:=fun _=>True) ?hr ?hp (fun _ hk=>hk) trivial (Below.refl _ _) (Nat.le_refl _) (by simp) ?_;(case hd=>rfl);(case hg=>rfl);(case hr=>first|(go_simp;done)|(go_simp;rfl));(case hp=>exact (Reps.none _ _));intro v704 w12 ho13 hb hg_ hnew_;clear hg_ hnew_;(first|rw [← Ny703.out] at ho13|(simp only [Int.reduceToNat] at ho13;rw [← Ny703.out] at ho13));have n0_:=Aside0.mk (Kd.R_below (by (with_reducible repeat (first|apply Kd.R_alloc|apply Kd.R_drewN|apply Kd.R_drew));exact HO_7.out) hb);have n1_:=Aside0.mk (Kd.R_lower ho13 (below_size (by repeat (first|(with_reducible first|exact HB.out|apply below_alloc|apply pw_below_drewN|apply below_drew1|refine below_set ?_ GE697.out)|exact HB.out))));have n2_:=Aside0.mk (blk_below (g:=gb697) (o:=.cells #[.int .i64 a0_0,.int .i64 a0_1,.slice A0_2 l0_2.length c0_2] 28 (0,0)) (by (with_reducible repeat (first|refine blk_drewN ?_ _|refine blk_drew ?_|refine blk_alloc ?_ _));exact BK697.out) hb);have n3_:=Aside0.mk (below_step (by repeat (first|(with_reducible first|exact HB.out|apply below_alloc|apply pw_below_drewN|apply below_drew1|refine below_set ?_ GE697.out)|exact HB.out)) hb);clear HO_7;clear BK697;clear HB;have HO_7:=n0_;have HO705:=n1_;have BK697:=n2_;have HB:=n3_;clear n0_ n1_ n2_ n3_;clear hb ho13;have hcz14_0 : w12.cell? ⟨gb697,0,none⟩ = some (.int .i64 a0_0):=(blk_cell BK697.out 0).trans rfl;have hcz14_1 : w12.cell? ⟨gb697,1,none⟩ = some (.int .i64 a0_1):=(blk_cell BK697.out 1).trans rfl;have hcz14_2 : w12.cell? ⟨gb697,2,none⟩ = some (.slice A0_2 l0_2.length c0_2):=(blk_cell BK697.out 2).trans rfl;have hfz14_0:=blk_frozen BK697.out 0;have hfz14_1:=blk_frozen BK697.out 1;have hfz14_2:=blk_frozen BK697.out 2))
     go_loopg [9,28] k1 (fun kq v9 v28 w'=>∃ (x9_2 : List Int) (x28_2 : Int),v28 = .int .i64 x28_2 ∧ Aside0 (impl_FleetText.l1 kq l1 x7_1 x22_1 x9_2 a0_1 x22_1 a0_0 x28_2 a0_0 a0_1 l0_2 = some (r1,r2)) ∧ Aside0 (kq ≤ k1) ∧ Aside0 (Kd.R Kd.string 9 w' w.heap.size (fun _=>True) u7 x7_1) ∧ Aside0 (Kd.R (Kd.int .u8) 5 w' w.heap.size (fun _=>True) v9 x9_2) ∧ Aside0 (w'.heap[gb697]? = some (.cells #[.int .i64 a0_0,.int .i64 a0_1,(.slice A0_2 l0_2.length c0_2)] 28 (0,0))) ∧ Aside0 (Below w.heap.size w w'))
     case atStart=>exact ⟨(y703),(0),(by first|rfl|(simp;done)|(simp [*];done)),H',⟨Nat.le_refl _⟩,⟨by (with_reducible repeat (first|apply Kd.R_alloc|apply Kd.R_drewN|apply Kd.R_drew));exact HO_7.out⟩,⟨by (with_reducible repeat (first|apply Kd.R_alloc|apply Kd.R_drewN|apply Kd.R_drew));exact HO705.out⟩,⟨by (with_reducible repeat (first|refine blk_drewN ?_ _|refine blk_drew ?_|refine blk_alloc ?_ _));exact BK697.out⟩,⟨by repeat (first|(with_reducible first|exact HB.out|apply below_alloc|apply pw_below_drewN|apply below_drew1|refine below_set ?_ GE697.out)|exact HB.out)⟩⟩
     case round =>
      clear H'
      try clear c1
      try clear p2
      try clear c3
      try clear c4
      try clear c4b0
      try clear c4b1
      try clear c5
      try clear c11
      try clear c11b0
      try clear hcz10_0
      try clear hcz10_1
      try clear hcz10_2
      try clear hcz14_0
      try clear hcz14_1
      try clear hcz14_2
      try clear hcz6_0
      try clear hcz6_1
      try clear hcz6_2
      try clear hfz10_0
      try clear hfz10_1
      try clear hfz10_2
      try clear hfz14_0
      try clear hfz14_1
      try clear hfz14_2
      try clear hfz6_0
      try clear hfz6_1
      try clear hfz6_2
      try clear p2
      obtain ⟨x9_2,x28_2,rfl,HA,HK2,HO_7,HO_9,BK697,HB⟩:=hrel
      cases gk with
      | zero => exact absurd HA.out (by simp [impl_FleetText.l1])
      | succ k2 =>
       have H:=HA.out
       clear HA
       simp only [impl_FleetText.l1] at H
       by_cases c15 : x28_2 < a0_0
       ·rw [if_pos c15] at H
        have c15b0 : decide (x28_2 < a0_0) = true:=decide_eq_true c15
        clear c15
        replace H:=Option.bind_eq_some_iff.mp H
        obtain ⟨t707,A160,H⟩:=H
        replace H : (if 0 ≤ (wrap64 (t707 + 1)) then (if (wrap64 (t707 + 1)) < 4 then (if x9_2.length < 140737488355328 then (impl_FleetText.l1 k2 l1 x7_1 x22_1 (x9_2 ++ [bt (⟨#[46,97,98,99]⟩ : ByteArray) (wrap64 (t707 + 1))]) a0_1 x22_1 a0_0 (wrap64 (x28_2 + 1)) a0_0 a0_1 l0_2) else (none)) else (none)) else (none)) = some (r1,r2):=H
        have A16:=Aside0.mk A160
        clear A160
        obtain ⟨ji17,hji17⟩ : ∃ j_ : Int,(wrap64 (t707 + 1)) = j_:=⟨_,rfl⟩
        replace H : (if 0 ≤ (ji17) then (if (ji17) < 4 then (if x9_2.length < 140737488355328 then (impl_FleetText.l1 k2 l1 x7_1 x22_1 (x9_2 ++ [bt (⟨#[46,97,98,99]⟩ : ByteArray) (ji17)]) a0_1 x22_1 a0_0 (wrap64 (x28_2 + 1)) a0_0 a0_1 l0_2) else (none)) else (none)) else (none)) = some (r1,r2):=by first|(rw [hji17] at H;exact H)|(simp only [hji17] at H ⊢;exact H)
        (try rw [hji17] at A16)
        have hji17w : (IntKind.i64.wrap (t707 + 1)) = ji17:=(i64_w _).trans hji17
        by_cases c18 : 0 ≤ (ji17)
        ·rw [if_pos c18] at H
         have c18b0 : decide (0 ≤ (ji17)) = true:=decide_eq_true c18
         clear c18
         by_cases c19 : (ji17) < 4
         ·rw [if_pos c19] at H
          have c19b0 : decide ((ji17) < 4) = true:=decide_eq_true c19
          clear c19
          by_cases c21 : x9_2.length < 140737488355328
          ·rw [if_pos c21] at H
           have LMc21:=Aside0.mk c21
           clear c21
           obtain ⟨y708,hy708⟩ : ∃ y_ : List Int,y_ = (x9_2 ++ [bt (⟨#[46,97,98,99]⟩ : ByteArray) (ji17)]):=⟨_,rfl⟩
           replace H : (impl_FleetText.l1 k2 l1 x7_1 x22_1 y708 a0_1 x22_1 a0_0 (wrap64 (x28_2 + 1)) a0_0 a0_1 l0_2) = some (r1,r2):=by first|(rw [hy708];with_reducible exact H)|(have H2_:=(Option.bind_some _ _).symm.trans H;rw [hy708];with_reducible exact H2_)|(have H2_:=(Option.bind_some _ _).symm.trans H;with_reducible exact H2_)|with_reducible exact H|(rw [hy708];exact H)|exact H
           have Ny708:=Aside0.mk hy708
           clear hy708
           have H':=Aside0.mk H
           clear H
           have hcz22_0 : wr.cell? ⟨gb697,0,none⟩ = some (.int .i64 a0_0):=(blk_cell BK697.out 0).trans rfl
           have hcz22_1 : wr.cell? ⟨gb697,1,none⟩ = some (.int .i64 a0_1):=(blk_cell BK697.out 1).trans rfl
           have hcz22_2 : wr.cell? ⟨gb697,2,none⟩ = some (.slice A0_2 l0_2.length c0_2):=(blk_cell BK697.out 2).trans rfl
           have hfz22_0:=blk_frozen BK697.out 0
           have hfz22_1:=blk_frozen BK697.out 1
           have hfz22_2:=blk_frozen BK697.out 2
           go_wp2_with (first|((with_reducible refine gate_dst (N:=11) rfl ?_);refine box_event ?hg (N:=11) ?hd (cs:=#[.int .i64 0]) (t:=2) ?hr ?_;(case hd=>rfl);(case hg=>rfl);(case hr=>first|(go_simp;done)|(go_simp;rfl));intro gb706 hg w23 hbox hb;have n0_:=Aside0.mk (Kd.R_below (by (with_reducible repeat (first|apply Kd.R_alloc|apply Kd.R_drewN|apply Kd.R_drew));exact HO_7.out) hb);have n1_:=Aside0.mk (Kd.R_below (by (with_reducible repeat (first|apply Kd.R_alloc|apply Kd.R_drewN|apply Kd.R_drew));exact HO_9.out) hb);have n2_:=Aside0.mk (blk_below (g:=gb697) (o:=.cells #[.int .i64 a0_0,.int .i64 a0_1,.slice A0_2 l0_2.length c0_2] 28 (0,0)) (by (with_reducible repeat (first|refine blk_drewN ?_ _|refine blk_drew ?_|refine blk_alloc ?_ _));exact BK697.out) hb);have n3_:=Aside0.mk (below_step (by repeat (first|(with_reducible first|exact HB.out|apply below_alloc|apply pw_below_drewN|apply below_drew1|refine below_set ?_ GE697.out)|exact HB.out)) hb);have n4_:=Aside0.mk (hbox);have n5_:=Aside0.mk ((by rw [hg];exact (below_size (by repeat (first|(with_reducible first|exact HB.out|apply below_alloc|apply pw_below_drewN|apply below_drew1|refine below_set ?_ GE697.out)|exact HB.out))) : w.heap.size ≤ gb706));have n6_:=Aside0.mk ((by rw [hg];exact (below_size (by repeat (first|(with_reducible first|exact HB.out|apply below_alloc|apply pw_below_drewN|apply below_drew1|refine below_set ?_ GE697.out)|exact HB.out))) : w.heap.size ≤ gb706));have n7_:=Aside0.mk ((by rw [hg];exact Nat.ne_of_lt (blk_lt (g:=gb697) (o:=.cells #[.int .i64 a0_0,.int .i64 a0_1,.slice A0_2 l0_2.length c0_2] 28 (0,0)) (by (with_reducible repeat (first|refine blk_drewN ?_ _|refine blk_drew ?_|refine blk_alloc ?_ _));exact BK697.out)) : gb697 ≠ gb706));have n8_:=Aside0.mk ((by rw [hg];exact Nat.ne_of_gt (blk_lt (g:=gb697) (o:=.cells #[.int .i64 a0_0,.int .i64 a0_1,.slice A0_2 l0_2.length c0_2] 28 (0,0)) (by (with_reducible repeat (first|refine blk_drewN ?_ _|refine blk_drew ?_|refine blk_alloc ?_ _));exact BK697.out)) : gb706 ≠ gb697));clear HO_7;clear HO_9;clear BK697;clear HB;have HO_7:=n0_;have HO_9:=n1_;have BK697:=n2_;have HB:=n3_;have BK706:=n4_;have GW706:=n5_;have GE706:=n6_;have NB697_706:=n7_;have NB706_697:=n8_;clear n0_ n1_ n2_ n3_ n4_ n5_ n6_ n7_ n8_;clear hb hbox hg;have hnb24:=NB706_697.out;have hnc24:=NB697_706.out;have hcz25_0 : w23.cell? ⟨gb706,0,none⟩ = some (.int .i64 0):=(blk_cell BK706.out 0).trans rfl;have hfz25_0:=blk_frozen BK706.out 0)|((with_reducible refine gate_callee (f:=61) rfl ?_);refine goesL_ (some 39) rfl rfl Try.func61 (by kernel_rfl) rfl #[.slice A1 l1.length c1,.func (.func 62) #[] #[.pointer (some ⟨gb706,0,none⟩)]] rfl (by (try simp only [List.map_toArray,List.map_cons,List.map_nil]);first|done|rfl|(simp only [List.length_drop,List.length_take];rfl)) ?_;(with_reducible refine (slices_IndexFunc_int64_int64_impl_FleetText_1.calls k2 _ _ l1 gb706 (wrap64 ((wrap64 (x22_1 * a0_0)) + x28_2)) t707 _ ?side1 ?side2 ?side3 A16.out).mono ?_);(case side1=>exact Kd.C_below HR1.out (by repeat (first|(with_reducible first|exact HB.out|apply below_alloc|apply pw_below_drewN|apply below_drew1|refine below_set ?_ GE697.out|refine below_set ?_ GE706.out)|exact HB.out)));(case side2=>exact HC1.out);(case side3=>(with_reducible repeat (first|refine blk_drewN ?_ _|refine blk_drew ?_|refine blk_alloc ?_ _));refine blk_put (cs:=#[.int .i64 0]) ?_ 0 _ rfl;(with_reducible repeat (first|refine blk_drewN ?_ _|refine blk_drew ?_|refine blk_alloc ?_ _));exact BK706.out);rintro e w' ⟨rfl,⟨nd,rfl⟩⟩;refine ⟨_,rfl,?_⟩;have p20 : 0 ≤ ((ji17) : Int):=of_decide_eq_true (by first|(with_reducible assumption)|assumption);have q20 : (ji17) < (4 : Int):=of_decide_eq_true (by first|(with_reducible assumption)|assumption);have hx20:=bt_at (⟨#[46,97,98,99]⟩ : ByteArray) (ji17);replace p20:=eq_true p20;replace q20:=eq_true q20)|((with_reducible refine gate_builtin (b:=.append) (xs:=#[.tmp 40,.tmp 44]) rfl ?_);at_builtin;refine Kd.R_append (Kd.int .u8) (w0:=w) w.heap.size rfl (.tmp 40) (.tmp 44) 74 5 (.int .u8 0) 1 rfl Try.underlying74 info5 rfl (by decide) (by omega) u9 x9_2 (bt (⟨#[46,97,98,99]⟩ : ByteArray) (ji17)) [.int .u8 (bt (⟨#[46,97,98,99]⟩ : ByteArray) (ji17))] (fun _=>True) (fun _=>False) rfl (by first|(go_simp;done)|(go_simp;rfl)) ?aP (fun _ hk=>hk.elim) ?aF ?aO ?aB ?aS ?aL ?_;(case aP=>exact rfl);(case aB=>exact (by repeat (first|(with_reducible first|exact HB.out|apply below_alloc|apply pw_below_drewN|apply below_drew1|refine below_set ?_ GE697.out|refine below_set ?_ GE706.out)|exact HB.out)));(case aF=>exact (fun _ _=>trivial));(case aO=>exact (by (with_reducible repeat (first|apply Kd.R_alloc|apply Kd.R_drewN|apply Kd.R_drew));exact Kd.R_mono (Kd.R_far (p:=⟨gb706,0,none⟩) (Kd.R_types HO_9.out BK706.out (by decide)) (fun _ hk=>hk.2) (.int .i64 (wrap64 ((wrap64 (x22_1 * a0_0)) + x28_2)))) (fun _ hk=>trivial)));(case aS=>exact (below_size (by repeat (first|(with_reducible first|exact HB.out|apply below_alloc|apply pw_below_drewN|apply below_drew1|refine below_set ?_ GE697.out|refine below_set ?_ GE706.out)|exact HB.out))));(case aL=>have:=LMc21.out;omega);intro v709 w26 ho hb hg hat;rw [← Ny708.out] at ho;have n0_:=Aside0.mk (Kd.R_over' (by (with_reducible repeat (first|apply Kd.R_alloc|apply Kd.R_drewN|apply Kd.R_drew));exact (Kd.R_mono (Kd.R_far (p:=⟨gb706,0,none⟩) (Kd.R_types HO_7.out BK706.out (by decide)) (fun _ hk=>hk.2) (.int .i64 (wrap64 ((wrap64 (x22_1 * a0_0)) + x28_2)))) (fun _ h_=>h_.1))) (Kd.R_typed (by (with_reducible repeat (first|apply Kd.R_alloc|apply Kd.R_drewN|apply Kd.R_drew));exact (Kd.R_mono (Kd.R_far (p:=⟨gb706,0,none⟩) (Kd.R_types HO_9.out BK706.out (by decide)) (fun _ hk=>hk.2) (.int .i64 (wrap64 ((wrap64 (x22_1 * a0_0)) + x28_2)))) (fun _ h_=>h_.1)))) (by decide) hg);have n1_:=Aside0.mk (blk_grown (g:=gb697) (o:=.cells #[.int .i64 a0_0,.int .i64 a0_1,.slice A0_2 l0_2.length c0_2] 28 (0,0)) (by (with_reducible repeat (first|refine blk_drewN ?_ _|refine blk_drew ?_|refine blk_alloc ?_ _));refine blk_far ?_ NB697_706.out _;(with_reducible repeat (first|refine blk_drewN ?_ _|refine blk_drew ?_|refine blk_alloc ?_ _));exact BK697.out) hg (Kd.R_ne HO_9.out BK697.out (by decide)));have n2_:=Aside0.mk (blk_grown (g:=gb706) (o:=.cells #[.int .i64 (wrap64 ((wrap64 (x22_1 * a0_0)) + x28_2))] 2 (0,0)) (by (with_reducible repeat (first|refine blk_drewN ?_ _|refine blk_drew ?_|refine blk_alloc ?_ _));refine blk_put (cs:=#[.int .i64 0]) ?_ 0 _ rfl;(with_reducible repeat (first|refine blk_drewN ?_ _|refine blk_drew ?_|refine blk_alloc ?_ _));exact BK706.out) hg (Kd.R_ne HO_9.out BK706.out (by decide)));have n3_:=Aside0.mk (hb);have n4_:=Aside0.mk (ho);clear HO_7;clear BK697;clear BK706;clear HB;clear HO_9;have HO_7:=n0_;have BK697:=n1_;have BK706:=n2_;have HB:=n3_;have HO710:=n4_;clear n0_ n1_ n2_ n3_ n4_;clear ho hb hg hat))
           go_roundg k2
           case measure=>have:=HK1.out;have:=HK2.out;omega
           case rel=>exact ⟨(y708),(wrap64 (x28_2 + 1)),(by first|rfl|(simp;done)|(simp [*];done)),H',⟨by have:=HK1.out;have:=HK2.out;omega⟩,⟨by (with_reducible repeat (first|apply Kd.R_alloc|apply Kd.R_drewN|apply Kd.R_drew));exact HO_7.out⟩,⟨by (with_reducible repeat (first|apply Kd.R_alloc|apply Kd.R_drewN|apply Kd.R_drew));exact HO710.out⟩,⟨by (with_reducible repeat (first|refine blk_drewN ?_ _|refine blk_drew ?_|refine blk_alloc ?_ _));exact BK697.out⟩,⟨by repeat (first|(with_reducible first|exact HB.out|apply below_alloc|apply pw_below_drewN|apply below_drew1|refine below_set ?_ GE697.out|refine below_set ?_ GE706.out)|exact HB.out)⟩⟩
          ·rw [if_neg c21] at H
           exact absurd H (by simp)
         ·rw [if_neg c19] at H
          exact absurd H (by simp)
        ·rw [if_neg c18] at H
         exact absurd H (by simp)
       ·rw [if_neg c15] at H
        have c15b0 : decide (x28_2 < a0_0) = false:=decide_eq_false c15
        clear c15
        by_cases c27 : x7_1.length < 8796093022208
        ·rw [if_pos c27] at H
         have LMc27:=Aside0.mk c27
         clear c27
         obtain ⟨y711,hy711⟩ : ∃ y_ : List ByteArray,y_ = (x7_1 ++ [strOfNums x9_2]):=⟨_,rfl⟩
         replace H : (impl_FleetText.l0 k2 l1 y711 a0_1 (wrap64 (x22_1 + 1)) a0_0 a0_1 l0_2) = some (r1,r2):=by first|(rw [hy711];with_reducible exact H)|(have H2_:=(Option.bind_some _ _).symm.trans H;rw [hy711];with_reducible exact H2_)|(have H2_:=(Option.bind_some _ _).symm.trans H;with_reducible exact H2_)|with_reducible exact H|(rw [hy711];exact H)|exact H
         have Ny711:=Aside0.mk hy711
         clear hy711
         have H':=Aside0.mk H
         clear H
         have hcv28:=own_string (P:=Try.prog) Try.underlying74 Try.underlying5 Try.underlying9 (Kd.own_of_R HO_9.out)
         go_wp2_with (first|((with_reducible refine gate_builtin (b:=.append) (xs:=#[.tmp 47,.tmp 50]) rfl ?_);at_builtin;refine Kd.R_append Kd.string (w0:=w) w.heap.size rfl (.tmp 47) (.tmp 50) 73 9 (.string ⟨#[]⟩) 16 rfl Try.underlying73 info9 rfl (by decide) (by omega) u7 x7_1 (strOfNums x9_2) [.string (strOfNums x9_2)] (fun _=>True) (fun _=>False) rfl rfl ?aP (fun _ hk=>hk.elim) ?aF ?aO ?aB ?aS ?aL ?_;(case aP=>exact rfl);(case aB=>exact (by repeat (first|(with_reducible first|exact HB.out|apply below_alloc|apply pw_below_drewN|apply below_drew1|refine below_set ?_ GE697.out)|exact HB.out)));(case aF=>exact (fun _ _=>trivial));(case aO=>exact (by (with_reducible repeat (first|apply Kd.R_alloc|apply Kd.R_drewN|apply Kd.R_drew));exact HO_7.out));(case aS=>exact (below_size (by repeat (first|(with_reducible first|exact HB.out|apply below_alloc|apply pw_below_drewN|apply below_drew1|refine below_set ?_ GE697.out)|exact HB.out))));(case aL=>have:=LMc27.out;omega);intro v712 w29 ho hb hg hat;rw [← Ny711.out] at ho;have n0_:=Aside0.mk (Kd.R_over' (by (with_reducible repeat (first|apply Kd.R_alloc|apply Kd.R_drewN|apply Kd.R_drew));exact HO_9.out) (Kd.R_typed (by (with_reducible repeat (first|apply Kd.R_alloc|apply Kd.R_drewN|apply Kd.R_drew));exact HO_7.out)) (by decide) hg);have n1_:=Aside0.mk (blk_grown (g:=gb697) (o:=.cells #[.int .i64 a0_0,.int .i64 a0_1,.slice A0_2 l0_2.length c0_2] 28 (0,0)) (by (with_reducible repeat (first|refine blk_drewN ?_ _|refine blk_drew ?_|refine blk_alloc ?_ _));exact BK697.out) hg (Kd.R_ne HO_7.out BK697.out (by decide)));have n2_:=Aside0.mk (hb);have n3_:=Aside0.mk (ho);clear HO_9;clear BK697;clear HB;clear HO_7;have HO_9:=n0_;have BK697:=n1_;have HB:=n2_;have HO713:=n3_;clear n0_ n1_ n2_ n3_;clear ho hb hg hat))
         go_roundg k2
         case measure=>have:=HK1.out;have:=HK2.out;omega
         case rel=>exact ⟨(y711),(wrap64 (x22_1 + 1)),(by first|rfl|(simp;done)|(simp [*];done)),H',⟨by have:=HK1.out;have:=HK2.out;omega⟩,⟨by (with_reducible repeat (first|apply Kd.R_alloc|apply Kd.R_drewN|apply Kd.R_drew));exact HO713.out⟩,⟨by (with_reducible repeat (first|refine blk_drewN ?_ _|refine blk_drew ?_|refine blk_alloc ?_ _));exact BK697.out⟩,⟨by repeat (first|(with_reducible first|exact HB.out|apply below_alloc|apply pw_below_drewN|apply below_drew1|refine below_set ?_ GE697.out)|exact HB.out)⟩⟩
        ·rw [if_neg c27] at H
         exact absurd H (by simp)
    ·rw [if_neg c11] at H
     have c11b0 : decide (x22_1 < a0_1) = false:=decide_eq_false c11
     clear c11
     replace H:=Option.bind_eq_some_iff.mp H
     obtain ⟨t702,A300,H⟩:=H
     replace H : (some (t702,0)) = some (r1,r2):=H
     have A30:=Aside0.mk A300
     clear A300
     simp only [Option.some.injEq,Prod.mk.injEq] at H
     obtain ⟨rfl,rfl⟩:=H
     obtain ⟨Ao31,co31,eo31⟩:=Kd.R_slice HO_7.out
     subst eo31
     go_wp2_with (first|((with_reducible refine gate_callee (f:=63) rfl ?_);refine goesL_ (some 54) rfl rfl Try.func63 (by kernel_rfl) rfl #[.slice Ao31 x7_1.length co31,.string (⟨#[47]⟩ : ByteArray)] rfl (by (try simp only [List.map_toArray,List.map_cons,List.map_nil]);first|done|rfl|(simp only [List.length_drop,List.length_take];rfl)) ?_;(with_reducible refine (strings_Join.calls _ _ x7_1 (⟨#[47]⟩ : ByteArray) t702 _ ?side1 ?side2 A30.out).mono ?_);(case side1=>repeat (first|exact (Kd.R_reads' HO_7.out).2.2|(with_reducible refine Kd.C_alloc ?_ _)|(with_reducible refine Kd.C_drewN ?_ _)|(with_reducible refine Kd.C_drew ?_)));(case side2=>exact (Kd.R_reads' HO_7.out).2.1);rintro e w32 ⟨rfl,hb⟩;refine ⟨_,rfl,?_⟩;have n0_:=Aside0.mk (Kd.R_below (by (with_reducible repeat (first|apply Kd.R_alloc|apply Kd.R_drewN|apply Kd.R_drew));exact HO_7.out) hb);have n1_:=Aside0.mk (blk_below (g:=gb697) (o:=.cells #[.int .i64 a0_0,.int .i64 a0_1,.slice A0_2 l0_2.length c0_2] 28 (0,0)) (by (with_reducible repeat (first|refine blk_drewN ?_ _|refine blk_drew ?_|refine blk_alloc ?_ _));exact BK697.out) hb);have n2_:=Aside0.mk (below_step (by repeat (first|(with_reducible first|exact HB.out|apply below_alloc|apply pw_below_drewN|apply below_drew1|refine below_set ?_ GE697.out)|exact HB.out)) hb);clear HO_7;clear BK697;clear HB;have HO_7:=n0_;have BK697:=n1_;have HB:=n2_;clear n0_ n1_ n2_;(try clear hb);(try clear hb2);(try clear hk);(try clear hi)))
     go_ret2
     exact ⟨by first|rfl|(simp [errW_none,errW_some] <;> rfl)|(simp [*,errW_none,errW_some] <;> rfl),by repeat (first|(with_reducible first|exact HB.out|apply below_alloc|apply pw_below_drewN|apply below_drew1|refine below_set ?_ GE697.out)|exact HB.out)⟩
 ·rw [if_neg c4] at H
  have c4b0 : (t698 == 0) = false:=beq_eq_false_iff_ne.mpr c4
  have c4b1 : (t698 != 0) = true:=bne_iff_ne.mpr c4
  simp only [Option.some.injEq,Prod.mk.injEq] at H
  obtain ⟨rfl,rfl⟩:=H
  go_enter Try.func34,Try.ntmps34
  go_wp2_with (first|((with_reducible refine gate_dst (N:=2) rfl ?_);refine box_event ?hg (N:=2) ?hd (cs:=#[.int .i64 a0_0,.int .i64 a0_1,.slice A0_2 l0_2.length c0_2]) (t:=28) ?hr ?_;(case hd=>rfl);(case hg=>rfl);(case hr=>first|(go_simp;done)|(go_simp;rfl));intro gb697 hg w33 hbox hb;have n0_:=Aside0.mk (below_step (by repeat (first|(with_reducible first|exact HB.out|apply below_alloc|apply pw_below_drewN|apply below_drew1)|exact HB.out)) hb);have n1_:=Aside0.mk (hbox);have n2_:=Aside0.mk ((by rw [hg];exact (below_size (by repeat (first|(with_reducible first|exact HB.out|apply below_alloc|apply pw_below_drewN|apply below_drew1)|exact HB.out))) : w.heap.size ≤ gb697));have n3_:=Aside0.mk ((by rw [hg];exact (below_size (by repeat (first|(with_reducible first|exact HB.out|apply below_alloc|apply pw_below_drewN|apply below_drew1)|exact HB.out))) : w.heap.size ≤ gb697));clear HB;have HB:=n0_;have BK697:=n1_;have GW697:=n2_;have GE697:=n3_;clear n0_ n1_ n2_ n3_;clear hb hbox hg;have hcz34_0 : w33.cell? ⟨gb697,0,none⟩ = some (.int .i64 a0_0):=(blk_cell BK697.out 0).trans rfl;have hcz34_1 : w33.cell? ⟨gb697,1,none⟩ = some (.int .i64 a0_1):=(blk_cell BK697.out 1).trans rfl;have hcz34_2 : w33.cell? ⟨gb697,2,none⟩ = some (.slice A0_2 l0_2.length c0_2):=(blk_cell BK697.out 2).trans rfl;have hfz34_0:=blk_frozen BK697.out 0;have hfz34_1:=blk_frozen BK697.out 1;have hfz34_2:=blk_frozen BK697.out 2)|((with_reducible refine gate_callee (f:=52) rfl ?_);refine goesL_ (some 15) rfl rfl Try.func52 (by kernel_rfl) rfl #[.agg #[.int .i64 a0_0,.int .i64 a0_1,.slice A0_2 l0_2.length c0_2],.slice A1 l1.length c1,.slice none 0 0] rfl (by (try simp only [List.map_toArray,List.map_cons,List.map_nil]);first|done|rfl|(simp only [List.length_drop,List.length_take];rfl)) ?_;(refine (impl_fleetCode.calls k a0_0 a0_1 _ _ l0_2 _ _ l1 _ _ ([] : List Int) t698 _ ?side1 ?side2 ?side3 ?side4 ?side5 ?side6 A3.out).mono ?_);(case side1=>repeat (first|exact (Kd.C_below HR0_2.out HB.out)|(with_reducible refine Kd.C_alloc ?_ _)|(with_reducible refine Kd.C_drewN ?_ _)|(with_reducible refine Kd.C_drew ?_)));(case side2=>exact HC0_2.out);(case side3=>repeat (first|exact (Kd.C_below HR1.out HB.out)|(with_reducible refine Kd.C_alloc ?_ _)|(with_reducible refine Kd.C_drewN ?_ _)|(with_reducible refine Kd.C_drew ?_)));(case side4=>exact HC1.out);(case side5=>exact Kd.C_nil _ _);(case side6=>exact Nat.le_refl _);rintro e w35 ⟨rfl,hb⟩;refine ⟨_,rfl,?_⟩;have n0_:=Aside0.mk (blk_below (g:=gb697) (o:=.cells #[.int .i64 a0_0,.int .i64 a0_1,.slice A0_2 l0_2.length c0_2] 28 (0,0)) (by (with_reducible repeat (first|refine blk_drewN ?_ _|refine blk_drew ?_|refine blk_alloc ?_ _));exact BK697.out) hb);have n1_:=Aside0.mk (below_step (by repeat (first|(with_reducible first|exact HB.out|apply below_alloc|apply pw_below_drewN|apply below_drew1|refine below_set ?_ GE697.out)|exact HB.out)) hb);clear BK697;clear HB;have BK697:=n0_;have HB:=n1_;clear n0_ n1_;(try clear hb);(try clear hb2);(try clear hk);(try clear hi)))
  go_ret2
  exact ⟨by first|rfl|(simp [errW_none,errW_some] <;> rfl)|(simp [*,errW_none,errW_some] <;> rfl),by repeat (first|(with_reducible first|exact HB.out|apply below_alloc|apply pw_below_drewN|apply below_drew1|refine below_set ?_ GE697.out)|exact HB.out)⟩

end Go.Proofs.Ytankgbfddgpfmaa.PAll
