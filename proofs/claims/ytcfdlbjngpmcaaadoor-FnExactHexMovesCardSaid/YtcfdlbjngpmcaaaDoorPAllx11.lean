-- Written by wip/pp.py of this work (a driver around the kit's print), out of the translation; Lean checks it.
import Derived.Test.YtcfdlbjngpmcaaaDoorPAllx0
import Derived.Test.YtcfdlbjngpmcaaaDoorPAllx5
namespace Go.Proofs.YtcfdlbjngpmcaaaDoor.PAll
open Go.RowKit Go.Proofs.YtcfdlbjngpmcaaaDoorW.PrintWords Go.Proofs.YtcfdlbjngpmcaaaDoorW.PrintLast Go.Proofs.YtcfdlbjngpmcaaaDoorW.PrintMore
attribute [local go_sem] max2_int min2_int max_two min_two max_three min_three max_four min_four   -- for this text's walks alone
set_option linter.unusedVariables false
set_option linter.unusedSimpArgs false

/-! ### impl_near: function 100005 -/
def impl_near.l0 : Nat → Int → Int → Int → List Int → List (S81) → Int → Int → Option (List Int)
 | 0, _, _, _, _, _, _, _ => none
 | k + 1, x0, x5, x6, x7, x23, x24, x25 => if x25 < x24 then (if 0 ≤ x25 then (if x25 < (x23.length : Int) then ((impl_within.f (wrap64 (x5 + ((rd_T81 x23 x25).f0))) 0 (wrap64 (x0 - 1))).bind fun t364 => (if t364 = true then ((impl_within.f (wrap64 (x6 + ((rd_T81 x23 x25).f1))) 0 (wrap64 (x0 - 1))).bind fun t365 => (if t365 = true then (if x7.length < 17592186044416 then (impl_near.l0 k x0 x5 x6 (x7 ++ [wrap64 ((wrap64 ((wrap64 ((wrap64 (x5 + ((rd_T81 x23 x25).f0))) * x0)) + x6)) + ((rd_T81 x23 x25).f1))]) x23 x24 (wrap64 (x25 + 1))) else (none)) else (impl_near.l0 k x0 x5 x6 x7 x23 x24 (wrap64 (x25 + 1))))) else (impl_near.l0 k x0 x5 x6 x7 x23 x24 (wrap64 (x25 + 1))))) else (none)) else (none)) else (some x7)
def impl_near.f (k : Nat) (a0 : Int) (a1 : Int) : Option (List Int) := if a0 = 0 then (none) else ((some (([(⟨(-1), 0⟩ : S81), (⟨(-1), 1⟩ : S81), (⟨0, (-1)⟩ : S81), (⟨0, 1⟩ : S81), (⟨1, (-1)⟩ : S81), (⟨1, 0⟩ : S81)] : List (S81)) : List (S81))).bind fun y359 => (impl_near.l0 k a0 (wrap64 (Int.tdiv a1 a0)) (Int.tmod a1 a0) (([] : List Int)) y359 (y359.length : Int) 0))
theorem impl_near.mono_l : ∀ k, (∀ y0 y1 y2 y3 y4 y5 y6, LeO (impl_near.l0 k y0 y1 y2 y3 y4 y5 y6) (impl_near.l0 (k + 1) y0 y1 y2 y3 y4 y5 y6))
 | 0 => fun _ _ _ _ _ _ _ r h => by simp [impl_near.l0] at h
 | k + 1 => by
  have ih0:=impl_near.mono_l k
  ·intro y0 y1 y2 y3 y4 y5 y6
   unfold impl_near.l0
   repeat' first
   | (with_reducible exact ih0 _ _ _ _ _ _ _)
   | (with_reducible exact LeO.refl _)
   | (with_reducible exact LeO.none _)
   | (with_reducible refine LeO.ite ?_ ?_)
   | (with_reducible refine LeO.bind ?_ (fun _ => ?_))
   | exact ih0 _ _ _ _ _ _ _
   | exact LeO.none _
   | refine LeO.ite ?_ ?_
   | refine LeO.bind ?_ (fun _ => ?_)
theorem impl_near.mono : ∀ a0 a1 k, LeO (impl_near.f k a0 a1) (impl_near.f (k + 1) a0 a1) := by
 intro a0 a1 k
 have ih0:=impl_near.mono_l k
 unfold impl_near.f
 repeat' first
   | (with_reducible exact ih0 _ _ _ _ _ _ _)
   | (with_reducible exact LeO.refl _)
   | (with_reducible exact LeO.none _)
   | (with_reducible refine LeO.ite ?_ ?_)
   | (with_reducible refine LeO.bind ?_ (fun _ => ?_))
   | exact ih0 _ _ _ _ _ _ _
   | exact LeO.none _
   | refine LeO.ite ?_ ?_
   | refine LeO.bind ?_ (fun _ => ?_)
def impl_near.T1 : Bool × List (List Nat × List Nat) := (true, [([], []), ([], []), ([0, 1], [0, 1]), ([], []), ([], []), ([3, 4], [3, 4]), ([], []), ([2, 0, 1, 2], [2]), ([5, 7, 0, 1, 2, 3, 4, 5, 7], [5]), ([6, 8, 0, 1, 2, 3, 4, 5, 6, 7, 8], [6])])
def impl_near.B1 : List Nat := [0, 0, 3, 0, 0, 24, 0, 7, 191, 511]
theorem impl_near.tab1 : rtab .any (opsOf Tryd.f59 1) = impl_near.T1 := by kernel_rfl
theorem impl_near.bits1 : waitsOk impl_near.T1.2 impl_near.B1 = true := by kernel_rfl
set_option maxHeartbeats 8000000 in
set_option maxRecDepth 100000 in
theorem impl_near.calls (k : Nat) (a0 : Int) (a1 : Int) (r : List Int) (w : World) (h : impl_near.f k a0 a1 = some r) :
  Calls Tryd.prog 59 #[.int .i64 a0,.int .i64 a1] w fun e w'=>∃ v0_ : Value,e = .returned (v0_) ∧ Kd.R (Kd.int .i64) 2 w' w.heap.size (fun _=>True) v0_ r ∧ Below w.heap.size w w':=by
 have hu81:=Tryd.underlying81
 have HB:=Aside0.mk (Below.refl w.heap.size w)
 have H : (if a0 = 0 then (none) else ((some (([(⟨(-1),0⟩ : S81),(⟨(-1),1⟩ : S81),(⟨0,(-1)⟩ : S81),(⟨0,1⟩ : S81),(⟨1,(-1)⟩ : S81),(⟨1,0⟩ : S81)] : List (S81)) : List (S81))).bind fun y359=>(impl_near.l0 k a0 (wrap64 (Int.tdiv a1 a0)) (Int.tmod a1 a0) (([] : List Int)) y359 (y359.length : Int) 0))) = some r:=h
 clear h
 by_cases c3 : a0 = 0
 ·rw [if_pos c3] at H
  exact absurd H (by simp)
 ·rw [if_neg c3] at H
  have c3b0 : (a0 == 0) = false:=beq_eq_false_iff_ne.mpr c3
  have c3b1 : (a0 != 0) = true:=bne_iff_ne.mpr c3
  obtain ⟨y356,hy356⟩ : ∃ y_ : List Int,y_ = (([] : List Int)):=⟨_,rfl⟩
  replace H : ((some (([(⟨(-1),0⟩ : S81),(⟨(-1),1⟩ : S81),(⟨0,(-1)⟩ : S81),(⟨0,1⟩ : S81),(⟨1,(-1)⟩ : S81),(⟨1,0⟩ : S81)] : List (S81)) : List (S81))).bind fun y359=>(impl_near.l0 k a0 (wrap64 (Int.tdiv a1 a0)) (Int.tmod a1 a0) y356 y359 (y359.length : Int) 0)) = some r:=by first|(rw [hy356];with_reducible exact H)|(have H2_:=(Option.bind_some _ _).symm.trans H;rw [hy356];with_reducible exact H2_)|(have H2_:=(Option.bind_some _ _).symm.trans H;with_reducible exact H2_)|with_reducible exact H|(rw [hy356];exact H)|exact H
  have Ny356:=Aside0.mk hy356
  clear hy356
  obtain ⟨y359,hy359⟩ : ∃ y_ : List (S81),y_ = (([(⟨(-1),0⟩ : S81),(⟨(-1),1⟩ : S81),(⟨0,(-1)⟩ : S81),(⟨0,1⟩ : S81),(⟨1,(-1)⟩ : S81),(⟨1,0⟩ : S81)] : List (S81))):=⟨_,rfl⟩
  replace H : (impl_near.l0 k a0 (wrap64 (Int.tdiv a1 a0)) (Int.tmod a1 a0) y356 y359 (y359.length : Int) 0) = some r:=by first|(rw [hy359];with_reducible exact H)|(have H2_:=(Option.bind_some _ _).symm.trans H;rw [hy359];with_reducible exact H2_)|(have H2_:=(Option.bind_some _ _).symm.trans H;with_reducible exact H2_)|with_reducible exact H|(rw [hy359];exact H)|exact H
  have Ny359:=Aside0.mk hy359
  clear hy359
  have H':=Aside0.mk H
  clear H
  go_enter Tryd.func59,Tryd.ntmps59
  try go_wp2
  have n0_:=Aside0.mk (below_drew1 HB.out)
  clear HB
  have HB:=n0_
  clear n0_
  refine start_ (n:=10) (S:=fun w'=>True) (ds:=[]) #[false,false,false,false,false,false,false,false,false,false] (by kernel_rfl) rfl rfl trivial (fun hHeld=>?_);refine with_tabW impl_near.tab1 impl_near.bits1 (fun HT_ HW_=>?_)
  generalize w.drew = w4 at HB hHeld ⊢
  refine pure_ (i:=0) (N:=some 10) (v:=?_) (a':=?_) #[true,false,false,false,false,false,false,false,false,false] rfl rfl (any_of HT_.out (by kernel_rfl)) (fun _ _ _ h=>h) (Or.inl ⟨by rfl,?_⟩) ?_ ?_
  rotate_left
  ·intro w'
   go_simp
   with_reducible rfl
  rotate_left
  ·simp only [Act.put,List.setIfInBounds_toArray,List.set_cons_zero,List.set_cons_succ,i64_w,i32_w]
   rfl
  refine pure_ (i:=1) (N:=some 11) (v:=?_) (a':=?_) #[true,true,false,false,false,false,false,false,false,false] rfl rfl (any_of HT_.out (by kernel_rfl)) (fun _ _ _ h=>h) (Or.inl ⟨by rfl,?_⟩) ?_ ?_
  rotate_left
  ·intro w'
   go_simp
   with_reducible rfl
  rotate_left
  ·simp only [Act.put,List.setIfInBounds_toArray,List.set_cons_zero,List.set_cons_succ,i64_w,i32_w]
   rfl
  refine pure_ (i:=2) (N:=some 12) (v:=?_) (a':=?_) #[true,true,true,false,false,false,false,false,false,false] rfl rfl (any_of HT_.out (by kernel_rfl)) (fun _ _ _ h=>h) (Or.inl ⟨by rfl,?_⟩) ?_ ?_
  rotate_left
  ·intro w'
   go_simp
   with_reducible rfl
  rotate_left
  ·simp only [Act.put,List.setIfInBounds_toArray,List.set_cons_zero,List.set_cons_succ,i64_w,i32_w]
   rfl
  refine pure_ (i:=3) (N:=some 13) (v:=?_) (a':=?_) #[true,true,true,true,false,false,false,false,false,false] rfl rfl (any_of HT_.out (by kernel_rfl)) (fun _ _ _ h=>h) (Or.inl ⟨by rfl,?_⟩) ?_ ?_
  rotate_left
  ·intro w'
   go_simp
   with_reducible rfl
  rotate_left
  ·simp only [Act.put,List.setIfInBounds_toArray,List.set_cons_zero,List.set_cons_succ,i64_w,i32_w]
   rfl
  refine pure_ (i:=4) (N:=some 14) (v:=?_) (a':=?_) #[true,true,true,true,true,false,false,false,false,false] rfl rfl (any_of HT_.out (by kernel_rfl)) (fun _ _ _ h=>h) (Or.inl ⟨by rfl,?_⟩) ?_ ?_
  rotate_left
  ·intro w'
   go_simp
   with_reducible rfl
  rotate_left
  ·simp only [Act.put,List.setIfInBounds_toArray,List.set_cons_zero,List.set_cons_succ,i64_w,i32_w]
   rfl
  refine pure_ (i:=5) (N:=some 15) (v:=?_) (a':=?_) #[true,true,true,true,true,true,false,false,false,false] rfl rfl (any_of HT_.out (by kernel_rfl)) (fun _ _ _ h=>h) (Or.inl ⟨by rfl,?_⟩) ?_ ?_
  rotate_left
  ·intro w'
   go_simp
   with_reducible rfl
  rotate_left
  ·simp only [Act.put,List.setIfInBounds_toArray,List.set_cons_zero,List.set_cons_succ,i64_w,i32_w]
   rfl
  refine pure_ (i:=7) (N:=some 5) (v:=?_) (a':=?_) #[true,true,true,true,true,true,false,true,false,false] rfl rfl (any_of HT_.out (by kernel_rfl)) (fun _ _ _ h=>h) (Or.inl ⟨by rfl,?_⟩) ?_ ?_
  rotate_left
  ·intro w'
   go_simp
   with_reducible rfl
  rotate_left
  ·simp only [Act.put,List.setIfInBounds_toArray,List.set_cons_zero,List.set_cons_succ,i64_w,i32_w]
   rfl
  refine pure_ (i:=8) (N:=some 6) (v:=?_) (a':=?_) #[true,true,true,true,true,true,false,true,true,false] rfl rfl (any_of HT_.out (by kernel_rfl)) (fun _ _ _ h=>h) (Or.inl ⟨by rfl,?_⟩) ?_ ?_
  rotate_left
  ·intro w'
   go_simp
   with_reducible rfl
  rotate_left
  ·simp only [Act.put,List.setIfInBounds_toArray,List.set_cons_zero,List.set_cons_succ,i64_w,i32_w]
   rfl
  refine one_ (i:=6) (N:=some 16) #[true,true,true,true,true,true,true,true,true,false] rfl rfl (one_of HT_.out (by kernel_rfl)) (by decide) (fun K hK=>?_)
  refine Kd.R_lit_step (Kd.int .i64) _ 2 ?hg (N:=16) ?hd (xs:=([] : List Int)) (inner:=[]) (ok:=fun _=>True) (okp:=fun _=>True) ?hr ?hp (fun _ hk=>hk) trivial (Below.refl _ _) (Nat.le_refl _) (by simp) ?_;(case hd=>rfl);(case hg=>rfl);(case hr=>first|(go_simp;done)|(go_simp;rfl));(case hp=>exact (Reps.none _ _))
  intro v357 w5 ho6 hb hg_ hnew_
  clear hg_ hnew_
  (first|rw [← Ny356.out] at ho6|(simp only [Int.reduceToNat] at ho6;rw [← Ny356.out] at ho6))
  have n0_:=Aside0.mk (Kd.R_lower ho6 (below_size (by repeat (first|(with_reducible first|exact HB.out|apply below_alloc|apply pw_below_drewN|apply below_drew1)|exact HB.out))))
  have n1_:=Aside0.mk (below_step (by repeat (first|(with_reducible first|exact HB.out|apply below_alloc|apply pw_below_drewN|apply below_drew1)|exact HB.out)) hb)
  clear HB
  have HO358:=n0_
  have HB:=n1_
  clear n0_ n1_
  clear hb ho6
  refine hK.out _ _ trivial (fun hHeld=>?_)
  clear hK K
  refine norm_ (a':=?_) ?_ ?_
  rotate_left
  ·show Act.put _ (some 16) _ = _
   simp only [Act.put,List.setIfInBounds_toArray,List.set_cons_zero,List.set_cons_succ,i64_w,i32_w]
   rfl
  refine pure_ (i:=9) (N:=some 7) (v:=?_) (a':=?_) #[true,true,true,true,true,true,true,true,true,true] rfl rfl (any_of HT_.out (by kernel_rfl)) (fun _ _ _ h=>h) (Or.inl ⟨by rfl,?_⟩) ?_ ?_
  rotate_left
  ·intro w'
   go_simp
   with_reducible rfl
  rotate_left
  ·simp only [Act.put,List.setIfInBounds_toArray,List.set_cons_zero,List.set_cons_succ,i64_w,i32_w]
   rfl
  refine done_ (done_of HT_.out (by kernel_rfl)) ?_
  try go_wp2_with (first|((with_reducible refine gate_dst (N:=23) rfl ?_);refine Kd.R_lit k81 _ 81 ?hg (N:=23) ?hd (xs:=([(⟨(-1),0⟩ : S81),(⟨(-1),1⟩ : S81),(⟨0,(-1)⟩ : S81),(⟨0,1⟩ : S81),(⟨1,(-1)⟩ : S81),(⟨1,0⟩ : S81)] : List (S81))) (inner:=[.int .i64 (-1),.int .i64 0,.int .i64 (-1),.int .i64 1,.int .i64 0,.int .i64 (-1),.int .i64 0,.int .i64 1,.int .i64 1,.int .i64 (-1),.int .i64 1,.int .i64 0]) (ok:=fun _=>True) (okp:=fun _=>True) ?hr ?hp (fun _ hk=>hk) trivial (Below.refl _ _) (Nat.le_refl _) (by simp) ?_;(case hd=>rfl);(case hg=>rfl);(case hr=>first|(go_simp;done)|(go_simp;rfl));(case hp=>exact (Reps.c2 (show Kd.M k81 _ _ _ (⟨(-1),0⟩ : S81) [.int .i64 (-1),.int .i64 0] from (k81_mkM _ _ _ (⟨(-1),0⟩ : S81) )) (Reps.c2 (show Kd.M k81 _ _ _ (⟨(-1),1⟩ : S81) [.int .i64 (-1),.int .i64 1] from (k81_mkM _ _ _ (⟨(-1),1⟩ : S81) )) (Reps.c2 (show Kd.M k81 _ _ _ (⟨0,(-1)⟩ : S81) [.int .i64 0,.int .i64 (-1)] from (k81_mkM _ _ _ (⟨0,(-1)⟩ : S81) )) (Reps.c2 (show Kd.M k81 _ _ _ (⟨0,1⟩ : S81) [.int .i64 0,.int .i64 1] from (k81_mkM _ _ _ (⟨0,1⟩ : S81) )) (Reps.c2 (show Kd.M k81 _ _ _ (⟨1,(-1)⟩ : S81) [.int .i64 1,.int .i64 (-1)] from (k81_mkM _ _ _ (⟨1,(-1)⟩ : S81) )) (Reps.c2 (show Kd.M k81 _ _ _ (⟨1,0⟩ : S81) [.int .i64 1,.int .i64 0] from (k81_mkM _ _ _ (⟨1,0⟩ : S81) )) (Reps.none _ _))))))));intro v360 w7 ho8 hb hg_ hnew_;clear hg_ hnew_;(first|rw [← Ny359.out] at ho8|(simp only [Int.reduceToNat] at ho8;rw [← Ny359.out] at ho8));have n0_:=Aside0.mk (Kd.R_below (by (with_reducible repeat (first|apply Kd.R_alloc|apply Kd.R_drewN|apply Kd.R_drew));exact HO358.out) hb);have n1_:=Aside0.mk (Kd.R_lower ho8 (below_size (by repeat (first|(with_reducible first|exact HB.out|apply below_alloc|apply pw_below_drewN|apply below_drew1)|exact HB.out))));have n2_:=Aside0.mk (below_step (by repeat (first|(with_reducible first|exact HB.out|apply below_alloc|apply pw_below_drewN|apply below_drew1)|exact HB.out)) hb);clear HO358;clear HB;have HO358:=n0_;have HO361:=n1_;have HB:=n2_;clear n0_ n1_ n2_;clear hb ho8;obtain ⟨Ao9,co9,eo9⟩:=Kd.R_slice HO361.out;subst eo9))
  go_loopg [7,25] k (fun kq v7 v25 w'=>∃ (x7_1 : List Int) (x25_1 : Int),v25 = .int .i64 x25_1 ∧ Aside0 (impl_near.l0 kq a0 (wrap64 (Int.tdiv a1 a0)) (Int.tmod a1 a0) x7_1 y359 (y359.length : Int) x25_1 = some r) ∧ Aside0 (kq ≤ k) ∧ Aside0 (Kd.R (Kd.int .i64) 2 w' w.heap.size (fun _=>True) v7 x7_1) ∧ Aside0 (Kd.R k81 81 w' w.heap.size (fun _=>True) (.slice Ao9 y359.length co9) y359) ∧ Aside0 (Below w.heap.size w w'))
  case atStart=>exact ⟨(y356),(0),(by first|rfl|(simp;done)|(simp [*];done)),H',⟨Nat.le_refl _⟩,⟨by (with_reducible repeat (first|apply Kd.R_alloc|apply Kd.R_drewN|apply Kd.R_drew));exact HO358.out⟩,⟨by (with_reducible repeat (first|apply Kd.R_alloc|apply Kd.R_drewN|apply Kd.R_drew));exact HO361.out⟩,⟨by repeat (first|(with_reducible first|exact HB.out|apply below_alloc|apply pw_below_drewN|apply below_drew1)|exact HB.out)⟩⟩
  case round =>
   clear H'
   try clear c2
   try clear p2
   try clear c3
   try clear c3b0
   try clear c3b1
   try clear c5
   try clear p6
   obtain ⟨x7_1,x25_1,rfl,HA,HK1,HO_7,HO_23,HB⟩:=hrel
   cases gk with
   | zero => exact absurd HA.out (by simp [impl_near.l0])
   | succ k1 =>
    have H:=HA.out
    clear HA
    simp only [impl_near.l0] at H
    by_cases c10 : x25_1 < (y359.length : Int)
    ·rw [if_pos c10] at H
     have c10b0 : decide (x25_1 < (y359.length : Int)) = true:=decide_eq_true c10
     clear c10
     by_cases c11 : 0 ≤ x25_1
     ·rw [if_pos c11] at H
      have c11b0 : decide (0 ≤ x25_1) = true:=decide_eq_true c11
      clear c11
      by_cases c12 : x25_1 < (y359.length : Int)
      ·rw [if_pos c12] at H
       have c12b0 : decide (x25_1 < (y359.length : Int)) = true:=decide_eq_true c12
       clear c12
       replace H:=Option.bind_eq_some_iff.mp H
       obtain ⟨t364,A130,H⟩:=H
       replace H : (if t364 = true then ((impl_within.f (wrap64 ((Int.tmod a1 a0) + ((rd_T81 y359 x25_1).f1))) 0 (wrap64 (a0 - 1))).bind fun t365=>(if t365 = true then (if x7_1.length < 17592186044416 then (impl_near.l0 k1 a0 (wrap64 (Int.tdiv a1 a0)) (Int.tmod a1 a0) (x7_1 ++ [wrap64 ((wrap64 ((wrap64 ((wrap64 ((wrap64 (Int.tdiv a1 a0)) + ((rd_T81 y359 x25_1).f0))) * a0)) + (Int.tmod a1 a0))) + ((rd_T81 y359 x25_1).f1))]) y359 (y359.length : Int) (wrap64 (x25_1 + 1))) else (none)) else (impl_near.l0 k1 a0 (wrap64 (Int.tdiv a1 a0)) (Int.tmod a1 a0) x7_1 y359 (y359.length : Int) (wrap64 (x25_1 + 1))))) else (impl_near.l0 k1 a0 (wrap64 (Int.tdiv a1 a0)) (Int.tmod a1 a0) x7_1 y359 (y359.length : Int) (wrap64 (x25_1 + 1)))) = some r:=H
       have A13:=Aside0.mk A130
       clear A130
       by_cases c14 : t364 = true
       ·subst c14
        have H1 : ((impl_within.f (wrap64 ((Int.tmod a1 a0) + ((rd_T81 y359 x25_1).f1))) 0 (wrap64 (a0 - 1))).bind fun t365=>(if t365 = true then (if x7_1.length < 17592186044416 then (impl_near.l0 k1 a0 (wrap64 (Int.tdiv a1 a0)) (Int.tmod a1 a0) (x7_1 ++ [wrap64 ((wrap64 ((wrap64 ((wrap64 ((wrap64 (Int.tdiv a1 a0)) + ((rd_T81 y359 x25_1).f0))) * a0)) + (Int.tmod a1 a0))) + ((rd_T81 y359 x25_1).f1))]) y359 (y359.length : Int) (wrap64 (x25_1 + 1))) else (none)) else (impl_near.l0 k1 a0 (wrap64 (Int.tdiv a1 a0)) (Int.tmod a1 a0) x7_1 y359 (y359.length : Int) (wrap64 (x25_1 + 1))))) = some r:=by rw [if_pos rfl] at H;exact H
        clear H
        have H:=H1
        clear H1
        replace H:=Option.bind_eq_some_iff.mp H
        obtain ⟨t365,A150,H⟩:=H
        replace H : (if t365 = true then (if x7_1.length < 17592186044416 then (impl_near.l0 k1 a0 (wrap64 (Int.tdiv a1 a0)) (Int.tmod a1 a0) (x7_1 ++ [wrap64 ((wrap64 ((wrap64 ((wrap64 ((wrap64 (Int.tdiv a1 a0)) + ((rd_T81 y359 x25_1).f0))) * a0)) + (Int.tmod a1 a0))) + ((rd_T81 y359 x25_1).f1))]) y359 (y359.length : Int) (wrap64 (x25_1 + 1))) else (none)) else (impl_near.l0 k1 a0 (wrap64 (Int.tdiv a1 a0)) (Int.tmod a1 a0) x7_1 y359 (y359.length : Int) (wrap64 (x25_1 + 1)))) = some r:=H
        have A15:=Aside0.mk A150
        clear A150
        by_cases c16 : t365 = true
        ·subst c16
         have H1 : (if x7_1.length < 17592186044416 then (impl_near.l0 k1 a0 (wrap64 (Int.tdiv a1 a0)) (Int.tmod a1 a0) (x7_1 ++ [wrap64 ((wrap64 ((wrap64 ((wrap64 ((wrap64 (Int.tdiv a1 a0)) + ((rd_T81 y359 x25_1).f0))) * a0)) + (Int.tmod a1 a0))) + ((rd_T81 y359 x25_1).f1))]) y359 (y359.length : Int) (wrap64 (x25_1 + 1))) else (none)) = some r:=by rw [if_pos rfl] at H;exact H
         clear H
         have H:=H1
         clear H1
         by_cases c17 : x7_1.length < 17592186044416
         ·rw [if_pos c17] at H
          have LMc17:=Aside0.mk c17
          clear c17
          obtain ⟨y366,hy366⟩ : ∃ y_ : List Int,y_ = (x7_1 ++ [wrap64 ((wrap64 ((wrap64 ((wrap64 ((wrap64 (Int.tdiv a1 a0)) + ((rd_T81 y359 x25_1).f0))) * a0)) + (Int.tmod a1 a0))) + ((rd_T81 y359 x25_1).f1))]):=⟨_,rfl⟩
          replace H : (impl_near.l0 k1 a0 (wrap64 (Int.tdiv a1 a0)) (Int.tmod a1 a0) y366 y359 (y359.length : Int) (wrap64 (x25_1 + 1))) = some r:=by first|(rw [hy366];with_reducible exact H)|(have H2_:=(Option.bind_some _ _).symm.trans H;rw [hy366];with_reducible exact H2_)|(have H2_:=(Option.bind_some _ _).symm.trans H;with_reducible exact H2_)|with_reducible exact H|(rw [hy366];exact H)|exact H
          have Ny366:=Aside0.mk hy366
          clear hy366
          have H':=Aside0.mk H
          clear H
          have p362 : 0 ≤ (x25_1 : Int):=of_decide_eq_true (by first|(with_reducible assumption)|assumption)
          have q362 : x25_1 < (y359.length : Int):=of_decide_eq_true (by first|(with_reducible assumption)|assumption)
          obtain ⟨ad362,e362,hx362_0,hx362_1⟩:=at_T81 (Kd.R_reads' HO_23.out).2.2 x25_1 p362 q362
          cases e362
          replace p362:=eq_true p362
          replace q362:=eq_true q362
          go_wp2_with (first|((with_reducible refine gate_dst (N:=9) rfl ?_);refine box_event ?hg (N:=9) ?hd (cs:=#[.int .i64 0,.int .i64 0]) (t:=81) ?hr ?_;(case hd=>rfl);(case hg=>rfl);(case hr=>first|(go_simp;done)|(go_simp;rfl));intro gb363 hg w18 hbox hb;have n0_:=Aside0.mk (Kd.R_below (by (with_reducible repeat (first|apply Kd.R_alloc|apply Kd.R_drewN|apply Kd.R_drew));exact HO_7.out) hb);have n1_:=Aside0.mk (Kd.R_below (Kd.R_elderB (by (with_reducible repeat (first|apply Kd.R_alloc|apply Kd.R_drewN|apply Kd.R_drew));exact HO_23.out) gb363 (Nat.le_of_eq hg.symm)) hb);have n2_:=Aside0.mk (below_step (by repeat (first|(with_reducible first|exact HB.out|apply below_alloc|apply pw_below_drewN|apply below_drew1)|exact HB.out)) hb);have n3_:=Aside0.mk (hbox);have n4_:=Aside0.mk ((by rw [hg];exact (below_size (by repeat (first|(with_reducible first|exact HB.out|apply below_alloc|apply pw_below_drewN|apply below_drew1)|exact HB.out))) : w.heap.size ≤ gb363));have n5_:=Aside0.mk ((by rw [hg];exact (below_size (by repeat (first|(with_reducible first|exact HB.out|apply below_alloc|apply pw_below_drewN|apply below_drew1)|exact HB.out))) : w.heap.size ≤ gb363));clear HO_7;clear HO_23;clear HB;have HO_7:=n0_;have HO_23:=n1_;have HB:=n2_;have BK363:=n3_;have GW363:=n4_;have GE363:=n5_;clear n0_ n1_ n2_ n3_ n4_ n5_;clear hb hbox hg;have hcz19_0 : w18.cell? ⟨gb363,0,none⟩ = some (.int .i64 0):=(blk_cell BK363.out 0).trans rfl;have hcz19_1 : w18.cell? ⟨gb363,1,none⟩ = some (.int .i64 0):=(blk_cell BK363.out 1).trans rfl;have hfz19_0:=blk_frozen BK363.out 0;have hfz19_1:=blk_frozen BK363.out 1)|((with_reducible refine gate_callee (f:=48) rfl ?_);refine goesL_ (some 35) rfl rfl Tryd.func48 (by kernel_rfl) rfl #[.int .i64 (wrap64 ((wrap64 (Int.tdiv a1 a0)) + ((rd_T81 y359 x25_1).f0))),.int .i64 0,.int .i64 (wrap64 (a0 - 1))] rfl (by (try simp only [List.map_toArray,List.map_cons,List.map_nil]);first|done|rfl|(simp only [List.length_drop,List.length_take];rfl)) ?_;(with_reducible refine (impl_within.calls (wrap64 ((wrap64 (Int.tdiv a1 a0)) + ((rd_T81 y359 x25_1).f0))) 0 (wrap64 (a0 - 1)) true _ A13.out).mono ?_);rintro e w' ⟨rfl,⟨nd,rfl⟩⟩;refine ⟨_,rfl,?_⟩)|(go_at_call 48;(with_reducible refine (impl_within.calls (wrap64 ((Int.tmod a1 a0) + ((rd_T81 y359 x25_1).f1))) 0 (wrap64 (a0 - 1)) true _ A15.out).mono ?_);rintro e w' ⟨rfl,⟨nd,rfl⟩⟩)|((with_reducible refine gate_builtin (b:=.append) (xs:=#[.tmp 45,.tmp 57]) rfl ?_);at_builtin;refine Kd.R_append (Kd.int .i64) (w0:=w) w.heap.size rfl (.tmp 45) (.tmp 57) 22 2 (.int .i64 0) 8 rfl Tryd.underlying22 info2 rfl (by decide) (by omega) u7 x7_1 (wrap64 ((wrap64 ((wrap64 ((wrap64 ((wrap64 (Int.tdiv a1 a0)) + ((rd_T81 y359 x25_1).f0))) * a0)) + (Int.tmod a1 a0))) + ((rd_T81 y359 x25_1).f1))) [.int .i64 (wrap64 ((wrap64 ((wrap64 ((wrap64 ((wrap64 (Int.tdiv a1 a0)) + ((rd_T81 y359 x25_1).f0))) * a0)) + (Int.tmod a1 a0))) + ((rd_T81 y359 x25_1).f1)))] (fun _=>True) (fun _=>False) rfl (by first|(go_simp;done)|(go_simp;rfl)) ?aP (fun _ hk=>hk.elim) ?aF ?aO ?aB ?aS ?aL ?_;(case aP=>exact rfl);(case aB=>exact (by repeat (first|(with_reducible first|exact HB.out|apply below_alloc|apply pw_below_drewN|apply below_drew1|refine below_set ?_ GE363.out)|exact HB.out)));(case aF=>exact (fun _ _=>trivial));(case aO=>exact (by (with_reducible repeat (first|apply Kd.R_alloc|apply Kd.R_drewN|apply Kd.R_drew));exact Kd.R_mono (Kd.R_far (p:=⟨gb363,1,none⟩) (Kd.R_far (p:=⟨gb363,0,none⟩) (Kd.R_types HO_7.out BK363.out (by decide)) (fun _ hk=>hk.2) (.int .i64 ((rd_T81 y359 x25_1).f0))) (fun _ hk=>hk.2) (.int .i64 ((rd_T81 y359 x25_1).f1))) (fun _ hk=>trivial)));(case aS=>exact (below_size (by repeat (first|(with_reducible first|exact HB.out|apply below_alloc|apply pw_below_drewN|apply below_drew1|refine below_set ?_ GE363.out)|exact HB.out))));(case aL=>have:=LMc17.out;omega);intro v367 w20 ho hb hg hat;rw [← Ny366.out] at ho;have n0_:=Aside0.mk (Kd.R_over' (by (with_reducible repeat (first|apply Kd.R_alloc|apply Kd.R_drewN|apply Kd.R_drew));exact (Kd.R_mono (Kd.R_far (p:=⟨gb363,1,none⟩) (Kd.R_far (p:=⟨gb363,0,none⟩) (Kd.R_mono HO_23.out (fun k_ hk=>(⟨hk,hk.2⟩ : _ ∧ k_ ≠ gb363))) (fun _ hk=>hk.2) (.int .i64 ((rd_T81 y359 x25_1).f0))) (fun _ hk=>hk.2) (.int .i64 ((rd_T81 y359 x25_1).f1))) (fun _ h_=>h_.1))) (Kd.R_typed (by (with_reducible repeat (first|apply Kd.R_alloc|apply Kd.R_drewN|apply Kd.R_drew));exact (Kd.R_mono (Kd.R_far (p:=⟨gb363,1,none⟩) (Kd.R_far (p:=⟨gb363,0,none⟩) (Kd.R_types HO_7.out BK363.out (by decide)) (fun _ hk=>hk.2) (.int .i64 ((rd_T81 y359 x25_1).f0))) (fun _ hk=>hk.2) (.int .i64 ((rd_T81 y359 x25_1).f1))) (fun _ h_=>h_.1)))) (by decide) hg);have n1_:=Aside0.mk (blk_grown (g:=gb363) (o:=.cells #[.int .i64 ((rd_T81 y359 x25_1).f0),.int .i64 ((rd_T81 y359 x25_1).f1)] 81 (0,0)) (by (with_reducible repeat (first|refine blk_drewN ?_ _|refine blk_drew ?_|refine blk_alloc ?_ _));refine blk_put (cs:=#[.int .i64 ((rd_T81 y359 x25_1).f0),.int .i64 0]) ?_ 1 _ rfl;(with_reducible repeat (first|refine blk_drewN ?_ _|refine blk_drew ?_|refine blk_alloc ?_ _));refine blk_put (cs:=#[.int .i64 0,.int .i64 0]) ?_ 0 _ rfl;(with_reducible repeat (first|refine blk_drewN ?_ _|refine blk_drew ?_|refine blk_alloc ?_ _));exact BK363.out) hg (Kd.R_ne HO_7.out BK363.out (by decide)));have n2_:=Aside0.mk (hb);have n3_:=Aside0.mk (ho);clear HO_23;clear BK363;clear HB;clear HO_7;have HO_23:=n0_;have BK363:=n1_;have HB:=n2_;have HO368:=n3_;clear n0_ n1_ n2_ n3_;clear ho hb hg hat))
          go_roundg k1
          case measure=>have:=HK1.out;omega
          case rel=>exact ⟨(y366),(wrap64 (x25_1 + 1)),(by first|rfl|(simp;done)|(simp [*];done)),H',⟨by have:=HK1.out;omega⟩,⟨by (with_reducible repeat (first|apply Kd.R_alloc|apply Kd.R_drewN|apply Kd.R_drew));exact HO368.out⟩,⟨by (with_reducible repeat (first|apply Kd.R_alloc|apply Kd.R_drewN|apply Kd.R_drew));exact Kd.R_mono HO_23.out (fun _ hk=>trivial)⟩,⟨by repeat (first|(with_reducible first|exact HB.out|apply below_alloc|apply pw_below_drewN|apply below_drew1|refine below_set ?_ GE363.out)|exact HB.out)⟩⟩
         ·rw [if_neg c17] at H
          exact absurd H (by simp)
        ·replace c16:=Bool.eq_false_iff.mpr c16
         subst c16
         have H1 : (impl_near.l0 k1 a0 (wrap64 (Int.tdiv a1 a0)) (Int.tmod a1 a0) x7_1 y359 (y359.length : Int) (wrap64 (x25_1 + 1))) = some r:=by rw [if_neg (show ¬ (false = true) by decide)] at H;exact H
         clear H
         have H:=H1
         clear H1
         have H':=Aside0.mk H
         clear H
         have p362 : 0 ≤ (x25_1 : Int):=of_decide_eq_true (by first|(with_reducible assumption)|assumption)
         have q362 : x25_1 < (y359.length : Int):=of_decide_eq_true (by first|(with_reducible assumption)|assumption)
         obtain ⟨ad362,e362,hx362_0,hx362_1⟩:=at_T81 (Kd.R_reads' HO_23.out).2.2 x25_1 p362 q362
         cases e362
         replace p362:=eq_true p362
         replace q362:=eq_true q362
         go_wp2_with (first|((with_reducible refine gate_dst (N:=9) rfl ?_);refine box_event ?hg (N:=9) ?hd (cs:=#[.int .i64 0,.int .i64 0]) (t:=81) ?hr ?_;(case hd=>rfl);(case hg=>rfl);(case hr=>first|(go_simp;done)|(go_simp;rfl));intro gb363 hg w21 hbox hb;have n0_:=Aside0.mk (Kd.R_below (by (with_reducible repeat (first|apply Kd.R_alloc|apply Kd.R_drewN|apply Kd.R_drew));exact HO_7.out) hb);have n1_:=Aside0.mk (Kd.R_below (Kd.R_elderB (by (with_reducible repeat (first|apply Kd.R_alloc|apply Kd.R_drewN|apply Kd.R_drew));exact HO_23.out) gb363 (Nat.le_of_eq hg.symm)) hb);have n2_:=Aside0.mk (below_step (by repeat (first|(with_reducible first|exact HB.out|apply below_alloc|apply pw_below_drewN|apply below_drew1)|exact HB.out)) hb);have n3_:=Aside0.mk (hbox);have n4_:=Aside0.mk ((by rw [hg];exact (below_size (by repeat (first|(with_reducible first|exact HB.out|apply below_alloc|apply pw_below_drewN|apply below_drew1)|exact HB.out))) : w.heap.size ≤ gb363));have n5_:=Aside0.mk ((by rw [hg];exact (below_size (by repeat (first|(with_reducible first|exact HB.out|apply below_alloc|apply pw_below_drewN|apply below_drew1)|exact HB.out))) : w.heap.size ≤ gb363));clear HO_7;clear HO_23;clear HB;have HO_7:=n0_;have HO_23:=n1_;have HB:=n2_;have BK363:=n3_;have GW363:=n4_;have GE363:=n5_;clear n0_ n1_ n2_ n3_ n4_ n5_;clear hb hbox hg;have hcz22_0 : w21.cell? ⟨gb363,0,none⟩ = some (.int .i64 0):=(blk_cell BK363.out 0).trans rfl;have hcz22_1 : w21.cell? ⟨gb363,1,none⟩ = some (.int .i64 0):=(blk_cell BK363.out 1).trans rfl;have hfz22_0:=blk_frozen BK363.out 0;have hfz22_1:=blk_frozen BK363.out 1)|((with_reducible refine gate_callee (f:=48) rfl ?_);refine goesL_ (some 35) rfl rfl Tryd.func48 (by kernel_rfl) rfl #[.int .i64 (wrap64 ((wrap64 (Int.tdiv a1 a0)) + ((rd_T81 y359 x25_1).f0))),.int .i64 0,.int .i64 (wrap64 (a0 - 1))] rfl (by (try simp only [List.map_toArray,List.map_cons,List.map_nil]);first|done|rfl|(simp only [List.length_drop,List.length_take];rfl)) ?_;(with_reducible refine (impl_within.calls (wrap64 ((wrap64 (Int.tdiv a1 a0)) + ((rd_T81 y359 x25_1).f0))) 0 (wrap64 (a0 - 1)) true _ A13.out).mono ?_);rintro e w' ⟨rfl,⟨nd,rfl⟩⟩;refine ⟨_,rfl,?_⟩)|(go_at_call 48;(with_reducible refine (impl_within.calls (wrap64 ((Int.tmod a1 a0) + ((rd_T81 y359 x25_1).f1))) 0 (wrap64 (a0 - 1)) false _ A15.out).mono ?_);rintro e w' ⟨rfl,⟨nd,rfl⟩⟩))
         go_roundg k1
         case measure=>have:=HK1.out;omega
         case rel=>exact ⟨(x7_1),(wrap64 (x25_1 + 1)),(by first|rfl|(simp;done)|(simp [*];done)),H',⟨by have:=HK1.out;omega⟩,⟨by (with_reducible repeat (first|apply Kd.R_alloc|apply Kd.R_drewN|apply Kd.R_drew));exact Kd.R_mono (Kd.R_far (p:=⟨gb363,1,none⟩) (Kd.R_far (p:=⟨gb363,0,none⟩) (Kd.R_types HO_7.out BK363.out (by decide)) (fun _ hk=>hk.2) (.int .i64 ((rd_T81 y359 x25_1).f0))) (fun _ hk=>hk.2) (.int .i64 ((rd_T81 y359 x25_1).f1))) (fun _ hk=>trivial)⟩,⟨by (with_reducible repeat (first|apply Kd.R_alloc|apply Kd.R_drewN|apply Kd.R_drew));exact Kd.R_mono (Kd.R_far (p:=⟨gb363,1,none⟩) (Kd.R_far (p:=⟨gb363,0,none⟩) (Kd.R_mono HO_23.out (fun k_ hk=>(⟨hk,hk.2⟩ : _ ∧ k_ ≠ gb363))) (fun _ hk=>hk.2) (.int .i64 ((rd_T81 y359 x25_1).f0))) (fun _ hk=>hk.2) (.int .i64 ((rd_T81 y359 x25_1).f1))) (fun _ hk=>trivial)⟩,⟨by repeat (first|(with_reducible first|exact HB.out|apply below_alloc|apply pw_below_drewN|apply below_drew1|refine below_set ?_ GE363.out)|exact HB.out)⟩⟩
       ·replace c14:=Bool.eq_false_iff.mpr c14
        subst c14
        have H1 : (impl_near.l0 k1 a0 (wrap64 (Int.tdiv a1 a0)) (Int.tmod a1 a0) x7_1 y359 (y359.length : Int) (wrap64 (x25_1 + 1))) = some r:=by rw [if_neg (show ¬ (false = true) by decide)] at H;exact H
        clear H
        have H:=H1
        clear H1
        have H':=Aside0.mk H
        clear H
        have p362 : 0 ≤ (x25_1 : Int):=of_decide_eq_true (by first|(with_reducible assumption)|assumption)
        have q362 : x25_1 < (y359.length : Int):=of_decide_eq_true (by first|(with_reducible assumption)|assumption)
        obtain ⟨ad362,e362,hx362_0,hx362_1⟩:=at_T81 (Kd.R_reads' HO_23.out).2.2 x25_1 p362 q362
        cases e362
        replace p362:=eq_true p362
        replace q362:=eq_true q362
        go_wp2_with (first|((with_reducible refine gate_dst (N:=9) rfl ?_);refine box_event ?hg (N:=9) ?hd (cs:=#[.int .i64 0,.int .i64 0]) (t:=81) ?hr ?_;(case hd=>rfl);(case hg=>rfl);(case hr=>first|(go_simp;done)|(go_simp;rfl));intro gb363 hg w23 hbox hb;have n0_:=Aside0.mk (Kd.R_below (by (with_reducible repeat (first|apply Kd.R_alloc|apply Kd.R_drewN|apply Kd.R_drew));exact HO_7.out) hb);have n1_:=Aside0.mk (Kd.R_below (Kd.R_elderB (by (with_reducible repeat (first|apply Kd.R_alloc|apply Kd.R_drewN|apply Kd.R_drew));exact HO_23.out) gb363 (Nat.le_of_eq hg.symm)) hb);have n2_:=Aside0.mk (below_step (by repeat (first|(with_reducible first|exact HB.out|apply below_alloc|apply pw_below_drewN|apply below_drew1)|exact HB.out)) hb);have n3_:=Aside0.mk (hbox);have n4_:=Aside0.mk ((by rw [hg];exact (below_size (by repeat (first|(with_reducible first|exact HB.out|apply below_alloc|apply pw_below_drewN|apply below_drew1)|exact HB.out))) : w.heap.size ≤ gb363));have n5_:=Aside0.mk ((by rw [hg];exact (below_size (by repeat (first|(with_reducible first|exact HB.out|apply below_alloc|apply pw_below_drewN|apply below_drew1)|exact HB.out))) : w.heap.size ≤ gb363));clear HO_7;clear HO_23;clear HB;have HO_7:=n0_;have HO_23:=n1_;have HB:=n2_;have BK363:=n3_;have GW363:=n4_;have GE363:=n5_;clear n0_ n1_ n2_ n3_ n4_ n5_;clear hb hbox hg;have hcz24_0 : w23.cell? ⟨gb363,0,none⟩ = some (.int .i64 0):=(blk_cell BK363.out 0).trans rfl;have hcz24_1 : w23.cell? ⟨gb363,1,none⟩ = some (.int .i64 0):=(blk_cell BK363.out 1).trans rfl;have hfz24_0:=blk_frozen BK363.out 0;have hfz24_1:=blk_frozen BK363.out 1)|((with_reducible refine gate_callee (f:=48) rfl ?_);refine goesL_ (some 35) rfl rfl Tryd.func48 (by kernel_rfl) rfl #[.int .i64 (wrap64 ((wrap64 (Int.tdiv a1 a0)) + ((rd_T81 y359 x25_1).f0))),.int .i64 0,.int .i64 (wrap64 (a0 - 1))] rfl (by (try simp only [List.map_toArray,List.map_cons,List.map_nil]);first|done|rfl|(simp only [List.length_drop,List.length_take];rfl)) ?_;(with_reducible refine (impl_within.calls (wrap64 ((wrap64 (Int.tdiv a1 a0)) + ((rd_T81 y359 x25_1).f0))) 0 (wrap64 (a0 - 1)) false _ A13.out).mono ?_);rintro e w' ⟨rfl,⟨nd,rfl⟩⟩;refine ⟨_,rfl,?_⟩))
        go_roundg k1
        case measure=>have:=HK1.out;omega
        case rel=>exact ⟨(x7_1),(wrap64 (x25_1 + 1)),(by first|rfl|(simp;done)|(simp [*];done)),H',⟨by have:=HK1.out;omega⟩,⟨by (with_reducible repeat (first|apply Kd.R_alloc|apply Kd.R_drewN|apply Kd.R_drew));exact Kd.R_mono (Kd.R_far (p:=⟨gb363,1,none⟩) (Kd.R_far (p:=⟨gb363,0,none⟩) (Kd.R_types HO_7.out BK363.out (by decide)) (fun _ hk=>hk.2) (.int .i64 ((rd_T81 y359 x25_1).f0))) (fun _ hk=>hk.2) (.int .i64 ((rd_T81 y359 x25_1).f1))) (fun _ hk=>trivial)⟩,⟨by (with_reducible repeat (first|apply Kd.R_alloc|apply Kd.R_drewN|apply Kd.R_drew));exact Kd.R_mono (Kd.R_far (p:=⟨gb363,1,none⟩) (Kd.R_far (p:=⟨gb363,0,none⟩) (Kd.R_mono HO_23.out (fun k_ hk=>(⟨hk,hk.2⟩ : _ ∧ k_ ≠ gb363))) (fun _ hk=>hk.2) (.int .i64 ((rd_T81 y359 x25_1).f0))) (fun _ hk=>hk.2) (.int .i64 ((rd_T81 y359 x25_1).f1))) (fun _ hk=>trivial)⟩,⟨by repeat (first|(with_reducible first|exact HB.out|apply below_alloc|apply pw_below_drewN|apply below_drew1|refine below_set ?_ GE363.out)|exact HB.out)⟩⟩
      ·rw [if_neg c12] at H
       exact absurd H (by simp)
     ·rw [if_neg c11] at H
      exact absurd H (by simp)
    ·rw [if_neg c10] at H
     have c10b0 : decide (x25_1 < (y359.length : Int)) = false:=decide_eq_false c10
     clear c10
     obtain rfl:=Option.some.inj H
     go_wp2
     go_ret
     exact ⟨_,by first|rfl|(simp [errW_none,errW_some] <;> rfl)|(simp [*,errW_none,errW_some] <;> rfl),by (with_reducible repeat (first|apply Kd.R_alloc|apply Kd.R_drewN|apply Kd.R_drew));exact HO_7.out,by repeat (first|(with_reducible first|exact HB.out|apply below_alloc|apply pw_below_drewN|apply below_drew1)|exact HB.out)⟩

/-! ### impl_Hex_line: function 100006 -/
def impl_Hex_line.f (a0_0 : Int) (l0_1 : List Int) (a1 : Int) (a2 : Int) : Option (Int) := if a1 = 1 then (if a0_0 = 0 then (none) else (some (wrap64 (Int.tdiv a2 a0_0)))) else (if a0_0 = 0 then (none) else (some (Int.tmod a2 a0_0)))
set_option maxHeartbeats 8000000 in
set_option maxRecDepth 100000 in
theorem impl_Hex_line.calls (a0_0 : Int) (A0_1 : Option Addr) (c0_1 : Nat) (l0_1 : List Int) (a1 : Int) (a2 : Int) (r : Int) (w : World) (hr0_1 : Kd.C (Kd.int .i64) w A0_1 l0_1.length l0_1) (hc0_1 : l0_1.length ≤ c0_1) (h : impl_Hex_line.f a0_0 l0_1 a1 a2 = some r) :
  Calls Tryd.prog 58 #[.agg #[.int .i64 a0_0,.slice A0_1 l0_1.length c0_1],.int .i64 a1,.int .i64 a2] w fun e w'=>e = .returned (.int .i64 r) ∧ Below w.heap.size w w':=by
 have hu28:=Tryd.underlying28
 have HR0_1:=Aside0.mk hr0_1
 have HC0_1:=Aside0.mk hc0_1
 clear hr0_1 hc0_1
 have HB:=Aside0.mk (Below.refl w.heap.size w)
 have H : (if a1 = 1 then (if a0_0 = 0 then (none) else (some (wrap64 (Int.tdiv a2 a0_0)))) else (if a0_0 = 0 then (none) else (some (Int.tmod a2 a0_0)))) = some r:=h
 clear h
 by_cases c4 : a1 = 1
 ·rw [if_pos c4] at H
  have c4b0 : (a1 == 1) = true:=beq_iff_eq.mpr c4
  have c4b1 : (a1 != 1) = false:=bne_eq_false_iff_eq.mpr c4
  clear c4
  by_cases c5 : a0_0 = 0
  ·rw [if_pos c5] at H
   exact absurd H (by simp)
  ·rw [if_neg c5] at H
   have c5b0 : (a0_0 == 0) = false:=beq_eq_false_iff_ne.mpr c5
   have c5b1 : (a0_0 != 0) = true:=bne_iff_ne.mpr c5
   obtain rfl:=Option.some.inj H
   go_enter Tryd.func58,Tryd.ntmps58
   go_wp2_with (first|((with_reducible refine gate_dst (N:=3) rfl ?_);refine box_event ?hg (N:=3) ?hd (cs:=#[.int .i64 a0_0,.slice A0_1 l0_1.length c0_1]) (t:=28) ?hr ?_;(case hd=>rfl);(case hg=>rfl);(case hr=>first|(go_simp;done)|(go_simp;rfl));intro gb369 hg w6 hbox hb;have n0_:=Aside0.mk (below_step (by repeat (first|(with_reducible first|exact HB.out|apply below_alloc|apply pw_below_drewN|apply below_drew1)|exact HB.out)) hb);have n1_:=Aside0.mk (hbox);have n2_:=Aside0.mk ((by rw [hg];exact (below_size (by repeat (first|(with_reducible first|exact HB.out|apply below_alloc|apply pw_below_drewN|apply below_drew1)|exact HB.out))) : w.heap.size ≤ gb369));have n3_:=Aside0.mk ((by rw [hg];exact (below_size (by repeat (first|(with_reducible first|exact HB.out|apply below_alloc|apply pw_below_drewN|apply below_drew1)|exact HB.out))) : w.heap.size ≤ gb369));clear HB;have HB:=n0_;have BK369:=n1_;have GW369:=n2_;have GE369:=n3_;clear n0_ n1_ n2_ n3_;clear hb hbox hg;have hcz7_0 : w6.cell? ⟨gb369,0,none⟩ = some (.int .i64 a0_0):=(blk_cell BK369.out 0).trans rfl;have hcz7_1 : w6.cell? ⟨gb369,1,none⟩ = some (.slice A0_1 l0_1.length c0_1):=(blk_cell BK369.out 1).trans rfl;have hfz7_0:=blk_frozen BK369.out 0;have hfz7_1:=blk_frozen BK369.out 1))
   go_ret
   exact ⟨by first|rfl|(simp [errW_none,errW_some] <;> rfl)|(simp [*,errW_none,errW_some] <;> rfl),by repeat (first|(with_reducible first|exact HB.out|apply below_alloc|apply pw_below_drewN|apply below_drew1|refine below_set ?_ GE369.out)|exact HB.out)⟩
 ·rw [if_neg c4] at H
  have c4b0 : (a1 == 1) = false:=beq_eq_false_iff_ne.mpr c4
  have c4b1 : (a1 != 1) = true:=bne_iff_ne.mpr c4
  by_cases c8 : a0_0 = 0
  ·rw [if_pos c8] at H
   exact absurd H (by simp)
  ·rw [if_neg c8] at H
   have c8b0 : (a0_0 == 0) = false:=beq_eq_false_iff_ne.mpr c8
   have c8b1 : (a0_0 != 0) = true:=bne_iff_ne.mpr c8
   obtain rfl:=Option.some.inj H
   go_enter Tryd.func58,Tryd.ntmps58
   go_wp2_with (first|((with_reducible refine gate_dst (N:=3) rfl ?_);refine box_event ?hg (N:=3) ?hd (cs:=#[.int .i64 a0_0,.slice A0_1 l0_1.length c0_1]) (t:=28) ?hr ?_;(case hd=>rfl);(case hg=>rfl);(case hr=>first|(go_simp;done)|(go_simp;rfl));intro gb369 hg w9 hbox hb;have n0_:=Aside0.mk (below_step (by repeat (first|(with_reducible first|exact HB.out|apply below_alloc|apply pw_below_drewN|apply below_drew1)|exact HB.out)) hb);have n1_:=Aside0.mk (hbox);have n2_:=Aside0.mk ((by rw [hg];exact (below_size (by repeat (first|(with_reducible first|exact HB.out|apply below_alloc|apply pw_below_drewN|apply below_drew1)|exact HB.out))) : w.heap.size ≤ gb369));have n3_:=Aside0.mk ((by rw [hg];exact (below_size (by repeat (first|(with_reducible first|exact HB.out|apply below_alloc|apply pw_below_drewN|apply below_drew1)|exact HB.out))) : w.heap.size ≤ gb369));clear HB;have HB:=n0_;have BK369:=n1_;have GW369:=n2_;have GE369:=n3_;clear n0_ n1_ n2_ n3_;clear hb hbox hg;have hcz10_0 : w9.cell? ⟨gb369,0,none⟩ = some (.int .i64 a0_0):=(blk_cell BK369.out 0).trans rfl;have hcz10_1 : w9.cell? ⟨gb369,1,none⟩ = some (.slice A0_1 l0_1.length c0_1):=(blk_cell BK369.out 1).trans rfl;have hfz10_0:=blk_frozen BK369.out 0;have hfz10_1:=blk_frozen BK369.out 1))
   go_ret
   exact ⟨by first|rfl|(simp [errW_none,errW_some] <;> rfl)|(simp [*,errW_none,errW_some] <;> rfl),by repeat (first|(with_reducible first|exact HB.out|apply below_alloc|apply pw_below_drewN|apply below_drew1|refine below_set ?_ GE369.out)|exact HB.out)⟩

/-! ### impl_bit: function 56 -/
def impl_bit.f (a0 : Bool) : Option (Int) := if a0 = true then (some 1) else (some 0)
set_option maxHeartbeats 8000000 in
set_option maxRecDepth 100000 in
theorem impl_bit.calls (a0 : Bool) (r : Int) (w : World) (h : impl_bit.f a0 = some r) :
  Calls Tryd.prog 56 #[.bool a0] w fun e w'=>e = .returned (.int .i64 r) ∧ Drawn0 w w':=by
 have H : (if a0 = true then (some 1) else (some 0)) = some r:=h
 clear h
 by_cases c2 : a0 = true
 ·subst c2
  have H1 : (some 1) = some r:=by rw [if_pos rfl] at H;exact H
  clear H
  have H:=H1
  clear H1
  obtain rfl:=Option.some.inj H
  go_enter Tryd.func56,Tryd.ntmps56
  go_wp2
  go_ret
  exact ⟨by first|rfl|(simp;done)|(simp [*];done),by repeat (first|exact Drawn0.refl _|apply Drawn0.step)⟩
 ·replace c2:=Bool.eq_false_iff.mpr c2
  subst c2
  have H1 : (some 0) = some r:=by rw [if_neg (show ¬ (false = true) by decide)] at H;exact H
  clear H
  have H:=H1
  clear H1
  obtain rfl:=Option.some.inj H
  go_enter Tryd.func56,Tryd.ntmps56
  go_wp2
  go_ret
  exact ⟨by first|rfl|(simp;done)|(simp [*];done),by repeat (first|exact Drawn0.refl _|apply Drawn0.step)⟩

/-! ### impl_Hex_need_1: function 100007 -/
def impl_Hex_need_1.f (a0 : Int) (a1_0_0 : Int) (l1_0_1 : List Int) : Option (Int) := if 0 ≤ a0 then (if a0 < (l1_0_1.length : Int) then ((impl_bit.f ((rd l1_0_1 a0) == 0)).bind fun t371 => (some t371)) else (none)) else (none)
set_option maxHeartbeats 8000000 in
set_option maxRecDepth 100000 in
theorem impl_Hex_need_1.calls (a0 : Int) (g1_0 : Nat) (a1_0_0 : Int) (A1_0_1 : Option Addr) (c1_0_1 : Nat) (l1_0_1 : List Int) (r : Int) (w : World) (hb1_0 : w.heap[g1_0]? = some (.cells #[.int .i64 a1_0_0, .slice A1_0_1 l1_0_1.length c1_0_1] 28 (0, 0))) (hr1_0_1 : Kd.C (Kd.int .i64) w A1_0_1 l1_0_1.length l1_0_1) (hc1_0_1 : l1_0_1.length ≤ c1_0_1) (h : impl_Hex_need_1.f a0 a1_0_0 l1_0_1 = some r) :
  Calls Tryd.prog 55 #[.int .i64 a0,.pointer (some ⟨g1_0,0,none⟩)] w fun e w'=>e = .returned (.int .i64 r) ∧ Drawn0 w w':=by
 have HR1_0_1:=Aside0.mk hr1_0_1
 have HC1_0_1:=Aside0.mk hc1_0_1
 clear hr1_0_1 hc1_0_1
 have HBX90010:=Aside0.mk hb1_0
 clear hb1_0
 have H : (if 0 ≤ a0 then (if a0 < (l1_0_1.length : Int) then ((impl_bit.f ((rd l1_0_1 a0) == 0)).bind fun t371=>(some t371)) else (none)) else (none)) = some r:=h
 clear h
 by_cases c3 : 0 ≤ a0
 ·rw [if_pos c3] at H
  have c3b0 : decide (0 ≤ a0) = true:=decide_eq_true c3
  clear c3
  by_cases c4 : a0 < (l1_0_1.length : Int)
  ·rw [if_pos c4] at H
   have c4b0 : decide (a0 < (l1_0_1.length : Int)) = true:=decide_eq_true c4
   clear c4
   replace H:=Option.bind_eq_some_iff.mp H
   obtain ⟨t371,A50,H⟩:=H
   replace H : (some t371) = some r:=H
   have A5:=Aside0.mk A50
   clear A50
   obtain rfl:=Option.some.inj H
   have hcz6_0 : w.cell? ⟨g1_0,0,none⟩ = some (.int .i64 a1_0_0):=(blk_cell HBX90010.out 0).trans rfl
   have hcz6_1 : w.cell? ⟨g1_0,1,none⟩ = some (.slice A1_0_1 l1_0_1.length c1_0_1):=(blk_cell HBX90010.out 1).trans rfl
   have hfz6_0:=blk_frozen HBX90010.out 0
   have hfz6_1:=blk_frozen HBX90010.out 1
   have p370 : 0 ≤ (a0 : Int):=of_decide_eq_true (by first|(with_reducible assumption)|assumption)
   have q370 : a0 < (l1_0_1.length : Int):=of_decide_eq_true (by first|(with_reducible assumption)|assumption)
   obtain ⟨ad370,e370,hx370_0⟩:=Kd.at_int HR1_0_1.out a0 p370 q370
   cases e370
   replace p370:=eq_true p370
   replace q370:=eq_true q370
   go_enter Tryd.func55,Tryd.ntmps55
   go_wp2_with (first|((with_reducible refine gate_callee (f:=56) rfl ?_);refine goesL_ (some 10) rfl rfl Tryd.func56 (by kernel_rfl) rfl #[.bool ((rd l1_0_1 a0) == 0)] rfl (by (try simp only [List.map_toArray,List.map_cons,List.map_nil]);first|done|rfl|(simp only [List.length_drop,List.length_take];rfl)) ?_;(with_reducible refine (impl_bit.calls ((rd l1_0_1 a0) == 0) t371 _ A5.out).mono ?_);rintro e w' ⟨rfl,⟨nd,rfl⟩⟩;refine ⟨_,rfl,?_⟩))
   go_ret
   exact ⟨by first|rfl|(simp;done)|(simp [*];done),by repeat (first|exact Drawn0.refl _|apply Drawn0.step)⟩
  ·rw [if_neg c4] at H
   exact absurd H (by simp)
 ·rw [if_neg c3] at H
  exact absurd H (by simp)

/-! ### impl_Hex_need_2: function 100008 -/
def impl_Hex_need_2.f (a0 : Int) (a1_0_0 : Int) (l1_0_1 : List Int) (a2_0_0 : Int) : Option (Bool) := if 0 ≤ a0 then (if a0 < (l1_0_1.length : Int) then (if (rd l1_0_1 a0) = 0 then (some true) else (some ((rd l1_0_1 a0) == a2_0_0))) else (none)) else (none)
set_option maxHeartbeats 8000000 in
set_option maxRecDepth 100000 in
theorem impl_Hex_need_2.calls (a0 : Int) (g1_0 : Nat) (a1_0_0 : Int) (A1_0_1 : Option Addr) (c1_0_1 : Nat) (l1_0_1 : List Int) (g2_0 : Nat) (a2_0_0 : Int) (r : Bool) (w : World) (hb1_0 : w.heap[g1_0]? = some (.cells #[.int .i64 a1_0_0, .slice A1_0_1 l1_0_1.length c1_0_1] 28 (0, 0))) (hr1_0_1 : Kd.C (Kd.int .i64) w A1_0_1 l1_0_1.length l1_0_1) (hc1_0_1 : l1_0_1.length ≤ c1_0_1) (hb2_0 : w.heap[g2_0]? = some (.cells #[.int .i64 a2_0_0] 2 (0, 0))) (h : impl_Hex_need_2.f a0 a1_0_0 l1_0_1 a2_0_0 = some r) :
  Calls Tryd.prog 57 #[.int .i64 a0,.pointer (some ⟨g1_0,0,none⟩),.pointer (some ⟨g2_0,0,none⟩)] w fun e w'=>e = .returned (.bool r) ∧ Drawn0 w w':=by
 have HR1_0_1:=Aside0.mk hr1_0_1
 have HC1_0_1:=Aside0.mk hc1_0_1
 clear hr1_0_1 hc1_0_1
 have HBX90010:=Aside0.mk hb1_0
 clear hb1_0
 have HBX90020:=Aside0.mk hb2_0
 clear hb2_0
 have H : (if 0 ≤ a0 then (if a0 < (l1_0_1.length : Int) then (if (rd l1_0_1 a0) = 0 then (some true) else (some ((rd l1_0_1 a0) == a2_0_0))) else (none)) else (none)) = some r:=h
 clear h
 by_cases c4 : 0 ≤ a0
 ·rw [if_pos c4] at H
  have c4b0 : decide (0 ≤ a0) = true:=decide_eq_true c4
  clear c4
  by_cases c5 : a0 < (l1_0_1.length : Int)
  ·rw [if_pos c5] at H
   have c5b0 : decide (a0 < (l1_0_1.length : Int)) = true:=decide_eq_true c5
   clear c5
   by_cases c6 : (rd l1_0_1 a0) = 0
   ·rw [if_pos c6] at H
    have c6b0 : ((rd l1_0_1 a0) == 0) = true:=beq_iff_eq.mpr c6
    have c6b1 : ((rd l1_0_1 a0) != 0) = false:=bne_eq_false_iff_eq.mpr c6
    clear c6
    obtain rfl:=Option.some.inj H
    have hcz7_0 : w.cell? ⟨g1_0,0,none⟩ = some (.int .i64 a1_0_0):=(blk_cell HBX90010.out 0).trans rfl
    have hcz7_1 : w.cell? ⟨g1_0,1,none⟩ = some (.slice A1_0_1 l1_0_1.length c1_0_1):=(blk_cell HBX90010.out 1).trans rfl
    have hfz7_0:=blk_frozen HBX90010.out 0
    have hfz7_1:=blk_frozen HBX90010.out 1
    have p372 : 0 ≤ (a0 : Int):=of_decide_eq_true (by first|(with_reducible assumption)|assumption)
    have q372 : a0 < (l1_0_1.length : Int):=of_decide_eq_true (by first|(with_reducible assumption)|assumption)
    obtain ⟨ad372,e372,hx372_0⟩:=Kd.at_int HR1_0_1.out a0 p372 q372
    cases e372
    replace p372:=eq_true p372
    replace q372:=eq_true q372
    go_enter Tryd.func57,Tryd.ntmps57
    go_wp2
    repeat (go_quiet (fail);try go_wp2)
    go_ret
    exact ⟨by first|rfl|(simp;done)|(simp [*];done),by repeat (first|exact Drawn0.refl _|apply Drawn0.step)⟩
   ·rw [if_neg c6] at H
    have c6b0 : ((rd l1_0_1 a0) == 0) = false:=beq_eq_false_iff_ne.mpr c6
    have c6b1 : ((rd l1_0_1 a0) != 0) = true:=bne_iff_ne.mpr c6
    obtain rfl:=Option.some.inj H
    have hcz8_0 : w.cell? ⟨g1_0,0,none⟩ = some (.int .i64 a1_0_0):=(blk_cell HBX90010.out 0).trans rfl
    have hcz8_1 : w.cell? ⟨g1_0,1,none⟩ = some (.slice A1_0_1 l1_0_1.length c1_0_1):=(blk_cell HBX90010.out 1).trans rfl
    have hfz8_0:=blk_frozen HBX90010.out 0
    have hfz8_1:=blk_frozen HBX90010.out 1
    have p372 : 0 ≤ (a0 : Int):=of_decide_eq_true (by first|(with_reducible assumption)|assumption)
    have q372 : a0 < (l1_0_1.length : Int):=of_decide_eq_true (by first|(with_reducible assumption)|assumption)
    obtain ⟨ad372,e372,hx372_0⟩:=Kd.at_int HR1_0_1.out a0 p372 q372
    cases e372
    replace p372:=eq_true p372
    replace q372:=eq_true q372
    have p373 : 0 ≤ (a0 : Int):=of_decide_eq_true (by first|(with_reducible assumption)|assumption)
    have q373 : a0 < (l1_0_1.length : Int):=of_decide_eq_true (by first|(with_reducible assumption)|assumption)
    obtain ⟨ad373,e373,hx373_0⟩:=Kd.at_int HR1_0_1.out a0 p373 q373
    obtain rfl : ad372 = ad373:=(by injection e373)
    replace p373:=eq_true p373
    replace q373:=eq_true q373
    have hcz9_0 : w.cell? ⟨g2_0,0,none⟩ = some (.int .i64 a2_0_0):=(blk_cell HBX90020.out 0).trans rfl
    have hfz9_0:=blk_frozen HBX90020.out 0
    go_enter Tryd.func57,Tryd.ntmps57
    go_wp2
    repeat (go_quiet (fail);try go_wp2)
    go_ret
    exact ⟨by first|rfl|(simp;done)|(simp [*];done),by repeat (first|exact Drawn0.refl _|apply Drawn0.step)⟩
  ·rw [if_neg c5] at H
   exact absurd H (by simp)
 ·rw [if_neg c4] at H
  exact absurd H (by simp)

end Go.Proofs.YtcfdlbjngpmcaaaDoor.PAll
