-- Written by wip/pp.py of this work (a driver around the kit's print), out of the translation; Lean checks it.
import Derived.Test.YtcfdlbjngpmcaaaPAllx0
import Derived.Test.YtcfdlbjngpmcaaaPAllx6
import Derived.Test.YtcfdlbjngpmcaaaPAllx7
import Derived.Test.YtcfdlbjngpmcaaaPAllx9
import Derived.Test.YtcfdlbjngpmcaaaGClone
namespace Go.Proofs.Ytcfdlbjngpmcaaa.PAll
open Go.RowKit Go.Proofs.YtcfdlbjngpmcaaaW.PrintWords Go.Proofs.YtcfdlbjngpmcaaaW.PrintLast Go.Proofs.YtcfdlbjngpmcaaaW.PrintMore
attribute [local go_sem] max2_int min2_int max_two min_two max_three min_three max_four min_four   -- for this text's walks alone
set_option linter.unusedVariables false
set_option linter.unusedSimpArgs false

/-! ### impl_DeadCells: function 8 -/
mutual
def impl_DeadCells.l0 : Nat → List Int → List Int → Int → Int → Int → List Int → Option (List Int × Int)
 | 0, _, _, _, _, _, _ => none
 | k + 1, x6, x31, x35, x36, x265000, x265001 => if x36 < x35 then ((slices_Clone_int64_int64.f x265001).bind fun t279 => (impl_DeadCells.l1 k x6 x36 x31 x35 x36 (x31.length : Int) 0 x265000 x265001 x265000 t279)) else (impl_DeadCells.l2 k x6 (([] : List Int)) x31 (x31.length : Int) 0)
def impl_DeadCells.l1 : Nat → List Int → Int → List Int → Int → Int → Int → Int → Int → List Int → Int → List Int → Option (List Int × Int)
 | 0, _, _, _, _, _, _, _, _, _, _, _ => none
 | k + 1, x6, x7, x31, x35, x36, x46, x47, x265000, x265001, x283000, x283001 => if x47 < x46 then (if 0 ≤ x47 then (if x47 < (x31.length : Int) then (if 0 ≤ (rd x31 x47) then (if (rd x31 x47) < (x283001.length : Int) then (impl_DeadCells.l1 k x6 x7 x31 x35 x36 x46 (wrap64 (x47 + 1)) x265000 x265001 x283000 (x283001.set ((rd x31 x47) : Int).toNat (wrap64 (1 + (Go.bits .and .i64 (shr .i64 x7 x47) 1))))) else (none)) else (none)) else (none)) else (none)) else ((impl_Hex_joiner.f k x283000 x283001).bind fun t285 => (if x6.length < 17592186044416 then (impl_DeadCells.l0 k (x6 ++ [t285]) x31 x35 (wrap64 (x36 + 1)) x265000 x265001) else (none)))
def impl_DeadCells.l2 : Nat → List Int → List Int → List Int → Int → Int → Option (List Int × Int)
 | 0, _, _, _, _, _ => none
 | k + 1, x6, x11, x31, x70, x71 => if x71 < x70 then (if 0 ≤ x71 then (if x71 < (x31.length : Int) then (impl_DeadCells.l3 k x6 x11 x71 (rd x31 x71) true x31 x70 x71 (x6.length : Int) 0) else (none)) else (none)) else (some (x11, 0))
def impl_DeadCells.l3 : Nat → List Int → List Int → Int → Int → Bool → List Int → Int → Int → Int → Int → Option (List Int × Int)
 | 0, _, _, _, _, _, _, _, _, _, _ => none
 | k + 1, x6, x11, x12, x13, x14, x31, x70, x71, x77, x78 => if x78 < x77 then (if 0 ≤ x78 then (if x78 < (x6.length : Int) then (if x14 = true then (if 0 ≤ x12 then (if 0 ≤ (Go.bits .xor .i64 x78 (shl .i64 1 x12)) then (if (Go.bits .xor .i64 x78 (shl .i64 1 x12)) < (x6.length : Int) then (impl_DeadCells.l3 k x6 x11 x12 x13 ((rd x6 x78) == (rd x6 (Go.bits .xor .i64 x78 (shl .i64 1 x12)))) x31 x70 x71 x77 (wrap64 (x78 + 1))) else (none)) else (none)) else (none)) else (impl_DeadCells.l3 k x6 x11 x12 x13 false x31 x70 x71 x77 (wrap64 (x78 + 1)))) else (none)) else (none)) else (if x14 = true then (if x11.length < 17592186044416 then (impl_DeadCells.l2 k x6 (x11 ++ [x13]) x31 x70 (wrap64 (x71 + 1))) else (none)) else (impl_DeadCells.l2 k x6 x11 x31 x70 (wrap64 (x71 + 1))))
end
def impl_DeadCells.f (k : Nat) (a0_0 : Int) (l0_1 : List Int) : Option (List Int × Int) := (impl_IsHex.f k a0_0 l0_1).bind fun t265 => ((impl_Hex_cells.f k a0_0 l0_1 0).bind fun t266 => ((impl_first.f k (([(⟨t265, 1⟩ : S59), (⟨decide ((t266.length : Int) ≤ 9), 3⟩ : S59)] : List (S59)))).bind fun t272 => (if t272 = 0 then ((impl_Hex_cells.f k a0_0 l0_1 0).bind fun t273 => (impl_DeadCells.l0 k (([] : List Int)) t273 (shl .i64 1 (t273.length : Int)) 0 a0_0 l0_1)) else (some (([] : List Int), t272)))))
def impl_DeadCells.T1 : Bool × List (List Nat × List Nat) := (true, [([], []), ([0], [0]), ([1], [1]), ([], []), ([3, 1], [3]), ([4], [4]), ([5], [5]), ([6], [6]), ([2, 7], [2, 7]), ([8, 4], [8]), ([9, 9, 0, 1, 2, 3, 4, 5, 6, 7, 8, 9], [9])])
def impl_DeadCells.B1 : List Nat := [0, 1, 3, 0, 11, 27, 59, 123, 255, 511, 1023]
theorem impl_DeadCells.tab1 : rtab .any (opsOf Try.f8 1) = impl_DeadCells.T1 := by kernel_rfl
theorem impl_DeadCells.bits1 : waitsOk impl_DeadCells.T1.2 impl_DeadCells.B1 = true := by kernel_rfl
def impl_DeadCells.T9 : Bool × List (List Nat × List Nat) := (true, [([], []), ([0], [0]), ([], []), ([2], [2]), ([3], [3]), ([1, 4], [1, 4]), ([], []), ([6, 5, 4, 0, 1, 2, 3, 4, 5, 6], [5, 6])])
def impl_DeadCells.B9 : List Nat := [0, 1, 0, 4, 12, 31, 0, 127]
theorem impl_DeadCells.tab9 : rtab .any (opsOf Try.f8 9) = impl_DeadCells.T9 := by kernel_rfl
theorem impl_DeadCells.bits9 : waitsOk impl_DeadCells.T9.2 impl_DeadCells.B9 = true := by kernel_rfl
def impl_DeadCells.T13 : Bool × List (List Nat × List Nat) := (true, [([], []), ([0], [0]), ([], []), ([], []), ([], []), ([3, 4], [3, 4]), ([5], [5]), ([6], [6]), ([1, 2, 0, 1, 2, 3, 4, 5, 6, 7], [1, 2]), ([8, 7, 0, 1, 2, 3, 4, 5, 6, 7], [7, 8])])
def impl_DeadCells.B13 : List Nat := [0, 1, 0, 0, 0, 24, 56, 120, 255, 511]
theorem impl_DeadCells.tab13 : rtab .any (opsOf Try.f8 13) = impl_DeadCells.T13 := by kernel_rfl
theorem impl_DeadCells.bits13 : waitsOk impl_DeadCells.T13.2 impl_DeadCells.B13 = true := by kernel_rfl
set_option maxHeartbeats 8000000 in
set_option maxRecDepth 100000 in
theorem impl_DeadCells.calls (k : Nat) (a0_0 : Int) (A0_1 : Option Addr) (c0_1 : Nat) (l0_1 : List Int) (r1 : List Int) (r2 : Int) (w : World) (hr0_1 : Kd.C (Kd.int .i64) w A0_1 l0_1.length l0_1) (hc0_1 : l0_1.length ≤ c0_1) (h : impl_DeadCells.f k a0_0 l0_1 = some (r1, r2)) :
  Calls Try.prog 8 #[.agg #[.int .i64 a0_0,.slice A0_1 l0_1.length c0_1]] w fun e w'=>∃ v0_ : Value,e = .returned (.tuple #[v0_,.int .i64 r2]) ∧ Kd.R (Kd.int .i64) 2 w' w.heap.size (fun _=>True) v0_ r1 ∧ Below w.heap.size w w':=by
 have hu28:=Try.underlying28
 have hu59:=Try.underlying59
 have HR0_1:=Aside0.mk hr0_1
 have HC0_1:=Aside0.mk hc0_1
 clear hr0_1 hc0_1
 have HB:=Aside0.mk (Below.refl w.heap.size w)
 have H : ((impl_IsHex.f k a0_0 l0_1).bind fun t265=>((impl_Hex_cells.f k a0_0 l0_1 0).bind fun t266=>((impl_first.f k (([(⟨t265,1⟩ : S59),(⟨decide ((t266.length : Int) ≤ 9),3⟩ : S59)] : List (S59)))).bind fun t272=>(if t272 = 0 then ((impl_Hex_cells.f k a0_0 l0_1 0).bind fun t273=>(impl_DeadCells.l0 k (([] : List Int)) t273 (shl .i64 1 (t273.length : Int)) 0 a0_0 l0_1)) else (some (([] : List Int),t272)))))) = some (r1,r2):=h
 clear h
 replace H:=Option.bind_eq_some_iff.mp H
 obtain ⟨t265,A20,H⟩:=H
 replace H : ((impl_Hex_cells.f k a0_0 l0_1 0).bind fun t266=>((impl_first.f k (([(⟨t265,1⟩ : S59),(⟨decide ((t266.length : Int) ≤ 9),3⟩ : S59)] : List (S59)))).bind fun t272=>(if t272 = 0 then ((impl_Hex_cells.f k a0_0 l0_1 0).bind fun t273=>(impl_DeadCells.l0 k (([] : List Int)) t273 (shl .i64 1 (t273.length : Int)) 0 a0_0 l0_1)) else (some (([] : List Int),t272))))) = some (r1,r2):=H
 have A2:=Aside0.mk A20
 clear A20
 replace H:=Option.bind_eq_some_iff.mp H
 obtain ⟨t266,A30,H⟩:=H
 replace H : ((impl_first.f k (([(⟨t265,1⟩ : S59),(⟨decide ((t266.length : Int) ≤ 9),3⟩ : S59)] : List (S59)))).bind fun t272=>(if t272 = 0 then ((impl_Hex_cells.f k a0_0 l0_1 0).bind fun t273=>(impl_DeadCells.l0 k (([] : List Int)) t273 (shl .i64 1 (t273.length : Int)) 0 a0_0 l0_1)) else (some (([] : List Int),t272)))) = some (r1,r2):=H
 have A3:=Aside0.mk A30
 clear A30
 obtain ⟨y269,hy269⟩ : ∃ y_ : List (S59),y_ = (([(⟨t265,1⟩ : S59),(⟨decide ((t266.length : Int) ≤ 9),3⟩ : S59)] : List (S59))):=⟨_,rfl⟩
 replace H : ((impl_first.f k y269).bind fun t272=>(if t272 = 0 then ((impl_Hex_cells.f k a0_0 l0_1 0).bind fun t273=>(impl_DeadCells.l0 k (([] : List Int)) t273 (shl .i64 1 (t273.length : Int)) 0 a0_0 l0_1)) else (some (([] : List Int),t272)))) = some (r1,r2):=by first|(rw [hy269];with_reducible exact H)|(have H2_:=(Option.bind_some _ _).symm.trans H;rw [hy269];with_reducible exact H2_)|(have H2_:=(Option.bind_some _ _).symm.trans H;with_reducible exact H2_)|with_reducible exact H|(rw [hy269];exact H)|exact H
 have Ny269:=Aside0.mk hy269
 clear hy269
 replace H:=Option.bind_eq_some_iff.mp H
 obtain ⟨t272,A40,H⟩:=H
 replace H : (if t272 = 0 then ((impl_Hex_cells.f k a0_0 l0_1 0).bind fun t273=>(impl_DeadCells.l0 k (([] : List Int)) t273 (shl .i64 1 (t273.length : Int)) 0 a0_0 l0_1)) else (some (([] : List Int),t272))) = some (r1,r2):=H
 have A4:=Aside0.mk A40
 clear A40
 by_cases c5 : t272 = 0
 ·rw [if_pos c5] at H
  have c5b0 : (t272 == 0) = true:=beq_iff_eq.mpr c5
  have c5b1 : (t272 != 0) = false:=bne_eq_false_iff_eq.mpr c5
  clear c5
  replace H:=Option.bind_eq_some_iff.mp H
  obtain ⟨t273,A60,H⟩:=H
  replace H : (impl_DeadCells.l0 k (([] : List Int)) t273 (shl .i64 1 (t273.length : Int)) 0 a0_0 l0_1) = some (r1,r2):=H
  have A6:=Aside0.mk A60
  clear A60
  obtain ⟨y276,hy276⟩ : ∃ y_ : List Int,y_ = (([] : List Int)):=⟨_,rfl⟩
  replace H : (impl_DeadCells.l0 k y276 t273 (shl .i64 1 (t273.length : Int)) 0 a0_0 l0_1) = some (r1,r2):=by first|(rw [hy276];with_reducible exact H)|(have H2_:=(Option.bind_some _ _).symm.trans H;rw [hy276];with_reducible exact H2_)|(have H2_:=(Option.bind_some _ _).symm.trans H;with_reducible exact H2_)|with_reducible exact H|(rw [hy276];exact H)|exact H
  have Ny276:=Aside0.mk hy276
  clear hy276
  obtain ⟨ji7,hji7⟩ : ∃ j_ : Int,(shl .i64 1 (t273.length : Int)) = j_:=⟨_,rfl⟩
  replace H : (impl_DeadCells.l0 k y276 t273 ji7 0 a0_0 l0_1) = some (r1,r2):=by first|(rw [hji7] at H;exact H)|(simp only [hji7] at H ⊢;exact H)
  (try rw [hji7] at A2)
  (try rw [hji7] at A3)
  (try rw [hji7] at A4)
  (try rw [hji7] at A6)
  have hji7_ : (IntKind.i64.wrap (1 * 2 ^ min (t273.length : Int).toNat 64)) = ji7:=hji7
  have hji7z : (t273.length : Int) ≤ 64 → (IntKind.i64.wrap (1 * 2 ^ (t273.length : Int).toNat)) = ji7:=shl_small hji7
  have hji7p : (IntKind.i64.wrap (1 * 2 ^ min t273.length 64)) = ji7:=hji7_
  have hji7q : (t273.length : Int) ≤ 64 → (IntKind.i64.wrap (1 * 2 ^ t273.length)) = ji7:=hji7z
  have hji7r : (IntKind.i64.wrap (2 ^ min t273.length 64)) = ji7:=by have h_:=hji7p;rw [Int.one_mul] at h_;exact h_
  have hji7s : (t273.length : Int) ≤ 64 → (IntKind.i64.wrap (2 ^ t273.length)) = ji7:=fun hle_=>by have h_:=hji7q hle_;rw [Int.one_mul] at h_;exact h_
  have hji7u : (IntKind.i64.wrap (2 ^ min (t273.length : Int).toNat 64)) = ji7:=by have h_:=hji7_;rw [Int.one_mul] at h_;exact h_
  have hji7v : (t273.length : Int) ≤ 64 → (IntKind.i64.wrap (2 ^ (t273.length : Int).toNat)) = ji7:=fun hle_=>by have h_:=hji7z hle_;rw [Int.one_mul] at h_;exact h_
  have hji7y : (wrap64 (1 * 2 ^ min (t273.length : Int).toNat 64)) = ji7:=(i64_w _).symm.trans hji7_
  have hji7x : (t273.length : Int) ≤ 64 → (wrap64 (1 * 2 ^ (t273.length : Int).toNat)) = ji7:=fun h_=>(i64_w _).symm.trans (hji7z h_)
  have H':=Aside0.mk H
  clear H
  go_enter Try.func8,Try.ntmps8
  try go_wp2_with (first|((with_reducible refine gate_dst (N:=1) rfl ?_);refine box_event ?hg (N:=1) ?hd (cs:=#[.int .i64 a0_0,.slice A0_1 l0_1.length c0_1]) (t:=28) ?hr ?_;(case hd=>rfl);(case hg=>rfl);(case hr=>first|(go_simp;done)|(go_simp;rfl));intro gb264 hg w8 hbox hb;have n0_:=Aside0.mk (below_step (by repeat (first|(with_reducible first|exact HB.out|apply below_alloc|apply pw_below_drewN|apply below_drew1)|exact HB.out)) hb);have n1_:=Aside0.mk (hbox);have n2_:=Aside0.mk ((by rw [hg];exact (below_size (by repeat (first|(with_reducible first|exact HB.out|apply below_alloc|apply pw_below_drewN|apply below_drew1)|exact HB.out))) : w.heap.size ≤ gb264));have n3_:=Aside0.mk ((by rw [hg];exact (below_size (by repeat (first|(with_reducible first|exact HB.out|apply below_alloc|apply pw_below_drewN|apply below_drew1)|exact HB.out))) : w.heap.size ≤ gb264));clear HB;have HB:=n0_;have BK264:=n1_;have GW264:=n2_;have GE264:=n3_;clear n0_ n1_ n2_ n3_;clear hb hbox hg))
  have n0_:=Aside0.mk (blk_drew BK264.out)
  have n1_:=Aside0.mk (below_drew1 HB.out)
  clear BK264
  clear HB
  have BK264:=n0_
  have HB:=n1_
  clear n0_ n1_
  refine start_ (n:=11) (S:=fun w'=>w'.cell? ⟨gb264,0,none⟩ = some (.int .i64 a0_0) ∧ w'.cell? ⟨gb264,1,none⟩ = some (.slice A0_1 l0_1.length c0_1)) (ds:=[]) #[false,false,false,false,false,false,false,false,false,false,false] (by kernel_rfl) rfl rfl ⟨(blk_cell BK264.out 0).trans rfl,(blk_cell BK264.out 1).trans rfl⟩ (fun hHeld=>?_);refine with_tabW impl_DeadCells.tab1 impl_DeadCells.bits1 (fun HT_ HW_=>?_)
  generalize w8.drew = w9 at BK264 HB hHeld ⊢
  refine take_ (i:=0) (N:=some 17) (v:=?_) (a':=?_) #[true,false,false,false,false,false,false,false,false,false,false] rfl rfl (take_ofW HT_.out HW_.out (by kernel_rfl)) (fun _ _ _ h=>h) (Or.inl ⟨by rfl,?_⟩) hHeld ?_ ?_
  rotate_left
  ·rintro w' ⟨s0,s1⟩
   go_simp
   with_reducible rfl
  rotate_left
  ·simp only [Act.put,List.setIfInBounds_toArray,List.set_cons_zero,List.set_cons_succ,i64_w,i32_w]
   rfl
  refine take_ (i:=3) (N:=some 20) (v:=?_) (a':=?_) #[true,false,false,true,false,false,false,false,false,false,false] rfl rfl (take_ofW HT_.out HW_.out (by kernel_rfl)) (fun _ _ _ h=>h) (Or.inl ⟨by rfl,?_⟩) hHeld ?_ ?_
  rotate_left
  ·rintro w' ⟨s0,s1⟩
   go_simp
   with_reducible rfl
  rotate_left
  ·simp only [Act.put,List.setIfInBounds_toArray,List.set_cons_zero,List.set_cons_succ,i64_w,i32_w]
   rfl
  refine one_ (i:=1) (N:=some 18) #[true,true,false,true,false,false,false,false,false,false,false] rfl rfl (one_of HT_.out (by kernel_rfl)) (by decide) (fun K hK=>?_)
  refine goes_ Try.func31 (by kernel_rfl) rfl #[.agg #[.int .i64 a0_0,.slice A0_1 l0_1.length c0_1]] (by rfl) rfl rfl (by (try simp only [List.map_toArray,List.map_cons,List.map_nil]);first|done|rfl|(simp only [List.length_drop,List.length_take];rfl)) ?_
  with_reducible refine (impl_IsHex.calls k a0_0 _ _ l0_1 t265 _ ?side1 ?side2 A2.out).mono ?_
  (case side1=>repeat (first|exact (Kd.C_below HR0_1.out HB.out)|(with_reducible refine Kd.C_alloc ?_ _)|(with_reducible refine Kd.C_drewN ?_ _)|(with_reducible refine Kd.C_drew ?_)))
  (case side2=>exact HC0_1.out)
  rintro e w10 ⟨rfl,hb⟩
  refine ⟨_,rfl,?_⟩
  have n0_:=Aside0.mk (blk_below (g:=gb264) (o:=.cells #[.int .i64 a0_0,.slice A0_1 l0_1.length c0_1] 28 (0,0)) (by (with_reducible repeat (first|refine blk_drewN ?_ _|refine blk_drew ?_|refine blk_alloc ?_ _));exact BK264.out) hb)
  have n1_:=Aside0.mk (below_step (by repeat (first|(with_reducible first|exact HB.out|apply below_alloc|apply pw_below_drewN|apply below_drew1|refine below_set ?_ GE264.out)|exact HB.out)) hb)
  clear BK264
  clear HB
  have BK264:=n0_
  have HB:=n1_
  clear n0_ n1_
  (try clear hb)
  (try clear hb2)
  (try clear hk)
  (try clear hi)
  refine hK.out _ _ ⟨(blk_cell BK264.out 0).trans rfl,(blk_cell BK264.out 1).trans rfl⟩ (fun hHeld=>?_)
  clear hK K
  refine norm_ (a':=?_) ?_ ?_
  rotate_left
  ·show Act.put _ (some 18) _ = _
   simp only [Act.put,List.setIfInBounds_toArray,List.set_cons_zero,List.set_cons_succ,i64_w,i32_w]
   rfl
  refine pure_ (i:=2) (N:=some 19) (v:=?_) (a':=?_) #[true,true,true,true,false,false,false,false,false,false,false] rfl rfl (any_of HT_.out (by kernel_rfl)) (fun _ _ _ h=>h) (Or.inl ⟨by rfl,?_⟩) ?_ ?_
  rotate_left
  ·intro w'
   go_simp
   with_reducible rfl
  rotate_left
  ·simp only [Act.put,List.setIfInBounds_toArray,List.set_cons_zero,List.set_cons_succ,i64_w,i32_w]
   rfl
  refine one_ (i:=4) (N:=some 21) #[true,true,true,true,true,false,false,false,false,false,false] rfl rfl (one_of HT_.out (by kernel_rfl)) (by decide) (fun K hK=>?_)
  refine goes_ Try.func42 (by kernel_rfl) rfl #[.agg #[.int .i64 a0_0,.slice A0_1 l0_1.length c0_1],.int .i64 0] (by rfl) rfl rfl (by (try simp only [List.map_toArray,List.map_cons,List.map_nil]);first|done|rfl|(simp only [List.length_drop,List.length_take];rfl)) ?_
  with_reducible refine (impl_Hex_cells.calls k a0_0 _ _ l0_1 0 t266 _ ?side1 ?side2 A3.out).mono ?_
  (case side1=>repeat (first|exact (Kd.C_below HR0_1.out HB.out)|(with_reducible refine Kd.C_alloc ?_ _)|(with_reducible refine Kd.C_drewN ?_ _)|(with_reducible refine Kd.C_drew ?_)))
  (case side2=>exact HC0_1.out)
  rintro e w11 ⟨v267,rfl,ho0,hb⟩
  refine ⟨_,rfl,?_⟩
  have n0_:=Aside0.mk (Kd.R_lower ho0 (below_size (by repeat (first|(with_reducible first|exact HB.out|apply below_alloc|apply pw_below_drewN|apply below_drew1|refine below_set ?_ GE264.out)|exact HB.out))))
  have n1_:=Aside0.mk (blk_below (g:=gb264) (o:=.cells #[.int .i64 a0_0,.slice A0_1 l0_1.length c0_1] 28 (0,0)) (by (with_reducible repeat (first|refine blk_drewN ?_ _|refine blk_drew ?_|refine blk_alloc ?_ _));exact BK264.out) hb)
  have n2_:=Aside0.mk (below_step (by repeat (first|(with_reducible first|exact HB.out|apply below_alloc|apply pw_below_drewN|apply below_drew1|refine below_set ?_ GE264.out)|exact HB.out)) hb)
  clear BK264
  clear HB
  have HO268:=n0_
  have BK264:=n1_
  have HB:=n2_
  clear n0_ n1_ n2_
  (try clear hb)
  (try clear hb2)
  (try clear hk)
  (try clear hi)
  (try clear ho0)
  obtain ⟨Ao12,co12,eo12⟩:=Kd.R_slice HO268.out
  (first|subst eo12|(injection eo12 with f1_ f2_ f3_;have f4_:=f1_.symm;have f5_:=f3_.symm;clear f1_ f2_ f3_;subst f4_;subst f5_))
  refine hK.out _ _ ⟨(blk_cell BK264.out 0).trans rfl,(blk_cell BK264.out 1).trans rfl⟩ (fun hHeld=>?_)
  clear hK K
  refine norm_ (a':=?_) ?_ ?_
  rotate_left
  ·show Act.put _ (some 21) _ = _
   simp only [Act.put,List.setIfInBounds_toArray,List.set_cons_zero,List.set_cons_succ,i64_w,i32_w]
   rfl
  refine pure_ (i:=5) (N:=some 22) (v:=?_) (a':=?_) #[true,true,true,true,true,true,false,false,false,false,false] rfl rfl (any_of HT_.out (by kernel_rfl)) (fun _ _ _ h=>h) (Or.inl ⟨by rfl,?_⟩) ?_ ?_
  rotate_left
  ·intro w'
   go_simp
   with_reducible rfl
  rotate_left
  ·simp only [Act.put,List.setIfInBounds_toArray,List.set_cons_zero,List.set_cons_succ,i64_w,i32_w]
   rfl
  refine pure_ (i:=6) (N:=some 23) (v:=?_) (a':=?_) #[true,true,true,true,true,true,true,false,false,false,false] rfl rfl (any_of HT_.out (by kernel_rfl)) (fun _ _ _ h=>h) (Or.inl ⟨by rfl,?_⟩) ?_ ?_
  rotate_left
  ·intro w'
   go_simp
   with_reducible rfl
  rotate_left
  ·simp only [Act.put,List.setIfInBounds_toArray,List.set_cons_zero,List.set_cons_succ,i64_w,i32_w]
   rfl
  refine pure_ (i:=7) (N:=some 24) (v:=?_) (a':=?_) #[true,true,true,true,true,true,true,true,false,false,false] rfl rfl (any_of HT_.out (by kernel_rfl)) (fun _ _ _ h=>h) (Or.inl ⟨by rfl,?_⟩) ?_ ?_
  rotate_left
  ·intro w'
   go_simp
   with_reducible rfl
  rotate_left
  ·simp only [Act.put,List.setIfInBounds_toArray,List.set_cons_zero,List.set_cons_succ,i64_w,i32_w]
   rfl
  refine one_ (i:=8) (N:=some 25) #[true,true,true,true,true,true,true,true,true,false,false] rfl rfl (one_of HT_.out (by kernel_rfl)) (by decide) (fun K hK=>?_)
  refine Kd.R_lit_step k59 _ 59 ?hg (N:=25) ?hd (xs:=([(⟨t265,1⟩ : S59),(⟨decide ((t266.length : Int) ≤ 9),3⟩ : S59)] : List (S59))) (inner:=[.bool t265,.int .i64 1,.bool (decide ((t266.length : Int) ≤ 9)),.int .i64 3]) (ok:=fun _=>True) (okp:=fun _=>True) ?hr ?hp (fun _ hk=>hk) trivial (Below.refl _ _) (Nat.le_refl _) (by simp) ?_;(case hd=>rfl);(case hg=>rfl);(case hr=>first|(go_simp;done)|(go_simp;rfl));(case hp=>exact (Reps.c2 (show Kd.M k59 _ _ _ (⟨t265,1⟩ : S59) [.bool t265,.int .i64 1] from (k59_mkM _ _ _ (⟨t265,1⟩ : S59) )) (Reps.c2 (show Kd.M k59 _ _ _ (⟨decide ((t266.length : Int) ≤ 9),3⟩ : S59) [.bool (decide ((t266.length : Int) ≤ 9)),.int .i64 3] from (k59_mkM _ _ _ (⟨decide ((t266.length : Int) ≤ 9),3⟩ : S59) )) (Reps.none _ _))))
  intro v270 w13 ho14 hb hg_ hnew_
  clear hg_ hnew_
  (first|rw [← Ny269.out] at ho14|(simp only [Int.reduceToNat] at ho14;rw [← Ny269.out] at ho14))
  have n0_:=Aside0.mk (Kd.R_below (by (with_reducible repeat (first|apply Kd.R_alloc|apply Kd.R_drewN|apply Kd.R_drew));exact HO268.out) hb)
  have n1_:=Aside0.mk (Kd.R_lower ho14 (below_size (by repeat (first|(with_reducible first|exact HB.out|apply below_alloc|apply pw_below_drewN|apply below_drew1|refine below_set ?_ GE264.out)|exact HB.out))))
  have n2_:=Aside0.mk (blk_below (g:=gb264) (o:=.cells #[.int .i64 a0_0,.slice A0_1 l0_1.length c0_1] 28 (0,0)) (by (with_reducible repeat (first|refine blk_drewN ?_ _|refine blk_drew ?_|refine blk_alloc ?_ _));exact BK264.out) hb)
  have n3_:=Aside0.mk (below_step (by repeat (first|(with_reducible first|exact HB.out|apply below_alloc|apply pw_below_drewN|apply below_drew1|refine below_set ?_ GE264.out)|exact HB.out)) hb)
  clear HO268
  clear BK264
  clear HB
  have HO268:=n0_
  have HO271:=n1_
  have BK264:=n2_
  have HB:=n3_
  clear n0_ n1_ n2_ n3_
  clear hb ho14
  obtain ⟨Ao15,co15,eo15⟩:=Kd.R_slice HO271.out
  (first|subst eo15|(injection eo15 with f1_ f2_ f3_;have f4_:=f1_.symm;have f5_:=f3_.symm;clear f1_ f2_ f3_;subst f4_;subst f5_))
  refine hK.out _ _ ⟨(blk_cell BK264.out 0).trans rfl,(blk_cell BK264.out 1).trans rfl⟩ (fun hHeld=>?_)
  clear hK K
  refine norm_ (a':=?_) ?_ ?_
  rotate_left
  ·show Act.put _ (some 25) _ = _
   simp only [Act.put,List.setIfInBounds_toArray,List.set_cons_zero,List.set_cons_succ,i64_w,i32_w]
   rfl
  refine one_ (i:=9) (N:=some 26) #[true,true,true,true,true,true,true,true,true,true,false] rfl rfl (one_of HT_.out (by kernel_rfl)) (by decide) (fun K hK=>?_)
  refine goes_ Try.func41 (by kernel_rfl) rfl #[.slice Ao15 y269.length co15] (by rfl) rfl rfl (by (try simp only [List.map_toArray,List.map_cons,List.map_nil]);first|done|rfl|(simp only [List.length_drop,List.length_take];rfl)) ?_
  with_reducible refine (impl_first.calls k _ _ y269 t272 _ ?side1 ?side2 A4.out).mono ?_
  (case side1=>repeat (first|exact (Kd.R_reads' HO271.out).2.2|(with_reducible refine Kd.C_alloc ?_ _)|(with_reducible refine Kd.C_drewN ?_ _)|(with_reducible refine Kd.C_drew ?_)))
  (case side2=>exact (Kd.R_reads' HO271.out).2.1)
  rintro e w16 ⟨rfl,hb⟩
  refine ⟨_,rfl,?_⟩
  have n0_:=Aside0.mk (Kd.R_below (by (with_reducible repeat (first|apply Kd.R_alloc|apply Kd.R_drewN|apply Kd.R_drew));exact HO268.out) hb)
  have n1_:=Aside0.mk (Kd.R_below (by (with_reducible repeat (first|apply Kd.R_alloc|apply Kd.R_drewN|apply Kd.R_drew));exact HO271.out) hb)
  have n2_:=Aside0.mk (blk_below (g:=gb264) (o:=.cells #[.int .i64 a0_0,.slice A0_1 l0_1.length c0_1] 28 (0,0)) (by (with_reducible repeat (first|refine blk_drewN ?_ _|refine blk_drew ?_|refine blk_alloc ?_ _));exact BK264.out) hb)
  have n3_:=Aside0.mk (below_step (by repeat (first|(with_reducible first|exact HB.out|apply below_alloc|apply pw_below_drewN|apply below_drew1|refine below_set ?_ GE264.out)|exact HB.out)) hb)
  clear HO268
  clear HO271
  clear BK264
  clear HB
  have HO268:=n0_
  have HO271:=n1_
  have BK264:=n2_
  have HB:=n3_
  clear n0_ n1_ n2_ n3_
  (try clear hb)
  (try clear hb2)
  (try clear hk)
  (try clear hi)
  refine hK.out _ _ ⟨(blk_cell BK264.out 0).trans rfl,(blk_cell BK264.out 1).trans rfl⟩ (fun hHeld=>?_)
  clear hK K
  refine norm_ (a':=?_) ?_ ?_
  rotate_left
  ·show Act.put _ (some 26) _ = _
   simp only [Act.put,List.setIfInBounds_toArray,List.set_cons_zero,List.set_cons_succ,i64_w,i32_w]
   rfl
  refine pure_ (i:=10) (N:=some 4) (v:=?_) (a':=?_) #[true,true,true,true,true,true,true,true,true,true,true] rfl rfl (any_of HT_.out (by kernel_rfl)) (fun _ _ _ h=>h) (Or.inl ⟨by rfl,?_⟩) ?_ ?_
  rotate_left
  ·intro w'
   go_simp
   with_reducible rfl
  rotate_left
  ·simp only [Act.put,List.setIfInBounds_toArray,List.set_cons_zero,List.set_cons_succ,i64_w,i32_w]
   rfl
  refine done_ (done_of HT_.out (by kernel_rfl)) ?_
  have hcz17_0 : w16.cell? ⟨gb264,0,none⟩ = some (.int .i64 a0_0):=(blk_cell BK264.out 0).trans rfl
  have hcz17_1 : w16.cell? ⟨gb264,1,none⟩ = some (.slice A0_1 l0_1.length c0_1):=(blk_cell BK264.out 1).trans rfl
  have hfz17_0:=blk_frozen BK264.out 0
  have hfz17_1:=blk_frozen BK264.out 1
  try go_wp2_with (first|((with_reducible refine gate_callee (f:=42) rfl ?_);refine goesL_ (some 31) rfl rfl Try.func42 (by kernel_rfl) rfl #[.agg #[.int .i64 a0_0,.slice A0_1 l0_1.length c0_1],.int .i64 0] rfl (by (try simp only [List.map_toArray,List.map_cons,List.map_nil]);first|done|rfl|(simp only [List.length_drop,List.length_take];rfl)) ?_;(with_reducible refine (impl_Hex_cells.calls k a0_0 _ _ l0_1 0 t273 _ ?side1 ?side2 A6.out).mono ?_);(case side1=>repeat (first|exact (Kd.C_below HR0_1.out HB.out)|(with_reducible refine Kd.C_alloc ?_ _)|(with_reducible refine Kd.C_drewN ?_ _)|(with_reducible refine Kd.C_drew ?_)));(case side2=>exact HC0_1.out);rintro e w18 ⟨v274,rfl,ho0,hb⟩;refine ⟨_,rfl,?_⟩;have n0_:=Aside0.mk (Kd.R_elder' (by (with_reducible repeat (first|apply Kd.R_alloc|apply Kd.R_drewN|apply Kd.R_drew));exact HO268.out) (Kd.R_base ho0) hb);have n1_:=Aside0.mk (Kd.R_below (by (with_reducible repeat (first|apply Kd.R_alloc|apply Kd.R_drewN|apply Kd.R_drew));exact HO271.out) hb);have n2_:=Aside0.mk (Kd.R_lower (Kd.R_new' ho0 (Kd.R_lt (by (with_reducible repeat (first|apply Kd.R_alloc|apply Kd.R_drewN|apply Kd.R_drew));exact HO268.out))) (below_size (by repeat (first|(with_reducible first|exact HB.out|apply below_alloc|apply pw_below_drewN|apply below_drew1|refine below_set ?_ GE264.out)|exact HB.out))));have n3_:=Aside0.mk (blk_below (g:=gb264) (o:=.cells #[.int .i64 a0_0,.slice A0_1 l0_1.length c0_1] 28 (0,0)) (by (with_reducible repeat (first|refine blk_drewN ?_ _|refine blk_drew ?_|refine blk_alloc ?_ _));exact BK264.out) hb);have n4_:=Aside0.mk (below_step (by repeat (first|(with_reducible first|exact HB.out|apply below_alloc|apply pw_below_drewN|apply below_drew1|refine below_set ?_ GE264.out)|exact HB.out)) hb);clear HO268;clear HO271;clear BK264;clear HB;have HO268:=n0_;have HO271:=n1_;have HO275:=n2_;have BK264:=n3_;have HB:=n4_;clear n0_ n1_ n2_ n3_ n4_;(try clear hb);(try clear hb2);(try clear hk);(try clear hi);(try clear ho0))|((with_reducible refine gate_dst (N:=32) rfl ?_);refine Kd.R_lit (Kd.int .i64) _ 2 ?hg (N:=32) ?hd (xs:=([] : List Int)) (inner:=[]) (ok:=fun _=>True) (okp:=fun _=>True) ?hr ?hp (fun _ hk=>hk) trivial (Below.refl _ _) (Nat.le_refl _) (by simp) ?_;(case hd=>rfl);(case hg=>rfl);(case hr=>first|(go_simp;done)|(go_simp;rfl));(case hp=>exact (Reps.none _ _));intro v277 w19 ho20 hb hg_ hnew_;clear hg_ hnew_;(first|rw [← Ny276.out] at ho20|(simp only [Int.reduceToNat] at ho20;rw [← Ny276.out] at ho20));have n0_:=Aside0.mk (Kd.R_elder' (by (with_reducible repeat (first|apply Kd.R_alloc|apply Kd.R_drewN|apply Kd.R_drew));exact HO268.out) (Kd.R_base ho20) hb);have n1_:=Aside0.mk (Kd.R_below (by (with_reducible repeat (first|apply Kd.R_alloc|apply Kd.R_drewN|apply Kd.R_drew));exact HO271.out) hb);have n2_:=Aside0.mk (Kd.R_elder' (by (with_reducible repeat (first|apply Kd.R_alloc|apply Kd.R_drewN|apply Kd.R_drew));exact HO275.out) (Kd.R_base ho20) hb);have n3_:=Aside0.mk (Kd.R_lower (Kd.R_new' (Kd.R_new' ho20 (Kd.R_lt (by (with_reducible repeat (first|apply Kd.R_alloc|apply Kd.R_drewN|apply Kd.R_drew));exact HO268.out))) (Kd.R_lt (by (with_reducible repeat (first|apply Kd.R_alloc|apply Kd.R_drewN|apply Kd.R_drew));exact HO275.out))) (below_size (by repeat (first|(with_reducible first|exact HB.out|apply below_alloc|apply pw_below_drewN|apply below_drew1|refine below_set ?_ GE264.out)|exact HB.out))));have n4_:=Aside0.mk (blk_below (g:=gb264) (o:=.cells #[.int .i64 a0_0,.slice A0_1 l0_1.length c0_1] 28 (0,0)) (by (with_reducible repeat (first|refine blk_drewN ?_ _|refine blk_drew ?_|refine blk_alloc ?_ _));exact BK264.out) hb);have n5_:=Aside0.mk (below_step (by repeat (first|(with_reducible first|exact HB.out|apply below_alloc|apply pw_below_drewN|apply below_drew1|refine below_set ?_ GE264.out)|exact HB.out)) hb);clear HO268;clear HO271;clear HO275;clear BK264;clear HB;have HO268:=n0_;have HO271:=n1_;have HO275:=n2_;have HO278:=n3_;have BK264:=n4_;have HB:=n5_;clear n0_ n1_ n2_ n3_ n4_ n5_;clear hb ho20;obtain ⟨Ao21,co21,eo21⟩:=Kd.R_slice HO275.out;subst eo21))
  go_loopg [6,36] k (fun kq v6 v36 w'=>∃ (x6_1 : List Int) (x31_1 : List Int) (x36_1 : Int),v36 = .int .i64 x36_1 ∧ Aside0 (impl_DeadCells.l0 kq x6_1 x31_1 ji7 x36_1 a0_0 l0_1 = some (r1,r2)) ∧ Aside0 (kq ≤ k) ∧ Aside0 (Kd.R (Kd.int .i64) 2 w' w.heap.size (fun k_=>some k_ ≠ ((.slice Ao21 t273.length co21) : Value).ownBlock) v6 x6_1) ∧ Aside0 (Kd.R (Kd.int .i64) 2 w' w.heap.size (fun k_=>some k_ ≠ (v6 : Value).ownBlock) (.slice Ao21 t273.length co21) x31_1) ∧ Aside0 (w'.heap[gb264]? = some (.cells #[.int .i64 a0_0,(.slice A0_1 l0_1.length c0_1)] 28 (0,0))) ∧ Aside0 (Below w.heap.size w w'))
  case atStart=>exact ⟨(y276),(t273),(0),(by first|rfl|(simp;done)|(simp [*];done)),H',⟨Nat.le_refl _⟩,⟨by (with_reducible repeat (first|apply Kd.R_alloc|apply Kd.R_drewN|apply Kd.R_drew));exact Kd.R_mono HO278.out (fun _ hk=>hk.2)⟩,⟨by (with_reducible repeat (first|apply Kd.R_alloc|apply Kd.R_drewN|apply Kd.R_drew));exact Kd.R_mono HO275.out (fun _ hk=>hk.2)⟩,⟨by (with_reducible repeat (first|refine blk_drewN ?_ _|refine blk_drew ?_|refine blk_alloc ?_ _));exact BK264.out⟩,⟨by repeat (first|(with_reducible first|exact HB.out|apply below_alloc|apply pw_below_drewN|apply below_drew1|refine below_set ?_ GE264.out)|exact HB.out)⟩⟩
  case round =>
   clear H'
   try clear c2
   try clear p2
   try clear c3
   try clear c4
   try clear c5
   try clear c5b0
   try clear c5b1
   try clear p6
   try clear c8
   try clear hcz17_0
   try clear hcz17_1
   try clear hfz17_0
   try clear hfz17_1
   obtain ⟨x6_1,x31_1,x36_1,rfl,HA,HK1,HO_6,HO_31,BK264,HB⟩:=hrel
   have hl31_1:=(Kd.R_reads' HO_31.out).1
   rw [hl31_1] at HO_31
   (try simp only [hl31_1])
   (try simp only [hl31_1] at BK264)
   (try simp only [hl31_1] at HO_6)
   cases gk with
   | zero => exact absurd HA.out (by simp [impl_DeadCells.l0])
   | succ k1 =>
    have H:=HA.out
    clear HA
    simp only [impl_DeadCells.l0] at H
    by_cases c22 : x36_1 < ji7
    ·rw [if_pos c22] at H
     have c22b0 : decide (x36_1 < ji7) = true:=decide_eq_true c22
     clear c22
     replace H:=Option.bind_eq_some_iff.mp H
     obtain ⟨t279,A230,H⟩:=H
     replace H : (impl_DeadCells.l1 k1 x6_1 x36_1 x31_1 ji7 x36_1 (x31_1.length : Int) 0 a0_0 l0_1 a0_0 t279) = some (r1,r2):=H
     have A23:=Aside0.mk A230
     clear A230
     have H':=Aside0.mk H
     clear H
     try go_wp2
     have n0_:=Aside0.mk (Kd.R_drew HO_6.out)
     have n1_:=Aside0.mk (Kd.R_drew HO_31.out)
     have n2_:=Aside0.mk (blk_drew BK264.out)
     have n3_:=Aside0.mk (below_drew1 HB.out)
     clear HO_6
     clear HO_31
     clear BK264
     clear HB
     have HO_6:=n0_
     have HO_31:=n1_
     have BK264:=n2_
     have HB:=n3_
     clear n0_ n1_ n2_ n3_
     refine start_ (n:=8) (S:=fun w'=>w'.cell? ⟨gb264,0,none⟩ = some (.int .i64 a0_0) ∧ w'.cell? ⟨gb264,1,none⟩ = some (.slice A0_1 l0_1.length c0_1)) (ds:=[]) #[false,false,false,false,false,false,false,false] (by kernel_rfl) rfl rfl ⟨(blk_cell BK264.out 0).trans rfl,(blk_cell BK264.out 1).trans rfl⟩ (fun hHeld=>?_);refine with_tabW impl_DeadCells.tab9 impl_DeadCells.bits9 (fun HT_ HW_=>?_)
     generalize wr.drew = w24 at HO_6 HO_31 BK264 HB hHeld ⊢
     refine pure_ (i:=0) (N:=some 39) (v:=?_) (a':=?_) #[true,false,false,false,false,false,false,false] rfl rfl (any_of HT_.out (by kernel_rfl)) (fun _ _ _ h=>h) (Or.inl ⟨by rfl,?_⟩) ?_ ?_
     rotate_left
     ·intro w'
      go_simp
      with_reducible rfl
     rotate_left
     ·simp only [Act.put,List.setIfInBounds_toArray,List.set_cons_zero,List.set_cons_succ,i64_w,i32_w]
      rfl
     refine pure_ (i:=2) (N:=some 41) (v:=?_) (a':=?_) #[true,false,true,false,false,false,false,false] rfl rfl (any_of HT_.out (by kernel_rfl)) (fun _ _ _ h=>h) (Or.inl ⟨by rfl,?_⟩) ?_ ?_
     rotate_left
     ·intro w'
      go_simp
      with_reducible rfl
     rotate_left
     ·simp only [Act.put,List.setIfInBounds_toArray,List.set_cons_zero,List.set_cons_succ,i64_w,i32_w]
      rfl
     refine take_ (i:=1) (N:=some 40) (v:=?_) (a':=?_) #[true,true,true,false,false,false,false,false] rfl rfl (take_ofW HT_.out HW_.out (by kernel_rfl)) (fun _ _ _ h=>h) (Or.inl ⟨by rfl,?_⟩) hHeld ?_ ?_
     rotate_left
     ·rintro w' ⟨s0,s1⟩
      go_simp
      with_reducible rfl
     rotate_left
     ·simp only [Act.put,List.setIfInBounds_toArray,List.set_cons_zero,List.set_cons_succ,i64_w,i32_w]
      rfl
     refine take_ (i:=3) (N:=some 42) (v:=?_) (a':=?_) #[true,true,true,true,false,false,false,false] rfl rfl (take_ofW HT_.out HW_.out (by kernel_rfl)) (fun _ _ _ h=>h) (Or.inl ⟨by rfl,?_⟩) hHeld ?_ ?_
     rotate_left
     ·rintro w' ⟨s0,s1⟩
      go_simp
      with_reducible rfl
     rotate_left
     ·simp only [Act.put,List.setIfInBounds_toArray,List.set_cons_zero,List.set_cons_succ,i64_w,i32_w]
      rfl
     refine join_ (σ:=Value × Nat) 1 #[true,true,true,true,true,true,true,false] (fun s_=>[(43,s_.1),(8,.pointer (some ⟨s_.2,0,none⟩)),(44,.agg #[.int .i64 a0_0,s_.1])]) (fun s_ w'=>(w'.cell? ⟨gb264,0,none⟩ = some (.int .i64 a0_0) ∧ w'.cell? ⟨gb264,1,none⟩ = some (.slice A0_1 l0_1.length c0_1)) ∧ (Kd.R (Kd.int .i64) 2 w' w.heap.size (fun k_=>some k_ ≠ (.slice Ao21 x31_1.length co21 : Value).ownBlock ∧ some k_ ≠ (u6 : Value).ownBlock) s_.1 t279) ∧ (Kd.R (Kd.int .i64) 2 w' w.heap.size (fun k_=>some k_ ≠ (s_.1 : Value).ownBlock ∧ some k_ ≠ (u6 : Value).ownBlock) (.slice Ao21 x31_1.length co21) x31_1) ∧ (Kd.R (Kd.int .i64) 2 w' w.heap.size (fun k_=>some k_ ≠ (s_.1 : Value).ownBlock ∧ some k_ ≠ (.slice Ao21 x31_1.length co21 : Value).ownBlock) u6 x6_1) ∧ (w'.heap[gb264]? = some (.cells #[.int .i64 a0_0,.slice A0_1 l0_1.length c0_1] 28 (0,0))) ∧ (w'.heap[s_.2]? = some (.cells #[.int .i64 0,.slice none 0 0] 28 (0,0))) ∧ (w.heap.size ≤ s_.2) ∧ (w.heap.size ≤ s_.2) ∧ (gb264 ≠ s_.2) ∧ (s_.2 ≠ gb264) ∧ (Below w.heap.size w w')) ?_ ?_
     rotate_left
     ·intro hCont
      refine two_ (i:=4) (j:=6) (Ni:=some 43) (Nj:=some 8) #[true,true,true,true,true,false,false,false] #[true,true,true,true,false,false,true,false] rfl rfl rfl rfl (two_of HT_.out (by kernel_rfl)) (by decide) (by decide) (fun K hK=>?_) (fun K hK=>?_)
      ·skip
       refine goes_ Try.func43 (by kernel_rfl) rfl #[.slice A0_1 l0_1.length c0_1] (by rfl) rfl rfl (by (try simp only [List.map_toArray,List.map_cons,List.map_nil]);first|done|rfl|(simp only [List.length_drop,List.length_take];rfl)) ?_
       with_reducible refine (slices_Clone_int64_int64.calls _ _ l0_1 t279 _ ?side1 ?side2 A23.out).mono ?_
       (case side1=>repeat (first|exact (Kd.C_below HR0_1.out HB.out)|(with_reducible refine Kd.C_alloc ?_ _)|(with_reducible refine Kd.C_drewN ?_ _)|(with_reducible refine Kd.C_drew ?_)))
       (case side2=>exact HC0_1.out)
       rintro e w25 ⟨v280,rfl,ho0,hb⟩
       refine ⟨_,rfl,?_⟩
       have n0_:=Aside0.mk (Kd.R_elder' (by (with_reducible repeat (first|apply Kd.R_alloc|apply Kd.R_drewN|apply Kd.R_drew));exact HO_6.out) (Kd.R_base ho0) hb)
       have n1_:=Aside0.mk (Kd.R_elder' (by (with_reducible repeat (first|apply Kd.R_alloc|apply Kd.R_drewN|apply Kd.R_drew));exact HO_31.out) (Kd.R_base ho0) hb)
       have n2_:=Aside0.mk (Kd.R_lower (Kd.R_new' (Kd.R_new' ho0 (Kd.R_lt (by (with_reducible repeat (first|apply Kd.R_alloc|apply Kd.R_drewN|apply Kd.R_drew));exact HO_6.out))) (Kd.R_lt (by (with_reducible repeat (first|apply Kd.R_alloc|apply Kd.R_drewN|apply Kd.R_drew));exact HO_31.out))) (below_size (by repeat (first|(with_reducible first|exact HB.out|apply below_alloc|apply pw_below_drewN|apply below_drew1|refine below_set ?_ GE264.out)|exact HB.out))))
       have n3_:=Aside0.mk (blk_below (g:=gb264) (o:=.cells #[.int .i64 a0_0,.slice A0_1 l0_1.length c0_1] 28 (0,0)) (by (with_reducible repeat (first|refine blk_drewN ?_ _|refine blk_drew ?_|refine blk_alloc ?_ _));exact BK264.out) hb)
       have n4_:=Aside0.mk (below_step (by repeat (first|(with_reducible first|exact HB.out|apply below_alloc|apply pw_below_drewN|apply below_drew1|refine below_set ?_ GE264.out)|exact HB.out)) hb)
       clear HO_6
       clear HO_31
       clear BK264
       clear HB
       have HO_6:=n0_
       have HO_31:=n1_
       have HO281:=n2_
       have BK264:=n3_
       have HB:=n4_
       clear n0_ n1_ n2_ n3_ n4_
       (try clear hb)
       (try clear hb2)
       (try clear hk)
       (try clear hi)
       (try clear ho0)
       obtain ⟨Ao26,co26,eo26⟩:=Kd.R_slice HO281.out
       (first|subst eo26|(injection eo26 with f1_ f2_ f3_;have f4_:=f1_.symm;have f5_:=f3_.symm;clear f1_ f2_ f3_;subst f4_;subst f5_))
       refine hK.out _ _ ⟨(blk_cell BK264.out 0).trans rfl,(blk_cell BK264.out 1).trans rfl⟩ (fun hHeld=>?_)
       clear hK K
       refine norm_ (a':=?_) ?_ ?_
       rotate_left
       ·show Act.put _ (some 43) _ = _
        simp only [Act.put,List.setIfInBounds_toArray,List.set_cons_zero,List.set_cons_succ,i64_w,i32_w]
        rfl
       refine pure_ (i:=5) (N:=some 44) (v:=?_) (a':=?_) #[true,true,true,true,true,true,false,false] rfl rfl (any_of HT_.out (by kernel_rfl)) (fun _ _ _ h=>h) (Or.inl ⟨by rfl,?_⟩) ?_ ?_
       rotate_left
       ·intro w'
        go_simp
        with_reducible rfl
       rotate_left
       ·simp only [Act.put,List.setIfInBounds_toArray,List.set_cons_zero,List.set_cons_succ,i64_w,i32_w]
        rfl
       refine one_ (i:=6) (N:=some 8) #[true,true,true,true,true,true,true,false] rfl rfl (one_of HT_.out (by kernel_rfl)) (by decide) (fun K hK=>?_)
       refine box_step ?hg (N:=8) ?hd (cs:=#[.int .i64 0,.slice none 0 0]) (t:=28) ?hr ?_;(case hd=>rfl);(case hg=>rfl);(case hr=>first|(go_simp;done)|(go_simp;rfl))
       intro gb282 hg w27 hbox hb
       have n0_:=Aside0.mk (Kd.R_below (by (with_reducible repeat (first|apply Kd.R_alloc|apply Kd.R_drewN|apply Kd.R_drew));exact HO_6.out) hb)
       have n1_:=Aside0.mk (Kd.R_below (by (with_reducible repeat (first|apply Kd.R_alloc|apply Kd.R_drewN|apply Kd.R_drew));exact HO_31.out) hb)
       have n2_:=Aside0.mk (Kd.R_below (by (with_reducible repeat (first|apply Kd.R_alloc|apply Kd.R_drewN|apply Kd.R_drew));exact HO281.out) hb)
       have n3_:=Aside0.mk (blk_below (g:=gb264) (o:=.cells #[.int .i64 a0_0,.slice A0_1 l0_1.length c0_1] 28 (0,0)) (by (with_reducible repeat (first|refine blk_drewN ?_ _|refine blk_drew ?_|refine blk_alloc ?_ _));exact BK264.out) hb)
       have n4_:=Aside0.mk (below_step (by repeat (first|(with_reducible first|exact HB.out|apply below_alloc|apply pw_below_drewN|apply below_drew1|refine below_set ?_ GE264.out)|exact HB.out)) hb)
       have n5_:=Aside0.mk (hbox)
       have n6_:=Aside0.mk ((by rw [hg];exact (below_size (by repeat (first|(with_reducible first|exact HB.out|apply below_alloc|apply pw_below_drewN|apply below_drew1|refine below_set ?_ GE264.out)|exact HB.out))) : w.heap.size ≤ gb282))
       have n7_:=Aside0.mk ((by rw [hg];exact (below_size (by repeat (first|(with_reducible first|exact HB.out|apply below_alloc|apply pw_below_drewN|apply below_drew1|refine below_set ?_ GE264.out)|exact HB.out))) : w.heap.size ≤ gb282))
       have n8_:=Aside0.mk ((by rw [hg];exact Nat.ne_of_lt (blk_lt (g:=gb264) (o:=.cells #[.int .i64 a0_0,.slice A0_1 l0_1.length c0_1] 28 (0,0)) (by (with_reducible repeat (first|refine blk_drewN ?_ _|refine blk_drew ?_|refine blk_alloc ?_ _));exact BK264.out)) : gb264 ≠ gb282))
       have n9_:=Aside0.mk ((by rw [hg];exact Nat.ne_of_gt (blk_lt (g:=gb264) (o:=.cells #[.int .i64 a0_0,.slice A0_1 l0_1.length c0_1] 28 (0,0)) (by (with_reducible repeat (first|refine blk_drewN ?_ _|refine blk_drew ?_|refine blk_alloc ?_ _));exact BK264.out)) : gb282 ≠ gb264))
       clear HO_6
       clear HO_31
       clear HO281
       clear BK264
       clear HB
       have HO_6:=n0_
       have HO_31:=n1_
       have HO281:=n2_
       have BK264:=n3_
       have HB:=n4_
       have BK282:=n5_
       have GW282:=n6_
       have GE282:=n7_
       have NB264_282:=n8_
       have NB282_264:=n9_
       clear n0_ n1_ n2_ n3_ n4_ n5_ n6_ n7_ n8_ n9_
       clear hb hbox hg
       refine hK.out _ _ ⟨(blk_cell BK264.out 0).trans rfl,(blk_cell BK264.out 1).trans rfl⟩ (fun hHeld=>?_)
       clear hK K
       refine norm_ (a':=?_) ?_ ?_
       rotate_left
       ·show Act.put _ (some 8) _ = _
        simp only [Act.put,List.setIfInBounds_toArray,List.set_cons_zero,List.set_cons_succ,i64_w,i32_w]
        rfl
       exact norm_ (by simp only [putAll,Act.put,List.setIfInBounds_toArray,List.set_cons_zero,List.set_cons_succ]) (hCont (.slice Ao26 t279.length co26,gb282) _ ⟨hHeld,(by (with_reducible repeat (first|apply Kd.R_alloc|apply Kd.R_drewN|apply Kd.R_drew));exact Kd.R_mono HO281.out (fun _ hk=>⟨hk.2,hk.1.2⟩)),(by (with_reducible repeat (first|apply Kd.R_alloc|apply Kd.R_drewN|apply Kd.R_drew));exact Kd.R_mono HO_31.out (fun _ hk=>⟨hk.2,hk.1⟩)),(by (with_reducible repeat (first|apply Kd.R_alloc|apply Kd.R_drewN|apply Kd.R_drew));exact Kd.R_mono HO_6.out (fun _ hk=>⟨hk.2,hk.1⟩)),(by (with_reducible repeat (first|refine blk_drewN ?_ _|refine blk_drew ?_|refine blk_alloc ?_ _));exact BK264.out),(by (with_reducible repeat (first|refine blk_drewN ?_ _|refine blk_drew ?_|refine blk_alloc ?_ _));exact BK282.out),GW282.out,GE282.out,NB264_282.out,NB282_264.out,(by repeat (first|(with_reducible first|exact HB.out|apply below_alloc|apply pw_below_drewN|apply below_drew1|refine below_set ?_ GE264.out|refine below_set ?_ GE282.out)|exact HB.out))⟩)
      ·skip
       refine box_step ?hg (N:=8) ?hd (cs:=#[.int .i64 0,.slice none 0 0]) (t:=28) ?hr ?_;(case hd=>rfl);(case hg=>rfl);(case hr=>first|(go_simp;done)|(go_simp;rfl))
       intro gb282 hg w25 hbox hb
       have n0_:=Aside0.mk (Kd.R_below (by (with_reducible repeat (first|apply Kd.R_alloc|apply Kd.R_drewN|apply Kd.R_drew));exact HO_6.out) hb)
       have n1_:=Aside0.mk (Kd.R_below (by (with_reducible repeat (first|apply Kd.R_alloc|apply Kd.R_drewN|apply Kd.R_drew));exact HO_31.out) hb)
       have n2_:=Aside0.mk (blk_below (g:=gb264) (o:=.cells #[.int .i64 a0_0,.slice A0_1 l0_1.length c0_1] 28 (0,0)) (by (with_reducible repeat (first|refine blk_drewN ?_ _|refine blk_drew ?_|refine blk_alloc ?_ _));exact BK264.out) hb)
       have n3_:=Aside0.mk (below_step (by repeat (first|(with_reducible first|exact HB.out|apply below_alloc|apply pw_below_drewN|apply below_drew1|refine below_set ?_ GE264.out)|exact HB.out)) hb)
       have n4_:=Aside0.mk (hbox)
       have n5_:=Aside0.mk ((by rw [hg];exact (below_size (by repeat (first|(with_reducible first|exact HB.out|apply below_alloc|apply pw_below_drewN|apply below_drew1|refine below_set ?_ GE264.out)|exact HB.out))) : w.heap.size ≤ gb282))
       have n6_:=Aside0.mk ((by rw [hg];exact (below_size (by repeat (first|(with_reducible first|exact HB.out|apply below_alloc|apply pw_below_drewN|apply below_drew1|refine below_set ?_ GE264.out)|exact HB.out))) : w.heap.size ≤ gb282))
       have n7_:=Aside0.mk ((by rw [hg];exact Nat.ne_of_lt (blk_lt (g:=gb264) (o:=.cells #[.int .i64 a0_0,.slice A0_1 l0_1.length c0_1] 28 (0,0)) (by (with_reducible repeat (first|refine blk_drewN ?_ _|refine blk_drew ?_|refine blk_alloc ?_ _));exact BK264.out)) : gb264 ≠ gb282))
       have n8_:=Aside0.mk ((by rw [hg];exact Nat.ne_of_gt (blk_lt (g:=gb264) (o:=.cells #[.int .i64 a0_0,.slice A0_1 l0_1.length c0_1] 28 (0,0)) (by (with_reducible repeat (first|refine blk_drewN ?_ _|refine blk_drew ?_|refine blk_alloc ?_ _));exact BK264.out)) : gb282 ≠ gb264))
       clear HO_6
       clear HO_31
       clear BK264
       clear HB
       have HO_6:=n0_
       have HO_31:=n1_
       have BK264:=n2_
       have HB:=n3_
       have BK282:=n4_
       have GW282:=n5_
       have GE282:=n6_
       have NB264_282:=n7_
       have NB282_264:=n8_
       clear n0_ n1_ n2_ n3_ n4_ n5_ n6_ n7_ n8_
       clear hb hbox hg
       refine hK.out _ _ ⟨(blk_cell BK264.out 0).trans rfl,(blk_cell BK264.out 1).trans rfl⟩ (fun hHeld=>?_)
       clear hK K
       refine norm_ (a':=?_) ?_ ?_
       rotate_left
       ·show Act.put _ (some 8) _ = _
        simp only [Act.put,List.setIfInBounds_toArray,List.set_cons_zero,List.set_cons_succ,i64_w,i32_w]
        rfl
       refine one_ (i:=4) (N:=some 43) #[true,true,true,true,true,false,true,false] rfl rfl (one_of HT_.out (by kernel_rfl)) (by decide) (fun K hK=>?_)
       refine goes_ Try.func43 (by kernel_rfl) rfl #[.slice A0_1 l0_1.length c0_1] (by rfl) rfl rfl (by (try simp only [List.map_toArray,List.map_cons,List.map_nil]);first|done|rfl|(simp only [List.length_drop,List.length_take];rfl)) ?_
       with_reducible refine (slices_Clone_int64_int64.calls _ _ l0_1 t279 _ ?side1 ?side2 A23.out).mono ?_
       (case side1=>repeat (first|exact (Kd.C_below HR0_1.out HB.out)|(with_reducible refine Kd.C_alloc ?_ _)|(with_reducible refine Kd.C_drewN ?_ _)|(with_reducible refine Kd.C_drew ?_)))
       (case side2=>exact HC0_1.out)
       rintro e w26 ⟨v280,rfl,ho0,hb⟩
       refine ⟨_,rfl,?_⟩
       have n0_:=Aside0.mk (Kd.R_elder' (by (with_reducible repeat (first|apply Kd.R_alloc|apply Kd.R_drewN|apply Kd.R_drew));exact HO_6.out) (Kd.R_base ho0) hb)
       have n1_:=Aside0.mk (Kd.R_elder' (by (with_reducible repeat (first|apply Kd.R_alloc|apply Kd.R_drewN|apply Kd.R_drew));exact HO_31.out) (Kd.R_base ho0) hb)
       have n2_:=Aside0.mk (Kd.R_lower (Kd.R_new' (Kd.R_new' ho0 (Kd.R_lt (by (with_reducible repeat (first|apply Kd.R_alloc|apply Kd.R_drewN|apply Kd.R_drew));exact HO_6.out))) (Kd.R_lt (by (with_reducible repeat (first|apply Kd.R_alloc|apply Kd.R_drewN|apply Kd.R_drew));exact HO_31.out))) (below_size (by repeat (first|(with_reducible first|exact HB.out|apply below_alloc|apply pw_below_drewN|apply below_drew1|refine below_set ?_ GE264.out|refine below_set ?_ GE282.out)|exact HB.out))))
       have n3_:=Aside0.mk (blk_below (g:=gb264) (o:=.cells #[.int .i64 a0_0,.slice A0_1 l0_1.length c0_1] 28 (0,0)) (by (with_reducible repeat (first|refine blk_drewN ?_ _|refine blk_drew ?_|refine blk_alloc ?_ _));exact BK264.out) hb)
       have n4_:=Aside0.mk (blk_below (g:=gb282) (o:=.cells #[.int .i64 0,.slice none 0 0] 28 (0,0)) (by (with_reducible repeat (first|refine blk_drewN ?_ _|refine blk_drew ?_|refine blk_alloc ?_ _));exact BK282.out) hb)
       have n5_:=Aside0.mk (below_step (by repeat (first|(with_reducible first|exact HB.out|apply below_alloc|apply pw_below_drewN|apply below_drew1|refine below_set ?_ GE264.out|refine below_set ?_ GE282.out)|exact HB.out)) hb)
       clear HO_6
       clear HO_31
       clear BK264
       clear BK282
       clear HB
       have HO_6:=n0_
       have HO_31:=n1_
       have HO281:=n2_
       have BK264:=n3_
       have BK282:=n4_
       have HB:=n5_
       clear n0_ n1_ n2_ n3_ n4_ n5_
       (try clear hb)
       (try clear hb2)
       (try clear hk)
       (try clear hi)
       (try clear ho0)
       obtain ⟨Ao27,co27,eo27⟩:=Kd.R_slice HO281.out
       (first|subst eo27|(injection eo27 with f1_ f2_ f3_;have f4_:=f1_.symm;have f5_:=f3_.symm;clear f1_ f2_ f3_;subst f4_;subst f5_))
       refine hK.out _ _ ⟨(blk_cell BK264.out 0).trans rfl,(blk_cell BK264.out 1).trans rfl⟩ (fun hHeld=>?_)
       clear hK K
       refine norm_ (a':=?_) ?_ ?_
       rotate_left
       ·show Act.put _ (some 43) _ = _
        simp only [Act.put,List.setIfInBounds_toArray,List.set_cons_zero,List.set_cons_succ,i64_w,i32_w]
        rfl
       refine pure_ (i:=5) (N:=some 44) (v:=?_) (a':=?_) #[true,true,true,true,true,true,true,false] rfl rfl (any_of HT_.out (by kernel_rfl)) (fun _ _ _ h=>h) (Or.inl ⟨by rfl,?_⟩) ?_ ?_
       rotate_left
       ·intro w'
        go_simp
        with_reducible rfl
       rotate_left
       ·simp only [Act.put,List.setIfInBounds_toArray,List.set_cons_zero,List.set_cons_succ,i64_w,i32_w]
        rfl
       exact norm_ (by simp only [putAll,Act.put,List.setIfInBounds_toArray,List.set_cons_zero,List.set_cons_succ]) (hCont (.slice Ao27 t279.length co27,gb282) _ ⟨hHeld,(by (with_reducible repeat (first|apply Kd.R_alloc|apply Kd.R_drewN|apply Kd.R_drew));exact Kd.R_mono HO281.out (fun _ hk=>⟨hk.2,hk.1.2⟩)),(by (with_reducible repeat (first|apply Kd.R_alloc|apply Kd.R_drewN|apply Kd.R_drew));exact Kd.R_mono HO_31.out (fun _ hk=>⟨hk.2,hk.1⟩)),(by (with_reducible repeat (first|apply Kd.R_alloc|apply Kd.R_drewN|apply Kd.R_drew));exact Kd.R_mono HO_6.out (fun _ hk=>⟨hk.2,hk.1⟩)),(by (with_reducible repeat (first|refine blk_drewN ?_ _|refine blk_drew ?_|refine blk_alloc ?_ _));exact BK264.out),(by (with_reducible repeat (first|refine blk_drewN ?_ _|refine blk_drew ?_|refine blk_alloc ?_ _));exact BK282.out),GW282.out,GE282.out,NB264_282.out,NB282_264.out,(by repeat (first|(with_reducible first|exact HB.out|apply below_alloc|apply pw_below_drewN|apply below_drew1|refine below_set ?_ GE264.out|refine below_set ?_ GE282.out)|exact HB.out))⟩)
     rintro ⟨v280,gb282⟩ w28 ⟨hS_,h0_,h1_,h2_,h3_,h4_,h5_,h6_,h7_,h8_,h9_⟩
     have n0_ : Aside0 (Kd.R (Kd.int .i64) 2 w28 w.heap.size (fun k_=>some k_ ≠ (.slice Ao21 x31_1.length co21 : Value).ownBlock ∧ some k_ ≠ (u6 : Value).ownBlock) v280 t279):=⟨h0_⟩
     have n1_ : Aside0 (Kd.R (Kd.int .i64) 2 w28 w.heap.size (fun k_=>some k_ ≠ (v280 : Value).ownBlock ∧ some k_ ≠ (u6 : Value).ownBlock) (.slice Ao21 x31_1.length co21) x31_1):=⟨h1_⟩
     have n2_ : Aside0 (Kd.R (Kd.int .i64) 2 w28 w.heap.size (fun k_=>some k_ ≠ (v280 : Value).ownBlock ∧ some k_ ≠ (.slice Ao21 x31_1.length co21 : Value).ownBlock) u6 x6_1):=⟨h2_⟩
     have n3_ : Aside0 (w28.heap[gb264]? = some (.cells #[.int .i64 a0_0,.slice A0_1 l0_1.length c0_1] 28 (0,0))):=⟨h3_⟩
     have n4_ : Aside0 (w28.heap[gb282]? = some (.cells #[.int .i64 0,.slice none 0 0] 28 (0,0))):=⟨h4_⟩
     have n5_ : Aside0 (w.heap.size ≤ gb282):=⟨h5_⟩
     have n6_ : Aside0 (w.heap.size ≤ gb282):=⟨h6_⟩
     have n7_ : Aside0 (gb264 ≠ gb282):=⟨h7_⟩
     have n8_ : Aside0 (gb282 ≠ gb264):=⟨h8_⟩
     have n9_ : Aside0 (Below w.heap.size w w28):=⟨h9_⟩
     clear HO_6
     clear HO_31
     clear BK264
     clear HB
     clear h0_ h1_ h2_ h3_ h4_ h5_ h6_ h7_ h8_ h9_
     have HO281:=n0_
     have HO_31:=n1_
     have HO_6:=n2_
     have BK264:=n3_
     have BK282:=n4_
     have GW282:=n5_
     have GE282:=n6_
     have NB264_282:=n7_
     have NB282_264:=n8_
     have HB:=n9_
     clear n0_ n1_ n2_ n3_ n4_ n5_ n6_ n7_ n8_ n9_
     have hHeld : w28.cell? ⟨gb264,0,none⟩ = some (.int .i64 a0_0) ∧ w28.cell? ⟨gb264,1,none⟩ = some (.slice A0_1 l0_1.length c0_1):=hS_
     obtain ⟨Ao29,co29,eo29⟩:=Kd.R_slice HO281.out
     (first|subst eo29|(injection eo29 with f1_ f2_ f3_;have f4_:=f1_.symm;have f5_:=f3_.symm;clear f1_ f2_ f3_;subst f4_;subst f5_))
     refine norm_ (a':=?_) ?_ ?_
     rotate_left
     ·simp only [putAll,Act.put,List.setIfInBounds_toArray,List.set_cons_zero,List.set_cons_succ]
      rfl
     refine one_ (i:=7) (N:=none) #[true,true,true,true,true,true,true,true] rfl rfl (one_of HT_.out (by kernel_rfl)) (by decide) (fun K hK=>?_)
     have hs30 : w28.cell? ⟨gb282,0,none⟩ = some (.int .i64 0):=(blk_cell BK282.out 0).trans rfl
     have hfs30:=blk_frozen BK282.out 0
     have hns30_0:=NB264_282.out
     have hms30_0:=NB282_264.out
     have hs31 : w28.cell? ⟨gb282,1,none⟩ = some (.slice none 0 0):=(blk_cell BK282.out 1).trans rfl
     have hfs31:=blk_frozen BK282.out 1
     have hns31_0:=NB264_282.out
     have hms31_0:=NB282_264.out
     refine skip_ (w1:=?_) (by rfl) rfl ?_ ?_
     rotate_left
     ·go_simp
      rfl
     refine hK.out _ _ ⟨((cell_far (p:=⟨gb282,_,none⟩) NB264_282.out _).trans (((cell_far (p:=⟨gb282,_,none⟩) NB264_282.out _).trans (hHeld.1)))),((cell_far (p:=⟨gb282,_,none⟩) NB264_282.out _).trans (((cell_far (p:=⟨gb282,_,none⟩) NB264_282.out _).trans (hHeld.2))))⟩ (fun hHeld=>?_)
     clear hK K
     refine done_ (done_of HT_.out (by kernel_rfl)) ?_
     try go_wp2
     go_loopg [47] k1 (fun kq v47 w'=>∃ (x6_2 : List Int) (x31_2 : List Int) (x47_2 : Int) (x283001_2 : List Int) (u283001 : Value),v47 = .int .i64 x47_2 ∧ Aside0 (impl_DeadCells.l1 kq x6_2 x36_1 x31_2 ji7 x36_1 (x31_1.length : Int) x47_2 a0_0 l0_1 a0_0 x283001_2 = some (r1,r2)) ∧ Aside0 (kq ≤ k1) ∧ Aside0 (Kd.R (Kd.int .i64) 2 w' w.heap.size (fun k_=>some k_ ≠ ((.slice Ao21 x31_1.length co21) : Value).ownBlock ∧ some k_ ≠ (u283001 : Value).ownBlock) u6 x6_2) ∧ Aside0 (Kd.R (Kd.int .i64) 2 w' w.heap.size (fun k_=>some k_ ≠ (u6 : Value).ownBlock ∧ some k_ ≠ (u283001 : Value).ownBlock) (.slice Ao21 x31_1.length co21) x31_2) ∧ Aside0 (Kd.R (Kd.int .i64) 2 w' w.heap.size (fun k_=>some k_ ≠ (u6 : Value).ownBlock ∧ some k_ ≠ ((.slice Ao21 x31_1.length co21) : Value).ownBlock) u283001 x283001_2) ∧ Aside0 (w'.heap[gb264]? = some (.cells #[.int .i64 a0_0,(.slice A0_1 l0_1.length c0_1)] 28 (0,0))) ∧ Aside0 (w'.heap[gb282]? = some (.cells #[.int .i64 a0_0,u283001] 28 (0,0))) ∧ Aside0 (Below w.heap.size w w'))
     case atStart=>exact ⟨(x6_1),(x31_1),(0),(t279),(.slice Ao29 t279.length co29),(by first|rfl|(simp;done)|(simp [*];done)),H',⟨Nat.le_refl _⟩,⟨by (try simp only [hl31_1]);(with_reducible repeat (first|apply Kd.R_alloc|apply Kd.R_drewN|apply Kd.R_drew));exact Kd.R_mono (Kd.R_far (p:=⟨gb282,1,none⟩) (Kd.R_far (p:=⟨gb282,0,none⟩) (Kd.R_types HO_6.out BK282.out (by decide)) (fun _ hk=>hk.2) (.int .i64 a0_0)) (fun _ hk=>hk.2) (.slice Ao29 t279.length co29)) (fun _ hk=>⟨hk.1.2,hk.1.1⟩)⟩,⟨by (try simp only [hl31_1]);(with_reducible repeat (first|apply Kd.R_alloc|apply Kd.R_drewN|apply Kd.R_drew));exact Kd.R_mono (Kd.R_far (p:=⟨gb282,1,none⟩) (Kd.R_far (p:=⟨gb282,0,none⟩) (Kd.R_types HO_31.out BK282.out (by decide)) (fun _ hk=>hk.2) (.int .i64 a0_0)) (fun _ hk=>hk.2) (.slice Ao29 t279.length co29)) (fun _ hk=>⟨hk.1.2,hk.1.1⟩)⟩,⟨by (try simp only [hl31_1]);(with_reducible repeat (first|apply Kd.R_alloc|apply Kd.R_drewN|apply Kd.R_drew));exact Kd.R_mono (Kd.R_far (p:=⟨gb282,1,none⟩) (Kd.R_far (p:=⟨gb282,0,none⟩) (Kd.R_types HO281.out BK282.out (by decide)) (fun _ hk=>hk.2) (.int .i64 a0_0)) (fun _ hk=>hk.2) (.slice Ao29 t279.length co29)) (fun _ hk=>⟨hk.1.2,hk.1.1⟩)⟩,⟨by (try simp only [hl31_1]);(with_reducible repeat (first|refine blk_drewN ?_ _|refine blk_drew ?_|refine blk_alloc ?_ _));refine blk_far ?_ NB264_282.out _;(with_reducible repeat (first|refine blk_drewN ?_ _|refine blk_drew ?_|refine blk_alloc ?_ _));refine blk_far ?_ NB264_282.out _;(with_reducible repeat (first|refine blk_drewN ?_ _|refine blk_drew ?_|refine blk_alloc ?_ _));exact BK264.out⟩,⟨by (try simp only [hl31_1]);(with_reducible repeat (first|refine blk_drewN ?_ _|refine blk_drew ?_|refine blk_alloc ?_ _));refine blk_put (cs:=#[.int .i64 a0_0,.slice none 0 0]) ?_ 1 _ rfl;(with_reducible repeat (first|refine blk_drewN ?_ _|refine blk_drew ?_|refine blk_alloc ?_ _));refine blk_put (cs:=#[.int .i64 0,.slice none 0 0]) ?_ 0 _ rfl;(with_reducible repeat (first|refine blk_drewN ?_ _|refine blk_drew ?_|refine blk_alloc ?_ _));exact BK282.out⟩,⟨by repeat (first|(with_reducible first|exact HB.out|apply below_alloc|apply pw_below_drewN|apply below_drew1|refine below_set ?_ GE264.out|refine below_set ?_ GE282.out)|exact HB.out)⟩⟩
     case round =>
      clear H'
      try clear c2
      try clear p2
      try clear c3
      try clear c4
      try clear c5
      try clear c5b0
      try clear c5b1
      try clear p6
      try clear c8
      try clear c22
      try clear c22b0
      try clear c31
      try clear hcz17_0
      try clear hcz17_1
      try clear hfz17_0
      try clear hfz17_1
      try clear p2
      try clear p6
      obtain ⟨x6_2,x31_2,x47_2,x283001_2,u283001,rfl,HA,HK2,HO_6,HO_31,HO_283001,BK264,BK282,HB⟩:=hrel
      have hl31_2:=(Kd.R_reads' HO_31.out).1
      rw [hl31_2] at HO_31
      (try simp only [hl31_2])
      (try simp only [hl31_2] at BK264)
      (try simp only [hl31_2] at BK282)
      (try simp only [hl31_2] at HO_6)
      (try simp only [hl31_2] at HO_283001)
      cases gk with
      | zero => exact absurd HA.out (by simp [impl_DeadCells.l1])
      | succ k2 =>
       have H:=HA.out
       clear HA
       simp only [impl_DeadCells.l1] at H
       by_cases c32 : x47_2 < (x31_1.length : Int)
       ·rw [if_pos c32] at H
        have c32b0 : decide (x47_2 < (x31_1.length : Int)) = true:=decide_eq_true c32
        (try (have c32b0z:=c32b0;simp only [← hl31_1,← hl31_2] at c32b0z))
        (try (have c32b0y:=c32b0;simp only [hl31_1,hl31_2] at c32b0y))
        clear c32
        by_cases c33 : 0 ≤ x47_2
        ·rw [if_pos c33] at H
         have c33b0 : decide (0 ≤ x47_2) = true:=decide_eq_true c33
         clear c33
         by_cases c34 : x47_2 < (x31_2.length : Int)
         ·rw [if_pos c34] at H
          have c34b0 : decide (x47_2 < (x31_2.length : Int)) = true:=decide_eq_true c34
          (try (have c34b0z:=c34b0;simp only [← hl31_1,← hl31_2] at c34b0z))
          (try (have c34b0y:=c34b0;simp only [hl31_1,hl31_2] at c34b0y))
          clear c34
          have c35b0:=eq_true (of_decide_eq_true (by first|(with_reducible assumption)|assumption) : 0 ≤ x47_2)
          obtain ⟨ji36,hji36⟩ : ∃ j_ : Int,(shr .i64 x36_1 x47_2) = j_:=⟨_,rfl⟩
          replace H : (if 0 ≤ (rd x31_2 x47_2) then (if (rd x31_2 x47_2) < (x283001_2.length : Int) then (impl_DeadCells.l1 k2 x6_2 x36_1 x31_2 ji7 x36_1 (x31_1.length : Int) (wrap64 (x47_2 + 1)) a0_0 l0_1 a0_0 (x283001_2.set ((rd x31_2 x47_2) : Int).toNat (wrap64 (1 + (Go.bits .and .i64 (ji36) 1))))) else (none)) else (none)) = some (r1,r2):=by first|(rw [hji36] at H;exact H)|(simp only [hji36] at H ⊢;exact H)
          have hji36_ : (x36_1 / 2 ^ min x47_2.toNat 64) = ji36:=hji36
          have hji36z : x47_2 ≤ 64 → (x36_1 / 2 ^ x47_2.toNat) = ji36:=shr_small hji36
          by_cases c37 : 0 ≤ (rd x31_2 x47_2)
          ·rw [if_pos c37] at H
           have c37b0 : decide (0 ≤ (rd x31_2 x47_2)) = true:=decide_eq_true c37
           clear c37
           by_cases c38 : (rd x31_2 x47_2) < (x283001_2.length : Int)
           ·rw [if_pos c38] at H
            have c38b0 : decide ((rd x31_2 x47_2) < (x283001_2.length : Int)) = true:=decide_eq_true c38
            (try (have c38b0z:=c38b0;simp only [← hl31_1,← hl31_2] at c38b0z))
            (try (have c38b0y:=c38b0;simp only [hl31_1,hl31_2] at c38b0y))
            clear c38
            obtain ⟨y284,hy284⟩ : ∃ y_ : List Int,y_ = (x283001_2.set ((rd x31_2 x47_2) : Int).toNat (wrap64 (1 + (Go.bits .and .i64 (ji36) 1)))):=⟨_,rfl⟩
            replace H : (impl_DeadCells.l1 k2 x6_2 x36_1 x31_2 ji7 x36_1 (x31_1.length : Int) (wrap64 (x47_2 + 1)) a0_0 l0_1 a0_0 y284) = some (r1,r2):=by first|(rw [hy284];with_reducible exact H)|(have H2_:=(Option.bind_some _ _).symm.trans H;rw [hy284];with_reducible exact H2_)|(have H2_:=(Option.bind_some _ _).symm.trans H;with_reducible exact H2_)|with_reducible exact H|(rw [hy284];exact H)|exact H
            have Ny284:=Aside0.mk hy284
            clear hy284
            have H':=Aside0.mk H
            clear H
            have p283 : 0 ≤ (x47_2 : Int):=of_decide_eq_true (by first|(with_reducible assumption)|assumption)
            have q283 : x47_2 < (x31_2.length : Int):=of_decide_eq_true (by first|(with_reducible assumption)|assumption)
            obtain ⟨ad283,e283,hx283_0⟩:=Kd.at_int (Kd.R_reads' HO_31.out).2.2 x47_2 p283 q283
            cases e283
            replace p283:=eq_true p283
            replace q283:=eq_true q283
            try go_wp2
            have n0_:=Aside0.mk (Kd.R_drew HO_6.out)
            have n1_:=Aside0.mk (Kd.R_drew HO_31.out)
            have n2_:=Aside0.mk (Kd.R_drew HO_283001.out)
            have n3_:=Aside0.mk (blk_drew BK264.out)
            have n4_:=Aside0.mk (blk_drew BK282.out)
            have n5_:=Aside0.mk (below_drew1 HB.out)
            clear HO_6
            clear HO_31
            clear HO_283001
            clear BK264
            clear BK282
            clear HB
            have HO_6:=n0_
            have HO_31:=n1_
            have HO_283001:=n2_
            have BK264:=n3_
            have BK282:=n4_
            have HB:=n5_
            clear n0_ n1_ n2_ n3_ n4_ n5_
            have p39 : 0 ≤ ((rd x31_2 x47_2) : Int):=of_decide_eq_true (by first|(with_reducible assumption)|assumption)
            have q39 : ((rd x31_2 x47_2) : Int) < ((x283001_2.length : Int) : Int):=of_decide_eq_true (by first|(with_reducible assumption)|assumption)
            obtain ⟨go39,co39,eo39,gb39,gl39,cl39,HG39⟩:=Kd.R_form HO_283001.out (by omega)
            (first|cases eo39|(injection eo39 with ea_ en_ ec_;(first|subst ea_|(injection ea_ with ea_;subst ea_));subst ec_;clear en_))
            have GB39:=Aside0.mk gb39
            have GG39:=Aside0.mk HG39
            clear gb39 gl39 HG39
            obtain ⟨hx39_0,hf39_0⟩:=Kd.R_celln 0 HO_283001.out ((rd x31_2 x47_2) : Int) p39 q39
            replace p39:=eq_true p39
            replace q39:=eq_true q39
            have HP41:=Kd.R_putn HO_283001.out ((rd x31_2 x47_2) : Int) (wrap64 (1 + (Go.bits .and .i64 (ji36) 1)))
            rw [← Ny284.out] at HP41
            have HQ41:=Aside0.mk HP41
            clear HP41
            refine start_ (n:=10) (S:=fun w'=>w'.cell? ⟨gb282,0,none⟩ = some (.int .i64 a0_0) ∧ w'.cell? ⟨gb282,1,none⟩ = some (.slice (some ⟨go39,0,none⟩) x283001_2.length co39)) (ds:=[9]) #[false,false,false,false,false,false,false,false,false,false] (by kernel_rfl) rfl rfl ⟨(blk_cell BK282.out 0).trans rfl,(blk_cell BK282.out 1).trans rfl⟩ (fun hHeld=>?_);refine with_tabW impl_DeadCells.tab13 impl_DeadCells.bits13 (fun HT_ HW_=>?_)
            generalize wr.drew = w40 at HO_6 HO_31 HO_283001 BK264 BK282 HB GG39 HQ41 hf39_0 hx39_0 hHeld ⊢
            refine pure_ (i:=0) (N:=some 52) (v:=?_) (a':=?_) #[true,false,false,false,false,false,false,false,false,false] rfl rfl (any_of HT_.out (by kernel_rfl)) (fun _ _ _ h=>h) (Or.inl ⟨by rfl,?_⟩) ?_ ?_
            rotate_left
            ·intro w'
             go_simp
             with_reducible rfl
            rotate_left
            ·simp only [Act.put,List.setIfInBounds_toArray,List.set_cons_zero,List.set_cons_succ,i64_w,i32_w]
             rfl
            refine pure_ (i:=2) (N:=some 54) (v:=?_) (a':=?_) #[true,false,true,false,false,false,false,false,false,false] rfl rfl (any_of HT_.out (by kernel_rfl)) (fun _ _ _ h=>h) (Or.inl ⟨by rfl,?_⟩) ?_ ?_
            rotate_left
            ·intro w'
             go_simp
             with_reducible rfl
            rotate_left
            ·simp only [Act.put,List.setIfInBounds_toArray,List.set_cons_zero,List.set_cons_succ,i64_w,i32_w]
             rfl
            refine pure_ (i:=3) (N:=some 55) (v:=?_) (a':=?_) #[true,false,true,true,false,false,false,false,false,false] rfl rfl (any_of HT_.out (by kernel_rfl)) (fun _ _ _ h=>h) (Or.inl ⟨by rfl,?_⟩) ?_ ?_
            rotate_left
            ·intro w'
             go_simp
             with_reducible rfl
            rotate_left
            ·simp only [Act.put,List.setIfInBounds_toArray,List.set_cons_zero,List.set_cons_succ,i64_w,i32_w]
             rfl
            refine pure_ (i:=4) (N:=some 56) (v:=?_) (a':=?_) #[true,false,true,true,true,false,false,false,false,false] rfl rfl (any_of HT_.out (by kernel_rfl)) (fun _ _ _ h=>h) (Or.inl ⟨by rfl,?_⟩) ?_ ?_
            rotate_left
            ·intro w'
             go_simp
             with_reducible rfl
            rotate_left
            ·simp only [Act.put,List.setIfInBounds_toArray,List.set_cons_zero,List.set_cons_succ,i64_w,i32_w]
             rfl
            refine pure_ (i:=5) (N:=some 57) (v:=?_) (a':=?_) #[true,false,true,true,true,true,false,false,false,false] rfl rfl (any_of HT_.out (by kernel_rfl)) (fun _ _ _ h=>h) (Or.inl ⟨by rfl,?_⟩) ?_ ?_
            rotate_left
            ·intro w'
             go_simp
             with_reducible rfl
            rotate_left
            ·simp only [Act.put,List.setIfInBounds_toArray,List.set_cons_zero,List.set_cons_succ,i64_w,i32_w]
             rfl
            refine pure_ (i:=6) (N:=some 58) (v:=?_) (a':=?_) #[true,false,true,true,true,true,true,false,false,false] rfl rfl (any_of HT_.out (by kernel_rfl)) (fun _ _ _ h=>h) (Or.inl ⟨by rfl,?_⟩) ?_ ?_
            rotate_left
            ·intro w'
             go_simp
             with_reducible rfl
            rotate_left
            ·simp only [Act.put,List.setIfInBounds_toArray,List.set_cons_zero,List.set_cons_succ,i64_w,i32_w]
             rfl
            refine pure_ (i:=7) (N:=some 59) (v:=?_) (a':=?_) #[true,false,true,true,true,true,true,true,false,false] rfl rfl (any_of HT_.out (by kernel_rfl)) (fun _ _ _ h=>h) (Or.inl ⟨by rfl,?_⟩) ?_ ?_
            rotate_left
            ·intro w'
             go_simp
             with_reducible rfl
            rotate_left
            ·simp only [Act.put,List.setIfInBounds_toArray,List.set_cons_zero,List.set_cons_succ,i64_w,i32_w]
             rfl
            refine take_ (i:=1) (N:=some 53) (v:=?_) (a':=?_) #[true,true,true,true,true,true,true,true,false,false] rfl rfl (take_ofW HT_.out HW_.out (by kernel_rfl)) (fun _ _ _ h=>h) (Or.inl ⟨by rfl,?_⟩) hHeld ?_ ?_
            rotate_left
            ·rintro w' ⟨s0,s1⟩
             go_simp
             with_reducible rfl
            rotate_left
            ·simp only [Act.put,List.setIfInBounds_toArray,List.set_cons_zero,List.set_cons_succ,i64_w,i32_w]
             rfl
            refine pure_ (i:=8) (N:=some 60) (v:=?_) (a':=?_) #[true,true,true,true,true,true,true,true,true,false] rfl rfl (any_of HT_.out (by kernel_rfl)) (fun _ _ _ h=>h) (Or.inl ⟨by rfl,?_⟩) ?_ ?_
            rotate_left
            ·intro w'
             go_simp
             with_reducible rfl
            rotate_left
            ·simp only [Act.put,List.setIfInBounds_toArray,List.set_cons_zero,List.set_cons_succ,i64_w,i32_w]
             rfl
            refine last_ (i:=9) (N:=none) #[true,true,true,true,true,true,true,true,true,true] rfl rfl (one_of HT_.out (by kernel_rfl)) (by decide) (fun K hK=>?_)
            refine skip_ (w1:=?_) (by rfl) rfl ?_ ?_
            rotate_left
            ·go_simp
             rfl
            refine hK.out _ _ ?_
            clear hK K
            refine done_ (done_of HT_.out (by kernel_rfl)) ?_
            try go_wp2
            (try simp only [← hl31_2])
            go_roundg k2
            case measure=>have:=HK1.out;have:=HK2.out;omega
            case rel=>exact ⟨(x6_2),(x31_2),(wrap64 (x47_2 + 1)),(y284),(.slice (some ⟨go39,0,none⟩) x283001_2.length co39),(by first|rfl|(simp;done)|(simp [*];done)),H',⟨by have:=HK1.out;have:=HK2.out;omega⟩,⟨by (try simp only [hl31_1]);(try simp only [hl31_2]);(with_reducible repeat (first|apply Kd.R_alloc|apply Kd.R_drewN|apply Kd.R_drew));exact Kd.R_mono (Kd.R_far (p:=⟨go39,((rd x31_2 x47_2) : Int).toNat,none⟩) (Kd.R_mono HO_6.out (fun k_ hk=>(⟨hk,fun e_=>hk.2 (by rw [e_];rfl)⟩ : _ ∧ k_ ≠ go39))) (fun _ hk=>hk.2) (.int .i64 (wrap64 (1 + (Go.bits .and .i64 (ji36) 1))))) (fun _ hk=>⟨hk.1.1,hk.1.2⟩)⟩,⟨by (try simp only [hl31_1]);(try simp only [hl31_2]);(with_reducible repeat (first|apply Kd.R_alloc|apply Kd.R_drewN|apply Kd.R_drew));exact Kd.R_mono (Kd.R_far (p:=⟨go39,((rd x31_2 x47_2) : Int).toNat,none⟩) (Kd.R_mono HO_31.out (fun k_ hk=>(⟨hk,fun e_=>hk.2 (by rw [e_];rfl)⟩ : _ ∧ k_ ≠ go39))) (fun _ hk=>hk.2) (.int .i64 (wrap64 (1 + (Go.bits .and .i64 (ji36) 1))))) (fun _ hk=>⟨hk.1.1,hk.1.2⟩)⟩,⟨by (try simp only [hl31_1]);(try simp only [hl31_2]);(with_reducible repeat (first|apply Kd.R_alloc|apply Kd.R_drewN|apply Kd.R_drew));exact HQ41.out⟩,⟨by (try simp only [hl31_1]);(try simp only [hl31_2]);(with_reducible repeat (first|refine blk_drewN ?_ _|refine blk_drew ?_|refine blk_alloc ?_ _));refine blk_far ?_ (by have h_:=Kd.R_ne HO_283001.out BK264.out (by decide);intro e_;exact h_ (by rw [e_];rfl)) _;(with_reducible repeat (first|refine blk_drewN ?_ _|refine blk_drew ?_|refine blk_alloc ?_ _));exact BK264.out⟩,⟨by (try simp only [hl31_1]);(try simp only [hl31_2]);(with_reducible repeat (first|refine blk_drewN ?_ _|refine blk_drew ?_|refine blk_alloc ?_ _));refine blk_far ?_ (by have h_:=Kd.R_ne HO_283001.out BK282.out (by decide);intro e_;exact h_ (by rw [e_];rfl)) _;(with_reducible repeat (first|refine blk_drewN ?_ _|refine blk_drew ?_|refine blk_alloc ?_ _));exact BK282.out⟩,⟨by repeat (first|(with_reducible first|exact HB.out|apply below_alloc|apply pw_below_drewN|apply below_drew1|refine below_set ?_ GB39.out|refine below_set ?_ GE264.out|refine below_set ?_ GE282.out)|exact HB.out)⟩⟩
           ·rw [if_neg c38] at H
            exact absurd H (by simp)
          ·rw [if_neg c37] at H
           exact absurd H (by simp)
         ·rw [if_neg c34] at H
          exact absurd H (by simp)
        ·rw [if_neg c33] at H
         exact absurd H (by simp)
       ·rw [if_neg c32] at H
        have c32b0 : decide (x47_2 < (x31_1.length : Int)) = false:=decide_eq_false c32
        (try (have c32b0z:=c32b0;simp only [← hl31_1,← hl31_2] at c32b0z))
        (try (have c32b0y:=c32b0;simp only [hl31_1,hl31_2] at c32b0y))
        clear c32
        replace H:=Option.bind_eq_some_iff.mp H
        obtain ⟨t285,A420,H⟩:=H
        replace H : (if x6_2.length < 17592186044416 then (impl_DeadCells.l0 k2 (x6_2 ++ [t285]) x31_2 ji7 (wrap64 (x36_1 + 1)) a0_0 l0_1) else (none)) = some (r1,r2):=H
        have A42:=Aside0.mk A420
        clear A420
        by_cases c43 : x6_2.length < 17592186044416
        ·rw [if_pos c43] at H
         have LMc43:=Aside0.mk c43
         clear c43
         obtain ⟨y286,hy286⟩ : ∃ y_ : List Int,y_ = (x6_2 ++ [t285]):=⟨_,rfl⟩
         replace H : (impl_DeadCells.l0 k2 y286 x31_2 ji7 (wrap64 (x36_1 + 1)) a0_0 l0_1) = some (r1,r2):=by first|(rw [hy286];with_reducible exact H)|(have H2_:=(Option.bind_some _ _).symm.trans H;rw [hy286];with_reducible exact H2_)|(have H2_:=(Option.bind_some _ _).symm.trans H;with_reducible exact H2_)|with_reducible exact H|(rw [hy286];exact H)|exact H
         have Ny286:=Aside0.mk hy286
         clear hy286
         have H':=Aside0.mk H
         clear H
         have hnb44:=NB282_264.out
         have hnc44:=NB264_282.out
         have hcz45_0 : wr.cell? ⟨gb282,0,none⟩ = some (.int .i64 a0_0):=(blk_cell BK282.out 0).trans rfl
         have hcz45_1 : wr.cell? ⟨gb282,1,none⟩ = some (u283001):=(blk_cell BK282.out 1).trans rfl
         have hfz45_0:=blk_frozen BK282.out 0
         have hfz45_1:=blk_frozen BK282.out 1
         obtain ⟨Ao46,co46,eo46⟩:=Kd.R_slice HO_283001.out
         subst eo46
         go_wp2_with (first|((with_reducible refine gate_callee (f:=44) rfl ?_);refine goesL_ (some 64) rfl rfl Try.func44 (by kernel_rfl) rfl #[.agg #[.int .i64 a0_0,.slice Ao46 x283001_2.length co46]] rfl (by (try simp only [List.map_toArray,List.map_cons,List.map_nil]);first|done|rfl|(simp only [List.length_drop,List.length_take];rfl)) ?_;(with_reducible refine (impl_Hex_joiner.calls k2 a0_0 _ _ x283001_2 t285 _ ?side1 ?side2 A42.out).mono ?_);(case side1=>repeat (first|exact (Kd.R_reads' HO_283001.out).2.2|(with_reducible refine Kd.C_alloc ?_ _)|(with_reducible refine Kd.C_drewN ?_ _)|(with_reducible refine Kd.C_drew ?_)));(case side2=>exact (Kd.R_reads' HO_283001.out).2.1);rintro e w47 ⟨rfl,hb⟩;refine ⟨_,rfl,?_⟩;have n0_:=Aside0.mk (Kd.R_below (by (with_reducible repeat (first|apply Kd.R_alloc|apply Kd.R_drewN|apply Kd.R_drew));exact HO_6.out) hb);have n1_:=Aside0.mk (Kd.R_below (by (with_reducible repeat (first|apply Kd.R_alloc|apply Kd.R_drewN|apply Kd.R_drew));exact HO_31.out) hb);have n2_:=Aside0.mk (Kd.R_below (by (with_reducible repeat (first|apply Kd.R_alloc|apply Kd.R_drewN|apply Kd.R_drew));exact HO_283001.out) hb);have n3_:=Aside0.mk (blk_below (g:=gb264) (o:=.cells #[.int .i64 a0_0,.slice A0_1 l0_1.length c0_1] 28 (0,0)) (by (with_reducible repeat (first|refine blk_drewN ?_ _|refine blk_drew ?_|refine blk_alloc ?_ _));exact BK264.out) hb);have n4_:=Aside0.mk (blk_below (g:=gb282) (o:=.cells #[.int .i64 a0_0,.slice Ao46 x283001_2.length co46] 28 (0,0)) (by (with_reducible repeat (first|refine blk_drewN ?_ _|refine blk_drew ?_|refine blk_alloc ?_ _));exact BK282.out) hb);have n5_:=Aside0.mk (below_step (by repeat (first|(with_reducible first|exact HB.out|apply below_alloc|apply pw_below_drewN|apply below_drew1|refine below_set ?_ GE264.out|refine below_set ?_ GE282.out)|exact HB.out)) hb);clear HO_6;clear HO_31;clear HO_283001;clear BK264;clear BK282;clear HB;have HO_6:=n0_;have HO_31:=n1_;have HO_283001:=n2_;have BK264:=n3_;have BK282:=n4_;have HB:=n5_;clear n0_ n1_ n2_ n3_ n4_ n5_;(try clear hb);(try clear hb2);(try clear hk);(try clear hi))|((with_reducible refine gate_builtin (b:=.append) (xs:=#[.tmp 62,.tmp 65]) rfl ?_);at_builtin;refine Kd.R_append (Kd.int .i64) (w0:=w) w.heap.size rfl (.tmp 62) (.tmp 65) 22 2 (.int .i64 0) 8 rfl Try.underlying22 info2 rfl (by decide) (by omega) u6 x6_2 t285 [.int .i64 t285] (fun k_=>some k_ ≠ (.slice Ao21 x31_2.length co21 : Value).ownBlock ∧ some k_ ≠ (.slice Ao46 x283001_2.length co46 : Value).ownBlock) (fun _=>False) rfl rfl ?aP (fun _ hk=>hk.elim) ?aF ?aO ?aB ?aS ?aL ?_;(case aP=>exact rfl);(case aB=>exact (by repeat (first|(with_reducible first|exact HB.out|apply below_alloc|apply pw_below_drewN|apply below_drew1|refine below_set ?_ GE264.out|refine below_set ?_ GE282.out)|exact HB.out)));(case aF=>exact (fun k_ hk=>⟨Kd.fresh' (Kd.R_lt (by (with_reducible repeat (first|apply Kd.R_alloc|apply Kd.R_drewN|apply Kd.R_drew));exact HO_31.out)) k_ hk,Kd.fresh' (Kd.R_lt (by (with_reducible repeat (first|apply Kd.R_alloc|apply Kd.R_drewN|apply Kd.R_drew));exact HO_283001.out)) k_ hk⟩));(case aO=>exact (by (with_reducible repeat (first|apply Kd.R_alloc|apply Kd.R_drewN|apply Kd.R_drew));exact HO_6.out));(case aS=>exact (below_size (by repeat (first|(with_reducible first|exact HB.out|apply below_alloc|apply pw_below_drewN|apply below_drew1|refine below_set ?_ GE264.out|refine below_set ?_ GE282.out)|exact HB.out))));(case aL=>have:=LMc43.out;omega);intro v287 w48 ho hb hg hat;rw [← Ny286.out] at ho;have n0_:=Aside0.mk (Kd.R_after (ok:=(fun k_=>some k_ ≠ (.slice Ao46 x283001_2.length co46 : Value).ownBlock)) (by (with_reducible repeat (first|apply Kd.R_alloc|apply Kd.R_drewN|apply Kd.R_drew));exact Kd.R_mono HO_31.out (fun _ hk=>⟨hk.2,hk.1⟩)) hg hat);have n1_:=Aside0.mk (Kd.R_after (ok:=(fun k_=>some k_ ≠ (.slice Ao21 x31_2.length co21 : Value).ownBlock)) (by (with_reducible repeat (first|apply Kd.R_alloc|apply Kd.R_drewN|apply Kd.R_drew));exact Kd.R_mono HO_283001.out (fun _ hk=>⟨hk.2,hk.1⟩)) hg hat);have n2_:=Aside0.mk (blk_grown (g:=gb264) (o:=.cells #[.int .i64 a0_0,.slice A0_1 l0_1.length c0_1] 28 (0,0)) (by (with_reducible repeat (first|refine blk_drewN ?_ _|refine blk_drew ?_|refine blk_alloc ?_ _));exact BK264.out) hg (Kd.R_ne HO_6.out BK264.out (by decide)));have n3_:=Aside0.mk (blk_grown (g:=gb282) (o:=.cells #[.int .i64 a0_0,.slice Ao46 x283001_2.length co46] 28 (0,0)) (by (with_reducible repeat (first|refine blk_drewN ?_ _|refine blk_drew ?_|refine blk_alloc ?_ _));exact BK282.out) hg (Kd.R_ne HO_6.out BK282.out (by decide)));have n4_:=Aside0.mk (hb);have n5_:=Aside0.mk (ho);clear HO_31;clear HO_283001;clear BK264;clear BK282;clear HB;clear HO_6;have HO_31:=n0_;have HO_283001:=n1_;have BK264:=n2_;have BK282:=n3_;have HB:=n4_;have HO288:=n5_;clear n0_ n1_ n2_ n3_ n4_ n5_;clear ho hb hg hat))
         (try simp only [← hl31_1,← hl31_2])
         go_roundg k2
         case measure=>have:=HK1.out;have:=HK2.out;omega
         case rel=>exact ⟨(y286),(x31_2),(wrap64 (x36_1 + 1)),(by first|rfl|(simp;done)|(simp [*];done)),H',⟨by have:=HK1.out;have:=HK2.out;omega⟩,⟨by (try simp only [hl31_1]);(try simp only [hl31_2]);(with_reducible repeat (first|apply Kd.R_alloc|apply Kd.R_drewN|apply Kd.R_drew));exact Kd.R_mono HO288.out (fun _ hk=>hk.1)⟩,⟨by (try simp only [hl31_1]);(try simp only [hl31_2]);(with_reducible repeat (first|apply Kd.R_alloc|apply Kd.R_drewN|apply Kd.R_drew));exact Kd.R_mono HO_31.out (fun _ hk=>hk.2)⟩,⟨by (try simp only [hl31_1]);(try simp only [hl31_2]);(with_reducible repeat (first|refine blk_drewN ?_ _|refine blk_drew ?_|refine blk_alloc ?_ _));exact BK264.out⟩,⟨by repeat (first|(with_reducible first|exact HB.out|apply below_alloc|apply pw_below_drewN|apply below_drew1|refine below_set ?_ GE264.out|refine below_set ?_ GE282.out)|exact HB.out)⟩⟩
        ·rw [if_neg c43] at H
         exact absurd H (by simp)
    ·rw [if_neg c22] at H
     have c22b0 : decide (x36_1 < ji7) = false:=decide_eq_false c22
     clear c22
     obtain ⟨y289,hy289⟩ : ∃ y_ : List Int,y_ = (([] : List Int)):=⟨_,rfl⟩
     replace H : (impl_DeadCells.l2 k1 x6_1 y289 x31_1 (x31_1.length : Int) 0) = some (r1,r2):=by first|(rw [hy289];with_reducible exact H)|(have H2_:=(Option.bind_some _ _).symm.trans H;rw [hy289];with_reducible exact H2_)|(have H2_:=(Option.bind_some _ _).symm.trans H;with_reducible exact H2_)|with_reducible exact H|(rw [hy289];exact H)|exact H
     have Ny289:=Aside0.mk hy289
     clear hy289
     have H':=Aside0.mk H
     clear H
     go_wp2_with (first|((with_reducible refine gate_dst (N:=68) rfl ?_);refine Kd.R_lit (Kd.int .i64) _ 2 ?hg (N:=68) ?hd (xs:=([] : List Int)) (inner:=[]) (ok:=fun _=>True) (okp:=fun _=>True) ?hr ?hp (fun _ hk=>hk) trivial (Below.refl _ _) (Nat.le_refl _) (by simp) ?_;(case hd=>rfl);(case hg=>rfl);(case hr=>first|(go_simp;done)|(go_simp;rfl));(case hp=>exact (Reps.none _ _));intro v290 w49 ho50 hb hg_ hnew_;clear hg_ hnew_;(first|rw [← Ny289.out] at ho50|(simp only [Int.reduceToNat] at ho50;rw [← Ny289.out] at ho50));have n0_:=Aside0.mk (Kd.R_elder' (by (with_reducible repeat (first|apply Kd.R_alloc|apply Kd.R_drewN|apply Kd.R_drew));exact HO_6.out) (Kd.R_base ho50) hb);have n1_:=Aside0.mk (Kd.R_elder' (by (with_reducible repeat (first|apply Kd.R_alloc|apply Kd.R_drewN|apply Kd.R_drew));exact HO_31.out) (Kd.R_base ho50) hb);have n2_:=Aside0.mk (Kd.R_lower (Kd.R_new' (Kd.R_new' ho50 (Kd.R_lt (by (with_reducible repeat (first|apply Kd.R_alloc|apply Kd.R_drewN|apply Kd.R_drew));exact HO_6.out))) (Kd.R_lt (by (with_reducible repeat (first|apply Kd.R_alloc|apply Kd.R_drewN|apply Kd.R_drew));exact HO_31.out))) (below_size (by repeat (first|(with_reducible first|exact HB.out|apply below_alloc|apply pw_below_drewN|apply below_drew1|refine below_set ?_ GE264.out)|exact HB.out))));have n3_:=Aside0.mk (blk_below (g:=gb264) (o:=.cells #[.int .i64 a0_0,.slice A0_1 l0_1.length c0_1] 28 (0,0)) (by (with_reducible repeat (first|refine blk_drewN ?_ _|refine blk_drew ?_|refine blk_alloc ?_ _));exact BK264.out) hb);have n4_:=Aside0.mk (below_step (by repeat (first|(with_reducible first|exact HB.out|apply below_alloc|apply pw_below_drewN|apply below_drew1|refine below_set ?_ GE264.out)|exact HB.out)) hb);clear HO_6;clear HO_31;clear BK264;clear HB;have HO_6:=n0_;have HO_31:=n1_;have HO291:=n2_;have BK264:=n3_;have HB:=n4_;clear n0_ n1_ n2_ n3_ n4_;clear hb ho50))
     go_loopg [11,71] k1 (fun kq v11 v71 w'=>∃ (x11_2 : List Int) (x71_2 : Int),v71 = .int .i64 x71_2 ∧ Aside0 (impl_DeadCells.l2 kq x6_1 x11_2 x31_1 (x31_1.length : Int) x71_2 = some (r1,r2)) ∧ Aside0 (kq ≤ k1) ∧ Aside0 (Kd.R (Kd.int .i64) 2 w' w.heap.size (fun k_=>some k_ ≠ (v11 : Value).ownBlock ∧ some k_ ≠ ((.slice Ao21 x31_1.length co21) : Value).ownBlock) u6 x6_1) ∧ Aside0 (Kd.R (Kd.int .i64) 2 w' w.heap.size (fun k_=>some k_ ≠ (u6 : Value).ownBlock ∧ some k_ ≠ ((.slice Ao21 x31_1.length co21) : Value).ownBlock) v11 x11_2) ∧ Aside0 (Kd.R (Kd.int .i64) 2 w' w.heap.size (fun k_=>some k_ ≠ (u6 : Value).ownBlock ∧ some k_ ≠ (v11 : Value).ownBlock) (.slice Ao21 x31_1.length co21) x31_1) ∧ Aside0 (w'.heap[gb264]? = some (.cells #[.int .i64 a0_0,(.slice A0_1 l0_1.length c0_1)] 28 (0,0))) ∧ Aside0 (Below w.heap.size w w'))
     case atStart=>exact ⟨(y289),(0),(by first|rfl|(simp;done)|(simp [*];done)),H',⟨Nat.le_refl _⟩,⟨by (try simp only [hl31_1]);(with_reducible repeat (first|apply Kd.R_alloc|apply Kd.R_drewN|apply Kd.R_drew));exact Kd.R_mono HO_6.out (fun _ hk=>⟨hk.2,hk.1⟩)⟩,⟨by (try simp only [hl31_1]);(with_reducible repeat (first|apply Kd.R_alloc|apply Kd.R_drewN|apply Kd.R_drew));exact Kd.R_mono HO291.out (fun _ hk=>⟨hk.1.2,hk.2⟩)⟩,⟨by (try simp only [hl31_1]);(with_reducible repeat (first|apply Kd.R_alloc|apply Kd.R_drewN|apply Kd.R_drew));exact HO_31.out⟩,⟨by (try simp only [hl31_1]);(with_reducible repeat (first|refine blk_drewN ?_ _|refine blk_drew ?_|refine blk_alloc ?_ _));exact BK264.out⟩,⟨by repeat (first|(with_reducible first|exact HB.out|apply below_alloc|apply pw_below_drewN|apply below_drew1|refine below_set ?_ GE264.out)|exact HB.out)⟩⟩
     case round =>
      clear H'
      try clear c2
      try clear p2
      try clear q2
      try clear hx2
      try clear c3
      try clear p3
      try clear q3
      try clear hx3
      try clear hf3
      try clear c4
      try clear c5
      try clear c5b0
      try clear c5b1
      try clear p6
      try clear c8
      try clear c22
      try clear c22b0
      try clear p28
      try clear q28
      try clear hx28
      try clear c31
      try clear c32
      try clear c32b0
      try clear c33
      try clear c33b0
      try clear c34
      try clear c34b0
      try clear c35
      try clear c35b0
      try clear c37
      try clear c37b0
      try clear c38
      try clear c38b0
      try clear p39
      try clear q39
      try clear hx39
      try clear hf39
      try clear c41
      try clear c42
      try clear c43
      try clear c44
      try clear hcz17_0
      try clear hcz17_1
      try clear hcz45_0
      try clear hcz45_1
      try clear hfz17_0
      try clear hfz17_1
      try clear hfz45_0
      try clear hfz45_1
      try clear hx283_0
      try clear hx39_0
      try clear p2
      try clear p283
      try clear p39
      try clear p6
      try clear q283
      try clear q39
      obtain ⟨x11_2,x71_2,rfl,HA,HK2,HO_6,HO_11,HO_31,BK264,HB⟩:=hrel
      cases gk with
      | zero => exact absurd HA.out (by simp [impl_DeadCells.l2])
      | succ k2 =>
       have H:=HA.out
       clear HA
       simp only [impl_DeadCells.l2] at H
       by_cases c51 : x71_2 < (x31_1.length : Int)
       ·rw [if_pos c51] at H
        have c51b0 : decide (x71_2 < (x31_1.length : Int)) = true:=decide_eq_true c51
        (try (have c51b0z:=c51b0;simp only [← hl31_1] at c51b0z))
        (try (have c51b0y:=c51b0;simp only [hl31_1] at c51b0y))
        clear c51
        by_cases c52 : 0 ≤ x71_2
        ·rw [if_pos c52] at H
         have c52b0 : decide (0 ≤ x71_2) = true:=decide_eq_true c52
         clear c52
         by_cases c53 : x71_2 < (x31_1.length : Int)
         ·rw [if_pos c53] at H
          have c53b0 : decide (x71_2 < (x31_1.length : Int)) = true:=decide_eq_true c53
          (try (have c53b0z:=c53b0;simp only [← hl31_1] at c53b0z))
          (try (have c53b0y:=c53b0;simp only [hl31_1] at c53b0y))
          clear c53
          have H':=Aside0.mk H
          clear H
          have p292 : 0 ≤ (x71_2 : Int):=of_decide_eq_true (by first|(with_reducible assumption)|assumption)
          have q292 : x71_2 < (x31_1.length : Int):=of_decide_eq_true (by first|(with_reducible assumption)|assumption)
          obtain ⟨ad292,e292,hx292_0⟩:=Kd.at_int (Kd.R_reads' HO_31.out).2.2 x71_2 p292 q292
          cases e292
          replace p292:=eq_true p292
          replace q292:=eq_true q292
          obtain ⟨Ao54,co54,eo54⟩:=Kd.R_slice HO_6.out
          subst eo54
          go_wp2
          go_loopg [14,78] k2 (fun kq v14 v78 w'=>∃ (x14_3 : Bool) (x78_3 : Int),v14 = .bool x14_3 ∧ v78 = .int .i64 x78_3 ∧ Aside0 (impl_DeadCells.l3 kq x6_1 x11_2 x71_2 (rd x31_1 x71_2) x14_3 x31_1 (x31_1.length : Int) x71_2 (x6_1.length : Int) x78_3 = some (r1,r2)) ∧ Aside0 (kq ≤ k2) ∧ Aside0 (Kd.R (Kd.int .i64) 2 w' w.heap.size (fun k_=>some k_ ≠ (u11 : Value).ownBlock ∧ some k_ ≠ ((.slice (some ad292) x31_1.length co21) : Value).ownBlock) (.slice Ao54 x6_1.length co54) x6_1) ∧ Aside0 (Kd.R (Kd.int .i64) 2 w' w.heap.size (fun k_=>some k_ ≠ ((.slice Ao54 x6_1.length co54) : Value).ownBlock ∧ some k_ ≠ ((.slice (some ad292) x31_1.length co21) : Value).ownBlock) u11 x11_2) ∧ Aside0 (Kd.R (Kd.int .i64) 2 w' w.heap.size (fun k_=>some k_ ≠ ((.slice Ao54 x6_1.length co54) : Value).ownBlock ∧ some k_ ≠ (u11 : Value).ownBlock) (.slice (some ad292) x31_1.length co21) x31_1) ∧ Aside0 (w'.heap[gb264]? = some (.cells #[.int .i64 a0_0,(.slice A0_1 l0_1.length c0_1)] 28 (0,0))) ∧ Aside0 (Below w.heap.size w w'))
          case atStart=>exact ⟨(true),(0),(by first|rfl|(simp;done)|(simp [*];done)),(by first|rfl|(simp;done)|(simp [*];done)),H',⟨Nat.le_refl _⟩,⟨by (try simp only [hl31_1]);(with_reducible repeat (first|apply Kd.R_alloc|apply Kd.R_drewN|apply Kd.R_drew));exact HO_6.out⟩,⟨by (try simp only [hl31_1]);(with_reducible repeat (first|apply Kd.R_alloc|apply Kd.R_drewN|apply Kd.R_drew));exact HO_11.out⟩,⟨by (try simp only [hl31_1]);(with_reducible repeat (first|apply Kd.R_alloc|apply Kd.R_drewN|apply Kd.R_drew));exact HO_31.out⟩,⟨by (try simp only [hl31_1]);(with_reducible repeat (first|refine blk_drewN ?_ _|refine blk_drew ?_|refine blk_alloc ?_ _));exact BK264.out⟩,⟨by repeat (first|(with_reducible first|exact HB.out|apply below_alloc|apply pw_below_drewN|apply below_drew1|refine below_set ?_ GE264.out)|exact HB.out)⟩⟩
          case round =>
           clear H'
           try clear c2
           try clear p2
           try clear q2
           try clear hx2
           try clear c3
           try clear p3
           try clear q3
           try clear hx3
           try clear hf3
           try clear c4
           try clear c5
           try clear c5b0
           try clear c5b1
           try clear p6
           try clear c8
           try clear c22
           try clear c22b0
           try clear p28
           try clear q28
           try clear hx28
           try clear p29
           try clear q29
           try clear hx29
           try clear c31
           try clear c32
           try clear c32b0
           try clear c33
           try clear c33b0
           try clear c34
           try clear c34b0
           try clear c35
           try clear c35b0
           try clear c37
           try clear c37b0
           try clear c38
           try clear c38b0
           try clear p39
           try clear q39
           try clear hx39
           try clear hf39
           try clear c41
           try clear c42
           try clear c43
           try clear c44
           try clear c51
           try clear c51b0
           try clear c52
           try clear c52b0
           try clear c53
           try clear c53b0
           try clear hcz17_0
           try clear hcz17_1
           try clear hcz45_0
           try clear hcz45_1
           try clear hfz17_0
           try clear hfz17_1
           try clear hfz45_0
           try clear hfz45_1
           try clear hx283_0
           try clear hx292_0
           try clear hx39_0
           try clear p2
           try clear p28
           try clear p283
           try clear p292
           try clear p3
           try clear p39
           try clear p6
           try clear q2
           try clear q28
           try clear q283
           try clear q292
           try clear q3
           try clear q39
           obtain ⟨x14_3,x78_3,rfl,rfl,HA,HK3,HO_6,HO_11,HO_31,BK264,HB⟩:=hrel
           cases gk with
           | zero => exact absurd HA.out (by simp [impl_DeadCells.l3])
           | succ k3 =>
            have H:=HA.out
            clear HA
            simp only [impl_DeadCells.l3] at H
            by_cases c55 : x78_3 < (x6_1.length : Int)
            ·rw [if_pos c55] at H
             have c55b0 : decide (x78_3 < (x6_1.length : Int)) = true:=decide_eq_true c55
             (try (have c55b0z:=c55b0;simp only [← hl31_1] at c55b0z))
             (try (have c55b0y:=c55b0;simp only [hl31_1] at c55b0y))
             clear c55
             by_cases c56 : 0 ≤ x78_3
             ·rw [if_pos c56] at H
              have c56b0 : decide (0 ≤ x78_3) = true:=decide_eq_true c56
              clear c56
              by_cases c57 : x78_3 < (x6_1.length : Int)
              ·rw [if_pos c57] at H
               have c57b0 : decide (x78_3 < (x6_1.length : Int)) = true:=decide_eq_true c57
               (try (have c57b0z:=c57b0;simp only [← hl31_1] at c57b0z))
               (try (have c57b0y:=c57b0;simp only [hl31_1] at c57b0y))
               clear c57
               by_cases c58 : x14_3 = true
               ·subst c58
                have H1 : (if 0 ≤ x71_2 then (if 0 ≤ (Go.bits .xor .i64 x78_3 (shl .i64 1 x71_2)) then (if (Go.bits .xor .i64 x78_3 (shl .i64 1 x71_2)) < (x6_1.length : Int) then (impl_DeadCells.l3 k3 x6_1 x11_2 x71_2 (rd x31_1 x71_2) ((rd x6_1 x78_3) == (rd x6_1 (Go.bits .xor .i64 x78_3 (shl .i64 1 x71_2)))) x31_1 (x31_1.length : Int) x71_2 (x6_1.length : Int) (wrap64 (x78_3 + 1))) else (none)) else (none)) else (none)) = some (r1,r2):=by rw [if_pos rfl] at H;exact H
                clear H
                have H:=H1
                clear H1
                by_cases c59 : 0 ≤ x71_2
                ·rw [if_pos c59] at H
                 have c59b0:=eq_true c59
                 have c59b1 : decide (0 ≤ x71_2) = true:=decide_eq_true c59
                 clear c59
                 obtain ⟨ji60,hji60⟩ : ∃ j_ : Int,(shl .i64 1 x71_2) = j_:=⟨_,rfl⟩
                 replace H : (if 0 ≤ (Go.bits .xor .i64 x78_3 (ji60)) then (if (Go.bits .xor .i64 x78_3 (ji60)) < (x6_1.length : Int) then (impl_DeadCells.l3 k3 x6_1 x11_2 x71_2 (rd x31_1 x71_2) ((rd x6_1 x78_3) == (rd x6_1 (Go.bits .xor .i64 x78_3 (ji60)))) x31_1 (x31_1.length : Int) x71_2 (x6_1.length : Int) (wrap64 (x78_3 + 1))) else (none)) else (none)) = some (r1,r2):=by first|(rw [hji60] at H;exact H)|(simp only [hji60] at H ⊢;exact H)
                 have hji60_ : (IntKind.i64.wrap (1 * 2 ^ min x71_2.toNat 64)) = ji60:=hji60
                 have hji60z : x71_2 ≤ 64 → (IntKind.i64.wrap (1 * 2 ^ x71_2.toNat)) = ji60:=shl_small hji60
                 have hji60u : (IntKind.i64.wrap (2 ^ min x71_2.toNat 64)) = ji60:=by have h_:=hji60_;rw [Int.one_mul] at h_;exact h_
                 have hji60v : x71_2 ≤ 64 → (IntKind.i64.wrap (2 ^ x71_2.toNat)) = ji60:=fun hle_=>by have h_:=hji60z hle_;rw [Int.one_mul] at h_;exact h_
                 have hji60y : (wrap64 (1 * 2 ^ min x71_2.toNat 64)) = ji60:=(i64_w _).symm.trans hji60_
                 have hji60x : x71_2 ≤ 64 → (wrap64 (1 * 2 ^ x71_2.toNat)) = ji60:=fun h_=>(i64_w _).symm.trans (hji60z h_)
                 by_cases c61 : 0 ≤ (Go.bits .xor .i64 x78_3 (ji60))
                 ·rw [if_pos c61] at H
                  have c61b0 : decide (0 ≤ (Go.bits .xor .i64 x78_3 (ji60))) = true:=decide_eq_true c61
                  clear c61
                  by_cases c62 : (Go.bits .xor .i64 x78_3 (ji60)) < (x6_1.length : Int)
                  ·rw [if_pos c62] at H
                   have c62b0 : decide ((Go.bits .xor .i64 x78_3 (ji60)) < (x6_1.length : Int)) = true:=decide_eq_true c62
                   (try (have c62b0z:=c62b0;simp only [← hl31_1] at c62b0z))
                   (try (have c62b0y:=c62b0;simp only [hl31_1] at c62b0y))
                   clear c62
                   have H':=Aside0.mk H
                   clear H
                   have p293 : 0 ≤ (x78_3 : Int):=of_decide_eq_true (by first|(with_reducible assumption)|assumption)
                   have q293 : x78_3 < (x6_1.length : Int):=of_decide_eq_true (by first|(with_reducible assumption)|assumption)
                   obtain ⟨ad293,e293,hx293_0⟩:=Kd.at_int (Kd.R_reads' HO_6.out).2.2 x78_3 p293 q293
                   cases e293
                   replace p293:=eq_true p293
                   replace q293:=eq_true q293
                   have p294 : 0 ≤ ((Go.bits .xor .i64 x78_3 (ji60)) : Int):=of_decide_eq_true (by first|(with_reducible assumption)|assumption)
                   have q294 : (Go.bits .xor .i64 x78_3 (ji60)) < (x6_1.length : Int):=of_decide_eq_true (by first|(with_reducible assumption)|assumption)
                   obtain ⟨ad294,e294,hx294_0⟩:=Kd.at_int (Kd.R_reads' HO_6.out).2.2 (Go.bits .xor .i64 x78_3 (ji60)) p294 q294
                   obtain rfl : ad293 = ad294:=(by injection e294)
                   replace p294:=eq_true p294
                   replace q294:=eq_true q294
                   go_wp2
                   go_roundg k3
                   case measure=>have:=HK1.out;have:=HK2.out;have:=HK3.out;omega
                   case rel=>exact ⟨(((rd x6_1 x78_3) == (rd x6_1 (Go.bits .xor .i64 x78_3 (ji60))))),(wrap64 (x78_3 + 1)),(by first|rfl|(simp;done)|(simp only [← hji60] <;> (first|rfl|simp))|(simp [*];done)),(by first|rfl|(simp;done)|(simp [*];done)),H',⟨by have:=HK1.out;have:=HK2.out;have:=HK3.out;omega⟩,⟨by (try simp only [hl31_1]);(with_reducible repeat (first|apply Kd.R_alloc|apply Kd.R_drewN|apply Kd.R_drew));exact HO_6.out⟩,⟨by (try simp only [hl31_1]);(with_reducible repeat (first|apply Kd.R_alloc|apply Kd.R_drewN|apply Kd.R_drew));exact HO_11.out⟩,⟨by (try simp only [hl31_1]);(with_reducible repeat (first|apply Kd.R_alloc|apply Kd.R_drewN|apply Kd.R_drew));exact HO_31.out⟩,⟨by (try simp only [hl31_1]);(with_reducible repeat (first|refine blk_drewN ?_ _|refine blk_drew ?_|refine blk_alloc ?_ _));exact BK264.out⟩,⟨by repeat (first|(with_reducible first|exact HB.out|apply below_alloc|apply pw_below_drewN|apply below_drew1|refine below_set ?_ GE264.out)|exact HB.out)⟩⟩
                  ·rw [if_neg c62] at H
                   exact absurd H (by simp)
                 ·rw [if_neg c61] at H
                  exact absurd H (by simp)
                ·rw [if_neg c59] at H
                 exact absurd H (by simp)
               ·replace c58:=Bool.eq_false_iff.mpr c58
                subst c58
                have H1 : (impl_DeadCells.l3 k3 x6_1 x11_2 x71_2 (rd x31_1 x71_2) false x31_1 (x31_1.length : Int) x71_2 (x6_1.length : Int) (wrap64 (x78_3 + 1))) = some (r1,r2):=by rw [if_neg (show ¬ (false = true) by decide)] at H;exact H
                clear H
                have H:=H1
                clear H1
                have H':=Aside0.mk H
                clear H
                have p293 : 0 ≤ (x78_3 : Int):=of_decide_eq_true (by first|(with_reducible assumption)|assumption)
                have q293 : x78_3 < (x6_1.length : Int):=of_decide_eq_true (by first|(with_reducible assumption)|assumption)
                obtain ⟨ad293,e293,hx293_0⟩:=Kd.at_int (Kd.R_reads' HO_6.out).2.2 x78_3 p293 q293
                cases e293
                replace p293:=eq_true p293
                replace q293:=eq_true q293
                go_wp2
                go_roundg k3
                case measure=>have:=HK1.out;have:=HK2.out;have:=HK3.out;omega
                case rel=>exact ⟨(false),(wrap64 (x78_3 + 1)),(by first|rfl|(simp;done)|(simp [*];done)),(by first|rfl|(simp;done)|(simp [*];done)),H',⟨by have:=HK1.out;have:=HK2.out;have:=HK3.out;omega⟩,⟨by (try simp only [hl31_1]);(with_reducible repeat (first|apply Kd.R_alloc|apply Kd.R_drewN|apply Kd.R_drew));exact HO_6.out⟩,⟨by (try simp only [hl31_1]);(with_reducible repeat (first|apply Kd.R_alloc|apply Kd.R_drewN|apply Kd.R_drew));exact HO_11.out⟩,⟨by (try simp only [hl31_1]);(with_reducible repeat (first|apply Kd.R_alloc|apply Kd.R_drewN|apply Kd.R_drew));exact HO_31.out⟩,⟨by (try simp only [hl31_1]);(with_reducible repeat (first|refine blk_drewN ?_ _|refine blk_drew ?_|refine blk_alloc ?_ _));exact BK264.out⟩,⟨by repeat (first|(with_reducible first|exact HB.out|apply below_alloc|apply pw_below_drewN|apply below_drew1|refine below_set ?_ GE264.out)|exact HB.out)⟩⟩
              ·rw [if_neg c57] at H
               exact absurd H (by simp)
             ·rw [if_neg c56] at H
              exact absurd H (by simp)
            ·rw [if_neg c55] at H
             have c55b0 : decide (x78_3 < (x6_1.length : Int)) = false:=decide_eq_false c55
             (try (have c55b0z:=c55b0;simp only [← hl31_1] at c55b0z))
             (try (have c55b0y:=c55b0;simp only [hl31_1] at c55b0y))
             clear c55
             by_cases c63 : x14_3 = true
             ·subst c63
              have H1 : (if x11_2.length < 17592186044416 then (impl_DeadCells.l2 k3 x6_1 (x11_2 ++ [(rd x31_1 x71_2)]) x31_1 (x31_1.length : Int) (wrap64 (x71_2 + 1))) else (none)) = some (r1,r2):=by rw [if_pos rfl] at H;exact H
              clear H
              have H:=H1
              clear H1
              by_cases c64 : x11_2.length < 17592186044416
              ·rw [if_pos c64] at H
               have LMc64:=Aside0.mk c64
               clear c64
               obtain ⟨y295,hy295⟩ : ∃ y_ : List Int,y_ = (x11_2 ++ [(rd x31_1 x71_2)]):=⟨_,rfl⟩
               replace H : (impl_DeadCells.l2 k3 x6_1 y295 x31_1 (x31_1.length : Int) (wrap64 (x71_2 + 1))) = some (r1,r2):=by first|(rw [hy295];with_reducible exact H)|(have H2_:=(Option.bind_some _ _).symm.trans H;rw [hy295];with_reducible exact H2_)|(have H2_:=(Option.bind_some _ _).symm.trans H;with_reducible exact H2_)|with_reducible exact H|(rw [hy295];exact H)|exact H
               have Ny295:=Aside0.mk hy295
               clear hy295
               have H':=Aside0.mk H
               clear H
               go_wp2_with (first|((with_reducible refine gate_builtin (b:=.append) (xs:=#[.tmp 97,.tmp 99]) rfl ?_);at_builtin;refine Kd.R_append (Kd.int .i64) (w0:=w) w.heap.size rfl (.tmp 97) (.tmp 99) 22 2 (.int .i64 0) 8 rfl Try.underlying22 info2 rfl (by decide) (by omega) u11 x11_2 (rd x31_1 x71_2) [.int .i64 (rd x31_1 x71_2)] (fun k_=>some k_ ≠ (.slice Ao54 x6_1.length co54 : Value).ownBlock ∧ some k_ ≠ (.slice (some ad292) x31_1.length co21 : Value).ownBlock) (fun _=>False) rfl rfl ?aP (fun _ hk=>hk.elim) ?aF ?aO ?aB ?aS ?aL ?_;(case aP=>exact rfl);(case aB=>exact (by repeat (first|(with_reducible first|exact HB.out|apply below_alloc|apply pw_below_drewN|apply below_drew1|refine below_set ?_ GE264.out)|exact HB.out)));(case aF=>exact (fun k_ hk=>⟨Kd.fresh' (Kd.R_lt (by (with_reducible repeat (first|apply Kd.R_alloc|apply Kd.R_drewN|apply Kd.R_drew));exact HO_6.out)) k_ hk,Kd.fresh' (Kd.R_lt (by (with_reducible repeat (first|apply Kd.R_alloc|apply Kd.R_drewN|apply Kd.R_drew));exact HO_31.out)) k_ hk⟩));(case aO=>exact (by (with_reducible repeat (first|apply Kd.R_alloc|apply Kd.R_drewN|apply Kd.R_drew));exact HO_11.out));(case aS=>exact (below_size (by repeat (first|(with_reducible first|exact HB.out|apply below_alloc|apply pw_below_drewN|apply below_drew1|refine below_set ?_ GE264.out)|exact HB.out))));(case aL=>have:=LMc64.out;omega);intro v296 w65 ho hb hg hat;rw [← Ny295.out] at ho;have n0_:=Aside0.mk (Kd.R_after (ok:=(fun k_=>some k_ ≠ (.slice (some ad292) x31_1.length co21 : Value).ownBlock)) (by (with_reducible repeat (first|apply Kd.R_alloc|apply Kd.R_drewN|apply Kd.R_drew));exact Kd.R_mono HO_6.out (fun _ hk=>⟨hk.2,hk.1⟩)) hg hat);have n1_:=Aside0.mk (Kd.R_after (ok:=(fun k_=>some k_ ≠ (.slice Ao54 x6_1.length co54 : Value).ownBlock)) (by (with_reducible repeat (first|apply Kd.R_alloc|apply Kd.R_drewN|apply Kd.R_drew));exact HO_31.out) hg hat);have n2_:=Aside0.mk (blk_grown (g:=gb264) (o:=.cells #[.int .i64 a0_0,.slice A0_1 l0_1.length c0_1] 28 (0,0)) (by (with_reducible repeat (first|refine blk_drewN ?_ _|refine blk_drew ?_|refine blk_alloc ?_ _));exact BK264.out) hg (Kd.R_ne HO_11.out BK264.out (by decide)));have n3_:=Aside0.mk (hb);have n4_:=Aside0.mk (ho);clear HO_6;clear HO_31;clear BK264;clear HB;clear HO_11;have HO_6:=n0_;have HO_31:=n1_;have BK264:=n2_;have HB:=n3_;have HO297:=n4_;clear n0_ n1_ n2_ n3_ n4_;clear ho hb hg hat))
               go_roundg k3
               case measure=>have:=HK1.out;have:=HK2.out;have:=HK3.out;omega
               case rel=>exact ⟨(y295),(wrap64 (x71_2 + 1)),(by first|rfl|(simp;done)|(simp [*];done)),H',⟨by have:=HK1.out;have:=HK2.out;have:=HK3.out;omega⟩,⟨by (try simp only [hl31_1]);(with_reducible repeat (first|apply Kd.R_alloc|apply Kd.R_drewN|apply Kd.R_drew));exact Kd.R_mono HO_6.out (fun _ hk=>⟨hk.2,hk.1⟩)⟩,⟨by (try simp only [hl31_1]);(with_reducible repeat (first|apply Kd.R_alloc|apply Kd.R_drewN|apply Kd.R_drew));exact HO297.out⟩,⟨by (try simp only [hl31_1]);(with_reducible repeat (first|apply Kd.R_alloc|apply Kd.R_drewN|apply Kd.R_drew));exact HO_31.out⟩,⟨by (try simp only [hl31_1]);(with_reducible repeat (first|refine blk_drewN ?_ _|refine blk_drew ?_|refine blk_alloc ?_ _));exact BK264.out⟩,⟨by repeat (first|(with_reducible first|exact HB.out|apply below_alloc|apply pw_below_drewN|apply below_drew1|refine below_set ?_ GE264.out)|exact HB.out)⟩⟩
              ·rw [if_neg c64] at H
               exact absurd H (by simp)
             ·replace c63:=Bool.eq_false_iff.mpr c63
              subst c63
              have H1 : (impl_DeadCells.l2 k3 x6_1 x11_2 x31_1 (x31_1.length : Int) (wrap64 (x71_2 + 1))) = some (r1,r2):=by rw [if_neg (show ¬ (false = true) by decide)] at H;exact H
              clear H
              have H:=H1
              clear H1
              have H':=Aside0.mk H
              clear H
              go_wp2
              go_roundg k3
              case measure=>have:=HK1.out;have:=HK2.out;have:=HK3.out;omega
              case rel=>exact ⟨(x11_2),(wrap64 (x71_2 + 1)),(by first|rfl|(simp;done)|(simp [*];done)),H',⟨by have:=HK1.out;have:=HK2.out;have:=HK3.out;omega⟩,⟨by (try simp only [hl31_1]);(with_reducible repeat (first|apply Kd.R_alloc|apply Kd.R_drewN|apply Kd.R_drew));exact HO_6.out⟩,⟨by (try simp only [hl31_1]);(with_reducible repeat (first|apply Kd.R_alloc|apply Kd.R_drewN|apply Kd.R_drew));exact HO_11.out⟩,⟨by (try simp only [hl31_1]);(with_reducible repeat (first|apply Kd.R_alloc|apply Kd.R_drewN|apply Kd.R_drew));exact HO_31.out⟩,⟨by (try simp only [hl31_1]);(with_reducible repeat (first|refine blk_drewN ?_ _|refine blk_drew ?_|refine blk_alloc ?_ _));exact BK264.out⟩,⟨by repeat (first|(with_reducible first|exact HB.out|apply below_alloc|apply pw_below_drewN|apply below_drew1|refine below_set ?_ GE264.out)|exact HB.out)⟩⟩
         ·rw [if_neg c53] at H
          exact absurd H (by simp)
        ·rw [if_neg c52] at H
         exact absurd H (by simp)
       ·rw [if_neg c51] at H
        have c51b0 : decide (x71_2 < (x31_1.length : Int)) = false:=decide_eq_false c51
        (try (have c51b0z:=c51b0;simp only [← hl31_1] at c51b0z))
        (try (have c51b0y:=c51b0;simp only [hl31_1] at c51b0y))
        clear c51
        simp only [Option.some.injEq,Prod.mk.injEq] at H
        obtain ⟨rfl,rfl⟩:=H
        go_wp2
        go_ret2
        exact ⟨_,by first|rfl|(simp [errW_none,errW_some] <;> rfl)|(simp only [← hji7];first|rfl|(simp [errW_none,errW_some] <;> rfl))|(simp [*,errW_none,errW_some] <;> rfl),by (with_reducible repeat (first|apply Kd.R_alloc|apply Kd.R_drewN|apply Kd.R_drew));exact Kd.R_mono HO_11.out (fun _ hk=>trivial),by repeat (first|(with_reducible first|exact HB.out|apply below_alloc|apply pw_below_drewN|apply below_drew1|refine below_set ?_ GE264.out)|exact HB.out)⟩
 ·rw [if_neg c5] at H
  have c5b0 : (t272 == 0) = false:=beq_eq_false_iff_ne.mpr c5
  have c5b1 : (t272 != 0) = true:=bne_iff_ne.mpr c5
  simp only [Option.some.injEq,Prod.mk.injEq] at H
  obtain ⟨rfl,rfl⟩:=H
  go_enter Try.func8,Try.ntmps8
  try go_wp2_with (first|((with_reducible refine gate_dst (N:=1) rfl ?_);refine box_event ?hg (N:=1) ?hd (cs:=#[.int .i64 a0_0,.slice A0_1 l0_1.length c0_1]) (t:=28) ?hr ?_;(case hd=>rfl);(case hg=>rfl);(case hr=>first|(go_simp;done)|(go_simp;rfl));intro gb264 hg w66 hbox hb;have n0_:=Aside0.mk (below_step (by repeat (first|(with_reducible first|exact HB.out|apply below_alloc|apply pw_below_drewN|apply below_drew1)|exact HB.out)) hb);have n1_:=Aside0.mk (hbox);have n2_:=Aside0.mk ((by rw [hg];exact (below_size (by repeat (first|(with_reducible first|exact HB.out|apply below_alloc|apply pw_below_drewN|apply below_drew1)|exact HB.out))) : w.heap.size ≤ gb264));have n3_:=Aside0.mk ((by rw [hg];exact (below_size (by repeat (first|(with_reducible first|exact HB.out|apply below_alloc|apply pw_below_drewN|apply below_drew1)|exact HB.out))) : w.heap.size ≤ gb264));clear HB;have HB:=n0_;have BK264:=n1_;have GW264:=n2_;have GE264:=n3_;clear n0_ n1_ n2_ n3_;clear hb hbox hg))
  have n0_:=Aside0.mk (blk_drew BK264.out)
  have n1_:=Aside0.mk (below_drew1 HB.out)
  clear BK264
  clear HB
  have BK264:=n0_
  have HB:=n1_
  clear n0_ n1_
  refine start_ (n:=11) (S:=fun w'=>w'.cell? ⟨gb264,0,none⟩ = some (.int .i64 a0_0) ∧ w'.cell? ⟨gb264,1,none⟩ = some (.slice A0_1 l0_1.length c0_1)) (ds:=[]) #[false,false,false,false,false,false,false,false,false,false,false] (by kernel_rfl) rfl rfl ⟨(blk_cell BK264.out 0).trans rfl,(blk_cell BK264.out 1).trans rfl⟩ (fun hHeld=>?_);refine with_tabW impl_DeadCells.tab1 impl_DeadCells.bits1 (fun HT_ HW_=>?_)
  generalize w66.drew = w67 at BK264 HB hHeld ⊢
  refine take_ (i:=0) (N:=some 17) (v:=?_) (a':=?_) #[true,false,false,false,false,false,false,false,false,false,false] rfl rfl (take_ofW HT_.out HW_.out (by kernel_rfl)) (fun _ _ _ h=>h) (Or.inl ⟨by rfl,?_⟩) hHeld ?_ ?_
  rotate_left
  ·rintro w' ⟨s0,s1⟩
   go_simp
   with_reducible rfl
  rotate_left
  ·simp only [Act.put,List.setIfInBounds_toArray,List.set_cons_zero,List.set_cons_succ,i64_w,i32_w]
   rfl
  refine take_ (i:=3) (N:=some 20) (v:=?_) (a':=?_) #[true,false,false,true,false,false,false,false,false,false,false] rfl rfl (take_ofW HT_.out HW_.out (by kernel_rfl)) (fun _ _ _ h=>h) (Or.inl ⟨by rfl,?_⟩) hHeld ?_ ?_
  rotate_left
  ·rintro w' ⟨s0,s1⟩
   go_simp
   with_reducible rfl
  rotate_left
  ·simp only [Act.put,List.setIfInBounds_toArray,List.set_cons_zero,List.set_cons_succ,i64_w,i32_w]
   rfl
  refine one_ (i:=1) (N:=some 18) #[true,true,false,true,false,false,false,false,false,false,false] rfl rfl (one_of HT_.out (by kernel_rfl)) (by decide) (fun K hK=>?_)
  refine goes_ Try.func31 (by kernel_rfl) rfl #[.agg #[.int .i64 a0_0,.slice A0_1 l0_1.length c0_1]] (by rfl) rfl rfl (by (try simp only [List.map_toArray,List.map_cons,List.map_nil]);first|done|rfl|(simp only [List.length_drop,List.length_take];rfl)) ?_
  with_reducible refine (impl_IsHex.calls k a0_0 _ _ l0_1 t265 _ ?side1 ?side2 A2.out).mono ?_
  (case side1=>repeat (first|exact (Kd.C_below HR0_1.out HB.out)|(with_reducible refine Kd.C_alloc ?_ _)|(with_reducible refine Kd.C_drewN ?_ _)|(with_reducible refine Kd.C_drew ?_)))
  (case side2=>exact HC0_1.out)
  rintro e w68 ⟨rfl,hb⟩
  refine ⟨_,rfl,?_⟩
  have n0_:=Aside0.mk (blk_below (g:=gb264) (o:=.cells #[.int .i64 a0_0,.slice A0_1 l0_1.length c0_1] 28 (0,0)) (by (with_reducible repeat (first|refine blk_drewN ?_ _|refine blk_drew ?_|refine blk_alloc ?_ _));exact BK264.out) hb)
  have n1_:=Aside0.mk (below_step (by repeat (first|(with_reducible first|exact HB.out|apply below_alloc|apply pw_below_drewN|apply below_drew1|refine below_set ?_ GE264.out)|exact HB.out)) hb)
  clear BK264
  clear HB
  have BK264:=n0_
  have HB:=n1_
  clear n0_ n1_
  (try clear hb)
  (try clear hb2)
  (try clear hk)
  (try clear hi)
  refine hK.out _ _ ⟨(blk_cell BK264.out 0).trans rfl,(blk_cell BK264.out 1).trans rfl⟩ (fun hHeld=>?_)
  clear hK K
  refine norm_ (a':=?_) ?_ ?_
  rotate_left
  ·show Act.put _ (some 18) _ = _
   simp only [Act.put,List.setIfInBounds_toArray,List.set_cons_zero,List.set_cons_succ,i64_w,i32_w]
   rfl
  refine pure_ (i:=2) (N:=some 19) (v:=?_) (a':=?_) #[true,true,true,true,false,false,false,false,false,false,false] rfl rfl (any_of HT_.out (by kernel_rfl)) (fun _ _ _ h=>h) (Or.inl ⟨by rfl,?_⟩) ?_ ?_
  rotate_left
  ·intro w'
   go_simp
   with_reducible rfl
  rotate_left
  ·simp only [Act.put,List.setIfInBounds_toArray,List.set_cons_zero,List.set_cons_succ,i64_w,i32_w]
   rfl
  refine one_ (i:=4) (N:=some 21) #[true,true,true,true,true,false,false,false,false,false,false] rfl rfl (one_of HT_.out (by kernel_rfl)) (by decide) (fun K hK=>?_)
  refine goes_ Try.func42 (by kernel_rfl) rfl #[.agg #[.int .i64 a0_0,.slice A0_1 l0_1.length c0_1],.int .i64 0] (by rfl) rfl rfl (by (try simp only [List.map_toArray,List.map_cons,List.map_nil]);first|done|rfl|(simp only [List.length_drop,List.length_take];rfl)) ?_
  with_reducible refine (impl_Hex_cells.calls k a0_0 _ _ l0_1 0 t266 _ ?side1 ?side2 A3.out).mono ?_
  (case side1=>repeat (first|exact (Kd.C_below HR0_1.out HB.out)|(with_reducible refine Kd.C_alloc ?_ _)|(with_reducible refine Kd.C_drewN ?_ _)|(with_reducible refine Kd.C_drew ?_)))
  (case side2=>exact HC0_1.out)
  rintro e w69 ⟨v267,rfl,ho0,hb⟩
  refine ⟨_,rfl,?_⟩
  have n0_:=Aside0.mk (Kd.R_lower ho0 (below_size (by repeat (first|(with_reducible first|exact HB.out|apply below_alloc|apply pw_below_drewN|apply below_drew1|refine below_set ?_ GE264.out)|exact HB.out))))
  have n1_:=Aside0.mk (blk_below (g:=gb264) (o:=.cells #[.int .i64 a0_0,.slice A0_1 l0_1.length c0_1] 28 (0,0)) (by (with_reducible repeat (first|refine blk_drewN ?_ _|refine blk_drew ?_|refine blk_alloc ?_ _));exact BK264.out) hb)
  have n2_:=Aside0.mk (below_step (by repeat (first|(with_reducible first|exact HB.out|apply below_alloc|apply pw_below_drewN|apply below_drew1|refine below_set ?_ GE264.out)|exact HB.out)) hb)
  clear BK264
  clear HB
  have HO268:=n0_
  have BK264:=n1_
  have HB:=n2_
  clear n0_ n1_ n2_
  (try clear hb)
  (try clear hb2)
  (try clear hk)
  (try clear hi)
  (try clear ho0)
  obtain ⟨Ao70,co70,eo70⟩:=Kd.R_slice HO268.out
  (first|subst eo70|(injection eo70 with f1_ f2_ f3_;have f4_:=f1_.symm;have f5_:=f3_.symm;clear f1_ f2_ f3_;subst f4_;subst f5_))
  refine hK.out _ _ ⟨(blk_cell BK264.out 0).trans rfl,(blk_cell BK264.out 1).trans rfl⟩ (fun hHeld=>?_)
  clear hK K
  refine norm_ (a':=?_) ?_ ?_
  rotate_left
  ·show Act.put _ (some 21) _ = _
   simp only [Act.put,List.setIfInBounds_toArray,List.set_cons_zero,List.set_cons_succ,i64_w,i32_w]
   rfl
  refine pure_ (i:=5) (N:=some 22) (v:=?_) (a':=?_) #[true,true,true,true,true,true,false,false,false,false,false] rfl rfl (any_of HT_.out (by kernel_rfl)) (fun _ _ _ h=>h) (Or.inl ⟨by rfl,?_⟩) ?_ ?_
  rotate_left
  ·intro w'
   go_simp
   with_reducible rfl
  rotate_left
  ·simp only [Act.put,List.setIfInBounds_toArray,List.set_cons_zero,List.set_cons_succ,i64_w,i32_w]
   rfl
  refine pure_ (i:=6) (N:=some 23) (v:=?_) (a':=?_) #[true,true,true,true,true,true,true,false,false,false,false] rfl rfl (any_of HT_.out (by kernel_rfl)) (fun _ _ _ h=>h) (Or.inl ⟨by rfl,?_⟩) ?_ ?_
  rotate_left
  ·intro w'
   go_simp
   with_reducible rfl
  rotate_left
  ·simp only [Act.put,List.setIfInBounds_toArray,List.set_cons_zero,List.set_cons_succ,i64_w,i32_w]
   rfl
  refine pure_ (i:=7) (N:=some 24) (v:=?_) (a':=?_) #[true,true,true,true,true,true,true,true,false,false,false] rfl rfl (any_of HT_.out (by kernel_rfl)) (fun _ _ _ h=>h) (Or.inl ⟨by rfl,?_⟩) ?_ ?_
  rotate_left
  ·intro w'
   go_simp
   with_reducible rfl
  rotate_left
  ·simp only [Act.put,List.setIfInBounds_toArray,List.set_cons_zero,List.set_cons_succ,i64_w,i32_w]
   rfl
  refine one_ (i:=8) (N:=some 25) #[true,true,true,true,true,true,true,true,true,false,false] rfl rfl (one_of HT_.out (by kernel_rfl)) (by decide) (fun K hK=>?_)
  refine Kd.R_lit_step k59 _ 59 ?hg (N:=25) ?hd (xs:=([(⟨t265,1⟩ : S59),(⟨decide ((t266.length : Int) ≤ 9),3⟩ : S59)] : List (S59))) (inner:=[.bool t265,.int .i64 1,.bool (decide ((t266.length : Int) ≤ 9)),.int .i64 3]) (ok:=fun _=>True) (okp:=fun _=>True) ?hr ?hp (fun _ hk=>hk) trivial (Below.refl _ _) (Nat.le_refl _) (by simp) ?_;(case hd=>rfl);(case hg=>rfl);(case hr=>first|(go_simp;done)|(go_simp;rfl));(case hp=>exact (Reps.c2 (show Kd.M k59 _ _ _ (⟨t265,1⟩ : S59) [.bool t265,.int .i64 1] from (k59_mkM _ _ _ (⟨t265,1⟩ : S59) )) (Reps.c2 (show Kd.M k59 _ _ _ (⟨decide ((t266.length : Int) ≤ 9),3⟩ : S59) [.bool (decide ((t266.length : Int) ≤ 9)),.int .i64 3] from (k59_mkM _ _ _ (⟨decide ((t266.length : Int) ≤ 9),3⟩ : S59) )) (Reps.none _ _))))
  intro v270 w71 ho72 hb hg_ hnew_
  clear hg_ hnew_
  (first|rw [← Ny269.out] at ho72|(simp only [Int.reduceToNat] at ho72;rw [← Ny269.out] at ho72))
  have n0_:=Aside0.mk (Kd.R_below (by (with_reducible repeat (first|apply Kd.R_alloc|apply Kd.R_drewN|apply Kd.R_drew));exact HO268.out) hb)
  have n1_:=Aside0.mk (Kd.R_lower ho72 (below_size (by repeat (first|(with_reducible first|exact HB.out|apply below_alloc|apply pw_below_drewN|apply below_drew1|refine below_set ?_ GE264.out)|exact HB.out))))
  have n2_:=Aside0.mk (blk_below (g:=gb264) (o:=.cells #[.int .i64 a0_0,.slice A0_1 l0_1.length c0_1] 28 (0,0)) (by (with_reducible repeat (first|refine blk_drewN ?_ _|refine blk_drew ?_|refine blk_alloc ?_ _));exact BK264.out) hb)
  have n3_:=Aside0.mk (below_step (by repeat (first|(with_reducible first|exact HB.out|apply below_alloc|apply pw_below_drewN|apply below_drew1|refine below_set ?_ GE264.out)|exact HB.out)) hb)
  clear HO268
  clear BK264
  clear HB
  have HO268:=n0_
  have HO271:=n1_
  have BK264:=n2_
  have HB:=n3_
  clear n0_ n1_ n2_ n3_
  clear hb ho72
  obtain ⟨Ao73,co73,eo73⟩:=Kd.R_slice HO271.out
  (first|subst eo73|(injection eo73 with f1_ f2_ f3_;have f4_:=f1_.symm;have f5_:=f3_.symm;clear f1_ f2_ f3_;subst f4_;subst f5_))
  refine hK.out _ _ ⟨(blk_cell BK264.out 0).trans rfl,(blk_cell BK264.out 1).trans rfl⟩ (fun hHeld=>?_)
  clear hK K
  refine norm_ (a':=?_) ?_ ?_
  rotate_left
  ·show Act.put _ (some 25) _ = _
   simp only [Act.put,List.setIfInBounds_toArray,List.set_cons_zero,List.set_cons_succ,i64_w,i32_w]
   rfl
  refine one_ (i:=9) (N:=some 26) #[true,true,true,true,true,true,true,true,true,true,false] rfl rfl (one_of HT_.out (by kernel_rfl)) (by decide) (fun K hK=>?_)
  refine goes_ Try.func41 (by kernel_rfl) rfl #[.slice Ao73 y269.length co73] (by rfl) rfl rfl (by (try simp only [List.map_toArray,List.map_cons,List.map_nil]);first|done|rfl|(simp only [List.length_drop,List.length_take];rfl)) ?_
  with_reducible refine (impl_first.calls k _ _ y269 t272 _ ?side1 ?side2 A4.out).mono ?_
  (case side1=>repeat (first|exact (Kd.R_reads' HO271.out).2.2|(with_reducible refine Kd.C_alloc ?_ _)|(with_reducible refine Kd.C_drewN ?_ _)|(with_reducible refine Kd.C_drew ?_)))
  (case side2=>exact (Kd.R_reads' HO271.out).2.1)
  rintro e w74 ⟨rfl,hb⟩
  refine ⟨_,rfl,?_⟩
  have n0_:=Aside0.mk (Kd.R_below (by (with_reducible repeat (first|apply Kd.R_alloc|apply Kd.R_drewN|apply Kd.R_drew));exact HO268.out) hb)
  have n1_:=Aside0.mk (Kd.R_below (by (with_reducible repeat (first|apply Kd.R_alloc|apply Kd.R_drewN|apply Kd.R_drew));exact HO271.out) hb)
  have n2_:=Aside0.mk (blk_below (g:=gb264) (o:=.cells #[.int .i64 a0_0,.slice A0_1 l0_1.length c0_1] 28 (0,0)) (by (with_reducible repeat (first|refine blk_drewN ?_ _|refine blk_drew ?_|refine blk_alloc ?_ _));exact BK264.out) hb)
  have n3_:=Aside0.mk (below_step (by repeat (first|(with_reducible first|exact HB.out|apply below_alloc|apply pw_below_drewN|apply below_drew1|refine below_set ?_ GE264.out)|exact HB.out)) hb)
  clear HO268
  clear HO271
  clear BK264
  clear HB
  have HO268:=n0_
  have HO271:=n1_
  have BK264:=n2_
  have HB:=n3_
  clear n0_ n1_ n2_ n3_
  (try clear hb)
  (try clear hb2)
  (try clear hk)
  (try clear hi)
  refine hK.out _ _ ⟨(blk_cell BK264.out 0).trans rfl,(blk_cell BK264.out 1).trans rfl⟩ (fun hHeld=>?_)
  clear hK K
  refine norm_ (a':=?_) ?_ ?_
  rotate_left
  ·show Act.put _ (some 26) _ = _
   simp only [Act.put,List.setIfInBounds_toArray,List.set_cons_zero,List.set_cons_succ,i64_w,i32_w]
   rfl
  refine pure_ (i:=10) (N:=some 4) (v:=?_) (a':=?_) #[true,true,true,true,true,true,true,true,true,true,true] rfl rfl (any_of HT_.out (by kernel_rfl)) (fun _ _ _ h=>h) (Or.inl ⟨by rfl,?_⟩) ?_ ?_
  rotate_left
  ·intro w'
   go_simp
   with_reducible rfl
  rotate_left
  ·simp only [Act.put,List.setIfInBounds_toArray,List.set_cons_zero,List.set_cons_succ,i64_w,i32_w]
   rfl
  refine done_ (done_of HT_.out (by kernel_rfl)) ?_
  try go_wp2
  go_ret2
  exact ⟨_,by first|rfl|(simp [errW_none,errW_some] <;> rfl)|(simp [*,errW_none,errW_some] <;> rfl),by first|exact Kd.R_nil _ _ _ _ _|exact Kd.N_nil _ _ _ _ _|exact Kd.V_nil _ _ _ _ _|exact Kd.Q_nil _ _ _ _ _|exact Kd.S_nil _ _ _ _ _,by repeat (first|(with_reducible first|exact HB.out|apply below_alloc|apply pw_below_drewN|apply below_drew1|refine below_set ?_ GE264.out)|exact HB.out)⟩

end Go.Proofs.Ytcfdlbjngpmcaaa.PAll
