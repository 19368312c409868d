-- Written by wip/pp.py of this work (a driver around the kit's print), out of the translation; Lean checks it.
import Derived.Test.YtcfdlbjngpmcaaaDoorPAllx0
import Derived.Test.YtcfdlbjngpmcaaaDoorMerged7
import Derived.Test.YtcfdlbjngpmcaaaDoorGNeed
namespace Go.Proofs.YtcfdlbjngpmcaaaDoor.PAll
open Go.RowKit Go.Proofs.YtcfdlbjngpmcaaaDoorW.PrintWords Go.Proofs.YtcfdlbjngpmcaaaDoorW.PrintLast Go.Proofs.YtcfdlbjngpmcaaaDoorW.PrintMore
attribute [local go_sem] max2_int min2_int max_two min_two max_three min_three max_four min_four   -- for this text's walks alone
set_option linter.unusedVariables false
set_option linter.unusedSimpArgs false

/-! ### impl_Hex_with: function 100009 -/
def impl_Hex_with.f (a0_0 : Int) (l0_1 : List Int) (a1 : Int) (a2 : Int) : Option (Int × List Int) := (slices_Clone_int64_int64.f l0_1).bind fun t376 => (if 0 ≤ a1 then (if a1 < (t376.length : Int) then (some (a0_0, (t376.set (a1 : Int).toNat a2))) else (none)) else (none))
set_option maxHeartbeats 8000000 in
set_option maxRecDepth 100000 in
theorem impl_Hex_with.calls (a0_0 : Int) (A0_1 : Option Addr) (c0_1 : Nat) (l0_1 : List Int) (a1 : Int) (a2 : Int) (r1 : Int) (r2 : List Int) (w : World) (hr0_1 : Kd.C (Kd.int .i64) w A0_1 l0_1.length l0_1) (hc0_1 : l0_1.length ≤ c0_1) (h : impl_Hex_with.f a0_0 l0_1 a1 a2 = some (r1, r2)) :
  Calls Tryd.prog 28 #[.agg #[.int .i64 a0_0,.slice A0_1 l0_1.length c0_1],.int .i64 a1,.int .i64 a2] w fun e w'=>∃ v1_ : Value,e = .returned (.agg #[.int .i64 r1,v1_]) ∧ Kd.R (Kd.int .i64) 2 w' w.heap.size (fun _=>True) v1_ r2 ∧ Below w.heap.size w w':=by
 have hu28:=Tryd.underlying28
 have HR0_1:=Aside0.mk hr0_1
 have HC0_1:=Aside0.mk hc0_1
 clear hr0_1 hc0_1
 have HB:=Aside0.mk (Below.refl w.heap.size w)
 have H : ((slices_Clone_int64_int64.f l0_1).bind fun t376=>(if 0 ≤ a1 then (if a1 < (t376.length : Int) then (some (a0_0,(t376.set (a1 : Int).toNat a2))) else (none)) else (none))) = some (r1,r2):=h
 clear h
 replace H:=Option.bind_eq_some_iff.mp H
 obtain ⟨t376,A40,H⟩:=H
 replace H : (if 0 ≤ a1 then (if a1 < (t376.length : Int) then (some (a0_0,(t376.set (a1 : Int).toNat a2))) else (none)) else (none)) = some (r1,r2):=H
 have A4:=Aside0.mk A40
 clear A40
 by_cases c5 : 0 ≤ a1
 ·rw [if_pos c5] at H
  have c5b0 : decide (0 ≤ a1) = true:=decide_eq_true c5
  clear c5
  by_cases c6 : a1 < (t376.length : Int)
  ·rw [if_pos c6] at H
   have c6b0 : decide (a1 < (t376.length : Int)) = true:=decide_eq_true c6
   clear c6
   obtain ⟨y379,hy379⟩ : ∃ y_ : List Int,y_ = (t376.set (a1 : Int).toNat a2):=⟨_,rfl⟩
   replace H : (some (a0_0,y379)) = some (r1,r2):=by first|(rw [hy379];with_reducible exact H)|(have H2_:=(Option.bind_some _ _).symm.trans H;rw [hy379];with_reducible exact H2_)|(have H2_:=(Option.bind_some _ _).symm.trans H;with_reducible exact H2_)|with_reducible exact H|(rw [hy379];exact H)|exact H
   have Ny379:=Aside0.mk hy379
   clear hy379
   simp only [Option.some.injEq,Prod.mk.injEq] at H
   obtain ⟨rfl,rfl⟩:=H
   go_enter Tryd.func28,Tryd.ntmps28
   go_wp2_with (first|((with_reducible refine gate_dst (N:=3) rfl ?_);refine box_event ?hg (N:=3) ?hd (cs:=#[.int .i64 a0_0,.slice A0_1 l0_1.length c0_1]) (t:=28) ?hr ?_;(case hd=>rfl);(case hg=>rfl);(case hr=>first|(go_simp;done)|(go_simp;rfl));intro gb374 hg w8 hbox hb;have n0_:=Aside0.mk (below_step (by repeat (first|(with_reducible first|exact HB.out|apply below_alloc|apply pw_below_drewN|apply below_drew1)|exact HB.out)) hb);have n1_:=Aside0.mk (hbox);have n2_:=Aside0.mk ((by rw [hg];exact (below_size (by repeat (first|(with_reducible first|exact HB.out|apply below_alloc|apply pw_below_drewN|apply below_drew1)|exact HB.out))) : w.heap.size ≤ gb374));have n3_:=Aside0.mk ((by rw [hg];exact (below_size (by repeat (first|(with_reducible first|exact HB.out|apply below_alloc|apply pw_below_drewN|apply below_drew1)|exact HB.out))) : w.heap.size ≤ gb374));clear HB;have HB:=n0_;have BK374:=n1_;have GW374:=n2_;have GE374:=n3_;clear n0_ n1_ n2_ n3_;clear hb hbox hg)|((with_reducible refine gate_dst (N:=6) rfl ?_);refine box_event ?hg (N:=6) ?hd (cs:=#[.int .i64 0,.slice none 0 0]) (t:=28) ?hr ?_;(case hd=>rfl);(case hg=>rfl);(case hr=>first|(go_simp;done)|(go_simp;rfl));intro gb375 hg w9 hbox hb;have n0_:=Aside0.mk (blk_below (g:=gb374) (o:=.cells #[.int .i64 a0_0,.slice A0_1 l0_1.length c0_1] 28 (0,0)) (by (with_reducible repeat (first|refine blk_drewN ?_ _|refine blk_drew ?_|refine blk_alloc ?_ _));exact BK374.out) hb);have n1_:=Aside0.mk (below_step (by repeat (first|(with_reducible first|exact HB.out|apply below_alloc|apply pw_below_drewN|apply below_drew1|refine below_set ?_ GE374.out)|exact HB.out)) hb);have n2_:=Aside0.mk (hbox);have n3_:=Aside0.mk ((by rw [hg];exact (below_size (by repeat (first|(with_reducible first|exact HB.out|apply below_alloc|apply pw_below_drewN|apply below_drew1|refine below_set ?_ GE374.out)|exact HB.out))) : w.heap.size ≤ gb375));have n4_:=Aside0.mk ((by rw [hg];exact (below_size (by repeat (first|(with_reducible first|exact HB.out|apply below_alloc|apply pw_below_drewN|apply below_drew1|refine below_set ?_ GE374.out)|exact HB.out))) : w.heap.size ≤ gb375));have n5_:=Aside0.mk ((by rw [hg];exact Nat.ne_of_lt (blk_lt (g:=gb374) (o:=.cells #[.int .i64 a0_0,.slice A0_1 l0_1.length c0_1] 28 (0,0)) (by (with_reducible repeat (first|refine blk_drewN ?_ _|refine blk_drew ?_|refine blk_alloc ?_ _));exact BK374.out)) : gb374 ≠ gb375));have n6_:=Aside0.mk ((by rw [hg];exact Nat.ne_of_gt (blk_lt (g:=gb374) (o:=.cells #[.int .i64 a0_0,.slice A0_1 l0_1.length c0_1] 28 (0,0)) (by (with_reducible repeat (first|refine blk_drewN ?_ _|refine blk_drew ?_|refine blk_alloc ?_ _));exact BK374.out)) : gb375 ≠ gb374));clear BK374;clear HB;have BK374:=n0_;have HB:=n1_;have BK375:=n2_;have GW375:=n3_;have GE375:=n4_;have NB374_375:=n5_;have NB375_374:=n6_;clear n0_ n1_ n2_ n3_ n4_ n5_ n6_;clear hb hbox hg;have hnb10:=NB374_375.out;have hnc10:=NB375_374.out;have hcz11_0 : w9.cell? ⟨gb374,0,none⟩ = some (.int .i64 a0_0):=(blk_cell BK374.out 0).trans rfl;have hcz11_1 : w9.cell? ⟨gb374,1,none⟩ = some (.slice A0_1 l0_1.length c0_1):=(blk_cell BK374.out 1).trans rfl;have hfz11_0:=blk_frozen BK374.out 0;have hfz11_1:=blk_frozen BK374.out 1)|((with_reducible refine gate_callee (f:=40) rfl ?_);refine goesL_ (some 10) rfl rfl Tryd.func40 (by kernel_rfl) rfl #[.slice A0_1 l0_1.length c0_1] rfl (by (try simp only [List.map_toArray,List.map_cons,List.map_nil]);first|done|rfl|(simp only [List.length_drop,List.length_take];rfl)) ?_;(with_reducible refine (slices_Clone_int64_int64.calls _ _ l0_1 t376 _ ?side1 ?side2 A4.out).mono ?_);(case side1=>repeat (first|exact (Kd.C_below HR0_1.out HB.out)|(with_reducible refine Kd.C_alloc ?_ _)|(with_reducible refine Kd.C_drewN ?_ _)|(with_reducible refine Kd.C_drew ?_)));(case side2=>exact HC0_1.out);rintro e w12 ⟨v377,rfl,ho0,hb⟩;refine ⟨_,rfl,?_⟩;have n0_:=Aside0.mk (Kd.R_lower ho0 (below_size (by repeat (first|(with_reducible first|exact HB.out|apply below_alloc|apply pw_below_drewN|apply below_drew1|refine below_set ?_ GE374.out|refine below_set ?_ GE375.out)|exact HB.out))));have n1_:=Aside0.mk (blk_below (g:=gb374) (o:=.cells #[.int .i64 a0_0,.slice A0_1 l0_1.length c0_1] 28 (0,0)) (by (with_reducible repeat (first|refine blk_drewN ?_ _|refine blk_drew ?_|refine blk_alloc ?_ _));exact BK374.out) hb);have n2_:=Aside0.mk (blk_below (g:=gb375) (o:=.cells #[.int .i64 0,.slice none 0 0] 28 (0,0)) (by (with_reducible repeat (first|refine blk_drewN ?_ _|refine blk_drew ?_|refine blk_alloc ?_ _));exact BK375.out) hb);have n3_:=Aside0.mk (below_step (by repeat (first|(with_reducible first|exact HB.out|apply below_alloc|apply pw_below_drewN|apply below_drew1|refine below_set ?_ GE374.out|refine below_set ?_ GE375.out)|exact HB.out)) hb);clear BK374;clear BK375;clear HB;have HO378:=n0_;have BK374:=n1_;have BK375:=n2_;have HB:=n3_;clear n0_ n1_ n2_ n3_;(try clear hb);(try clear hb2);(try clear hk);(try clear hi);(try clear ho0);have p7 : 0 ≤ (a1 : Int):=of_decide_eq_true (by first|(with_reducible assumption)|assumption);have q7 : (a1 : Int) < ((t376.length : Int) : Int):=of_decide_eq_true (by first|(with_reducible assumption)|assumption);obtain ⟨go7,co7,eo7,gb7,gl7,cl7,HG7⟩:=Kd.R_form HO378.out (by omega);(first|cases eo7|(injection eo7 with ea_ en_ ec_;(first|subst ea_|(injection ea_ with ea_;subst ea_));subst ec_;clear en_));have GB7:=Aside0.mk gb7;have GG7:=Aside0.mk HG7;clear gb7 gl7 HG7;obtain ⟨hx7_0,hf7_0⟩:=Kd.R_celln 0 HO378.out (a1 : Int) p7 q7;replace p7:=eq_true p7;replace q7:=eq_true q7;obtain ⟨hy13_,hz13_⟩:=Kd.R_celln 0 HO378.out (a1 : Int) (of_decide_eq_true (by first|(with_reducible assumption)|assumption)) (of_decide_eq_true (by first|(with_reducible assumption)|assumption));have HP13:=Kd.R_putg HO378.out (a1 : Int) a2)|((with_reducible refine gate_store (t:=2) (p:=14) rfl ?_);refine store_event (t:=2) (p:=14) (v:=?vo_w14) (w1:=(w12.setCell ⟨go7,(a1 : Int).toNat,none⟩ (.int .i64 a2))) ?hg ?ho ?hn ?hr ?_;(case ho=>rfl);(case hg=>rfl);(case hn=>rfl);(case hr=>first|(go_simp;done)|(go_simp;rfl));intro w14 hw;have hg : w12.grownBy w14 (some go7):=(by rw [hw];exact HP13.2);have hp_ : Kd.R (Kd.int .i64) 2 w14 w.heap.size (fun _=>True) (.slice (some ⟨go7,0,none⟩) t376.length co7) y379:=(by rw [hw,Ny379.out];exact HP13.1);clear HP13;have n0_:=Aside0.mk (blk_grown (g:=gb374) (o:=.cells #[.int .i64 a0_0,.slice A0_1 l0_1.length c0_1] 28 (0,0)) (by (with_reducible repeat (first|refine blk_drewN ?_ _|refine blk_drew ?_|refine blk_alloc ?_ _));exact BK374.out) hg (Kd.R_ne HO378.out BK374.out (by decide)));have n1_:=Aside0.mk (blk_grown (g:=gb375) (o:=.cells #[.int .i64 0,.slice none 0 0] 28 (0,0)) (by (with_reducible repeat (first|refine blk_drewN ?_ _|refine blk_drew ?_|refine blk_alloc ?_ _));exact BK375.out) hg (Kd.R_ne HO378.out BK375.out (by decide)));have n2_:=Aside0.mk (hp_);have n3_:=Aside0.mk ((by rw [hw];exact below_set (HB.out) GB7.out : Below w.heap.size w w14));clear BK374;clear BK375;clear HO378;clear HB;have BK374:=n0_;have BK375:=n1_;have HO378:=n2_;have HB:=n3_;clear n0_ n1_ n2_ n3_;clear hg hw hp_;have hcz15_0 : w14.cell? ⟨gb374,0,none⟩ = some (.int .i64 a0_0):=(blk_cell BK374.out 0).trans rfl;have hcz15_1 : w14.cell? ⟨gb374,1,none⟩ = some (.slice A0_1 l0_1.length c0_1):=(blk_cell BK374.out 1).trans rfl;have hfz15_0:=blk_frozen BK374.out 0;have hfz15_1:=blk_frozen BK374.out 1;have hcz16_0 : w14.cell? ⟨gb375,0,none⟩ = some (.int .i64 0):=(blk_cell BK375.out 0).trans rfl;have hcz16_1 : w14.cell? ⟨gb375,1,none⟩ = some (.slice none 0 0):=(blk_cell BK375.out 1).trans rfl;have hfz16_0:=blk_frozen BK375.out 0;have hfz16_1:=blk_frozen BK375.out 1))
   refine bodyPost_ret (results_cell_row rfl _ _ gb375 28 #[.int .i64 a0_0,.slice (some ⟨go7,0,none⟩) t376.length co7] (0,0) _ rfl (by (with_reducible repeat (first|refine blk_drewN ?_ _|refine blk_drew ?_|refine blk_alloc ?_ _));refine blk_put (cs:=#[.int .i64 a0_0,.slice none 0 0]) ?_ 1 _ rfl;(with_reducible repeat (first|refine blk_drewN ?_ _|refine blk_drew ?_|refine blk_alloc ?_ _));refine blk_put (cs:=#[.int .i64 0,.slice none 0 0]) ?_ 0 _ rfl;(with_reducible repeat (first|refine blk_drewN ?_ _|refine blk_drew ?_|refine blk_alloc ?_ _));exact BK375.out) Tryd.underlying28 rfl (by kernel_rfl)) rfl ?_
   exact ⟨_,by first|rfl|(simp [errW_none,errW_some] <;> rfl)|(simp [*,errW_none,errW_some] <;> rfl),by (with_reducible repeat (first|apply Kd.R_alloc|apply Kd.R_drewN|apply Kd.R_drew));exact Kd.R_mono (Kd.R_far (p:=⟨gb375,1,none⟩) (Kd.R_far (p:=⟨gb375,0,none⟩) (Kd.R_types HO378.out BK375.out (by decide)) (fun _ hk=>hk.2) (.int .i64 a0_0)) (fun _ hk=>hk.2) (.slice (some ⟨go7,0,none⟩) t376.length co7)) (fun _ hk=>trivial),by repeat (first|(with_reducible first|exact HB.out|apply below_alloc|apply pw_below_drewN|apply below_drew1|refine below_set ?_ GE374.out|refine below_set ?_ GE375.out)|exact HB.out)⟩
  ·rw [if_neg c6] at H
   exact absurd H (by simp)
 ·rw [if_neg c5] at H
  exact absurd H (by simp)

/-! ### impl_Hex_joiner: function 100010 -/
def impl_Hex_joiner.l0 : Nat → List Int → Int → Int → Int → List Int → Option (Int)
 | 0, _, _, _, _, _ => none
 | k + 1, x5, x6, x7, x381000, x381001 => if x7 < x6 then (if 0 ≤ x7 then (if x7 < (x5.length : Int) then ((impl_Hex_need.f k x381000 x381001 (rd x5 x7)).bind fun t385 => (if t385 = 0 then (some (rd x5 x7)) else (impl_Hex_joiner.l0 k x5 x6 (wrap64 (x7 + 1)) x381000 x381001))) else (none)) else (none)) else (some 0)
def impl_Hex_joiner.f (k : Nat) (a0_0 : Int) (l0_1 : List Int) : Option (Int) := (some (([1, 2] : List Int) : List Int)).bind fun y381 => (impl_Hex_joiner.l0 k y381 (y381.length : Int) 0 a0_0 l0_1)
set_option maxHeartbeats 8000000 in
set_option maxRecDepth 100000 in
theorem impl_Hex_joiner.calls (k : Nat) (a0_0 : Int) (A0_1 : Option Addr) (c0_1 : Nat) (l0_1 : List Int) (r : Int) (w : World) (hr0_1 : Kd.C (Kd.int .i64) w A0_1 l0_1.length l0_1) (hc0_1 : l0_1.length ≤ c0_1) (h : impl_Hex_joiner.f k a0_0 l0_1 = some r) :
  Calls Tryd.prog 35 #[.agg #[.int .i64 a0_0,.slice A0_1 l0_1.length c0_1]] w fun e w'=>e = .returned (.int .i64 r) ∧ Below w.heap.size w w':=by
 have hu28:=Tryd.underlying28
 have HR0_1:=Aside0.mk hr0_1
 have HC0_1:=Aside0.mk hc0_1
 clear hr0_1 hc0_1
 have HB:=Aside0.mk (Below.refl w.heap.size w)
 have H : ((some (([1,2] : List Int) : List Int)).bind fun y381=>(impl_Hex_joiner.l0 k y381 (y381.length : Int) 0 a0_0 l0_1)) = some r:=h
 clear h
 obtain ⟨y381,hy381⟩ : ∃ y_ : List Int,y_ = (([1,2] : List Int)):=⟨_,rfl⟩
 replace H : (impl_Hex_joiner.l0 k y381 (y381.length : Int) 0 a0_0 l0_1) = some r:=by first|(rw [hy381];with_reducible exact H)|(have H2_:=(Option.bind_some _ _).symm.trans H;rw [hy381];with_reducible exact H2_)|(have H2_:=(Option.bind_some _ _).symm.trans H;with_reducible exact H2_)|with_reducible exact H|(rw [hy381];exact H)|exact H
 have Ny381:=Aside0.mk hy381
 clear hy381
 have H':=Aside0.mk H
 clear H
 go_enter Tryd.func35,Tryd.ntmps35
 go_wp2_with (first|((with_reducible refine gate_dst (N:=1) rfl ?_);refine box_event ?hg (N:=1) ?hd (cs:=#[.int .i64 a0_0,.slice A0_1 l0_1.length c0_1]) (t:=28) ?hr ?_;(case hd=>rfl);(case hg=>rfl);(case hr=>first|(go_simp;done)|(go_simp;rfl));intro gb380 hg w2 hbox hb;have n0_:=Aside0.mk (below_step (by repeat (first|(with_reducible first|exact HB.out|apply below_alloc|apply pw_below_drewN|apply below_drew1)|exact HB.out)) hb);have n1_:=Aside0.mk (hbox);have n2_:=Aside0.mk ((by rw [hg];exact (below_size (by repeat (first|(with_reducible first|exact HB.out|apply below_alloc|apply pw_below_drewN|apply below_drew1)|exact HB.out))) : w.heap.size ≤ gb380));have n3_:=Aside0.mk ((by rw [hg];exact (below_size (by repeat (first|(with_reducible first|exact HB.out|apply below_alloc|apply pw_below_drewN|apply below_drew1)|exact HB.out))) : w.heap.size ≤ gb380));clear HB;have HB:=n0_;have BK380:=n1_;have GW380:=n2_;have GE380:=n3_;clear n0_ n1_ n2_ n3_;clear hb hbox hg)|((with_reducible refine gate_dst (N:=5) rfl ?_);refine Kd.R_lit (Kd.int .i64) _ 2 ?hg (N:=5) ?hd (xs:=([1,2] : List Int)) (inner:=[.int .i64 1,.int .i64 2]) (ok:=fun _=>True) (okp:=fun _=>True) ?hr ?hp (fun _ hk=>hk) trivial (Below.refl _ _) (Nat.le_refl _) (by simp) ?_;(case hd=>rfl);(case hg=>rfl);(case hr=>first|(go_simp;done)|(go_simp;rfl));(case hp=>exact (Reps.one (show Kd.M (Kd.int .i64) _ _ _ 1 [.int .i64 1] from rfl) (Reps.one (show Kd.M (Kd.int .i64) _ _ _ 2 [.int .i64 2] from rfl) (Reps.none _ _))));intro v382 w3 ho4 hb hg_ hnew_;clear hg_ hnew_;(first|rw [← Ny381.out] at ho4|(simp only [Int.reduceToNat] at ho4;rw [← Ny381.out] at ho4));have n0_:=Aside0.mk (Kd.R_lower ho4 (below_size (by repeat (first|(with_reducible first|exact HB.out|apply below_alloc|apply pw_below_drewN|apply below_drew1|refine below_set ?_ GE380.out)|exact HB.out))));have n1_:=Aside0.mk (blk_below (g:=gb380) (o:=.cells #[.int .i64 a0_0,.slice A0_1 l0_1.length c0_1] 28 (0,0)) (by (with_reducible repeat (first|refine blk_drewN ?_ _|refine blk_drew ?_|refine blk_alloc ?_ _));exact BK380.out) hb);have n2_:=Aside0.mk (below_step (by repeat (first|(with_reducible first|exact HB.out|apply below_alloc|apply pw_below_drewN|apply below_drew1|refine below_set ?_ GE380.out)|exact HB.out)) hb);clear BK380;clear HB;have HO383:=n0_;have BK380:=n1_;have HB:=n2_;clear n0_ n1_ n2_;clear hb ho4;obtain ⟨Ao5,co5,eo5⟩:=Kd.R_slice HO383.out;subst eo5))
 go_loopg [7] k (fun kq v7 w'=>∃ (x7_1 : Int),v7 = .int .i64 x7_1 ∧ Aside0 (impl_Hex_joiner.l0 kq y381 (y381.length : Int) x7_1 a0_0 l0_1 = some r) ∧ Aside0 (kq ≤ k) ∧ Aside0 (Kd.R (Kd.int .i64) 2 w' w.heap.size (fun _=>True) (.slice Ao5 y381.length co5) y381) ∧ Aside0 (w'.heap[gb380]? = some (.cells #[.int .i64 a0_0,(.slice A0_1 l0_1.length c0_1)] 28 (0,0))) ∧ Aside0 (Below w.heap.size w w'))
 case atStart=>exact ⟨(0),(by first|rfl|(simp;done)|(simp [*];done)),H',⟨Nat.le_refl _⟩,⟨by (with_reducible repeat (first|apply Kd.R_alloc|apply Kd.R_drewN|apply Kd.R_drew));exact HO383.out⟩,⟨by (with_reducible repeat (first|refine blk_drewN ?_ _|refine blk_drew ?_|refine blk_alloc ?_ _));exact BK380.out⟩,⟨by repeat (first|(with_reducible first|exact HB.out|apply below_alloc|apply pw_below_drewN|apply below_drew1|refine below_set ?_ GE380.out)|exact HB.out)⟩⟩
 case round =>
  clear H'
  try clear p2
  try clear c3
  obtain ⟨x7_1,rfl,HA,HK1,HO_5,BK380,HB⟩:=hrel
  cases gk with
  | zero => exact absurd HA.out (by simp [impl_Hex_joiner.l0])
  | succ k1 =>
   have H:=HA.out
   clear HA
   simp only [impl_Hex_joiner.l0] at H
   by_cases c6 : x7_1 < (y381.length : Int)
   ·rw [if_pos c6] at H
    have c6b0 : decide (x7_1 < (y381.length : Int)) = true:=decide_eq_true c6
    clear c6
    by_cases c7 : 0 ≤ x7_1
    ·rw [if_pos c7] at H
     have c7b0 : decide (0 ≤ x7_1) = true:=decide_eq_true c7
     clear c7
     by_cases c8 : x7_1 < (y381.length : Int)
     ·rw [if_pos c8] at H
      have c8b0 : decide (x7_1 < (y381.length : Int)) = true:=decide_eq_true c8
      clear c8
      replace H:=Option.bind_eq_some_iff.mp H
      obtain ⟨t385,A90,H⟩:=H
      replace H : (if t385 = 0 then (some (rd y381 x7_1)) else (impl_Hex_joiner.l0 k1 y381 (y381.length : Int) (wrap64 (x7_1 + 1)) a0_0 l0_1)) = some r:=H
      have A9:=Aside0.mk A90
      clear A90
      by_cases c10 : t385 = 0
      ·rw [if_pos c10] at H
       have c10b0 : (t385 == 0) = true:=beq_iff_eq.mpr c10
       have c10b1 : (t385 != 0) = false:=bne_eq_false_iff_eq.mpr c10
       clear c10
       obtain rfl:=Option.some.inj H
       have p384 : 0 ≤ (x7_1 : Int):=of_decide_eq_true (by first|(with_reducible assumption)|assumption)
       have q384 : x7_1 < (y381.length : Int):=of_decide_eq_true (by first|(with_reducible assumption)|assumption)
       obtain ⟨ad384,e384,hx384_0⟩:=Kd.at_int (Kd.R_reads' HO_5.out).2.2 x7_1 p384 q384
       cases e384
       replace p384:=eq_true p384
       replace q384:=eq_true q384
       have hcz11_0 : wr.cell? ⟨gb380,0,none⟩ = some (.int .i64 a0_0):=(blk_cell BK380.out 0).trans rfl
       have hcz11_1 : wr.cell? ⟨gb380,1,none⟩ = some (.slice A0_1 l0_1.length c0_1):=(blk_cell BK380.out 1).trans rfl
       have hfz11_0:=blk_frozen BK380.out 0
       have hfz11_1:=blk_frozen BK380.out 1
       go_wp2_with (first|((with_reducible refine gate_callee (f:=46) rfl ?_);refine goesL_ (some 13) rfl rfl Tryd.func46 (by kernel_rfl) rfl #[.agg #[.int .i64 a0_0,.slice A0_1 l0_1.length c0_1],.int .i64 (rd y381 x7_1)] rfl (by (try simp only [List.map_toArray,List.map_cons,List.map_nil]);first|done|rfl|(simp only [List.length_drop,List.length_take];rfl)) ?_;(with_reducible refine (impl_Hex_need.calls k1 a0_0 _ _ l0_1 (rd y381 x7_1) t385 _ ?side1 ?side2 A9.out).mono ?_);(case side1=>repeat (first|exact (Kd.C_below HR0_1.out HB.out)|(with_reducible refine Kd.C_alloc ?_ _)|(with_reducible refine Kd.C_drewN ?_ _)|(with_reducible refine Kd.C_drew ?_)));(case side2=>exact HC0_1.out);rintro e w12 ⟨rfl,hb⟩;refine ⟨_,rfl,?_⟩;have n0_:=Aside0.mk (Kd.R_below (by (with_reducible repeat (first|apply Kd.R_alloc|apply Kd.R_drewN|apply Kd.R_drew));exact HO_5.out) hb);have n1_:=Aside0.mk (blk_below (g:=gb380) (o:=.cells #[.int .i64 a0_0,.slice A0_1 l0_1.length c0_1] 28 (0,0)) (by (with_reducible repeat (first|refine blk_drewN ?_ _|refine blk_drew ?_|refine blk_alloc ?_ _));exact BK380.out) hb);have n2_:=Aside0.mk (below_step (by repeat (first|(with_reducible first|exact HB.out|apply below_alloc|apply pw_below_drewN|apply below_drew1|refine below_set ?_ GE380.out)|exact HB.out)) hb);clear HO_5;clear BK380;clear HB;have HO_5:=n0_;have BK380:=n1_;have HB:=n2_;clear n0_ n1_ n2_;(try clear hb);(try clear hb2);(try clear hk);(try clear hi)))
       go_ret
       exact ⟨by first|rfl|(simp [errW_none,errW_some] <;> rfl)|(simp [*,errW_none,errW_some] <;> rfl),by repeat (first|(with_reducible first|exact HB.out|apply below_alloc|apply pw_below_drewN|apply below_drew1|refine below_set ?_ GE380.out)|exact HB.out)⟩
      ·rw [if_neg c10] at H
       have c10b0 : (t385 == 0) = false:=beq_eq_false_iff_ne.mpr c10
       have c10b1 : (t385 != 0) = true:=bne_iff_ne.mpr c10
       have H':=Aside0.mk H
       clear H
       have p384 : 0 ≤ (x7_1 : Int):=of_decide_eq_true (by first|(with_reducible assumption)|assumption)
       have q384 : x7_1 < (y381.length : Int):=of_decide_eq_true (by first|(with_reducible assumption)|assumption)
       obtain ⟨ad384,e384,hx384_0⟩:=Kd.at_int (Kd.R_reads' HO_5.out).2.2 x7_1 p384 q384
       cases e384
       replace p384:=eq_true p384
       replace q384:=eq_true q384
       have hcz13_0 : wr.cell? ⟨gb380,0,none⟩ = some (.int .i64 a0_0):=(blk_cell BK380.out 0).trans rfl
       have hcz13_1 : wr.cell? ⟨gb380,1,none⟩ = some (.slice A0_1 l0_1.length c0_1):=(blk_cell BK380.out 1).trans rfl
       have hfz13_0:=blk_frozen BK380.out 0
       have hfz13_1:=blk_frozen BK380.out 1
       go_wp2_with (first|((with_reducible refine gate_callee (f:=46) rfl ?_);refine goesL_ (some 13) rfl rfl Tryd.func46 (by kernel_rfl) rfl #[.agg #[.int .i64 a0_0,.slice A0_1 l0_1.length c0_1],.int .i64 (rd y381 x7_1)] rfl (by (try simp only [List.map_toArray,List.map_cons,List.map_nil]);first|done|rfl|(simp only [List.length_drop,List.length_take];rfl)) ?_;(with_reducible refine (impl_Hex_need.calls k1 a0_0 _ _ l0_1 (rd y381 x7_1) t385 _ ?side1 ?side2 A9.out).mono ?_);(case side1=>repeat (first|exact (Kd.C_below HR0_1.out HB.out)|(with_reducible refine Kd.C_alloc ?_ _)|(with_reducible refine Kd.C_drewN ?_ _)|(with_reducible refine Kd.C_drew ?_)));(case side2=>exact HC0_1.out);rintro e w14 ⟨rfl,hb⟩;refine ⟨_,rfl,?_⟩;have n0_:=Aside0.mk (Kd.R_below (by (with_reducible repeat (first|apply Kd.R_alloc|apply Kd.R_drewN|apply Kd.R_drew));exact HO_5.out) hb);have n1_:=Aside0.mk (blk_below (g:=gb380) (o:=.cells #[.int .i64 a0_0,.slice A0_1 l0_1.length c0_1] 28 (0,0)) (by (with_reducible repeat (first|refine blk_drewN ?_ _|refine blk_drew ?_|refine blk_alloc ?_ _));exact BK380.out) hb);have n2_:=Aside0.mk (below_step (by repeat (first|(with_reducible first|exact HB.out|apply below_alloc|apply pw_below_drewN|apply below_drew1|refine below_set ?_ GE380.out)|exact HB.out)) hb);clear HO_5;clear BK380;clear HB;have HO_5:=n0_;have BK380:=n1_;have HB:=n2_;clear n0_ n1_ n2_;(try clear hb);(try clear hb2);(try clear hk);(try clear hi)))
       go_roundg k1
       case measure=>have:=HK1.out;omega
       case rel=>exact ⟨(wrap64 (x7_1 + 1)),(by first|rfl|(simp;done)|(simp [*];done)),H',⟨by have:=HK1.out;omega⟩,⟨by (with_reducible repeat (first|apply Kd.R_alloc|apply Kd.R_drewN|apply Kd.R_drew));exact HO_5.out⟩,⟨by (with_reducible repeat (first|refine blk_drewN ?_ _|refine blk_drew ?_|refine blk_alloc ?_ _));exact BK380.out⟩,⟨by repeat (first|(with_reducible first|exact HB.out|apply below_alloc|apply pw_below_drewN|apply below_drew1|refine below_set ?_ GE380.out)|exact HB.out)⟩⟩
     ·rw [if_neg c8] at H
      exact absurd H (by simp)
    ·rw [if_neg c7] at H
     exact absurd H (by simp)
   ·rw [if_neg c6] at H
    have c6b0 : decide (x7_1 < (y381.length : Int)) = false:=decide_eq_false c6
    clear c6
    obtain rfl:=Option.some.inj H
    go_wp2
    go_ret
    exact ⟨by first|rfl|(simp [errW_none,errW_some] <;> rfl)|(simp [*,errW_none,errW_some] <;> rfl),by repeat (first|(with_reducible first|exact HB.out|apply below_alloc|apply pw_below_drewN|apply below_drew1|refine below_set ?_ GE380.out)|exact HB.out)⟩

end Go.Proofs.YtcfdlbjngpmcaaaDoor.PAll
