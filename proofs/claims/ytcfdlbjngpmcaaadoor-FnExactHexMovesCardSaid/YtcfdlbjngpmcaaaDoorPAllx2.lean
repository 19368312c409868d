-- Written by wip/pp.py of this work (a driver around the kit's print), out of the translation; Lean checks it.
import Derived.Test.YtcfdlbjngpmcaaaDoorPAllx0
import Derived.Test.YtcfdlbjngpmcaaaDoorPAllx1
namespace Go.Proofs.YtcfdlbjngpmcaaaDoor.PAll
open Go.RowKit Go.Proofs.YtcfdlbjngpmcaaaDoorW.PrintWords Go.Proofs.YtcfdlbjngpmcaaaDoorW.PrintLast Go.Proofs.YtcfdlbjngpmcaaaDoorW.PrintMore
attribute [local go_sem] max2_int min2_int max_two min_two max_three min_three max_four min_four   -- for this text's walks alone
set_option linter.unusedVariables false
set_option linter.unusedSimpArgs false

/-! ### spec_l06Empty: function 18 -/
def spec_l06Empty.l0 : Nat → List Int → Int → Int → Int → List Int → Option (List Int × List Int)
 | 0, _, _, _, _, _ => none
 | k + 1, x4, x5, x6, x124000, x124001 => if x6 < (x124001.length : Int) then (if 0 ≤ x6 then (if (rd x124001 x6) = 0 then (if x4.length < 17592186044416 then (spec_l06Empty.l0 k (x4 ++ [x6]) (wrap64 (x5 * 3)) (wrap64 (x6 + 1)) x124000 x124001) else (none)) else (spec_l06Empty.l0 k x4 x5 (wrap64 (x6 + 1)) x124000 x124001)) else (none)) else (if 0 ≤ x5 then (if (x5 : Int).toNat ≤ 35184372088832 then (some (x4, (List.replicate (x5 : Int).toNat 0))) else (none)) else (none))
def spec_l06Empty.f (k : Nat) (a0_0 : Int) (l0_1 : List Int) : Option (List Int × List Int) := spec_l06Empty.l0 k (([] : List Int)) 1 0 a0_0 l0_1
set_option maxHeartbeats 8000000 in
set_option maxRecDepth 100000 in
theorem spec_l06Empty.calls (k : Nat) (a0_0 : Int) (A0_1 : Option Addr) (c0_1 : Nat) (l0_1 : List Int) (r1 : List Int) (r2 : List Int) (w : World) (hr0_1 : Kd.C (Kd.int .i64) w A0_1 l0_1.length l0_1) (hc0_1 : l0_1.length ≤ c0_1) (h : spec_l06Empty.f k a0_0 l0_1 = some (r1, r2)) :
  Calls Tryd.prog 18 #[.agg #[.int .i64 a0_0,.slice A0_1 l0_1.length c0_1]] w fun e w'=>∃ v0_ v1_ : Value,e = .returned (.tuple #[v0_,v1_]) ∧ Kd.R (Kd.int .i64) 2 w' w.heap.size (fun k_=>some k_ ≠ (v1_ : Value).ownBlock) v0_ r1 ∧ Kd.R (Kd.int .i64) 2 w' w.heap.size (fun k_=>some k_ ≠ (v0_ : Value).ownBlock) v1_ r2 ∧ Below w.heap.size w w':=by
 have hu28:=Tryd.underlying28
 have HR0_1:=Aside0.mk hr0_1
 have HC0_1:=Aside0.mk hc0_1
 clear hr0_1 hc0_1
 have HB:=Aside0.mk (Below.refl w.heap.size w)
 have H : (spec_l06Empty.l0 k (([] : List Int)) 1 0 a0_0 l0_1) = some (r1,r2):=h
 clear h
 obtain ⟨y124,hy124⟩ : ∃ y_ : List Int,y_ = (([] : List Int)):=⟨_,rfl⟩
 replace H : (spec_l06Empty.l0 k y124 1 0 a0_0 l0_1) = some (r1,r2):=by first|(rw [hy124];with_reducible exact H)|(have H2_:=(Option.bind_some _ _).symm.trans H;rw [hy124];with_reducible exact H2_)|(have H2_:=(Option.bind_some _ _).symm.trans H;with_reducible exact H2_)|with_reducible exact H|(rw [hy124];exact H)|exact H
 have Ny124:=Aside0.mk hy124
 clear hy124
 have H':=Aside0.mk H
 clear H
 go_enter Tryd.func18,Tryd.ntmps18
 go_wp2_with (first|((with_reducible refine gate_dst (N:=1) rfl ?_);refine box_event ?hg (N:=1) ?hd (cs:=#[.int .i64 a0_0,.slice A0_1 l0_1.length c0_1]) (t:=28) ?hr ?_;(case hd=>rfl);(case hg=>rfl);(case hr=>first|(go_simp;done)|(go_simp;rfl));intro gb123 hg w2 hbox hb;have n0_:=Aside0.mk (below_step (by repeat (first|(with_reducible first|exact HB.out|apply below_alloc|apply pw_below_drewN|apply below_drew1)|exact HB.out)) hb);have n1_:=Aside0.mk (hbox);have n2_:=Aside0.mk ((by rw [hg];exact (below_size (by repeat (first|(with_reducible first|exact HB.out|apply below_alloc|apply pw_below_drewN|apply below_drew1)|exact HB.out))) : w.heap.size ≤ gb123));have n3_:=Aside0.mk ((by rw [hg];exact (below_size (by repeat (first|(with_reducible first|exact HB.out|apply below_alloc|apply pw_below_drewN|apply below_drew1)|exact HB.out))) : w.heap.size ≤ gb123));clear HB;have HB:=n0_;have BK123:=n1_;have GW123:=n2_;have GE123:=n3_;clear n0_ n1_ n2_ n3_;clear hb hbox hg)|((with_reducible refine gate_dst (N:=7) rfl ?_);refine Kd.R_lit (Kd.int .i64) _ 2 ?hg (N:=7) ?hd (xs:=([] : List Int)) (inner:=[]) (ok:=fun _=>True) (okp:=fun _=>True) ?hr ?hp (fun _ hk=>hk) trivial (Below.refl _ _) (Nat.le_refl _) (by simp) ?_;(case hd=>rfl);(case hg=>rfl);(case hr=>first|(go_simp;done)|(go_simp;rfl));(case hp=>exact (Reps.none _ _));intro v125 w3 ho4 hb hg_ hnew_;clear hg_ hnew_;(first|rw [← Ny124.out] at ho4|(simp only [Int.reduceToNat] at ho4;rw [← Ny124.out] at ho4));have n0_:=Aside0.mk (Kd.R_lower ho4 (below_size (by repeat (first|(with_reducible first|exact HB.out|apply below_alloc|apply pw_below_drewN|apply below_drew1|refine below_set ?_ GE123.out)|exact HB.out))));have n1_:=Aside0.mk (blk_below (g:=gb123) (o:=.cells #[.int .i64 a0_0,.slice A0_1 l0_1.length c0_1] 28 (0,0)) (by (with_reducible repeat (first|refine blk_drewN ?_ _|refine blk_drew ?_|refine blk_alloc ?_ _));exact BK123.out) hb);have n2_:=Aside0.mk (below_step (by repeat (first|(with_reducible first|exact HB.out|apply below_alloc|apply pw_below_drewN|apply below_drew1|refine below_set ?_ GE123.out)|exact HB.out)) hb);clear BK123;clear HB;have HO126:=n0_;have BK123:=n1_;have HB:=n2_;clear n0_ n1_ n2_;clear hb ho4))
 go_loopg [4,5,6] k (fun kq v4 v5 v6 w'=>∃ (x4_1 : List Int) (x5_1 : Int) (x6_1 : Int),v5 = .int .i64 x5_1 ∧ v6 = .int .i64 x6_1 ∧ Aside0 (spec_l06Empty.l0 kq x4_1 x5_1 x6_1 a0_0 l0_1 = some (r1,r2)) ∧ Aside0 (kq ≤ k) ∧ Aside0 (Kd.R (Kd.int .i64) 2 w' w.heap.size (fun _=>True) v4 x4_1) ∧ Aside0 (w'.heap[gb123]? = some (.cells #[.int .i64 a0_0,(.slice A0_1 l0_1.length c0_1)] 28 (0,0))) ∧ Aside0 (Below w.heap.size w w'))
 case atStart=>exact ⟨(y124),(1),(0),(by first|rfl|(simp;done)|(simp [*];done)),(by first|rfl|(simp;done)|(simp [*];done)),H',⟨Nat.le_refl _⟩,⟨by (with_reducible repeat (first|apply Kd.R_alloc|apply Kd.R_drewN|apply Kd.R_drew));exact HO126.out⟩,⟨by (with_reducible repeat (first|refine blk_drewN ?_ _|refine blk_drew ?_|refine blk_alloc ?_ _));exact BK123.out⟩,⟨by repeat (first|(with_reducible first|exact HB.out|apply below_alloc|apply pw_below_drewN|apply below_drew1|refine below_set ?_ GE123.out)|exact HB.out)⟩⟩
 case round =>
  clear H'
  try clear c1
  try clear p2
  obtain ⟨x4_1,x5_1,x6_1,rfl,rfl,HA,HK1,HO_4,BK123,HB⟩:=hrel
  cases gk with
  | zero => exact absurd HA.out (by simp [spec_l06Empty.l0])
  | succ k1 =>
   have H:=HA.out
   clear HA
   simp only [spec_l06Empty.l0] at H
   by_cases c5 : x6_1 < (l0_1.length : Int)
   ·rw [if_pos c5] at H
    have c5b0 : decide (x6_1 < (l0_1.length : Int)) = true:=decide_eq_true c5
    clear c5
    by_cases c6 : 0 ≤ x6_1
    ·rw [if_pos c6] at H
     have c6b0 : decide (0 ≤ x6_1) = true:=decide_eq_true c6
     clear c6
     by_cases c7 : (rd l0_1 x6_1) = 0
     ·rw [if_pos c7] at H
      have c7b0 : ((rd l0_1 x6_1) == 0) = true:=beq_iff_eq.mpr c7
      have c7b1 : ((rd l0_1 x6_1) != 0) = false:=bne_eq_false_iff_eq.mpr c7
      clear c7
      by_cases c8 : x4_1.length < 17592186044416
      ·rw [if_pos c8] at H
       have LMc8:=Aside0.mk c8
       clear c8
       obtain ⟨y128,hy128⟩ : ∃ y_ : List Int,y_ = (x4_1 ++ [x6_1]):=⟨_,rfl⟩
       replace H : (spec_l06Empty.l0 k1 y128 (wrap64 (x5_1 * 3)) (wrap64 (x6_1 + 1)) a0_0 l0_1) = some (r1,r2):=by first|(rw [hy128];with_reducible exact H)|(have H2_:=(Option.bind_some _ _).symm.trans H;rw [hy128];with_reducible exact H2_)|(have H2_:=(Option.bind_some _ _).symm.trans H;with_reducible exact H2_)|with_reducible exact H|(rw [hy128];exact H)|exact H
       have Ny128:=Aside0.mk hy128
       clear hy128
       have H':=Aside0.mk H
       clear H
       have hcz9_0 : wr.cell? ⟨gb123,0,none⟩ = some (.int .i64 a0_0):=(blk_cell BK123.out 0).trans rfl
       have hcz9_1 : wr.cell? ⟨gb123,1,none⟩ = some (.slice A0_1 l0_1.length c0_1):=(blk_cell BK123.out 1).trans rfl
       have hfz9_0:=blk_frozen BK123.out 0
       have hfz9_1:=blk_frozen BK123.out 1
       have p127 : 0 ≤ (x6_1 : Int):=of_decide_eq_true (by first|(with_reducible assumption)|assumption)
       have q127 : x6_1 < (l0_1.length : Int):=of_decide_eq_true (by first|(with_reducible assumption)|assumption)
       obtain ⟨ad127,e127,hx127_0⟩:=Kd.at_int HR0_1.out x6_1 p127 q127
       cases e127
       replace hx127_0:=(HB.out.cell (World.block_lt_of_cell? w _ hx127_0)).trans hx127_0
       replace p127:=eq_true p127
       replace q127:=eq_true q127
       go_wp2_with (first|((with_reducible refine gate_builtin (b:=.append) (xs:=#[.tmp 21,.tmp 23]) rfl ?_);at_builtin;refine Kd.R_append (Kd.int .i64) (w0:=w) w.heap.size rfl (.tmp 21) (.tmp 23) 22 2 (.int .i64 0) 8 rfl Tryd.underlying22 info2 rfl (by decide) (by omega) u4 x4_1 x6_1 [.int .i64 x6_1] (fun _=>True) (fun _=>False) rfl rfl ?aP (fun _ hk=>hk.elim) ?aF ?aO ?aB ?aS ?aL ?_;(case aP=>exact rfl);(case aB=>exact (by repeat (first|(with_reducible first|exact HB.out|apply below_alloc|apply pw_below_drewN|apply below_drew1|refine below_set ?_ GE123.out)|exact HB.out)));(case aF=>exact (fun _ _=>trivial));(case aO=>exact (by (with_reducible repeat (first|apply Kd.R_alloc|apply Kd.R_drewN|apply Kd.R_drew));exact HO_4.out));(case aS=>exact (below_size (by repeat (first|(with_reducible first|exact HB.out|apply below_alloc|apply pw_below_drewN|apply below_drew1|refine below_set ?_ GE123.out)|exact HB.out))));(case aL=>have:=LMc8.out;omega);intro v129 w10 ho hb hg hat;rw [← Ny128.out] at ho;have n0_:=Aside0.mk (blk_grown (g:=gb123) (o:=.cells #[.int .i64 a0_0,.slice (some ad127) l0_1.length c0_1] 28 (0,0)) (by (with_reducible repeat (first|refine blk_drewN ?_ _|refine blk_drew ?_|refine blk_alloc ?_ _));exact BK123.out) hg (Kd.R_ne HO_4.out BK123.out (by decide)));have n1_:=Aside0.mk (hb);have n2_:=Aside0.mk (ho);clear BK123;clear HB;clear HO_4;have BK123:=n0_;have HB:=n1_;have HO130:=n2_;clear n0_ n1_ n2_;clear ho hb hg hat))
       go_roundg k1
       case measure=>have:=HK1.out;omega
       case rel=>exact ⟨(y128),(wrap64 (x5_1 * 3)),(wrap64 (x6_1 + 1)),(by first|rfl|(simp;done)|(simp [*];done)),(by first|rfl|(simp;done)|(simp [*];done)),H',⟨by have:=HK1.out;omega⟩,⟨by (with_reducible repeat (first|apply Kd.R_alloc|apply Kd.R_drewN|apply Kd.R_drew));exact HO130.out⟩,⟨by (with_reducible repeat (first|refine blk_drewN ?_ _|refine blk_drew ?_|refine blk_alloc ?_ _));exact BK123.out⟩,⟨by repeat (first|(with_reducible first|exact HB.out|apply below_alloc|apply pw_below_drewN|apply below_drew1|refine below_set ?_ GE123.out)|exact HB.out)⟩⟩
      ·rw [if_neg c8] at H
       exact absurd H (by simp)
     ·rw [if_neg c7] at H
      have c7b0 : ((rd l0_1 x6_1) == 0) = false:=beq_eq_false_iff_ne.mpr c7
      have c7b1 : ((rd l0_1 x6_1) != 0) = true:=bne_iff_ne.mpr c7
      have H':=Aside0.mk H
      clear H
      have hcz11_0 : wr.cell? ⟨gb123,0,none⟩ = some (.int .i64 a0_0):=(blk_cell BK123.out 0).trans rfl
      have hcz11_1 : wr.cell? ⟨gb123,1,none⟩ = some (.slice A0_1 l0_1.length c0_1):=(blk_cell BK123.out 1).trans rfl
      have hfz11_0:=blk_frozen BK123.out 0
      have hfz11_1:=blk_frozen BK123.out 1
      have p127 : 0 ≤ (x6_1 : Int):=of_decide_eq_true (by first|(with_reducible assumption)|assumption)
      have q127 : x6_1 < (l0_1.length : Int):=of_decide_eq_true (by first|(with_reducible assumption)|assumption)
      obtain ⟨ad127,e127,hx127_0⟩:=Kd.at_int HR0_1.out x6_1 p127 q127
      cases e127
      replace hx127_0:=(HB.out.cell (World.block_lt_of_cell? w _ hx127_0)).trans hx127_0
      replace p127:=eq_true p127
      replace q127:=eq_true q127
      go_wp2
      go_roundg k1
      case measure=>have:=HK1.out;omega
      case rel=>exact ⟨(x4_1),(x5_1),(wrap64 (x6_1 + 1)),(by first|rfl|(simp;done)|(simp [*];done)),(by first|rfl|(simp;done)|(simp [*];done)),H',⟨by have:=HK1.out;omega⟩,⟨by (with_reducible repeat (first|apply Kd.R_alloc|apply Kd.R_drewN|apply Kd.R_drew));exact HO_4.out⟩,⟨by (with_reducible repeat (first|refine blk_drewN ?_ _|refine blk_drew ?_|refine blk_alloc ?_ _));exact BK123.out⟩,⟨by repeat (first|(with_reducible first|exact HB.out|apply below_alloc|apply pw_below_drewN|apply below_drew1|refine below_set ?_ GE123.out)|exact HB.out)⟩⟩
    ·rw [if_neg c6] at H
     exact absurd H (by simp)
   ·rw [if_neg c5] at H
    have c5b0 : decide (x6_1 < (l0_1.length : Int)) = false:=decide_eq_false c5
    clear c5
    by_cases c12 : 0 ≤ x5_1
    ·rw [if_pos c12] at H
     have c12b0:=eq_true c12
     have c12b1 : decide (0 ≤ x5_1) = true:=decide_eq_true c12
     clear c12
     by_cases c13 : (x5_1 : Int).toNat ≤ 35184372088832
     ·rw [if_pos c13] at H
      have c13b0:=eq_true c13
      have c13b1 : decide ((x5_1 : Int).toNat ≤ 35184372088832) = true:=decide_eq_true c13
      clear c13
      obtain ⟨y131,hy131⟩ : ∃ y_ : List Int,y_ = (List.replicate (x5_1 : Int).toNat 0):=⟨_,rfl⟩
      replace H : (some (x4_1,y131)) = some (r1,r2):=by first|(rw [hy131];with_reducible exact H)|(have H2_:=(Option.bind_some _ _).symm.trans H;rw [hy131];with_reducible exact H2_)|(have H2_:=(Option.bind_some _ _).symm.trans H;with_reducible exact H2_)|with_reducible exact H|(rw [hy131];exact H)|exact H
      have Ny131:=Aside0.mk hy131
      clear hy131
      simp only [Option.some.injEq,Prod.mk.injEq] at H
      obtain ⟨rfl,rfl⟩:=H
      have hcz14_0 : wr.cell? ⟨gb123,0,none⟩ = some (.int .i64 a0_0):=(blk_cell BK123.out 0).trans rfl
      have hcz14_1 : wr.cell? ⟨gb123,1,none⟩ = some (.slice A0_1 l0_1.length c0_1):=(blk_cell BK123.out 1).trans rfl
      have hfz14_0:=blk_frozen BK123.out 0
      have hfz14_1:=blk_frozen BK123.out 1
      try go_wp2
      have n0_:=Aside0.mk (Kd.R_drew HO_4.out)
      have n1_:=Aside0.mk (blk_drew BK123.out)
      have n2_:=Aside0.mk (below_drew1 HB.out)
      clear HO_4
      clear BK123
      clear HB
      have HO_4:=n0_
      have BK123:=n1_
      have HB:=n2_
      clear n0_ n1_ n2_
      refine start_ (n:=5) (S:=fun w'=>True) (ds:=[]) #[false,false,false,false,false] (by kernel_rfl) rfl rfl trivial (fun hHeld=>?_)
      generalize wr.drew = w15 at HO_4 BK123 HB hHeld ⊢
      refine pure_ (i:=0) (N:=some 27) (v:=?_) (a':=?_) #[true,false,false,false,false] rfl rfl (by kernel_rfl) (fun _ _ _ h=>h) (Or.inl ⟨by rfl,?_⟩) ?_ ?_
      rotate_left
      ·intro w'
       go_simp
       with_reducible rfl
      rotate_left
      ·simp only [Act.put,List.setIfInBounds_toArray,List.set_cons_zero,List.set_cons_succ,i64_w,i32_w]
       rfl
      refine pure_ (i:=1) (N:=some 28) (v:=?_) (a':=?_) #[true,true,false,false,false] rfl rfl (by kernel_rfl) (fun _ _ _ h=>h) (Or.inl ⟨by rfl,?_⟩) ?_ ?_
      rotate_left
      ·intro w'
       go_simp
       with_reducible rfl
      rotate_left
      ·simp only [Act.put,List.setIfInBounds_toArray,List.set_cons_zero,List.set_cons_succ,i64_w,i32_w]
       rfl
      refine pure_ (i:=3) (N:=some 2) (v:=?_) (a':=?_) #[true,true,false,true,false] rfl rfl (by kernel_rfl) (fun _ _ _ h=>h) (Or.inl ⟨by rfl,?_⟩) ?_ ?_
      rotate_left
      ·intro w'
       go_simp
       with_reducible rfl
      rotate_left
      ·simp only [Act.put,List.setIfInBounds_toArray,List.set_cons_zero,List.set_cons_succ,i64_w,i32_w]
       rfl
      refine one_ (i:=2) (N:=some 29) #[true,true,true,true,false] rfl rfl (by kernel_rfl) (by decide) (fun K hK=>?_)
      refine Kd.R_make_step (Kd.int .i64) _ 2 (by rfl) (N:=29) rfl 22 _ _ rfl x5_1 rfl rfl Tryd.underlying22 (.int .i64 0) 8 info2 rfl (by decide) (by omega) 0 (ok:=fun _=>True) (okp:=fun _=>True) rfl (fun _ hk=>hk) trivial (of_decide_eq_true (by first|(with_reducible assumption)|assumption)) (Nat.le_trans (Nat.mul_le_mul_right _ (of_decide_eq_true (by first|(with_reducible assumption)|assumption) : x5_1.toNat ≤ 35184372088832)) (by omega)) (Below.refl _ _) (Nat.le_refl _) ?_
      intro v132 w16 ho17 hb hg_ hnew_
      clear hg_ hnew_
      (first|rw [← Ny131.out] at ho17|(simp only [Int.reduceToNat] at ho17;rw [← Ny131.out] at ho17))
      have n0_:=Aside0.mk (Kd.R_elder' (by (with_reducible repeat (first|apply Kd.R_alloc|apply Kd.R_drewN|apply Kd.R_drew));exact HO_4.out) (Kd.R_base ho17) hb)
      have n1_:=Aside0.mk (Kd.R_lower (Kd.R_new' ho17 (Kd.R_lt (by (with_reducible repeat (first|apply Kd.R_alloc|apply Kd.R_drewN|apply Kd.R_drew));exact HO_4.out))) (below_size (by repeat (first|(with_reducible first|exact HB.out|apply below_alloc|apply pw_below_drewN|apply below_drew1|refine below_set ?_ GE123.out)|exact HB.out))))
      have n2_:=Aside0.mk (blk_below (g:=gb123) (o:=.cells #[.int .i64 a0_0,.slice A0_1 l0_1.length c0_1] 28 (0,0)) (by (with_reducible repeat (first|refine blk_drewN ?_ _|refine blk_drew ?_|refine blk_alloc ?_ _));exact BK123.out) hb)
      have n3_:=Aside0.mk (below_step (by repeat (first|(with_reducible first|exact HB.out|apply below_alloc|apply pw_below_drewN|apply below_drew1|refine below_set ?_ GE123.out)|exact HB.out)) hb)
      clear HO_4
      clear BK123
      clear HB
      have HO_4:=n0_
      have HO133:=n1_
      have BK123:=n2_
      have HB:=n3_
      clear n0_ n1_ n2_ n3_
      clear hb ho17
      refine hK.out _ _ trivial (fun hHeld=>?_)
      clear hK K
      refine norm_ (a':=?_) ?_ ?_
      rotate_left
      ·show Act.put _ (some 29) _ = _
       simp only [Act.put,List.setIfInBounds_toArray,List.set_cons_zero,List.set_cons_succ,i64_w,i32_w]
       rfl
      refine pure_ (i:=4) (N:=some 3) (v:=?_) (a':=?_) #[true,true,true,true,true] rfl rfl (by kernel_rfl) (fun _ _ _ h=>h) (Or.inl ⟨by rfl,?_⟩) ?_ ?_
      rotate_left
      ·intro w'
       go_simp
       with_reducible rfl
      rotate_left
      ·simp only [Act.put,List.setIfInBounds_toArray,List.set_cons_zero,List.set_cons_succ,i64_w,i32_w]
       rfl
      refine done_ (by kernel_rfl) ?_
      try go_wp2
      go_ret2
      exact ⟨_,_,by first|rfl|(simp [errW_none,errW_some] <;> rfl)|(simp [*,errW_none,errW_some] <;> rfl),by (with_reducible repeat (first|apply Kd.R_alloc|apply Kd.R_drewN|apply Kd.R_drew));exact Kd.R_mono HO_4.out (fun _ hk=>hk.2),by (with_reducible repeat (first|apply Kd.R_alloc|apply Kd.R_drewN|apply Kd.R_drew));exact Kd.R_mono HO133.out (fun _ hk=>hk.2),by repeat (first|(with_reducible first|exact HB.out|apply below_alloc|apply pw_below_drewN|apply below_drew1|refine below_set ?_ GE123.out)|exact HB.out)⟩
     ·rw [if_neg c13] at H
      exact absurd H (by simp)
    ·rw [if_neg c12] at H
     exact absurd H (by simp)

/-! ### spec_l01Own: function 23 -/
def spec_l01Own.f (l0 : List Int) : Option (List Int) := (some (([] : List Int) : List Int)).bind fun y134 => (if y134.length + l0.length < 17592186044416 then (some (y134 ++ l0)) else (none))
set_option maxHeartbeats 8000000 in
set_option maxRecDepth 100000 in
theorem spec_l01Own.calls (A0 : Option Addr) (c0 : Nat) (l0 : List Int) (r : List Int) (w : World) (hr0 : Kd.C (Kd.int .i64) w A0 l0.length l0) (hc0 : l0.length ≤ c0) (h : spec_l01Own.f l0 = some r) :
  Calls Tryd.prog 23 #[.slice A0 l0.length c0] w fun e w'=>∃ v0_ : Value,e = .returned (v0_) ∧ Kd.R (Kd.int .i64) 2 w' w.heap.size (fun _=>True) v0_ r ∧ Below w.heap.size w w':=by
 have HR0:=Aside0.mk hr0
 have HC0:=Aside0.mk hc0
 clear hr0 hc0
 have HB:=Aside0.mk (Below.refl w.heap.size w)
 have H : ((some (([] : List Int) : List Int)).bind fun y134=>(if y134.length + l0.length < 17592186044416 then (some (y134 ++ l0)) else (none))) = some r:=h
 clear h
 obtain ⟨y134,hy134⟩ : ∃ y_ : List Int,y_ = (([] : List Int)):=⟨_,rfl⟩
 replace H : (if y134.length + l0.length < 17592186044416 then (some (y134 ++ l0)) else (none)) = some r:=by first|(rw [hy134];with_reducible exact H)|(have H2_:=(Option.bind_some _ _).symm.trans H;rw [hy134];with_reducible exact H2_)|(have H2_:=(Option.bind_some _ _).symm.trans H;with_reducible exact H2_)|with_reducible exact H|(rw [hy134];exact H)|exact H
 have Ny134:=Aside0.mk hy134
 clear hy134
 by_cases c2 : y134.length + l0.length < 17592186044416
 ·rw [if_pos c2] at H
  have LMc2:=Aside0.mk c2
  clear c2
  obtain ⟨y137,hy137⟩ : ∃ y_ : List Int,y_ = (y134 ++ l0):=⟨_,rfl⟩
  replace H : (some y137) = some r:=by first|(rw [hy137];with_reducible exact H)|(have H2_:=(Option.bind_some _ _).symm.trans H;rw [hy137];with_reducible exact H2_)|(have H2_:=(Option.bind_some _ _).symm.trans H;with_reducible exact H2_)|with_reducible exact H|(rw [hy137];exact H)|exact H
  have Ny137:=Aside0.mk hy137
  clear hy137
  obtain rfl:=Option.some.inj H
  go_enter Tryd.func23,Tryd.ntmps23
  go_wp2_with (first|((with_reducible refine gate_dst (N:=3) rfl ?_);refine Kd.R_lit (Kd.int .i64) _ 2 ?hg (N:=3) ?hd (xs:=([] : List Int)) (inner:=[]) (ok:=fun _=>True) (okp:=fun _=>True) ?hr ?hp (fun _ hk=>hk) trivial (Below.refl _ _) (Nat.le_refl _) (by simp) ?_;(case hd=>rfl);(case hg=>rfl);(case hr=>first|(go_simp;done)|(go_simp;rfl));(case hp=>exact (Reps.none _ _));intro v135 w3 ho4 hb hg_ hnew_;clear hg_ hnew_;(first|rw [← Ny134.out] at ho4|(simp only [Int.reduceToNat] at ho4;rw [← Ny134.out] at ho4));have n0_:=Aside0.mk (Kd.R_lower ho4 (below_size (by repeat (first|(with_reducible first|exact HB.out|apply below_alloc|apply pw_below_drewN|apply below_drew1)|exact HB.out))));have n1_:=Aside0.mk (below_step (by repeat (first|(with_reducible first|exact HB.out|apply below_alloc|apply pw_below_drewN|apply below_drew1)|exact HB.out)) hb);clear HB;have HO136:=n0_;have HB:=n1_;clear n0_ n1_;clear hb ho4)|((with_reducible refine gate_builtin (b:=.append) (xs:=#[.tmp 3,.tmp 4]) rfl ?_);at_builtin;refine Kd.R_append_rows (Kd.int .i64) (w0:=w) w.heap.size rfl (.tmp 3) (.tmp 4) 22 2 (.int .i64 0) 8 rfl Tryd.underlying22 info2 rfl (by decide) (by omega) v135 y134 l0 _ _ _ (fun _=>True) (fun _=>False) rfl rfl ?aO ?aR (fun _ _ h=>h) (fun _ h=>h.elim) ?aF ?aB ?aS ?aL ?_;(case aR=>repeat (first|exact (Kd.C_below HR0.out HB.out)|(with_reducible refine Kd.C_alloc ?_ _)|(with_reducible refine Kd.C_drewN ?_ _)|(with_reducible refine Kd.C_drew ?_)));(case aB=>exact (by repeat (first|(with_reducible first|exact HB.out|apply below_alloc|apply pw_below_drewN|apply below_drew1)|exact HB.out)));(case aF=>exact (fun _ _=>trivial));(case aO=>exact (by (with_reducible repeat (first|apply Kd.R_alloc|apply Kd.R_drewN|apply Kd.R_drew));exact HO136.out));(case aS=>exact (below_size (by repeat (first|(with_reducible first|exact HB.out|apply below_alloc|apply pw_below_drewN|apply below_drew1)|exact HB.out))));(case aL=>have:=LMc2.out;omega);intro v138 w5 ho hb hg hat;rw [← Ny137.out] at ho;have n0_:=Aside0.mk (hb);have n1_:=Aside0.mk (ho);clear HB;clear HO136;have HB:=n0_;have HO139:=n1_;clear n0_ n1_;clear ho hb hg hat))
  go_ret
  exact ⟨_,by first|rfl|(simp [errW_none,errW_some] <;> rfl)|(simp [*,errW_none,errW_some] <;> rfl),by (with_reducible repeat (first|apply Kd.R_alloc|apply Kd.R_drewN|apply Kd.R_drew));exact HO139.out,by repeat (first|(with_reducible first|exact HB.out|apply below_alloc|apply pw_below_drewN|apply below_drew1)|exact HB.out)⟩
 ·rw [if_neg c2] at H
  exact absurd H (by simp)

/-! ### spec_l06Near: function 47 -/
def spec_l06Near.l0 : Nat → Int → Int → Int → List Int → Int → Option (List Int)
 | 0, _, _, _, _, _ => none
 | k + 1, x0, x5, x6, x7, x8 => if x8 < 6 then ((some (([(-1), (-1), 0, 0, 1, 1] : List Int) : List Int)).bind fun y143 => (if 0 ≤ x8 then (if x8 < (y143.length : Int) then ((some (([0, 1, (-1), 1, (-1), 0] : List Int) : List Int)).bind fun y147 => (if x8 < (y147.length : Int) then ((spec_l01In.f (wrap64 (x5 + (rd y143 x8))) 0 (wrap64 (x0 - 1))).bind fun t151 => (if t151 = true then ((spec_l01In.f (wrap64 (x6 + (rd y147 x8))) 0 (wrap64 (x0 - 1))).bind fun t152 => (if t152 = true then (if x7.length < 17592186044416 then (spec_l06Near.l0 k x0 x5 x6 (x7 ++ [wrap64 ((wrap64 (x0 * (wrap64 (x5 + (rd y143 x8))))) + (wrap64 (x6 + (rd y147 x8))))]) (wrap64 (x8 + 1))) else (none)) else (spec_l06Near.l0 k x0 x5 x6 x7 (wrap64 (x8 + 1))))) else (spec_l06Near.l0 k x0 x5 x6 x7 (wrap64 (x8 + 1))))) else (none))) else (none)) else (none))) else (some x7)
def spec_l06Near.f (k : Nat) (a0 : Int) (a1 : Int) : Option (List Int) := if a0 = 0 then (none) else (spec_l06Near.l0 k a0 (wrap64 (Int.tdiv a1 a0)) (Int.tmod a1 a0) (([] : List Int)) 0)
theorem spec_l06Near.mono_l : ∀ k, (∀ y0 y1 y2 y3 y4, LeO (spec_l06Near.l0 k y0 y1 y2 y3 y4) (spec_l06Near.l0 (k + 1) y0 y1 y2 y3 y4))
 | 0 => fun _ _ _ _ _ r h => by simp [spec_l06Near.l0] at h
 | k + 1 => by
  have ih0:=spec_l06Near.mono_l k
  ·intro y0 y1 y2 y3 y4
   unfold spec_l06Near.l0
   repeat' first
   | (with_reducible exact ih0 _ _ _ _ _)
   | (with_reducible exact LeO.refl _)
   | (with_reducible exact LeO.none _)
   | (with_reducible refine LeO.ite ?_ ?_)
   | (with_reducible refine LeO.bind ?_ (fun _ => ?_))
   | exact ih0 _ _ _ _ _
   | exact LeO.none _
   | refine LeO.ite ?_ ?_
   | refine LeO.bind ?_ (fun _ => ?_)
theorem spec_l06Near.mono : ∀ a0 a1 k, LeO (spec_l06Near.f k a0 a1) (spec_l06Near.f (k + 1) a0 a1) := by
 intro a0 a1 k
 have ih0:=spec_l06Near.mono_l k
 unfold spec_l06Near.f
 repeat' first
   | (with_reducible exact ih0 _ _ _ _ _)
   | (with_reducible exact LeO.refl _)
   | (with_reducible exact LeO.none _)
   | (with_reducible refine LeO.ite ?_ ?_)
   | (with_reducible refine LeO.bind ?_ (fun _ => ?_))
   | exact ih0 _ _ _ _ _
   | exact LeO.none _
   | refine LeO.ite ?_ ?_
   | refine LeO.bind ?_ (fun _ => ?_)
def spec_l06Near.T1 : Bool × List (List Nat × List Nat) := (true, [([], []), ([], []), ([0, 1], [0, 1]), ([], []), ([], []), ([3, 4], [3, 4]), ([], []), ([2, 0, 1, 2], [2]), ([5, 7, 0, 1, 2, 3, 4, 5, 7], [5]), ([6, 8, 0, 1, 2, 3, 4, 5, 6, 7, 8], [6])])
def spec_l06Near.B1 : List Nat := [0, 0, 3, 0, 0, 24, 0, 7, 191, 511]
theorem spec_l06Near.tab1 : rtab .any (opsOf Tryd.f47 1) = spec_l06Near.T1 := by kernel_rfl
theorem spec_l06Near.bits1 : waitsOk spec_l06Near.T1.2 spec_l06Near.B1 = true := by kernel_rfl
set_option maxHeartbeats 8000000 in
set_option maxRecDepth 100000 in
theorem spec_l06Near.calls (k : Nat) (a0 : Int) (a1 : Int) (r : List Int) (w : World) (h : spec_l06Near.f k a0 a1 = some r) :
  Calls Tryd.prog 47 #[.int .i64 a0,.int .i64 a1] w fun e w'=>∃ v0_ : Value,e = .returned (v0_) ∧ Kd.R (Kd.int .i64) 2 w' w.heap.size (fun _=>True) v0_ r ∧ Below w.heap.size w w':=by
 have HB:=Aside0.mk (Below.refl w.heap.size w)
 have H : (if a0 = 0 then (none) else (spec_l06Near.l0 k a0 (wrap64 (Int.tdiv a1 a0)) (Int.tmod a1 a0) (([] : List Int)) 0)) = some r:=h
 clear h
 by_cases c3 : a0 = 0
 ·rw [if_pos c3] at H
  exact absurd H (by simp)
 ·rw [if_neg c3] at H
  have c3b0 : (a0 == 0) = false:=beq_eq_false_iff_ne.mpr c3
  have c3b1 : (a0 != 0) = true:=bne_iff_ne.mpr c3
  obtain ⟨y140,hy140⟩ : ∃ y_ : List Int,y_ = (([] : List Int)):=⟨_,rfl⟩
  replace H : (spec_l06Near.l0 k a0 (wrap64 (Int.tdiv a1 a0)) (Int.tmod a1 a0) y140 0) = some r:=by first|(rw [hy140];with_reducible exact H)|(have H2_:=(Option.bind_some _ _).symm.trans H;rw [hy140];with_reducible exact H2_)|(have H2_:=(Option.bind_some _ _).symm.trans H;with_reducible exact H2_)|with_reducible exact H|(rw [hy140];exact H)|exact H
  have Ny140:=Aside0.mk hy140
  clear hy140
  have H':=Aside0.mk H
  clear H
  go_enter Tryd.func47,Tryd.ntmps47
  try go_wp2
  have n0_:=Aside0.mk (below_drew1 HB.out)
  clear HB
  have HB:=n0_
  clear n0_
  refine start_ (n:=10) (S:=fun w'=>True) (ds:=[]) #[false,false,false,false,false,false,false,false,false,false] (by kernel_rfl) rfl rfl trivial (fun hHeld=>?_);refine with_tabW spec_l06Near.tab1 spec_l06Near.bits1 (fun HT_ HW_=>?_)
  generalize w.drew = w4 at HB hHeld ⊢
  refine pure_ (i:=0) (N:=some 11) (v:=?_) (a':=?_) #[true,false,false,false,false,false,false,false,false,false] rfl rfl (any_of HT_.out (by kernel_rfl)) (fun _ _ _ h=>h) (Or.inl ⟨by rfl,?_⟩) ?_ ?_
  rotate_left
  ·intro w'
   go_simp
   with_reducible rfl
  rotate_left
  ·simp only [Act.put,List.setIfInBounds_toArray,List.set_cons_zero,List.set_cons_succ,i64_w,i32_w]
   rfl
  refine pure_ (i:=1) (N:=some 12) (v:=?_) (a':=?_) #[true,true,false,false,false,false,false,false,false,false] rfl rfl (any_of HT_.out (by kernel_rfl)) (fun _ _ _ h=>h) (Or.inl ⟨by rfl,?_⟩) ?_ ?_
  rotate_left
  ·intro w'
   go_simp
   with_reducible rfl
  rotate_left
  ·simp only [Act.put,List.setIfInBounds_toArray,List.set_cons_zero,List.set_cons_succ,i64_w,i32_w]
   rfl
  refine pure_ (i:=2) (N:=some 13) (v:=?_) (a':=?_) #[true,true,true,false,false,false,false,false,false,false] rfl rfl (any_of HT_.out (by kernel_rfl)) (fun _ _ _ h=>h) (Or.inl ⟨by rfl,?_⟩) ?_ ?_
  rotate_left
  ·intro w'
   go_simp
   with_reducible rfl
  rotate_left
  ·simp only [Act.put,List.setIfInBounds_toArray,List.set_cons_zero,List.set_cons_succ,i64_w,i32_w]
   rfl
  refine pure_ (i:=3) (N:=some 14) (v:=?_) (a':=?_) #[true,true,true,true,false,false,false,false,false,false] rfl rfl (any_of HT_.out (by kernel_rfl)) (fun _ _ _ h=>h) (Or.inl ⟨by rfl,?_⟩) ?_ ?_
  rotate_left
  ·intro w'
   go_simp
   with_reducible rfl
  rotate_left
  ·simp only [Act.put,List.setIfInBounds_toArray,List.set_cons_zero,List.set_cons_succ,i64_w,i32_w]
   rfl
  refine pure_ (i:=4) (N:=some 15) (v:=?_) (a':=?_) #[true,true,true,true,true,false,false,false,false,false] rfl rfl (any_of HT_.out (by kernel_rfl)) (fun _ _ _ h=>h) (Or.inl ⟨by rfl,?_⟩) ?_ ?_
  rotate_left
  ·intro w'
   go_simp
   with_reducible rfl
  rotate_left
  ·simp only [Act.put,List.setIfInBounds_toArray,List.set_cons_zero,List.set_cons_succ,i64_w,i32_w]
   rfl
  refine pure_ (i:=5) (N:=some 16) (v:=?_) (a':=?_) #[true,true,true,true,true,true,false,false,false,false] rfl rfl (any_of HT_.out (by kernel_rfl)) (fun _ _ _ h=>h) (Or.inl ⟨by rfl,?_⟩) ?_ ?_
  rotate_left
  ·intro w'
   go_simp
   with_reducible rfl
  rotate_left
  ·simp only [Act.put,List.setIfInBounds_toArray,List.set_cons_zero,List.set_cons_succ,i64_w,i32_w]
   rfl
  refine pure_ (i:=7) (N:=some 5) (v:=?_) (a':=?_) #[true,true,true,true,true,true,false,true,false,false] rfl rfl (any_of HT_.out (by kernel_rfl)) (fun _ _ _ h=>h) (Or.inl ⟨by rfl,?_⟩) ?_ ?_
  rotate_left
  ·intro w'
   go_simp
   with_reducible rfl
  rotate_left
  ·simp only [Act.put,List.setIfInBounds_toArray,List.set_cons_zero,List.set_cons_succ,i64_w,i32_w]
   rfl
  refine pure_ (i:=8) (N:=some 6) (v:=?_) (a':=?_) #[true,true,true,true,true,true,false,true,true,false] rfl rfl (any_of HT_.out (by kernel_rfl)) (fun _ _ _ h=>h) (Or.inl ⟨by rfl,?_⟩) ?_ ?_
  rotate_left
  ·intro w'
   go_simp
   with_reducible rfl
  rotate_left
  ·simp only [Act.put,List.setIfInBounds_toArray,List.set_cons_zero,List.set_cons_succ,i64_w,i32_w]
   rfl
  refine one_ (i:=6) (N:=some 17) #[true,true,true,true,true,true,true,true,true,false] rfl rfl (one_of HT_.out (by kernel_rfl)) (by decide) (fun K hK=>?_)
  refine Kd.R_lit_step (Kd.int .i64) _ 2 ?hg (N:=17) ?hd (xs:=([] : List Int)) (inner:=[]) (ok:=fun _=>True) (okp:=fun _=>True) ?hr ?hp (fun _ hk=>hk) trivial (Below.refl _ _) (Nat.le_refl _) (by simp) ?_;(case hd=>rfl);(case hg=>rfl);(case hr=>first|(go_simp;done)|(go_simp;rfl));(case hp=>exact (Reps.none _ _))
  intro v141 w5 ho6 hb hg_ hnew_
  clear hg_ hnew_
  (first|rw [← Ny140.out] at ho6|(simp only [Int.reduceToNat] at ho6;rw [← Ny140.out] at ho6))
  have n0_:=Aside0.mk (Kd.R_lower ho6 (below_size (by repeat (first|(with_reducible first|exact HB.out|apply below_alloc|apply pw_below_drewN|apply below_drew1)|exact HB.out))))
  have n1_:=Aside0.mk (below_step (by repeat (first|(with_reducible first|exact HB.out|apply below_alloc|apply pw_below_drewN|apply below_drew1)|exact HB.out)) hb)
  clear HB
  have HO142:=n0_
  have HB:=n1_
  clear n0_ n1_
  clear hb ho6
  refine hK.out _ _ trivial (fun hHeld=>?_)
  clear hK K
  refine norm_ (a':=?_) ?_ ?_
  rotate_left
  ·show Act.put _ (some 17) _ = _
   simp only [Act.put,List.setIfInBounds_toArray,List.set_cons_zero,List.set_cons_succ,i64_w,i32_w]
   rfl
  refine pure_ (i:=9) (N:=some 7) (v:=?_) (a':=?_) #[true,true,true,true,true,true,true,true,true,true] rfl rfl (any_of HT_.out (by kernel_rfl)) (fun _ _ _ h=>h) (Or.inl ⟨by rfl,?_⟩) ?_ ?_
  rotate_left
  ·intro w'
   go_simp
   with_reducible rfl
  rotate_left
  ·simp only [Act.put,List.setIfInBounds_toArray,List.set_cons_zero,List.set_cons_succ,i64_w,i32_w]
   rfl
  refine done_ (done_of HT_.out (by kernel_rfl)) ?_
  try go_wp2
  go_loopg [7,8] k (fun kq v7 v8 w'=>∃ (x7_1 : List Int) (x8_1 : Int),v8 = .int .i64 x8_1 ∧ Aside0 (spec_l06Near.l0 kq a0 (wrap64 (Int.tdiv a1 a0)) (Int.tmod a1 a0) x7_1 x8_1 = some r) ∧ Aside0 (kq ≤ k) ∧ Aside0 (Kd.R (Kd.int .i64) 2 w' w.heap.size (fun _=>True) v7 x7_1) ∧ Aside0 (Below w.heap.size w w'))
  case atStart=>exact ⟨(y140),(0),(by first|rfl|(simp;done)|(simp [*];done)),H',⟨Nat.le_refl _⟩,⟨by (with_reducible repeat (first|apply Kd.R_alloc|apply Kd.R_drewN|apply Kd.R_drew));exact HO142.out⟩,⟨by repeat (first|(with_reducible first|exact HB.out|apply below_alloc|apply pw_below_drewN|apply below_drew1)|exact HB.out)⟩⟩
  case round =>
   clear H'
   try clear p2
   try clear c3
   try clear c3b0
   try clear c3b1
   try clear c4
   try clear p6
   obtain ⟨x7_1,x8_1,rfl,HA,HK1,HO_7,HB⟩:=hrel
   cases gk with
   | zero => exact absurd HA.out (by simp [spec_l06Near.l0])
   | succ k1 =>
    have H:=HA.out
    clear HA
    simp only [spec_l06Near.l0] at H
    by_cases c7 : x8_1 < 6
    ·rw [if_pos c7] at H
     have c7b0 : decide (x8_1 < 6) = true:=decide_eq_true c7
     clear c7
     obtain ⟨y143,hy143⟩ : ∃ y_ : List Int,y_ = (([(-1),(-1),0,0,1,1] : List Int)):=⟨_,rfl⟩
     replace H : (if 0 ≤ x8_1 then (if x8_1 < (y143.length : Int) then ((some (([0,1,(-1),1,(-1),0] : List Int) : List Int)).bind fun y147=>(if x8_1 < (y147.length : Int) then ((spec_l01In.f (wrap64 ((wrap64 (Int.tdiv a1 a0)) + (rd y143 x8_1))) 0 (wrap64 (a0 - 1))).bind fun t151=>(if t151 = true then ((spec_l01In.f (wrap64 ((Int.tmod a1 a0) + (rd y147 x8_1))) 0 (wrap64 (a0 - 1))).bind fun t152=>(if t152 = true then (if x7_1.length < 17592186044416 then (spec_l06Near.l0 k1 a0 (wrap64 (Int.tdiv a1 a0)) (Int.tmod a1 a0) (x7_1 ++ [wrap64 ((wrap64 (a0 * (wrap64 ((wrap64 (Int.tdiv a1 a0)) + (rd y143 x8_1))))) + (wrap64 ((Int.tmod a1 a0) + (rd y147 x8_1))))]) (wrap64 (x8_1 + 1))) else (none)) else (spec_l06Near.l0 k1 a0 (wrap64 (Int.tdiv a1 a0)) (Int.tmod a1 a0) x7_1 (wrap64 (x8_1 + 1))))) else (spec_l06Near.l0 k1 a0 (wrap64 (Int.tdiv a1 a0)) (Int.tmod a1 a0) x7_1 (wrap64 (x8_1 + 1))))) else (none))) else (none)) else (none)) = some r:=by first|(rw [hy143];with_reducible exact H)|(have H2_:=(Option.bind_some _ _).symm.trans H;rw [hy143];with_reducible exact H2_)|(have H2_:=(Option.bind_some _ _).symm.trans H;with_reducible exact H2_)|with_reducible exact H|(rw [hy143];exact H)|exact H
     have Ny143:=Aside0.mk hy143
     clear hy143
     by_cases c8 : 0 ≤ x8_1
     ·rw [if_pos c8] at H
      have c8b0 : decide (0 ≤ x8_1) = true:=decide_eq_true c8
      clear c8
      by_cases c9 : x8_1 < (y143.length : Int)
      ·rw [if_pos c9] at H
       have c9b0 : decide (x8_1 < (y143.length : Int)) = true:=decide_eq_true c9
       clear c9
       obtain ⟨y147,hy147⟩ : ∃ y_ : List Int,y_ = (([0,1,(-1),1,(-1),0] : List Int)):=⟨_,rfl⟩
       replace H : (if x8_1 < (y147.length : Int) then ((spec_l01In.f (wrap64 ((wrap64 (Int.tdiv a1 a0)) + (rd y143 x8_1))) 0 (wrap64 (a0 - 1))).bind fun t151=>(if t151 = true then ((spec_l01In.f (wrap64 ((Int.tmod a1 a0) + (rd y147 x8_1))) 0 (wrap64 (a0 - 1))).bind fun t152=>(if t152 = true then (if x7_1.length < 17592186044416 then (spec_l06Near.l0 k1 a0 (wrap64 (Int.tdiv a1 a0)) (Int.tmod a1 a0) (x7_1 ++ [wrap64 ((wrap64 (a0 * (wrap64 ((wrap64 (Int.tdiv a1 a0)) + (rd y143 x8_1))))) + (wrap64 ((Int.tmod a1 a0) + (rd y147 x8_1))))]) (wrap64 (x8_1 + 1))) else (none)) else (spec_l06Near.l0 k1 a0 (wrap64 (Int.tdiv a1 a0)) (Int.tmod a1 a0) x7_1 (wrap64 (x8_1 + 1))))) else (spec_l06Near.l0 k1 a0 (wrap64 (Int.tdiv a1 a0)) (Int.tmod a1 a0) x7_1 (wrap64 (x8_1 + 1))))) else (none)) = some r:=by first|(rw [hy147];with_reducible exact H)|(have H2_:=(Option.bind_some _ _).symm.trans H;rw [hy147];with_reducible exact H2_)|(have H2_:=(Option.bind_some _ _).symm.trans H;with_reducible exact H2_)|with_reducible exact H|(rw [hy147];exact H)|exact H
       have Ny147:=Aside0.mk hy147
       clear hy147
       by_cases c10 : x8_1 < (y147.length : Int)
       ·rw [if_pos c10] at H
        have c10b0 : decide (x8_1 < (y147.length : Int)) = true:=decide_eq_true c10
        clear c10
        replace H:=Option.bind_eq_some_iff.mp H
        obtain ⟨t151,A110,H⟩:=H
        replace H : (if t151 = true then ((spec_l01In.f (wrap64 ((Int.tmod a1 a0) + (rd y147 x8_1))) 0 (wrap64 (a0 - 1))).bind fun t152=>(if t152 = true then (if x7_1.length < 17592186044416 then (spec_l06Near.l0 k1 a0 (wrap64 (Int.tdiv a1 a0)) (Int.tmod a1 a0) (x7_1 ++ [wrap64 ((wrap64 (a0 * (wrap64 ((wrap64 (Int.tdiv a1 a0)) + (rd y143 x8_1))))) + (wrap64 ((Int.tmod a1 a0) + (rd y147 x8_1))))]) (wrap64 (x8_1 + 1))) else (none)) else (spec_l06Near.l0 k1 a0 (wrap64 (Int.tdiv a1 a0)) (Int.tmod a1 a0) x7_1 (wrap64 (x8_1 + 1))))) else (spec_l06Near.l0 k1 a0 (wrap64 (Int.tdiv a1 a0)) (Int.tmod a1 a0) x7_1 (wrap64 (x8_1 + 1)))) = some r:=H
        have A11:=Aside0.mk A110
        clear A110
        by_cases c12 : t151 = true
        ·subst c12
         have H1 : ((spec_l01In.f (wrap64 ((Int.tmod a1 a0) + (rd y147 x8_1))) 0 (wrap64 (a0 - 1))).bind fun t152=>(if t152 = true then (if x7_1.length < 17592186044416 then (spec_l06Near.l0 k1 a0 (wrap64 (Int.tdiv a1 a0)) (Int.tmod a1 a0) (x7_1 ++ [wrap64 ((wrap64 (a0 * (wrap64 ((wrap64 (Int.tdiv a1 a0)) + (rd y143 x8_1))))) + (wrap64 ((Int.tmod a1 a0) + (rd y147 x8_1))))]) (wrap64 (x8_1 + 1))) else (none)) else (spec_l06Near.l0 k1 a0 (wrap64 (Int.tdiv a1 a0)) (Int.tmod a1 a0) x7_1 (wrap64 (x8_1 + 1))))) = some r:=by rw [if_pos rfl] at H;exact H
         clear H
         have H:=H1
         clear H1
         replace H:=Option.bind_eq_some_iff.mp H
         obtain ⟨t152,A130,H⟩:=H
         replace H : (if t152 = true then (if x7_1.length < 17592186044416 then (spec_l06Near.l0 k1 a0 (wrap64 (Int.tdiv a1 a0)) (Int.tmod a1 a0) (x7_1 ++ [wrap64 ((wrap64 (a0 * (wrap64 ((wrap64 (Int.tdiv a1 a0)) + (rd y143 x8_1))))) + (wrap64 ((Int.tmod a1 a0) + (rd y147 x8_1))))]) (wrap64 (x8_1 + 1))) else (none)) else (spec_l06Near.l0 k1 a0 (wrap64 (Int.tdiv a1 a0)) (Int.tmod a1 a0) x7_1 (wrap64 (x8_1 + 1)))) = some r:=H
         have A13:=Aside0.mk A130
         clear A130
         by_cases c14 : t152 = true
         ·subst c14
          have H1 : (if x7_1.length < 17592186044416 then (spec_l06Near.l0 k1 a0 (wrap64 (Int.tdiv a1 a0)) (Int.tmod a1 a0) (x7_1 ++ [wrap64 ((wrap64 (a0 * (wrap64 ((wrap64 (Int.tdiv a1 a0)) + (rd y143 x8_1))))) + (wrap64 ((Int.tmod a1 a0) + (rd y147 x8_1))))]) (wrap64 (x8_1 + 1))) else (none)) = some r:=by rw [if_pos rfl] at H;exact H
          clear H
          have H:=H1
          clear H1
          by_cases c15 : x7_1.length < 17592186044416
          ·rw [if_pos c15] at H
           have LMc15:=Aside0.mk c15
           clear c15
           obtain ⟨y153,hy153⟩ : ∃ y_ : List Int,y_ = (x7_1 ++ [wrap64 ((wrap64 (a0 * (wrap64 ((wrap64 (Int.tdiv a1 a0)) + (rd y143 x8_1))))) + (wrap64 ((Int.tmod a1 a0) + (rd y147 x8_1))))]):=⟨_,rfl⟩
           replace H : (spec_l06Near.l0 k1 a0 (wrap64 (Int.tdiv a1 a0)) (Int.tmod a1 a0) y153 (wrap64 (x8_1 + 1))) = some r:=by first|(rw [hy153];with_reducible exact H)|(have H2_:=(Option.bind_some _ _).symm.trans H;rw [hy153];with_reducible exact H2_)|(have H2_:=(Option.bind_some _ _).symm.trans H;with_reducible exact H2_)|with_reducible exact H|(rw [hy153];exact H)|exact H
           have Ny153:=Aside0.mk hy153
           clear hy153
           have H':=Aside0.mk H
           clear H
           go_wp2_with (first|((with_reducible refine gate_dst (N:=23) rfl ?_);refine Kd.R_lit (Kd.int .i64) _ 2 ?hg (N:=23) ?hd (xs:=([(-1),(-1),0,0,1,1] : List Int)) (inner:=[.int .i64 (-1),.int .i64 (-1),.int .i64 0,.int .i64 0,.int .i64 1,.int .i64 1]) (ok:=fun _=>True) (okp:=fun _=>True) ?hr ?hp (fun _ hk=>hk) trivial (Below.refl _ _) (Nat.le_refl _) (by simp) ?_;(case hd=>rfl);(case hg=>rfl);(case hr=>first|(go_simp;done)|(go_simp;rfl));(case hp=>exact (Reps.one (show Kd.M (Kd.int .i64) _ _ _ (-1) [.int .i64 (-1)] from rfl) (Reps.one (show Kd.M (Kd.int .i64) _ _ _ (-1) [.int .i64 (-1)] from rfl) (Reps.one (show Kd.M (Kd.int .i64) _ _ _ 0 [.int .i64 0] from rfl) (Reps.one (show Kd.M (Kd.int .i64) _ _ _ 0 [.int .i64 0] from rfl) (Reps.one (show Kd.M (Kd.int .i64) _ _ _ 1 [.int .i64 1] from rfl) (Reps.one (show Kd.M (Kd.int .i64) _ _ _ 1 [.int .i64 1] from rfl) (Reps.none _ _))))))));intro v144 w16 ho17 hb hg_ hnew_;clear hg_ hnew_;(first|rw [← Ny143.out] at ho17|(simp only [Int.reduceToNat] at ho17;rw [← Ny143.out] at ho17));have n0_:=Aside0.mk (Kd.R_elder' (by (with_reducible repeat (first|apply Kd.R_alloc|apply Kd.R_drewN|apply Kd.R_drew));exact HO_7.out) (Kd.R_base ho17) hb);have n1_:=Aside0.mk (Kd.R_lower (Kd.R_new' ho17 (Kd.R_lt (by (with_reducible repeat (first|apply Kd.R_alloc|apply Kd.R_drewN|apply Kd.R_drew));exact HO_7.out))) (below_size (by repeat (first|(with_reducible first|exact HB.out|apply below_alloc|apply pw_below_drewN|apply below_drew1)|exact HB.out))));have n2_:=Aside0.mk (below_step (by repeat (first|(with_reducible first|exact HB.out|apply below_alloc|apply pw_below_drewN|apply below_drew1)|exact HB.out)) hb);clear HO_7;clear HB;have HO_7:=n0_;have HO145:=n1_;have HB:=n2_;clear n0_ n1_ n2_;clear hb ho17;obtain ⟨Ao18,co18,eo18⟩:=Kd.R_slice HO145.out;subst eo18;have p146 : 0 ≤ (x8_1 : Int):=of_decide_eq_true (by first|(with_reducible assumption)|assumption);have q146 : x8_1 < (y143.length : Int):=of_decide_eq_true (by first|(with_reducible assumption)|assumption);obtain ⟨ad146,e146,hx146_0⟩:=Kd.at_int (Kd.R_reads' HO145.out).2.2 x8_1 p146 q146;cases e146;replace p146:=eq_true p146;replace q146:=eq_true q146)|((with_reducible refine gate_dst (N:=29) rfl ?_);refine Kd.R_lit (Kd.int .i64) _ 2 ?hg (N:=29) ?hd (xs:=([0,1,(-1),1,(-1),0] : List Int)) (inner:=[.int .i64 0,.int .i64 1,.int .i64 (-1),.int .i64 1,.int .i64 (-1),.int .i64 0]) (ok:=fun _=>True) (okp:=fun _=>True) ?hr ?hp (fun _ hk=>hk) trivial (Below.refl _ _) (Nat.le_refl _) (by simp) ?_;(case hd=>rfl);(case hg=>rfl);(case hr=>first|(go_simp;done)|(go_simp;rfl));(case hp=>exact (Reps.one (show Kd.M (Kd.int .i64) _ _ _ 0 [.int .i64 0] from rfl) (Reps.one (show Kd.M (Kd.int .i64) _ _ _ 1 [.int .i64 1] from rfl) (Reps.one (show Kd.M (Kd.int .i64) _ _ _ (-1) [.int .i64 (-1)] from rfl) (Reps.one (show Kd.M (Kd.int .i64) _ _ _ 1 [.int .i64 1] from rfl) (Reps.one (show Kd.M (Kd.int .i64) _ _ _ (-1) [.int .i64 (-1)] from rfl) (Reps.one (show Kd.M (Kd.int .i64) _ _ _ 0 [.int .i64 0] from rfl) (Reps.none _ _))))))));intro v148 w19 ho20 hb hg_ hnew_;clear hg_ hnew_;(first|rw [← Ny147.out] at ho20|(simp only [Int.reduceToNat] at ho20;rw [← Ny147.out] at ho20));have n0_:=Aside0.mk (Kd.R_elder' (by (with_reducible repeat (first|apply Kd.R_alloc|apply Kd.R_drewN|apply Kd.R_drew));exact HO_7.out) (Kd.R_base ho20) hb);have n1_:=Aside0.mk (Kd.R_elder' (by (with_reducible repeat (first|apply Kd.R_alloc|apply Kd.R_drewN|apply Kd.R_drew));exact HO145.out) (Kd.R_base ho20) hb);have n2_:=Aside0.mk (Kd.R_lower (Kd.R_new' (Kd.R_new' ho20 (Kd.R_lt (by (with_reducible repeat (first|apply Kd.R_alloc|apply Kd.R_drewN|apply Kd.R_drew));exact HO_7.out))) (Kd.R_lt (by (with_reducible repeat (first|apply Kd.R_alloc|apply Kd.R_drewN|apply Kd.R_drew));exact HO145.out))) (below_size (by repeat (first|(with_reducible first|exact HB.out|apply below_alloc|apply pw_below_drewN|apply below_drew1)|exact HB.out))));have n3_:=Aside0.mk (below_step (by repeat (first|(with_reducible first|exact HB.out|apply below_alloc|apply pw_below_drewN|apply below_drew1)|exact HB.out)) hb);clear HO_7;clear HO145;clear HB;have HO_7:=n0_;have HO145:=n1_;have HO149:=n2_;have HB:=n3_;clear n0_ n1_ n2_ n3_;clear hb ho20;obtain ⟨Ao21,co21,eo21⟩:=Kd.R_slice HO149.out;subst eo21;have p150 : 0 ≤ (x8_1 : Int):=of_decide_eq_true (by first|(with_reducible assumption)|assumption);have q150 : x8_1 < (y147.length : Int):=of_decide_eq_true (by first|(with_reducible assumption)|assumption);obtain ⟨ad150,e150,hx150_0⟩:=Kd.at_int (Kd.R_reads' HO149.out).2.2 x8_1 p150 q150;cases e150;replace p150:=eq_true p150;replace q150:=eq_true q150)|((with_reducible refine gate_callee (f:=41) rfl ?_);refine goesL_ (some 37) rfl rfl Tryd.func41 (by kernel_rfl) rfl #[.int .i64 (wrap64 ((wrap64 (Int.tdiv a1 a0)) + (rd y143 x8_1))),.int .i64 0,.int .i64 (wrap64 (a0 - 1))] rfl (by (try simp only [List.map_toArray,List.map_cons,List.map_nil]);first|done|rfl|(simp only [List.length_drop,List.length_take];rfl)) ?_;(with_reducible refine (spec_l01In.calls (wrap64 ((wrap64 (Int.tdiv a1 a0)) + (rd y143 x8_1))) 0 (wrap64 (a0 - 1)) true _ A11.out).mono ?_);rintro e w' ⟨rfl,⟨nd,rfl⟩⟩;refine ⟨_,rfl,?_⟩)|(go_at_call 41;(with_reducible refine (spec_l01In.calls (wrap64 ((Int.tmod a1 a0) + (rd y147 x8_1))) 0 (wrap64 (a0 - 1)) true _ A13.out).mono ?_);rintro e w' ⟨rfl,⟨nd,rfl⟩⟩)|((with_reducible refine gate_builtin (b:=.append) (xs:=#[.tmp 44,.tmp 50]) rfl ?_);at_builtin;refine Kd.R_append (Kd.int .i64) (w0:=w) w.heap.size rfl (.tmp 44) (.tmp 50) 22 2 (.int .i64 0) 8 rfl Tryd.underlying22 info2 rfl (by decide) (by omega) u7 x7_1 (wrap64 ((wrap64 (a0 * (wrap64 ((wrap64 (Int.tdiv a1 a0)) + (rd y143 x8_1))))) + (wrap64 ((Int.tmod a1 a0) + (rd y147 x8_1))))) [.int .i64 (wrap64 ((wrap64 (a0 * (wrap64 ((wrap64 (Int.tdiv a1 a0)) + (rd y143 x8_1))))) + (wrap64 ((Int.tmod a1 a0) + (rd y147 x8_1)))))] (fun k_=>some k_ ≠ (.slice (some ad146) y143.length co18 : Value).ownBlock ∧ some k_ ≠ (.slice (some ad150) y147.length co21 : Value).ownBlock) (fun _=>False) rfl rfl ?aP (fun _ hk=>hk.elim) ?aF ?aO ?aB ?aS ?aL ?_;(case aP=>exact rfl);(case aB=>exact (by repeat (first|(with_reducible first|exact HB.out|apply below_alloc|apply pw_below_drewN|apply below_drew1)|exact HB.out)));(case aF=>exact (fun k_ hk=>⟨Kd.fresh' (Kd.R_lt (by (with_reducible repeat (first|apply Kd.R_alloc|apply Kd.R_drewN|apply Kd.R_drew));exact HO145.out)) k_ hk,Kd.fresh' (Kd.R_lt (by (with_reducible repeat (first|apply Kd.R_alloc|apply Kd.R_drewN|apply Kd.R_drew));exact HO149.out)) k_ hk⟩));(case aO=>exact (by (with_reducible repeat (first|apply Kd.R_alloc|apply Kd.R_drewN|apply Kd.R_drew));exact Kd.R_mono HO_7.out (fun _ hk=>⟨hk.1.2,hk.2⟩)));(case aS=>exact (below_size (by repeat (first|(with_reducible first|exact HB.out|apply below_alloc|apply pw_below_drewN|apply below_drew1)|exact HB.out))));(case aL=>have:=LMc15.out;omega);intro v154 w22 ho hb hg hat;rw [← Ny153.out] at ho;have n0_:=Aside0.mk (Kd.R_after (ok:=(fun k_=>some k_ ≠ (.slice (some ad150) y147.length co21 : Value).ownBlock)) (by (with_reducible repeat (first|apply Kd.R_alloc|apply Kd.R_drewN|apply Kd.R_drew));exact Kd.R_mono HO145.out (fun _ hk=>⟨hk.2,hk.1.2⟩)) hg hat);have n1_:=Aside0.mk (Kd.R_after (ok:=(fun k_=>some k_ ≠ (.slice (some ad146) y143.length co18 : Value).ownBlock)) (by (with_reducible repeat (first|apply Kd.R_alloc|apply Kd.R_drewN|apply Kd.R_drew));exact Kd.R_mono HO149.out (fun _ hk=>⟨hk.2,hk.1.2⟩)) hg hat);have n2_:=Aside0.mk (hb);have n3_:=Aside0.mk (ho);clear HO145;clear HO149;clear HB;clear HO_7;have HO145:=n0_;have HO149:=n1_;have HB:=n2_;have HO155:=n3_;clear n0_ n1_ n2_ n3_;clear ho hb hg hat))
           go_roundg k1
           case measure=>have:=HK1.out;omega
           case rel=>exact ⟨(y153),(wrap64 (x8_1 + 1)),(by first|rfl|(simp;done)|(simp [*];done)),H',⟨by have:=HK1.out;omega⟩,⟨by (with_reducible repeat (first|apply Kd.R_alloc|apply Kd.R_drewN|apply Kd.R_drew));exact Kd.R_mono HO155.out (fun _ hk=>trivial)⟩,⟨by repeat (first|(with_reducible first|exact HB.out|apply below_alloc|apply pw_below_drewN|apply below_drew1)|exact HB.out)⟩⟩
          ·rw [if_neg c15] at H
           exact absurd H (by simp)
         ·replace c14:=Bool.eq_false_iff.mpr c14
          subst c14
          have H1 : (spec_l06Near.l0 k1 a0 (wrap64 (Int.tdiv a1 a0)) (Int.tmod a1 a0) x7_1 (wrap64 (x8_1 + 1))) = some r:=by rw [if_neg (show ¬ (false = true) by decide)] at H;exact H
          clear H
          have H:=H1
          clear H1
          have H':=Aside0.mk H
          clear H
          go_wp2_with (first|((with_reducible refine gate_dst (N:=23) rfl ?_);refine Kd.R_lit (Kd.int .i64) _ 2 ?hg (N:=23) ?hd (xs:=([(-1),(-1),0,0,1,1] : List Int)) (inner:=[.int .i64 (-1),.int .i64 (-1),.int .i64 0,.int .i64 0,.int .i64 1,.int .i64 1]) (ok:=fun _=>True) (okp:=fun _=>True) ?hr ?hp (fun _ hk=>hk) trivial (Below.refl _ _) (Nat.le_refl _) (by simp) ?_;(case hd=>rfl);(case hg=>rfl);(case hr=>first|(go_simp;done)|(go_simp;rfl));(case hp=>exact (Reps.one (show Kd.M (Kd.int .i64) _ _ _ (-1) [.int .i64 (-1)] from rfl) (Reps.one (show Kd.M (Kd.int .i64) _ _ _ (-1) [.int .i64 (-1)] from rfl) (Reps.one (show Kd.M (Kd.int .i64) _ _ _ 0 [.int .i64 0] from rfl) (Reps.one (show Kd.M (Kd.int .i64) _ _ _ 0 [.int .i64 0] from rfl) (Reps.one (show Kd.M (Kd.int .i64) _ _ _ 1 [.int .i64 1] from rfl) (Reps.one (show Kd.M (Kd.int .i64) _ _ _ 1 [.int .i64 1] from rfl) (Reps.none _ _))))))));intro v144 w23 ho24 hb hg_ hnew_;clear hg_ hnew_;(first|rw [← Ny143.out] at ho24|(simp only [Int.reduceToNat] at ho24;rw [← Ny143.out] at ho24));have n0_:=Aside0.mk (Kd.R_elder' (by (with_reducible repeat (first|apply Kd.R_alloc|apply Kd.R_drewN|apply Kd.R_drew));exact HO_7.out) (Kd.R_base ho24) hb);have n1_:=Aside0.mk (Kd.R_lower (Kd.R_new' ho24 (Kd.R_lt (by (with_reducible repeat (first|apply Kd.R_alloc|apply Kd.R_drewN|apply Kd.R_drew));exact HO_7.out))) (below_size (by repeat (first|(with_reducible first|exact HB.out|apply below_alloc|apply pw_below_drewN|apply below_drew1)|exact HB.out))));have n2_:=Aside0.mk (below_step (by repeat (first|(with_reducible first|exact HB.out|apply below_alloc|apply pw_below_drewN|apply below_drew1)|exact HB.out)) hb);clear HO_7;clear HB;have HO_7:=n0_;have HO145:=n1_;have HB:=n2_;clear n0_ n1_ n2_;clear hb ho24;obtain ⟨Ao25,co25,eo25⟩:=Kd.R_slice HO145.out;subst eo25;have p146 : 0 ≤ (x8_1 : Int):=of_decide_eq_true (by first|(with_reducible assumption)|assumption);have q146 : x8_1 < (y143.length : Int):=of_decide_eq_true (by first|(with_reducible assumption)|assumption);obtain ⟨ad146,e146,hx146_0⟩:=Kd.at_int (Kd.R_reads' HO145.out).2.2 x8_1 p146 q146;cases e146;replace p146:=eq_true p146;replace q146:=eq_true q146)|((with_reducible refine gate_dst (N:=29) rfl ?_);refine Kd.R_lit (Kd.int .i64) _ 2 ?hg (N:=29) ?hd (xs:=([0,1,(-1),1,(-1),0] : List Int)) (inner:=[.int .i64 0,.int .i64 1,.int .i64 (-1),.int .i64 1,.int .i64 (-1),.int .i64 0]) (ok:=fun _=>True) (okp:=fun _=>True) ?hr ?hp (fun _ hk=>hk) trivial (Below.refl _ _) (Nat.le_refl _) (by simp) ?_;(case hd=>rfl);(case hg=>rfl);(case hr=>first|(go_simp;done)|(go_simp;rfl));(case hp=>exact (Reps.one (show Kd.M (Kd.int .i64) _ _ _ 0 [.int .i64 0] from rfl) (Reps.one (show Kd.M (Kd.int .i64) _ _ _ 1 [.int .i64 1] from rfl) (Reps.one (show Kd.M (Kd.int .i64) _ _ _ (-1) [.int .i64 (-1)] from rfl) (Reps.one (show Kd.M (Kd.int .i64) _ _ _ 1 [.int .i64 1] from rfl) (Reps.one (show Kd.M (Kd.int .i64) _ _ _ (-1) [.int .i64 (-1)] from rfl) (Reps.one (show Kd.M (Kd.int .i64) _ _ _ 0 [.int .i64 0] from rfl) (Reps.none _ _))))))));intro v148 w26 ho27 hb hg_ hnew_;clear hg_ hnew_;(first|rw [← Ny147.out] at ho27|(simp only [Int.reduceToNat] at ho27;rw [← Ny147.out] at ho27));have n0_:=Aside0.mk (Kd.R_elder' (by (with_reducible repeat (first|apply Kd.R_alloc|apply Kd.R_drewN|apply Kd.R_drew));exact HO_7.out) (Kd.R_base ho27) hb);have n1_:=Aside0.mk (Kd.R_elder' (by (with_reducible repeat (first|apply Kd.R_alloc|apply Kd.R_drewN|apply Kd.R_drew));exact HO145.out) (Kd.R_base ho27) hb);have n2_:=Aside0.mk (Kd.R_lower (Kd.R_new' (Kd.R_new' ho27 (Kd.R_lt (by (with_reducible repeat (first|apply Kd.R_alloc|apply Kd.R_drewN|apply Kd.R_drew));exact HO_7.out))) (Kd.R_lt (by (with_reducible repeat (first|apply Kd.R_alloc|apply Kd.R_drewN|apply Kd.R_drew));exact HO145.out))) (below_size (by repeat (first|(with_reducible first|exact HB.out|apply below_alloc|apply pw_below_drewN|apply below_drew1)|exact HB.out))));have n3_:=Aside0.mk (below_step (by repeat (first|(with_reducible first|exact HB.out|apply below_alloc|apply pw_below_drewN|apply below_drew1)|exact HB.out)) hb);clear HO_7;clear HO145;clear HB;have HO_7:=n0_;have HO145:=n1_;have HO149:=n2_;have HB:=n3_;clear n0_ n1_ n2_ n3_;clear hb ho27;obtain ⟨Ao28,co28,eo28⟩:=Kd.R_slice HO149.out;subst eo28;have p150 : 0 ≤ (x8_1 : Int):=of_decide_eq_true (by first|(with_reducible assumption)|assumption);have q150 : x8_1 < (y147.length : Int):=of_decide_eq_true (by first|(with_reducible assumption)|assumption);obtain ⟨ad150,e150,hx150_0⟩:=Kd.at_int (Kd.R_reads' HO149.out).2.2 x8_1 p150 q150;cases e150;replace p150:=eq_true p150;replace q150:=eq_true q150)|((with_reducible refine gate_callee (f:=41) rfl ?_);refine goesL_ (some 37) rfl rfl Tryd.func41 (by kernel_rfl) rfl #[.int .i64 (wrap64 ((wrap64 (Int.tdiv a1 a0)) + (rd y143 x8_1))),.int .i64 0,.int .i64 (wrap64 (a0 - 1))] rfl (by (try simp only [List.map_toArray,List.map_cons,List.map_nil]);first|done|rfl|(simp only [List.length_drop,List.length_take];rfl)) ?_;(with_reducible refine (spec_l01In.calls (wrap64 ((wrap64 (Int.tdiv a1 a0)) + (rd y143 x8_1))) 0 (wrap64 (a0 - 1)) true _ A11.out).mono ?_);rintro e w' ⟨rfl,⟨nd,rfl⟩⟩;refine ⟨_,rfl,?_⟩)|(go_at_call 41;(with_reducible refine (spec_l01In.calls (wrap64 ((Int.tmod a1 a0) + (rd y147 x8_1))) 0 (wrap64 (a0 - 1)) false _ A13.out).mono ?_);rintro e w' ⟨rfl,⟨nd,rfl⟩⟩))
          go_roundg k1
          case measure=>have:=HK1.out;omega
          case rel=>exact ⟨(x7_1),(wrap64 (x8_1 + 1)),(by first|rfl|(simp;done)|(simp [*];done)),H',⟨by have:=HK1.out;omega⟩,⟨by (with_reducible repeat (first|apply Kd.R_alloc|apply Kd.R_drewN|apply Kd.R_drew));exact Kd.R_mono HO_7.out (fun _ hk=>trivial)⟩,⟨by repeat (first|(with_reducible first|exact HB.out|apply below_alloc|apply pw_below_drewN|apply below_drew1)|exact HB.out)⟩⟩
        ·replace c12:=Bool.eq_false_iff.mpr c12
         subst c12
         have H1 : (spec_l06Near.l0 k1 a0 (wrap64 (Int.tdiv a1 a0)) (Int.tmod a1 a0) x7_1 (wrap64 (x8_1 + 1))) = some r:=by rw [if_neg (show ¬ (false = true) by decide)] at H;exact H
         clear H
         have H:=H1
         clear H1
         have H':=Aside0.mk H
         clear H
         go_wp2_with (first|((with_reducible refine gate_dst (N:=23) rfl ?_);refine Kd.R_lit (Kd.int .i64) _ 2 ?hg (N:=23) ?hd (xs:=([(-1),(-1),0,0,1,1] : List Int)) (inner:=[.int .i64 (-1),.int .i64 (-1),.int .i64 0,.int .i64 0,.int .i64 1,.int .i64 1]) (ok:=fun _=>True) (okp:=fun _=>True) ?hr ?hp (fun _ hk=>hk) trivial (Below.refl _ _) (Nat.le_refl _) (by simp) ?_;(case hd=>rfl);(case hg=>rfl);(case hr=>first|(go_simp;done)|(go_simp;rfl));(case hp=>exact (Reps.one (show Kd.M (Kd.int .i64) _ _ _ (-1) [.int .i64 (-1)] from rfl) (Reps.one (show Kd.M (Kd.int .i64) _ _ _ (-1) [.int .i64 (-1)] from rfl) (Reps.one (show Kd.M (Kd.int .i64) _ _ _ 0 [.int .i64 0] from rfl) (Reps.one (show Kd.M (Kd.int .i64) _ _ _ 0 [.int .i64 0] from rfl) (Reps.one (show Kd.M (Kd.int .i64) _ _ _ 1 [.int .i64 1] from rfl) (Reps.one (show Kd.M (Kd.int .i64) _ _ _ 1 [.int .i64 1] from rfl) (Reps.none _ _))))))));intro v144 w29 ho30 hb hg_ hnew_;clear hg_ hnew_;(first|rw [← Ny143.out] at ho30|(simp only [Int.reduceToNat] at ho30;rw [← Ny143.out] at ho30));have n0_:=Aside0.mk (Kd.R_elder' (by (with_reducible repeat (first|apply Kd.R_alloc|apply Kd.R_drewN|apply Kd.R_drew));exact HO_7.out) (Kd.R_base ho30) hb);have n1_:=Aside0.mk (Kd.R_lower (Kd.R_new' ho30 (Kd.R_lt (by (with_reducible repeat (first|apply Kd.R_alloc|apply Kd.R_drewN|apply Kd.R_drew));exact HO_7.out))) (below_size (by repeat (first|(with_reducible first|exact HB.out|apply below_alloc|apply pw_below_drewN|apply below_drew1)|exact HB.out))));have n2_:=Aside0.mk (below_step (by repeat (first|(with_reducible first|exact HB.out|apply below_alloc|apply pw_below_drewN|apply below_drew1)|exact HB.out)) hb);clear HO_7;clear HB;have HO_7:=n0_;have HO145:=n1_;have HB:=n2_;clear n0_ n1_ n2_;clear hb ho30;obtain ⟨Ao31,co31,eo31⟩:=Kd.R_slice HO145.out;subst eo31;have p146 : 0 ≤ (x8_1 : Int):=of_decide_eq_true (by first|(with_reducible assumption)|assumption);have q146 : x8_1 < (y143.length : Int):=of_decide_eq_true (by first|(with_reducible assumption)|assumption);obtain ⟨ad146,e146,hx146_0⟩:=Kd.at_int (Kd.R_reads' HO145.out).2.2 x8_1 p146 q146;cases e146;replace p146:=eq_true p146;replace q146:=eq_true q146)|((with_reducible refine gate_dst (N:=29) rfl ?_);refine Kd.R_lit (Kd.int .i64) _ 2 ?hg (N:=29) ?hd (xs:=([0,1,(-1),1,(-1),0] : List Int)) (inner:=[.int .i64 0,.int .i64 1,.int .i64 (-1),.int .i64 1,.int .i64 (-1),.int .i64 0]) (ok:=fun _=>True) (okp:=fun _=>True) ?hr ?hp (fun _ hk=>hk) trivial (Below.refl _ _) (Nat.le_refl _) (by simp) ?_;(case hd=>rfl);(case hg=>rfl);(case hr=>first|(go_simp;done)|(go_simp;rfl));(case hp=>exact (Reps.one (show Kd.M (Kd.int .i64) _ _ _ 0 [.int .i64 0] from rfl) (Reps.one (show Kd.M (Kd.int .i64) _ _ _ 1 [.int .i64 1] from rfl) (Reps.one (show Kd.M (Kd.int .i64) _ _ _ (-1) [.int .i64 (-1)] from rfl) (Reps.one (show Kd.M (Kd.int .i64) _ _ _ 1 [.int .i64 1] from rfl) (Reps.one (show Kd.M (Kd.int .i64) _ _ _ (-1) [.int .i64 (-1)] from rfl) (Reps.one (show Kd.M (Kd.int .i64) _ _ _ 0 [.int .i64 0] from rfl) (Reps.none _ _))))))));intro v148 w32 ho33 hb hg_ hnew_;clear hg_ hnew_;(first|rw [← Ny147.out] at ho33|(simp only [Int.reduceToNat] at ho33;rw [← Ny147.out] at ho33));have n0_:=Aside0.mk (Kd.R_elder' (by (with_reducible repeat (first|apply Kd.R_alloc|apply Kd.R_drewN|apply Kd.R_drew));exact HO_7.out) (Kd.R_base ho33) hb);have n1_:=Aside0.mk (Kd.R_elder' (by (with_reducible repeat (first|apply Kd.R_alloc|apply Kd.R_drewN|apply Kd.R_drew));exact HO145.out) (Kd.R_base ho33) hb);have n2_:=Aside0.mk (Kd.R_lower (Kd.R_new' (Kd.R_new' ho33 (Kd.R_lt (by (with_reducible repeat (first|apply Kd.R_alloc|apply Kd.R_drewN|apply Kd.R_drew));exact HO_7.out))) (Kd.R_lt (by (with_reducible repeat (first|apply Kd.R_alloc|apply Kd.R_drewN|apply Kd.R_drew));exact HO145.out))) (below_size (by repeat (first|(with_reducible first|exact HB.out|apply below_alloc|apply pw_below_drewN|apply below_drew1)|exact HB.out))));have n3_:=Aside0.mk (below_step (by repeat (first|(with_reducible first|exact HB.out|apply below_alloc|apply pw_below_drewN|apply below_drew1)|exact HB.out)) hb);clear HO_7;clear HO145;clear HB;have HO_7:=n0_;have HO145:=n1_;have HO149:=n2_;have HB:=n3_;clear n0_ n1_ n2_ n3_;clear hb ho33;obtain ⟨Ao34,co34,eo34⟩:=Kd.R_slice HO149.out;subst eo34;have p150 : 0 ≤ (x8_1 : Int):=of_decide_eq_true (by first|(with_reducible assumption)|assumption);have q150 : x8_1 < (y147.length : Int):=of_decide_eq_true (by first|(with_reducible assumption)|assumption);obtain ⟨ad150,e150,hx150_0⟩:=Kd.at_int (Kd.R_reads' HO149.out).2.2 x8_1 p150 q150;cases e150;replace p150:=eq_true p150;replace q150:=eq_true q150)|((with_reducible refine gate_callee (f:=41) rfl ?_);refine goesL_ (some 37) rfl rfl Tryd.func41 (by kernel_rfl) rfl #[.int .i64 (wrap64 ((wrap64 (Int.tdiv a1 a0)) + (rd y143 x8_1))),.int .i64 0,.int .i64 (wrap64 (a0 - 1))] rfl (by (try simp only [List.map_toArray,List.map_cons,List.map_nil]);first|done|rfl|(simp only [List.length_drop,List.length_take];rfl)) ?_;(with_reducible refine (spec_l01In.calls (wrap64 ((wrap64 (Int.tdiv a1 a0)) + (rd y143 x8_1))) 0 (wrap64 (a0 - 1)) false _ A11.out).mono ?_);rintro e w' ⟨rfl,⟨nd,rfl⟩⟩;refine ⟨_,rfl,?_⟩))
         go_roundg k1
         case measure=>have:=HK1.out;omega
         case rel=>exact ⟨(x7_1),(wrap64 (x8_1 + 1)),(by first|rfl|(simp;done)|(simp [*];done)),H',⟨by have:=HK1.out;omega⟩,⟨by (with_reducible repeat (first|apply Kd.R_alloc|apply Kd.R_drewN|apply Kd.R_drew));exact Kd.R_mono HO_7.out (fun _ hk=>trivial)⟩,⟨by repeat (first|(with_reducible first|exact HB.out|apply below_alloc|apply pw_below_drewN|apply below_drew1)|exact HB.out)⟩⟩
       ·rw [if_neg c10] at H
        exact absurd H (by simp)
      ·rw [if_neg c9] at H
       exact absurd H (by simp)
     ·rw [if_neg c8] at H
      exact absurd H (by simp)
    ·rw [if_neg c7] at H
     have c7b0 : decide (x8_1 < 6) = false:=decide_eq_false c7
     clear c7
     obtain rfl:=Option.some.inj H
     go_wp2
     go_ret
     exact ⟨_,by first|rfl|(simp [errW_none,errW_some] <;> rfl)|(simp [*,errW_none,errW_some] <;> rfl),by (with_reducible repeat (first|apply Kd.R_alloc|apply Kd.R_drewN|apply Kd.R_drew));exact HO_7.out,by repeat (first|(with_reducible first|exact HB.out|apply below_alloc|apply pw_below_drewN|apply below_drew1)|exact HB.out)⟩

end Go.Proofs.YtcfdlbjngpmcaaaDoor.PAll
