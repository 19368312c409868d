-- Written by wip/pp.py of this work (a driver around the kit's print), out of the translation; Lean checks it.
import Derived.Test.YtcfdlbjngpmcaaaDoorPAllx0
import Derived.Test.YtcfdlbjngpmcaaaDoorPAllx2
namespace Go.Proofs.YtcfdlbjngpmcaaaDoor.PAll
open Go.RowKit Go.Proofs.YtcfdlbjngpmcaaaDoorW.PrintWords Go.Proofs.YtcfdlbjngpmcaaaDoorW.PrintLast Go.Proofs.YtcfdlbjngpmcaaaDoorW.PrintMore
attribute [local go_sem] max2_int min2_int max_two min_two max_three min_three max_four min_four   -- for this text's walks alone
set_option linter.unusedVariables false
set_option linter.unusedSimpArgs false

/-! ### spec_l06Joins: function 42 -/
mutual
def spec_l06Joins.l0 : Nat → Int → List Int → Int → List Bool → List Int → Int → Option (Bool)
 | 0, _, _, _, _, _, _ => none
 | k + 1, x0, x1, x2, x7, x8, x9 => if x9 < x0 then (if x2 = 2 then (if 0 ≤ (wrap64 (x0 * x9)) then (if (wrap64 (x0 * x9)) < (x1.length : Int) then (if (rd x1 (wrap64 (x0 * x9))) = x2 then (if (wrap64 (x0 * x9)) < (x7.length : Int) then (if x8.length < 17592186044416 then (spec_l06Joins.l0 k x0 x1 x2 (x7.set ((wrap64 (x0 * x9)) : Int).toNat true) (x8 ++ [wrap64 (x0 * x9)]) (wrap64 (x9 + 1))) else (none)) else (none)) else (spec_l06Joins.l0 k x0 x1 x2 x7 x8 (wrap64 (x9 + 1)))) else (none)) else (none)) else (if 0 ≤ x9 then (if x9 < (x1.length : Int) then (if (rd x1 x9) = x2 then (if x9 < (x7.length : Int) then (if x8.length < 17592186044416 then (spec_l06Joins.l0 k x0 x1 x2 (x7.set (x9 : Int).toNat true) (x8 ++ [x9]) (wrap64 (x9 + 1))) else (none)) else (none)) else (spec_l06Joins.l0 k x0 x1 x2 x7 x8 (wrap64 (x9 + 1)))) else (none)) else (none))) else (spec_l06Joins.l1 k x0 x1 x2 x7 x8 0)
def spec_l06Joins.l1 : Nat → Int → List Int → Int → List Bool → List Int → Int → Option (Bool)
 | 0, _, _, _, _, _, _ => none
 | k + 1, x0, x1, x2, x7, x8, x11 => if x11 < (x8.length : Int) then (if 0 ≤ x11 then (if x2 = 1 then (if x0 = 0 then (none) else (if (wrap64 (Int.tdiv (rd x8 x11) x0)) = (wrap64 (x0 - 1)) then (spec_l06Joins.j2 k x0 x1 x2 x7 x8 x11 (rd x8 x11) true) else (if x2 = 2 then (spec_l06Joins.j2 k x0 x1 x2 x7 x8 x11 (rd x8 x11) ((Int.tmod (rd x8 x11) x0) == (wrap64 (x0 - 1)))) else (spec_l06Joins.j2 k x0 x1 x2 x7 x8 x11 (rd x8 x11) false)))) else (if x2 = 2 then (if x0 = 0 then (none) else (spec_l06Joins.j2 k x0 x1 x2 x7 x8 x11 (rd x8 x11) ((Int.tmod (rd x8 x11) x0) == (wrap64 (x0 - 1))))) else (spec_l06Joins.j2 k x0 x1 x2 x7 x8 x11 (rd x8 x11) false))) else (none)) else (some false)
def spec_l06Joins.j2 : Nat → Int → List Int → Int → List Bool → List Int → Int → Int → Bool → Option (Bool)
 | 0, _, _, _, _, _, _, _, _ => none
 | k + 1, x0, x1, x2, x7, x8, x11, x12, x75 => if x75 = true then (some true) else ((spec_l06Near.f k x0 x12).bind fun t173 => (spec_l06Joins.l2 k x0 x1 x2 x7 x8 x11 t173 0))
def spec_l06Joins.l2 : Nat → Int → List Int → Int → List Bool → List Int → Int → List Int → Int → Option (Bool)
 | 0, _, _, _, _, _, _, _, _ => none
 | k + 1, x0, x1, x2, x7, x8, x11, x13, x14 => if x14 < (x13.length : Int) then (if 0 ≤ x14 then (if 0 ≤ (rd x13 x14) then (if (rd x13 x14) < (x7.length : Int) then (if (rdOf false x7 (rd x13 x14) = true) then (spec_l06Joins.l2 k x0 x1 x2 x7 x8 x11 x13 (wrap64 (x14 + 1))) else (if (rd x13 x14) < (x1.length : Int) then (if (rd x1 (rd x13 x14)) = x2 then (if x8.length < 17592186044416 then (spec_l06Joins.l2 k x0 x1 x2 (x7.set ((rd x13 x14) : Int).toNat true) (x8 ++ [rd x13 x14]) x11 x13 (wrap64 (x14 + 1))) else (none)) else (spec_l06Joins.l2 k x0 x1 x2 x7 x8 x11 x13 (wrap64 (x14 + 1)))) else (none))) else (none)) else (none)) else (none)) else (spec_l06Joins.l1 k x0 x1 x2 x7 x8 (wrap64 (x11 + 1)))
end
def spec_l06Joins.f (k : Nat) (a0 : Int) (l1 : List Int) (a2 : Int) : Option (Bool) := if 0 ≤ (wrap64 (a0 * a0)) then (if (wrap64 (a0 * a0) : Int).toNat ≤ 281474976710656 then (spec_l06Joins.l0 k a0 l1 a2 (List.replicate (wrap64 (a0 * a0) : Int).toNat false) (([] : List Int)) 0) else (none)) else (none)
set_option maxHeartbeats 8000000 in
set_option maxRecDepth 100000 in
theorem spec_l06Joins.calls (k : Nat) (a0 : Int) (A1 : Option Addr) (c1 : Nat) (l1 : List Int) (a2 : Int) (r : Bool) (w : World) (hr1 : Kd.C (Kd.int .i64) w A1 l1.length l1) (hc1 : l1.length ≤ c1) (h : spec_l06Joins.f k a0 l1 a2 = some r) :
  Calls Tryd.prog 42 #[.int .i64 a0,.slice A1 l1.length c1,.int .i64 a2] w fun e w'=>e = .returned (.bool r) ∧ Below w.heap.size w w':=by
 have HR1:=Aside0.mk hr1
 have HC1:=Aside0.mk hc1
 clear hr1 hc1
 have HB:=Aside0.mk (Below.refl w.heap.size w)
 have H : (if 0 ≤ (wrap64 (a0 * a0)) then (if (wrap64 (a0 * a0) : Int).toNat ≤ 281474976710656 then (spec_l06Joins.l0 k a0 l1 a2 (List.replicate (wrap64 (a0 * a0) : Int).toNat false) (([] : List Int)) 0) else (none)) else (none)) = some r:=h
 clear h
 obtain ⟨ji4,hji4⟩ : ∃ j_ : Int,(wrap64 (a0 * a0)) = j_:=⟨_,rfl⟩
 replace H : (if 0 ≤ (ji4) then (if (ji4 : Int).toNat ≤ 281474976710656 then (spec_l06Joins.l0 k a0 l1 a2 (List.replicate (ji4 : Int).toNat false) (([] : List Int)) 0) else (none)) else (none)) = some r:=by first|(rw [hji4] at H;exact H)|(simp only [hji4] at H ⊢;exact H)
 have hji4w : (IntKind.i64.wrap (a0 * a0)) = ji4:=(i64_w _).trans hji4
 by_cases c5 : 0 ≤ (ji4)
 ·rw [if_pos c5] at H
  have c5b0:=eq_true c5
  have c5b1 : decide (0 ≤ (ji4)) = true:=decide_eq_true c5
  clear c5
  by_cases c6 : (ji4 : Int).toNat ≤ 281474976710656
  ·rw [if_pos c6] at H
   have c6b0:=eq_true c6
   have c6b1 : decide ((ji4 : Int).toNat ≤ 281474976710656) = true:=decide_eq_true c6
   clear c6
   obtain ⟨y156,hy156⟩ : ∃ y_ : List Bool,y_ = (List.replicate (ji4 : Int).toNat false):=⟨_,rfl⟩
   replace H : (spec_l06Joins.l0 k a0 l1 a2 y156 (([] : List Int)) 0) = some r:=by first|(rw [hy156];with_reducible exact H)|(have H2_:=(Option.bind_some _ _).symm.trans H;rw [hy156];with_reducible exact H2_)|(have H2_:=(Option.bind_some _ _).symm.trans H;with_reducible exact H2_)|with_reducible exact H|(rw [hy156];exact H)|exact H
   have Ny156:=Aside0.mk hy156
   clear hy156
   obtain ⟨y159,hy159⟩ : ∃ y_ : List Int,y_ = (([] : List Int)):=⟨_,rfl⟩
   replace H : (spec_l06Joins.l0 k a0 l1 a2 y156 y159 0) = some r:=by first|(rw [hy159];with_reducible exact H)|(have H2_:=(Option.bind_some _ _).symm.trans H;rw [hy159];with_reducible exact H2_)|(have H2_:=(Option.bind_some _ _).symm.trans H;with_reducible exact H2_)|with_reducible exact H|(rw [hy159];exact H)|exact H
   have Ny159:=Aside0.mk hy159
   clear hy159
   have H':=Aside0.mk H
   clear H
   go_enter Tryd.func42,Tryd.ntmps42
   go_wp2_with (first|((with_reducible refine gate_dst (N:=18) rfl ?_);refine Kd.R_make Kd.bool _ 4 rfl (N:=18) rfl 63 _ _ rfl ji4 rfl rfl Tryd.underlying63 (.bool false) 1 info4 rfl (by decide) (by omega) false (ok:=fun _=>True) (okp:=fun _=>True) rfl (fun _ hk=>hk) trivial (of_decide_eq_true (by first|(with_reducible assumption)|assumption)) (Nat.le_trans (Nat.mul_le_mul_right _ (of_decide_eq_true (by first|(with_reducible assumption)|assumption) : ji4.toNat ≤ 281474976710656)) (by omega)) (Below.refl _ _) (Nat.le_refl _) ?_;intro v157 w7 ho8 hb hg_ hnew_;clear hg_ hnew_;(first|rw [← Ny156.out] at ho8|(simp only [Int.reduceToNat] at ho8;rw [← Ny156.out] at ho8));have n0_:=Aside0.mk (Kd.R_lower ho8 (below_size (by repeat (first|(with_reducible first|exact HB.out|apply below_alloc|apply pw_below_drewN|apply below_drew1)|exact HB.out))));have n1_:=Aside0.mk (below_step (by repeat (first|(with_reducible first|exact HB.out|apply below_alloc|apply pw_below_drewN|apply below_drew1)|exact HB.out)) hb);clear HB;have HO158:=n0_;have HB:=n1_;clear n0_ n1_;clear hb ho8)|((with_reducible refine gate_dst (N:=19) rfl ?_);refine Kd.R_lit (Kd.int .i64) _ 2 ?hg (N:=19) ?hd (xs:=([] : List Int)) (inner:=[]) (ok:=fun _=>True) (okp:=fun _=>True) ?hr ?hp (fun _ hk=>hk) trivial (Below.refl _ _) (Nat.le_refl _) (by simp) ?_;(case hd=>rfl);(case hg=>rfl);(case hr=>first|(go_simp;done)|(go_simp;rfl));(case hp=>exact (Reps.none _ _));intro v160 w9 ho10 hb hg_ hnew_;clear hg_ hnew_;(first|rw [← Ny159.out] at ho10|(simp only [Int.reduceToNat] at ho10;rw [← Ny159.out] at ho10));have n0_:=Aside0.mk (Kd.R_below (by (with_reducible repeat (first|apply Kd.R_alloc|apply Kd.R_drewN|apply Kd.R_drew));exact HO158.out) hb);have n1_:=Aside0.mk (Kd.R_lower ho10 (below_size (by repeat (first|(with_reducible first|exact HB.out|apply below_alloc|apply pw_below_drewN|apply below_drew1)|exact HB.out))));have n2_:=Aside0.mk (below_step (by repeat (first|(with_reducible first|exact HB.out|apply below_alloc|apply pw_below_drewN|apply below_drew1)|exact HB.out)) hb);clear HO158;clear HB;have HO158:=n0_;have HO161:=n1_;have HB:=n2_;clear n0_ n1_ n2_;clear hb ho10))
   go_loopg [8,9] k (fun kq v8 v9 w'=>∃ (x7_1 : List Bool) (x8_1 : List Int) (x9_1 : Int),v9 = .int .i64 x9_1 ∧ Aside0 (spec_l06Joins.l0 kq a0 l1 a2 x7_1 x8_1 x9_1 = some r) ∧ Aside0 (kq ≤ k) ∧ Aside0 (Kd.R Kd.bool 4 w' w.heap.size (fun _=>True) v157 x7_1) ∧ Aside0 (Kd.R (Kd.int .i64) 2 w' w.heap.size (fun _=>True) v8 x8_1) ∧ Aside0 (Below w.heap.size w w'))
   case atStart=>exact ⟨(y156),(y159),(0),(by first|rfl|(simp;done)|(simp [*];done)),H',⟨Nat.le_refl _⟩,⟨by (with_reducible repeat (first|apply Kd.R_alloc|apply Kd.R_drewN|apply Kd.R_drew));exact HO158.out⟩,⟨by (with_reducible repeat (first|apply Kd.R_alloc|apply Kd.R_drewN|apply Kd.R_drew));exact HO161.out⟩,⟨by repeat (first|(with_reducible first|exact HB.out|apply below_alloc|apply pw_below_drewN|apply below_drew1)|exact HB.out)⟩⟩
   case round =>
    clear H'
    try clear c1
    try clear p2
    try clear c4
    try clear c5
    try clear c5b0
    try clear c5b1
    try clear c6
    try clear c6b0
    try clear c6b1
    try clear p6
    obtain ⟨x7_1,x8_1,x9_1,rfl,HA,HK1,HO_7,HO_8,HB⟩:=hrel
    cases gk with
    | zero => exact absurd HA.out (by simp [spec_l06Joins.l0])
    | succ k1 =>
     have H:=HA.out
     clear HA
     simp only [spec_l06Joins.l0] at H
     by_cases c11 : x9_1 < a0
     ·rw [if_pos c11] at H
      have c11b0 : decide (x9_1 < a0) = true:=decide_eq_true c11
      clear c11
      by_cases c12 : a2 = 2
      ·rw [if_pos c12] at H
       have c12b0 : (a2 == 2) = true:=beq_iff_eq.mpr c12
       have c12b1 : (a2 != 2) = false:=bne_eq_false_iff_eq.mpr c12
       clear c12
       obtain ⟨ji13,hji13⟩ : ∃ j_ : Int,(wrap64 (a0 * x9_1)) = j_:=⟨_,rfl⟩
       replace H : (if 0 ≤ (ji13) then (if (ji13) < (l1.length : Int) then (if (rd l1 (ji13)) = a2 then (if (ji13) < (x7_1.length : Int) then (if x8_1.length < 17592186044416 then (spec_l06Joins.l0 k1 a0 l1 a2 (x7_1.set ((ji13) : Int).toNat true) (x8_1 ++ [ji13]) (wrap64 (x9_1 + 1))) else (none)) else (none)) else (spec_l06Joins.l0 k1 a0 l1 a2 x7_1 x8_1 (wrap64 (x9_1 + 1)))) else (none)) else (none)) = some r:=by first|(rw [hji13] at H;exact H)|(simp only [hji13] at H ⊢;exact H)
       have hji13w : (IntKind.i64.wrap (a0 * x9_1)) = ji13:=(i64_w _).trans hji13
       by_cases c14 : 0 ≤ (ji13)
       ·rw [if_pos c14] at H
        have c14b0 : decide (0 ≤ (ji13)) = true:=decide_eq_true c14
        clear c14
        by_cases c15 : (ji13) < (l1.length : Int)
        ·rw [if_pos c15] at H
         have c15b0 : decide ((ji13) < (l1.length : Int)) = true:=decide_eq_true c15
         clear c15
         by_cases c16 : (rd l1 (ji13)) = a2
         ·rw [if_pos c16] at H
          have c16b0 : ((rd l1 (ji13)) == a2) = true:=beq_iff_eq.mpr c16
          have c16b1 : ((rd l1 (ji13)) != a2) = false:=bne_eq_false_iff_eq.mpr c16
          clear c16
          by_cases c17 : (ji13) < (x7_1.length : Int)
          ·rw [if_pos c17] at H
           have c17b0 : decide ((ji13) < (x7_1.length : Int)) = true:=decide_eq_true c17
           clear c17
           obtain ⟨y163,hy163⟩ : ∃ y_ : List Bool,y_ = (x7_1.set ((ji13) : Int).toNat true):=⟨_,rfl⟩
           replace H : (if x8_1.length < 17592186044416 then (spec_l06Joins.l0 k1 a0 l1 a2 y163 (x8_1 ++ [ji13]) (wrap64 (x9_1 + 1))) else (none)) = some r:=by first|(rw [hy163];with_reducible exact H)|(have H2_:=(Option.bind_some _ _).symm.trans H;rw [hy163];with_reducible exact H2_)|(have H2_:=(Option.bind_some _ _).symm.trans H;with_reducible exact H2_)|with_reducible exact H|(rw [hy163];exact H)|exact H
           have Ny163:=Aside0.mk hy163
           clear hy163
           by_cases c19 : x8_1.length < 17592186044416
           ·rw [if_pos c19] at H
            have LMc19:=Aside0.mk c19
            clear c19
            obtain ⟨y164,hy164⟩ : ∃ y_ : List Int,y_ = (x8_1 ++ [ji13]):=⟨_,rfl⟩
            replace H : (spec_l06Joins.l0 k1 a0 l1 a2 y163 y164 (wrap64 (x9_1 + 1))) = some r:=by first|(rw [hy164];with_reducible exact H)|(have H2_:=(Option.bind_some _ _).symm.trans H;rw [hy164];with_reducible exact H2_)|(have H2_:=(Option.bind_some _ _).symm.trans H;with_reducible exact H2_)|with_reducible exact H|(rw [hy164];exact H)|exact H
            have Ny164:=Aside0.mk hy164
            clear hy164
            have H':=Aside0.mk H
            clear H
            have p162 : 0 ≤ ((ji13) : Int):=of_decide_eq_true (by first|(with_reducible assumption)|assumption)
            have q162 : (ji13) < (l1.length : Int):=of_decide_eq_true (by first|(with_reducible assumption)|assumption)
            obtain ⟨ad162,e162,hx162_0⟩:=Kd.at_int HR1.out (ji13) p162 q162
            cases e162
            replace hx162_0:=(HB.out.cell (World.block_lt_of_cell? w _ hx162_0)).trans hx162_0
            replace p162:=eq_true p162
            replace q162:=eq_true q162
            have p18 : 0 ≤ ((ji13) : Int):=of_decide_eq_true (by first|(with_reducible assumption)|assumption)
            have q18 : ((ji13) : Int) < ((x7_1.length : Int) : Int):=of_decide_eq_true (by first|(with_reducible assumption)|assumption)
            obtain ⟨go18,co18,eo18,gb18,gl18,cl18,HG18⟩:=Kd.R_form HO_7.out (by omega)
            (first|cases eo18|(injection eo18 with ea_ en_ ec_;(first|subst ea_|(injection ea_ with ea_;subst ea_));subst ec_;clear en_))
            have GB18:=Aside0.mk gb18
            have GG18:=Aside0.mk HG18
            clear gb18 gl18 HG18
            obtain ⟨hx18_0,hf18_0⟩:=Kd.R_celln false HO_7.out ((ji13) : Int) p18 q18
            replace p18:=eq_true p18
            replace q18:=eq_true q18
            have HP20:=Kd.R_putg HO_7.out ((ji13) : Int) true
            go_wp2_with (first|((with_reducible refine gate_store (t:=4) (p:=39) rfl ?_);refine store_event (t:=4) (p:=39) (v:=?vo_w21) (w1:=(wr.setCell ⟨go18,((ji13) : Int).toNat,none⟩ (.bool true))) ?hg ?ho ?hn ?hr ?_;(case ho=>rfl);(case hg=>rfl);(case hn=>rfl);(case hr=>first|(go_simp;done)|(go_simp;rfl));intro w21 hw;have hg : wr.grownBy w21 (some go18):=(by rw [hw];exact HP20.2);have hp_ : Kd.R Kd.bool 4 w21 w.heap.size (fun _=>True) (.slice (some ⟨go18,0,none⟩) x7_1.length co18) y163:=(by rw [hw,Ny163.out];exact HP20.1);clear HP20;have n0_:=Aside0.mk (hp_);have n1_:=Aside0.mk (Kd.R_over' (v:=(.slice (some ⟨go18,0,none⟩) x7_1.length co18)) (by (with_reducible repeat (first|apply Kd.R_alloc|apply Kd.R_drewN|apply Kd.R_drew));exact HO_8.out) (Kd.R_typed HO_7.out) (by decide) hg);have n2_:=Aside0.mk ((by rw [hw];exact below_set (HB.out) GB18.out : Below w.heap.size w w21));clear HO_7;clear HO_8;clear HB;have HO_7:=n0_;have HO_8:=n1_;have HB:=n2_;clear n0_ n1_ n2_;clear hg hw hp_)|((with_reducible refine gate_builtin (b:=.append) (xs:=#[.tmp 40,.tmp 42]) rfl ?_);at_builtin;refine Kd.R_append (Kd.int .i64) (w0:=w) w.heap.size rfl (.tmp 40) (.tmp 42) 22 2 (.int .i64 0) 8 rfl Tryd.underlying22 info2 rfl (by decide) (by omega) u8 x8_1 ji13 [.int .i64 ji13] (fun _=>True) (fun _=>False) rfl rfl ?aP (fun _ hk=>hk.elim) ?aF ?aO ?aB ?aS ?aL ?_;(case aP=>exact rfl);(case aB=>exact (by repeat (first|(with_reducible first|exact HB.out|apply below_alloc|apply pw_below_drewN|apply below_drew1)|exact HB.out)));(case aF=>exact (fun _ _=>trivial));(case aO=>exact (by (with_reducible repeat (first|apply Kd.R_alloc|apply Kd.R_drewN|apply Kd.R_drew));exact HO_8.out));(case aS=>exact (below_size (by repeat (first|(with_reducible first|exact HB.out|apply below_alloc|apply pw_below_drewN|apply below_drew1)|exact HB.out))));(case aL=>have:=LMc19.out;omega);intro v165 w22 ho hb hg hat;rw [← Ny164.out] at ho;have n0_:=Aside0.mk (Kd.R_over' (by (with_reducible repeat (first|apply Kd.R_alloc|apply Kd.R_drewN|apply Kd.R_drew));exact HO_7.out) (Kd.R_typed (by (with_reducible repeat (first|apply Kd.R_alloc|apply Kd.R_drewN|apply Kd.R_drew));exact HO_8.out)) (by decide) hg);have n1_:=Aside0.mk (hb);have n2_:=Aside0.mk (ho);clear HO_7;clear HB;clear HO_8;have HO_7:=n0_;have HB:=n1_;have HO166:=n2_;clear n0_ n1_ n2_;clear ho hb hg hat))
            go_roundg k1
            case measure=>have:=HK1.out;omega
            case rel=>exact ⟨(y163),(y164),(wrap64 (x9_1 + 1)),(by first|rfl|(simp;done)|(simp [*];done)),H',⟨by have:=HK1.out;omega⟩,⟨by (with_reducible repeat (first|apply Kd.R_alloc|apply Kd.R_drewN|apply Kd.R_drew));exact HO_7.out⟩,⟨by (with_reducible repeat (first|apply Kd.R_alloc|apply Kd.R_drewN|apply Kd.R_drew));exact HO166.out⟩,⟨by repeat (first|(with_reducible first|exact HB.out|apply below_alloc|apply pw_below_drewN|apply below_drew1)|exact HB.out)⟩⟩
           ·rw [if_neg c19] at H
            exact absurd H (by simp)
          ·rw [if_neg c17] at H
           exact absurd H (by simp)
         ·rw [if_neg c16] at H
          have c16b0 : ((rd l1 (ji13)) == a2) = false:=beq_eq_false_iff_ne.mpr c16
          have c16b1 : ((rd l1 (ji13)) != a2) = true:=bne_iff_ne.mpr c16
          have H':=Aside0.mk H
          clear H
          have p162 : 0 ≤ ((ji13) : Int):=of_decide_eq_true (by first|(with_reducible assumption)|assumption)
          have q162 : (ji13) < (l1.length : Int):=of_decide_eq_true (by first|(with_reducible assumption)|assumption)
          obtain ⟨ad162,e162,hx162_0⟩:=Kd.at_int HR1.out (ji13) p162 q162
          cases e162
          replace hx162_0:=(HB.out.cell (World.block_lt_of_cell? w _ hx162_0)).trans hx162_0
          replace p162:=eq_true p162
          replace q162:=eq_true q162
          go_wp2
          go_roundg k1
          case measure=>have:=HK1.out;omega
          case rel=>exact ⟨(x7_1),(x8_1),(wrap64 (x9_1 + 1)),(by first|rfl|(simp;done)|(simp [*];done)),H',⟨by have:=HK1.out;omega⟩,⟨by (with_reducible repeat (first|apply Kd.R_alloc|apply Kd.R_drewN|apply Kd.R_drew));exact HO_7.out⟩,⟨by (with_reducible repeat (first|apply Kd.R_alloc|apply Kd.R_drewN|apply Kd.R_drew));exact HO_8.out⟩,⟨by repeat (first|(with_reducible first|exact HB.out|apply below_alloc|apply pw_below_drewN|apply below_drew1)|exact HB.out)⟩⟩
        ·rw [if_neg c15] at H
         exact absurd H (by simp)
       ·rw [if_neg c14] at H
        exact absurd H (by simp)
      ·rw [if_neg c12] at H
       have c12b0 : (a2 == 2) = false:=beq_eq_false_iff_ne.mpr c12
       have c12b1 : (a2 != 2) = true:=bne_iff_ne.mpr c12
       by_cases c23 : 0 ≤ x9_1
       ·rw [if_pos c23] at H
        have c23b0 : decide (0 ≤ x9_1) = true:=decide_eq_true c23
        clear c23
        by_cases c24 : x9_1 < (l1.length : Int)
        ·rw [if_pos c24] at H
         have c24b0 : decide (x9_1 < (l1.length : Int)) = true:=decide_eq_true c24
         clear c24
         by_cases c25 : (rd l1 x9_1) = a2
         ·rw [if_pos c25] at H
          have c25b0 : ((rd l1 x9_1) == a2) = true:=beq_iff_eq.mpr c25
          have c25b1 : ((rd l1 x9_1) != a2) = false:=bne_eq_false_iff_eq.mpr c25
          clear c25
          by_cases c26 : x9_1 < (x7_1.length : Int)
          ·rw [if_pos c26] at H
           have c26b0 : decide (x9_1 < (x7_1.length : Int)) = true:=decide_eq_true c26
           clear c26
           obtain ⟨y168,hy168⟩ : ∃ y_ : List Bool,y_ = (x7_1.set (x9_1 : Int).toNat true):=⟨_,rfl⟩
           replace H : (if x8_1.length < 17592186044416 then (spec_l06Joins.l0 k1 a0 l1 a2 y168 (x8_1 ++ [x9_1]) (wrap64 (x9_1 + 1))) else (none)) = some r:=by first|(rw [hy168];with_reducible exact H)|(have H2_:=(Option.bind_some _ _).symm.trans H;rw [hy168];with_reducible exact H2_)|(have H2_:=(Option.bind_some _ _).symm.trans H;with_reducible exact H2_)|with_reducible exact H|(rw [hy168];exact H)|exact H
           have Ny168:=Aside0.mk hy168
           clear hy168
           by_cases c28 : x8_1.length < 17592186044416
           ·rw [if_pos c28] at H
            have LMc28:=Aside0.mk c28
            clear c28
            obtain ⟨y169,hy169⟩ : ∃ y_ : List Int,y_ = (x8_1 ++ [x9_1]):=⟨_,rfl⟩
            replace H : (spec_l06Joins.l0 k1 a0 l1 a2 y168 y169 (wrap64 (x9_1 + 1))) = some r:=by first|(rw [hy169];with_reducible exact H)|(have H2_:=(Option.bind_some _ _).symm.trans H;rw [hy169];with_reducible exact H2_)|(have H2_:=(Option.bind_some _ _).symm.trans H;with_reducible exact H2_)|with_reducible exact H|(rw [hy169];exact H)|exact H
            have Ny169:=Aside0.mk hy169
            clear hy169
            have H':=Aside0.mk H
            clear H
            have p167 : 0 ≤ (x9_1 : Int):=of_decide_eq_true (by first|(with_reducible assumption)|assumption)
            have q167 : x9_1 < (l1.length : Int):=of_decide_eq_true (by first|(with_reducible assumption)|assumption)
            obtain ⟨ad167,e167,hx167_0⟩:=Kd.at_int HR1.out x9_1 p167 q167
            cases e167
            replace hx167_0:=(HB.out.cell (World.block_lt_of_cell? w _ hx167_0)).trans hx167_0
            replace p167:=eq_true p167
            replace q167:=eq_true q167
            have p27 : 0 ≤ (x9_1 : Int):=of_decide_eq_true (by first|(with_reducible assumption)|assumption)
            have q27 : (x9_1 : Int) < ((x7_1.length : Int) : Int):=of_decide_eq_true (by first|(with_reducible assumption)|assumption)
            obtain ⟨go27,co27,eo27,gb27,gl27,cl27,HG27⟩:=Kd.R_form HO_7.out (by omega)
            (first|cases eo27|(injection eo27 with ea_ en_ ec_;(first|subst ea_|(injection ea_ with ea_;subst ea_));subst ec_;clear en_))
            have GB27:=Aside0.mk gb27
            have GG27:=Aside0.mk HG27
            clear gb27 gl27 HG27
            obtain ⟨hx27_0,hf27_0⟩:=Kd.R_celln false HO_7.out (x9_1 : Int) p27 q27
            replace p27:=eq_true p27
            replace q27:=eq_true q27
            have HP29:=Kd.R_putg HO_7.out (x9_1 : Int) true
            go_wp2_with (first|((with_reducible refine gate_store (t:=4) (p:=39) rfl ?_);refine store_event (t:=4) (p:=39) (v:=?vo_w30) (w1:=(wr.setCell ⟨go27,(x9_1 : Int).toNat,none⟩ (.bool true))) ?hg ?ho ?hn ?hr ?_;(case ho=>rfl);(case hg=>rfl);(case hn=>rfl);(case hr=>first|(go_simp;done)|(go_simp;rfl));intro w30 hw;have hg : wr.grownBy w30 (some go27):=(by rw [hw];exact HP29.2);have hp_ : Kd.R Kd.bool 4 w30 w.heap.size (fun _=>True) (.slice (some ⟨go27,0,none⟩) x7_1.length co27) y168:=(by rw [hw,Ny168.out];exact HP29.1);clear HP29;have n0_:=Aside0.mk (hp_);have n1_:=Aside0.mk (Kd.R_over' (v:=(.slice (some ⟨go27,0,none⟩) x7_1.length co27)) (by (with_reducible repeat (first|apply Kd.R_alloc|apply Kd.R_drewN|apply Kd.R_drew));exact HO_8.out) (Kd.R_typed HO_7.out) (by decide) hg);have n2_:=Aside0.mk ((by rw [hw];exact below_set (HB.out) GB27.out : Below w.heap.size w w30));clear HO_7;clear HO_8;clear HB;have HO_7:=n0_;have HO_8:=n1_;have HB:=n2_;clear n0_ n1_ n2_;clear hg hw hp_)|((with_reducible refine gate_builtin (b:=.append) (xs:=#[.tmp 40,.tmp 42]) rfl ?_);at_builtin;refine Kd.R_append (Kd.int .i64) (w0:=w) w.heap.size rfl (.tmp 40) (.tmp 42) 22 2 (.int .i64 0) 8 rfl Tryd.underlying22 info2 rfl (by decide) (by omega) u8 x8_1 x9_1 [.int .i64 x9_1] (fun _=>True) (fun _=>False) rfl rfl ?aP (fun _ hk=>hk.elim) ?aF ?aO ?aB ?aS ?aL ?_;(case aP=>exact rfl);(case aB=>exact (by repeat (first|(with_reducible first|exact HB.out|apply below_alloc|apply pw_below_drewN|apply below_drew1)|exact HB.out)));(case aF=>exact (fun _ _=>trivial));(case aO=>exact (by (with_reducible repeat (first|apply Kd.R_alloc|apply Kd.R_drewN|apply Kd.R_drew));exact HO_8.out));(case aS=>exact (below_size (by repeat (first|(with_reducible first|exact HB.out|apply below_alloc|apply pw_below_drewN|apply below_drew1)|exact HB.out))));(case aL=>have:=LMc28.out;omega);intro v170 w31 ho hb hg hat;rw [← Ny169.out] at ho;have n0_:=Aside0.mk (Kd.R_over' (by (with_reducible repeat (first|apply Kd.R_alloc|apply Kd.R_drewN|apply Kd.R_drew));exact HO_7.out) (Kd.R_typed (by (with_reducible repeat (first|apply Kd.R_alloc|apply Kd.R_drewN|apply Kd.R_drew));exact HO_8.out)) (by decide) hg);have n1_:=Aside0.mk (hb);have n2_:=Aside0.mk (ho);clear HO_7;clear HB;clear HO_8;have HO_7:=n0_;have HB:=n1_;have HO171:=n2_;clear n0_ n1_ n2_;clear ho hb hg hat))
            go_roundg k1
            case measure=>have:=HK1.out;omega
            case rel=>exact ⟨(y168),(y169),(wrap64 (x9_1 + 1)),(by first|rfl|(simp;done)|(simp [*];done)),H',⟨by have:=HK1.out;omega⟩,⟨by (with_reducible repeat (first|apply Kd.R_alloc|apply Kd.R_drewN|apply Kd.R_drew));exact HO_7.out⟩,⟨by (with_reducible repeat (first|apply Kd.R_alloc|apply Kd.R_drewN|apply Kd.R_drew));exact HO171.out⟩,⟨by repeat (first|(with_reducible first|exact HB.out|apply below_alloc|apply pw_below_drewN|apply below_drew1)|exact HB.out)⟩⟩
           ·rw [if_neg c28] at H
            exact absurd H (by simp)
          ·rw [if_neg c26] at H
           exact absurd H (by simp)
         ·rw [if_neg c25] at H
          have c25b0 : ((rd l1 x9_1) == a2) = false:=beq_eq_false_iff_ne.mpr c25
          have c25b1 : ((rd l1 x9_1) != a2) = true:=bne_iff_ne.mpr c25
          have H':=Aside0.mk H
          clear H
          have p167 : 0 ≤ (x9_1 : Int):=of_decide_eq_true (by first|(with_reducible assumption)|assumption)
          have q167 : x9_1 < (l1.length : Int):=of_decide_eq_true (by first|(with_reducible assumption)|assumption)
          obtain ⟨ad167,e167,hx167_0⟩:=Kd.at_int HR1.out x9_1 p167 q167
          cases e167
          replace hx167_0:=(HB.out.cell (World.block_lt_of_cell? w _ hx167_0)).trans hx167_0
          replace p167:=eq_true p167
          replace q167:=eq_true q167
          go_wp2
          go_roundg k1
          case measure=>have:=HK1.out;omega
          case rel=>exact ⟨(x7_1),(x8_1),(wrap64 (x9_1 + 1)),(by first|rfl|(simp;done)|(simp [*];done)),H',⟨by have:=HK1.out;omega⟩,⟨by (with_reducible repeat (first|apply Kd.R_alloc|apply Kd.R_drewN|apply Kd.R_drew));exact HO_7.out⟩,⟨by (with_reducible repeat (first|apply Kd.R_alloc|apply Kd.R_drewN|apply Kd.R_drew));exact HO_8.out⟩,⟨by repeat (first|(with_reducible first|exact HB.out|apply below_alloc|apply pw_below_drewN|apply below_drew1)|exact HB.out)⟩⟩
        ·rw [if_neg c24] at H
         exact absurd H (by simp)
       ·rw [if_neg c23] at H
        exact absurd H (by simp)
     ·rw [if_neg c11] at H
      have c11b0 : decide (x9_1 < a0) = false:=decide_eq_false c11
      clear c11
      have H':=Aside0.mk H
      clear H
      go_wp2
      go_loopg [8,11] k1 (fun kq v8 v11 w'=>∃ (x7_2 : List Bool) (x8_2 : List Int) (x11_2 : Int),v11 = .int .i64 x11_2 ∧ Aside0 (spec_l06Joins.l1 kq a0 l1 a2 x7_2 x8_2 x11_2 = some r) ∧ Aside0 (kq ≤ k1) ∧ Aside0 (Kd.R Kd.bool 4 w' w.heap.size (fun _=>True) v157 x7_2) ∧ Aside0 (Kd.R (Kd.int .i64) 2 w' w.heap.size (fun _=>True) v8 x8_2) ∧ Aside0 (Below w.heap.size w w'))
      case atStart=>exact ⟨(x7_1),(x8_1),(0),(by first|rfl|(simp;done)|(simp [*];done)),H',⟨Nat.le_refl _⟩,⟨by (with_reducible repeat (first|apply Kd.R_alloc|apply Kd.R_drewN|apply Kd.R_drew));exact HO_7.out⟩,⟨by (with_reducible repeat (first|apply Kd.R_alloc|apply Kd.R_drewN|apply Kd.R_drew));exact HO_8.out⟩,⟨by repeat (first|(with_reducible first|exact HB.out|apply below_alloc|apply pw_below_drewN|apply below_drew1)|exact HB.out)⟩⟩
      case round =>
       clear H'
       try clear c1
       try clear p1
       try clear q1
       try clear hx1
       try clear c2
       try clear p2
       try clear q2
       try clear hx2
       try clear c4
       try clear c5
       try clear c5b0
       try clear c5b1
       try clear c6
       try clear c6b0
       try clear c6b1
       try clear p6
       try clear c11
       try clear c11b0
       try clear c12
       try clear c12b0
       try clear c12b1
       try clear c14
       try clear c14b0
       try clear c15
       try clear c15b0
       try clear c16
       try clear c16b0
       try clear c16b1
       try clear p16
       try clear q16
       try clear hx16
       try clear c17
       try clear c17b0
       try clear p18
       try clear q18
       try clear hx18
       try clear hf18
       try clear c19
       try clear c23
       try clear c23b0
       try clear c24
       try clear c24b0
       try clear c25
       try clear c25b0
       try clear c25b1
       try clear c26
       try clear c26b0
       try clear p27
       try clear q27
       try clear hx27
       try clear hf27
       try clear c28
       try clear hx162_0
       try clear hx167_0
       try clear hx18_0
       try clear hx27_0
       try clear p162
       try clear p167
       try clear p18
       try clear p2
       try clear p27
       try clear p6
       try clear q162
       try clear q167
       try clear q18
       try clear q27
       obtain ⟨x7_2,x8_2,x11_2,rfl,HA,HK2,HO_7,HO_8,HB⟩:=hrel
       cases gk with
       | zero => exact absurd HA.out (by simp [spec_l06Joins.l1])
       | succ k2 =>
        have H:=HA.out
        clear HA
        simp only [spec_l06Joins.l1] at H
        by_cases c32 : x11_2 < (x8_2.length : Int)
        ·rw [if_pos c32] at H
         have c32b0 : decide (x11_2 < (x8_2.length : Int)) = true:=decide_eq_true c32
         clear c32
         by_cases c33 : 0 ≤ x11_2
         ·rw [if_pos c33] at H
          have c33b0 : decide (0 ≤ x11_2) = true:=decide_eq_true c33
          clear c33
          have HC34:=Aside0.mk H
          clear H
          obtain ⟨Ao35,co35,eo35⟩:=Kd.R_slice HO_8.out
          subst eo35
          have p172 : 0 ≤ (x11_2 : Int):=of_decide_eq_true (by first|(with_reducible assumption)|assumption)
          have q172 : x11_2 < (x8_2.length : Int):=of_decide_eq_true (by first|(with_reducible assumption)|assumption)
          obtain ⟨ad172,e172,hx172_0⟩:=Kd.at_int (Kd.R_reads' HO_8.out).2.2 x11_2 p172 q172
          cases e172
          replace p172:=eq_true p172
          replace q172:=eq_true q172
          go_upto_region 15 with (fail)
          go_cut [75] (fun v75 wc=>∃ (kq : Nat) (x75_33 : Bool),v75 = .bool x75_33 ∧ Aside0 (spec_l06Joins.j2 kq a0 l1 a2 x7_2 x8_2 x11_2 (rd x8_2 x11_2) x75_33 = some r) ∧ Aside0 (kq ≤ k2) ∧ Aside0 (Kd.R Kd.bool 4 wc w.heap.size (fun _=>True) v157 x7_2) ∧ Aside0 (Kd.R (Kd.int .i64) 2 wc w.heap.size (fun _=>True) (.slice (some ad172) x8_2.length co35) x8_2) ∧ Aside0 (Below w.heap.size w wc))
          case first =>
           have H:=HC34.out
           clear HC34
           by_cases c36 : a2 = 1
           ·rw [if_pos c36] at H
            have c36b0 : (a2 == 1) = true:=beq_iff_eq.mpr c36
            have c36b1 : (a2 != 1) = false:=bne_eq_false_iff_eq.mpr c36
            clear c36
            (first|rw [c36b0]|(simp only [i64_w,i32_w];rw [c36b0])|skip)
            by_cases c37 : a0 = 0
            ·rw [if_pos c37] at H
             exact absurd H (by simp)
            ·rw [if_neg c37] at H
             have c37b0 : (a0 == 0) = false:=beq_eq_false_iff_ne.mpr c37
             have c37b1 : (a0 != 0) = true:=bne_iff_ne.mpr c37
             by_cases c38 : (wrap64 (Int.tdiv (rd x8_2 x11_2) a0)) = (wrap64 (a0 - 1))
             ·rw [if_pos c38] at H
              have c38b0 : ((wrap64 (Int.tdiv (rd x8_2 x11_2) a0)) == (wrap64 (a0 - 1))) = true:=beq_iff_eq.mpr c38
              have c38b1 : ((wrap64 (Int.tdiv (rd x8_2 x11_2) a0)) != (wrap64 (a0 - 1))) = false:=bne_eq_false_iff_eq.mpr c38
              clear c38
              have H':=Aside0.mk H
              clear H
              go_wp2
              go_meet
              case rel=>exact ⟨_,(true),(by first|rfl|(simp;done)|(simp [*];done)),H',⟨by have:=HK1.out;have:=HK2.out;first|omega|exact Nat.le_refl _⟩,⟨by (with_reducible repeat (first|apply Kd.R_alloc|apply Kd.R_drewN|apply Kd.R_drew));exact HO_7.out⟩,⟨by (with_reducible repeat (first|apply Kd.R_alloc|apply Kd.R_drewN|apply Kd.R_drew));exact HO_8.out⟩,⟨by repeat (first|(with_reducible first|exact HB.out|apply below_alloc|apply pw_below_drewN|apply below_drew1)|exact HB.out)⟩⟩
             ·rw [if_neg c38] at H
              have c38b0 : ((wrap64 (Int.tdiv (rd x8_2 x11_2) a0)) == (wrap64 (a0 - 1))) = false:=beq_eq_false_iff_ne.mpr c38
              have c38b1 : ((wrap64 (Int.tdiv (rd x8_2 x11_2) a0)) != (wrap64 (a0 - 1))) = true:=bne_iff_ne.mpr c38
              by_cases c39 : a2 = 2
              ·rw [if_pos c39] at H
               have c39b0 : (a2 == 2) = true:=beq_iff_eq.mpr c39
               have c39b1 : (a2 != 2) = false:=bne_eq_false_iff_eq.mpr c39
               clear c39
               have H':=Aside0.mk H
               clear H
               go_wp2
               go_meet
               case rel=>exact ⟨_,(((Int.tmod (rd x8_2 x11_2) a0) == (wrap64 (a0 - 1)))),(by first|rfl|(simp;done)|(simp [*];done)),H',⟨by have:=HK1.out;have:=HK2.out;first|omega|exact Nat.le_refl _⟩,⟨by (with_reducible repeat (first|apply Kd.R_alloc|apply Kd.R_drewN|apply Kd.R_drew));exact HO_7.out⟩,⟨by (with_reducible repeat (first|apply Kd.R_alloc|apply Kd.R_drewN|apply Kd.R_drew));exact HO_8.out⟩,⟨by repeat (first|(with_reducible first|exact HB.out|apply below_alloc|apply pw_below_drewN|apply below_drew1)|exact HB.out)⟩⟩
              ·rw [if_neg c39] at H
               have c39b0 : (a2 == 2) = false:=beq_eq_false_iff_ne.mpr c39
               have c39b1 : (a2 != 2) = true:=bne_iff_ne.mpr c39
               have H':=Aside0.mk H
               clear H
               go_wp2
               go_meet
               case rel=>exact ⟨_,(false),(by first|rfl|(simp;done)|(simp [*];done)),H',⟨by have:=HK1.out;have:=HK2.out;first|omega|exact Nat.le_refl _⟩,⟨by (with_reducible repeat (first|apply Kd.R_alloc|apply Kd.R_drewN|apply Kd.R_drew));exact HO_7.out⟩,⟨by (with_reducible repeat (first|apply Kd.R_alloc|apply Kd.R_drewN|apply Kd.R_drew));exact HO_8.out⟩,⟨by repeat (first|(with_reducible first|exact HB.out|apply below_alloc|apply pw_below_drewN|apply below_drew1)|exact HB.out)⟩⟩
           ·rw [if_neg c36] at H
            have c36b0 : (a2 == 1) = false:=beq_eq_false_iff_ne.mpr c36
            have c36b1 : (a2 != 1) = true:=bne_iff_ne.mpr c36
            (first|rw [c36b0]|(simp only [i64_w,i32_w];rw [c36b0])|skip)
            by_cases c40 : a2 = 2
            ·rw [if_pos c40] at H
             have c40b0 : (a2 == 2) = true:=beq_iff_eq.mpr c40
             have c40b1 : (a2 != 2) = false:=bne_eq_false_iff_eq.mpr c40
             clear c40
             by_cases c41 : a0 = 0
             ·rw [if_pos c41] at H
              exact absurd H (by simp)
             ·rw [if_neg c41] at H
              have c41b0 : (a0 == 0) = false:=beq_eq_false_iff_ne.mpr c41
              have c41b1 : (a0 != 0) = true:=bne_iff_ne.mpr c41
              have H':=Aside0.mk H
              clear H
              go_wp2
              go_meet
              case rel=>exact ⟨_,(((Int.tmod (rd x8_2 x11_2) a0) == (wrap64 (a0 - 1)))),(by first|rfl|(simp;done)|(simp [*];done)),H',⟨by have:=HK1.out;have:=HK2.out;first|omega|exact Nat.le_refl _⟩,⟨by (with_reducible repeat (first|apply Kd.R_alloc|apply Kd.R_drewN|apply Kd.R_drew));exact HO_7.out⟩,⟨by (with_reducible repeat (first|apply Kd.R_alloc|apply Kd.R_drewN|apply Kd.R_drew));exact HO_8.out⟩,⟨by repeat (first|(with_reducible first|exact HB.out|apply below_alloc|apply pw_below_drewN|apply below_drew1)|exact HB.out)⟩⟩
            ·rw [if_neg c40] at H
             have c40b0 : (a2 == 2) = false:=beq_eq_false_iff_ne.mpr c40
             have c40b1 : (a2 != 2) = true:=bne_iff_ne.mpr c40
             have H':=Aside0.mk H
             clear H
             go_wp2
             go_meet
             case rel=>exact ⟨_,(false),(by first|rfl|(simp;done)|(simp [*];done)),H',⟨by have:=HK1.out;have:=HK2.out;first|omega|exact Nat.le_refl _⟩,⟨by (with_reducible repeat (first|apply Kd.R_alloc|apply Kd.R_drewN|apply Kd.R_drew));exact HO_7.out⟩,⟨by (with_reducible repeat (first|apply Kd.R_alloc|apply Kd.R_drewN|apply Kd.R_drew));exact HO_8.out⟩,⟨by repeat (first|(with_reducible first|exact HB.out|apply below_alloc|apply pw_below_drewN|apply below_drew1)|exact HB.out)⟩⟩
          case rest =>
           clear HC34
           try clear c1
           try clear p1
           try clear q1
           try clear hx1
           try clear c2
           try clear p2
           try clear q2
           try clear hx2
           try clear c3
           try clear c4
           try clear c5
           try clear c5b0
           try clear c5b1
           try clear c6
           try clear c6b0
           try clear c6b1
           try clear p6
           try clear c11
           try clear c11b0
           try clear c12
           try clear c12b0
           try clear c12b1
           try clear c14
           try clear c14b0
           try clear c15
           try clear c15b0
           try clear c16
           try clear c16b0
           try clear c16b1
           try clear p16
           try clear q16
           try clear hx16
           try clear c17
           try clear c17b0
           try clear p17
           try clear q17
           try clear hx17
           try clear p18
           try clear q18
           try clear hx18
           try clear hf18
           try clear c19
           try clear c23
           try clear c23b0
           try clear c24
           try clear c24b0
           try clear c25
           try clear c25b0
           try clear c25b1
           try clear c26
           try clear c26b0
           try clear p27
           try clear q27
           try clear hx27
           try clear hf27
           try clear c28
           try clear c32
           try clear c32b0
           try clear c33
           try clear c33b0
           try clear c36
           try clear c36b0
           try clear c36b1
           try clear c37
           try clear c37b0
           try clear c37b1
           try clear c38
           try clear c38b0
           try clear c38b1
           try clear c39
           try clear c39b0
           try clear c39b1
           try clear c40
           try clear c40b0
           try clear c40b1
           try clear c41
           try clear c41b0
           try clear c41b1
           try clear hx162_0
           try clear hx167_0
           try clear hx172_0
           try clear hx18_0
           try clear hx27_0
           try clear p1
           try clear p16
           try clear p162
           try clear p167
           try clear p172
           try clear p18
           try clear p2
           try clear p27
           try clear p6
           try clear q1
           try clear q16
           try clear q162
           try clear q167
           try clear q172
           try clear q18
           try clear q2
           try clear q27
           obtain ⟨kq,x75_33,rfl,HA,HJ33,HO_7,HO_8,HB⟩:=hcut
           cases kq with
           | zero => exact absurd HA.out (by simp [spec_l06Joins.j2])
           | succ kj33 =>
            have H:=HA.out
            clear HA
            simp only [spec_l06Joins.j2] at H
            by_cases c42 : x75_33 = true
            ·subst c42
             have H1 : (some true) = some r:=by rw [if_pos rfl] at H;exact H
             clear H
             have H:=H1
             clear H1
             obtain rfl:=Option.some.inj H
             go_wp2
             go_ret
             exact ⟨by first|rfl|(simp [errW_none,errW_some] <;> rfl)|(simp only [← hji4];first|rfl|(simp [errW_none,errW_some] <;> rfl))|(simp [*,errW_none,errW_some] <;> rfl),by repeat (first|(with_reducible first|exact HB.out|apply below_alloc|apply pw_below_drewN|apply below_drew1)|exact HB.out)⟩
            ·replace c42:=Bool.eq_false_iff.mpr c42
             subst c42
             have H1 : ((spec_l06Near.f kj33 a0 (rd x8_2 x11_2)).bind fun t173=>(spec_l06Joins.l2 kj33 a0 l1 a2 x7_2 x8_2 x11_2 t173 0)) = some r:=by rw [if_neg (show ¬ (false = true) by decide)] at H;exact H
             clear H
             have H:=H1
             clear H1
             replace H:=Option.bind_eq_some_iff.mp H
             obtain ⟨t173,A430,H⟩:=H
             replace H : (spec_l06Joins.l2 kj33 a0 l1 a2 x7_2 x8_2 x11_2 t173 0) = some r:=H
             have A43:=Aside0.mk A430
             clear A430
             have H':=Aside0.mk H
             clear H
             go_wp2_with (first|((with_reducible refine gate_callee (f:=47) rfl ?_);refine goesL_ (some 78) rfl rfl Tryd.func47 (by kernel_rfl) rfl #[.int .i64 a0,.int .i64 (rd x8_2 x11_2)] rfl (by (try simp only [List.map_toArray,List.map_cons,List.map_nil]);first|done|rfl|(simp only [List.length_drop,List.length_take];rfl)) ?_;(with_reducible refine (spec_l06Near.calls kj33 a0 (rd x8_2 x11_2) t173 _ A43.out).mono ?_);rintro e w44 ⟨v174,rfl,ho0,hb⟩;refine ⟨_,rfl,?_⟩;have n0_:=Aside0.mk (Kd.R_below (by (with_reducible repeat (first|apply Kd.R_alloc|apply Kd.R_drewN|apply Kd.R_drew));exact HO_7.out) hb);have n1_:=Aside0.mk (Kd.R_elder' (by (with_reducible repeat (first|apply Kd.R_alloc|apply Kd.R_drewN|apply Kd.R_drew));exact HO_8.out) (Kd.R_base ho0) hb);have n2_:=Aside0.mk (Kd.R_lower (Kd.R_new' ho0 (Kd.R_lt (by (with_reducible repeat (first|apply Kd.R_alloc|apply Kd.R_drewN|apply Kd.R_drew));exact HO_8.out))) (below_size (by repeat (first|(with_reducible first|exact HB.out|apply below_alloc|apply pw_below_drewN|apply below_drew1)|exact HB.out))));have n3_:=Aside0.mk (below_step (by repeat (first|(with_reducible first|exact HB.out|apply below_alloc|apply pw_below_drewN|apply below_drew1)|exact HB.out)) hb);clear HO_7;clear HO_8;clear HB;have HO_7:=n0_;have HO_8:=n1_;have HO175:=n2_;have HB:=n3_;clear n0_ n1_ n2_ n3_;(try clear hb);(try clear hb2);(try clear hk);(try clear hi);(try clear ho0)))
             go_loopg [8,14] kj33 (fun kq v8 v14 w'=>∃ (x7_4 : List Bool) (x8_4 : List Int) (x14_4 : Int),v14 = .int .i64 x14_4 ∧ Aside0 (spec_l06Joins.l2 kq a0 l1 a2 x7_4 x8_4 x11_2 t173 x14_4 = some r) ∧ Aside0 (kq ≤ kj33) ∧ Aside0 (Kd.R Kd.bool 4 w' w.heap.size (fun _=>True) v157 x7_4) ∧ Aside0 (Kd.R (Kd.int .i64) 2 w' w.heap.size (fun k_=>some k_ ≠ (v174 : Value).ownBlock) v8 x8_4) ∧ Aside0 (Kd.R (Kd.int .i64) 2 w' w.heap.size (fun k_=>some k_ ≠ (v8 : Value).ownBlock) v174 t173) ∧ Aside0 (Below w.heap.size w w'))
             case atStart=>exact ⟨(x7_2),(x8_2),(0),(by first|rfl|(simp;done)|(simp [*];done)),H',⟨Nat.le_refl _⟩,⟨by (with_reducible repeat (first|apply Kd.R_alloc|apply Kd.R_drewN|apply Kd.R_drew));exact HO_7.out⟩,⟨by (with_reducible repeat (first|apply Kd.R_alloc|apply Kd.R_drewN|apply Kd.R_drew));exact Kd.R_mono HO_8.out (fun _ hk=>hk.2)⟩,⟨by (with_reducible repeat (first|apply Kd.R_alloc|apply Kd.R_drewN|apply Kd.R_drew));exact Kd.R_mono HO175.out (fun _ hk=>hk.2)⟩,⟨by repeat (first|(with_reducible first|exact HB.out|apply below_alloc|apply pw_below_drewN|apply below_drew1)|exact HB.out)⟩⟩
             case round =>
              clear H'
              try clear c1
              try clear p1
              try clear q1
              try clear hx1
              try clear c2
              try clear p2
              try clear q2
              try clear hx2
              try clear c3
              try clear c4
              try clear c5
              try clear c5b0
              try clear c5b1
              try clear c6
              try clear c6b0
              try clear c6b1
              try clear p6
              try clear c11
              try clear c11b0
              try clear c12
              try clear c12b0
              try clear c12b1
              try clear c14
              try clear c14b0
              try clear c15
              try clear c15b0
              try clear c16
              try clear c16b0
              try clear c16b1
              try clear p16
              try clear q16
              try clear hx16
              try clear c17
              try clear c17b0
              try clear p17
              try clear q17
              try clear hx17
              try clear p18
              try clear q18
              try clear hx18
              try clear hf18
              try clear c19
              try clear c23
              try clear c23b0
              try clear c24
              try clear c24b0
              try clear c25
              try clear c25b0
              try clear c25b1
              try clear c26
              try clear c26b0
              try clear p27
              try clear q27
              try clear hx27
              try clear hf27
              try clear c28
              try clear c32
              try clear c32b0
              try clear c33
              try clear c33b0
              try clear c36
              try clear c36b0
              try clear c36b1
              try clear c37
              try clear c37b0
              try clear c37b1
              try clear c38
              try clear c38b0
              try clear c38b1
              try clear c39
              try clear c39b0
              try clear c39b1
              try clear c40
              try clear c40b0
              try clear c40b1
              try clear c41
              try clear c41b0
              try clear c41b1
              try clear c42
              try clear hx162_0
              try clear hx167_0
              try clear hx172_0
              try clear hx18_0
              try clear hx27_0
              try clear p1
              try clear p16
              try clear p162
              try clear p167
              try clear p17
              try clear p172
              try clear p18
              try clear p2
              try clear p27
              try clear p6
              try clear q1
              try clear q16
              try clear q162
              try clear q167
              try clear q17
              try clear q172
              try clear q18
              try clear q2
              try clear q27
              obtain ⟨x7_4,x8_4,x14_4,rfl,HA,HK4,HO_7,HO_8,HO_13,HB⟩:=hrel
              cases gk with
              | zero => exact absurd HA.out (by simp [spec_l06Joins.l2])
              | succ k4 =>
               have H:=HA.out
               clear HA
               simp only [spec_l06Joins.l2] at H
               by_cases c45 : x14_4 < (t173.length : Int)
               ·rw [if_pos c45] at H
                have c45b0 : decide (x14_4 < (t173.length : Int)) = true:=decide_eq_true c45
                clear c45
                by_cases c46 : 0 ≤ x14_4
                ·rw [if_pos c46] at H
                 have c46b0 : decide (0 ≤ x14_4) = true:=decide_eq_true c46
                 clear c46
                 by_cases c47 : 0 ≤ (rd t173 x14_4)
                 ·rw [if_pos c47] at H
                  have c47b0 : decide (0 ≤ (rd t173 x14_4)) = true:=decide_eq_true c47
                  clear c47
                  by_cases c48 : (rd t173 x14_4) < (x7_4.length : Int)
                  ·rw [if_pos c48] at H
                   have c48b0 : decide ((rd t173 x14_4) < (x7_4.length : Int)) = true:=decide_eq_true c48
                   clear c48
                   obtain ⟨bq49,hbq49⟩ : ∃ b_ : Bool,b_ = (rdOf false x7_4 (rd t173 x14_4)):=⟨_,rfl⟩
                   replace H : (if (bq49 = true) then (spec_l06Joins.l2 k4 a0 l1 a2 x7_4 x8_4 x11_2 t173 (wrap64 (x14_4 + 1))) else (if (rd t173 x14_4) < (l1.length : Int) then (if (rd l1 (rd t173 x14_4)) = a2 then (if x8_4.length < 17592186044416 then (spec_l06Joins.l2 k4 a0 l1 a2 (x7_4.set ((rd t173 x14_4) : Int).toNat true) (x8_4 ++ [rd t173 x14_4]) x11_2 t173 (wrap64 (x14_4 + 1))) else (none)) else (spec_l06Joins.l2 k4 a0 l1 a2 x7_4 x8_4 x11_2 t173 (wrap64 (x14_4 + 1)))) else (none))) = some r:=by rw [← hbq49] at H;exact H
                   have Nbq49:=Aside0.mk hbq49
                   clear hbq49
                   by_cases c50 : (bq49 = true)
                   ·subst c50
                    have H1 : (spec_l06Joins.l2 k4 a0 l1 a2 x7_4 x8_4 x11_2 t173 (wrap64 (x14_4 + 1))) = some r:=by rw [if_pos rfl] at H;exact H
                    clear H
                    have H:=H1
                    clear H1
                    have H':=Aside0.mk H
                    clear H
                    obtain ⟨Ao51,co51,eo51⟩:=Kd.R_slice HO_13.out
                    subst eo51
                    have p176 : 0 ≤ (x14_4 : Int):=of_decide_eq_true (by first|(with_reducible assumption)|assumption)
                    have q176 : x14_4 < (t173.length : Int):=of_decide_eq_true (by first|(with_reducible assumption)|assumption)
                    obtain ⟨ad176,e176,hx176_0⟩:=Kd.at_int (Kd.R_reads' HO_13.out).2.2 x14_4 p176 q176
                    cases e176
                    replace p176:=eq_true p176
                    replace q176:=eq_true q176
                    obtain ⟨Ao52,co52,eo52⟩:=Kd.R_slice HO_7.out
                    subst eo52
                    have p177 : 0 ≤ ((rd t173 x14_4) : Int):=of_decide_eq_true (by first|(with_reducible assumption)|assumption)
                    have q177 : (rd t173 x14_4) < (x7_4.length : Int):=of_decide_eq_true (by first|(with_reducible assumption)|assumption)
                    obtain ⟨ad177,e177,hx177_0⟩:=Kd.at_bool (Kd.R_reads' HO_7.out).2.2 (rd t173 x14_4) p177 q177
                    (try rw [← Nbq49.out] at hx177_0)
                    cases e177
                    replace p177:=eq_true p177
                    replace q177:=eq_true q177
                    go_wp2
                    go_roundg k4
                    case measure=>have:=HK1.out;have:=HK2.out;have:=HJ33.out;have:=HK4.out;omega
                    case rel=>exact ⟨(x7_4),(x8_4),(wrap64 (x14_4 + 1)),(by first|rfl|(simp;done)|(simp [*];done)),H',⟨by have:=HK1.out;have:=HK2.out;have:=HJ33.out;have:=HK4.out;omega⟩,⟨by (with_reducible repeat (first|apply Kd.R_alloc|apply Kd.R_drewN|apply Kd.R_drew));exact HO_7.out⟩,⟨by (with_reducible repeat (first|apply Kd.R_alloc|apply Kd.R_drewN|apply Kd.R_drew));exact HO_8.out⟩,⟨by (with_reducible repeat (first|apply Kd.R_alloc|apply Kd.R_drewN|apply Kd.R_drew));exact HO_13.out⟩,⟨by repeat (first|(with_reducible first|exact HB.out|apply below_alloc|apply pw_below_drewN|apply below_drew1)|exact HB.out)⟩⟩
                   ·replace c50:=Bool.eq_false_iff.mpr c50
                    subst c50
                    have H1 : (if (rd t173 x14_4) < (l1.length : Int) then (if (rd l1 (rd t173 x14_4)) = a2 then (if x8_4.length < 17592186044416 then (spec_l06Joins.l2 k4 a0 l1 a2 (x7_4.set ((rd t173 x14_4) : Int).toNat true) (x8_4 ++ [rd t173 x14_4]) x11_2 t173 (wrap64 (x14_4 + 1))) else (none)) else (spec_l06Joins.l2 k4 a0 l1 a2 x7_4 x8_4 x11_2 t173 (wrap64 (x14_4 + 1)))) else (none)) = some r:=by rw [if_neg (show ¬ (false = true) by decide)] at H;exact H
                    clear H
                    have H:=H1
                    clear H1
                    by_cases c53 : (rd t173 x14_4) < (l1.length : Int)
                    ·rw [if_pos c53] at H
                     have c53b0 : decide ((rd t173 x14_4) < (l1.length : Int)) = true:=decide_eq_true c53
                     clear c53
                     by_cases c54 : (rd l1 (rd t173 x14_4)) = a2
                     ·rw [if_pos c54] at H
                      have c54b0 : ((rd l1 (rd t173 x14_4)) == a2) = true:=beq_iff_eq.mpr c54
                      have c54b1 : ((rd l1 (rd t173 x14_4)) != a2) = false:=bne_eq_false_iff_eq.mpr c54
                      clear c54
                      obtain ⟨y181,hy181⟩ : ∃ y_ : List Bool,y_ = (x7_4.set ((rd t173 x14_4) : Int).toNat true):=⟨_,rfl⟩
                      replace H : (if x8_4.length < 17592186044416 then (spec_l06Joins.l2 k4 a0 l1 a2 y181 (x8_4 ++ [rd t173 x14_4]) x11_2 t173 (wrap64 (x14_4 + 1))) else (none)) = some r:=by first|(rw [hy181];with_reducible exact H)|(have H2_:=(Option.bind_some _ _).symm.trans H;rw [hy181];with_reducible exact H2_)|(have H2_:=(Option.bind_some _ _).symm.trans H;with_reducible exact H2_)|with_reducible exact H|(rw [hy181];exact H)|exact H
                      have Ny181:=Aside0.mk hy181
                      clear hy181
                      by_cases c56 : x8_4.length < 17592186044416
                      ·rw [if_pos c56] at H
                       have LMc56:=Aside0.mk c56
                       clear c56
                       obtain ⟨y183,hy183⟩ : ∃ y_ : List Int,y_ = (x8_4 ++ [rd t173 x14_4]):=⟨_,rfl⟩
                       replace H : (spec_l06Joins.l2 k4 a0 l1 a2 y181 y183 x11_2 t173 (wrap64 (x14_4 + 1))) = some r:=by first|(rw [hy183];with_reducible exact H)|(have H2_:=(Option.bind_some _ _).symm.trans H;rw [hy183];with_reducible exact H2_)|(have H2_:=(Option.bind_some _ _).symm.trans H;with_reducible exact H2_)|with_reducible exact H|(rw [hy183];exact H)|exact H
                       have Ny183:=Aside0.mk hy183
                       clear hy183
                       have H':=Aside0.mk H
                       clear H
                       obtain ⟨Ao57,co57,eo57⟩:=Kd.R_slice HO_13.out
                       subst eo57
                       have p176 : 0 ≤ (x14_4 : Int):=of_decide_eq_true (by first|(with_reducible assumption)|assumption)
                       have q176 : x14_4 < (t173.length : Int):=of_decide_eq_true (by first|(with_reducible assumption)|assumption)
                       obtain ⟨ad176,e176,hx176_0⟩:=Kd.at_int (Kd.R_reads' HO_13.out).2.2 x14_4 p176 q176
                       cases e176
                       replace p176:=eq_true p176
                       replace q176:=eq_true q176
                       obtain ⟨Ao58,co58,eo58⟩:=Kd.R_slice HO_7.out
                       subst eo58
                       have p177 : 0 ≤ ((rd t173 x14_4) : Int):=of_decide_eq_true (by first|(with_reducible assumption)|assumption)
                       have q177 : (rd t173 x14_4) < (x7_4.length : Int):=of_decide_eq_true (by first|(with_reducible assumption)|assumption)
                       obtain ⟨ad177,e177,hx177_0⟩:=Kd.at_bool (Kd.R_reads' HO_7.out).2.2 (rd t173 x14_4) p177 q177
                       (try rw [← Nbq49.out] at hx177_0)
                       cases e177
                       replace p177:=eq_true p177
                       replace q177:=eq_true q177
                       have p178 : 0 ≤ (x14_4 : Int):=of_decide_eq_true (by first|(with_reducible assumption)|assumption)
                       have q178 : x14_4 < (t173.length : Int):=of_decide_eq_true (by first|(with_reducible assumption)|assumption)
                       obtain ⟨ad178,e178,hx178_0⟩:=Kd.at_int (Kd.R_reads' HO_13.out).2.2 x14_4 p178 q178
                       obtain rfl : ad176 = ad178:=(by injection e178)
                       replace p178:=eq_true p178
                       replace q178:=eq_true q178
                       have p179 : 0 ≤ ((rd t173 x14_4) : Int):=of_decide_eq_true (by first|(with_reducible assumption)|assumption)
                       have q179 : (rd t173 x14_4) < (l1.length : Int):=of_decide_eq_true (by first|(with_reducible assumption)|assumption)
                       obtain ⟨ad179,e179,hx179_0⟩:=Kd.at_int HR1.out (rd t173 x14_4) p179 q179
                       cases e179
                       replace hx179_0:=(HB.out.cell (World.block_lt_of_cell? w _ hx179_0)).trans hx179_0
                       replace p179:=eq_true p179
                       replace q179:=eq_true q179
                       have p180 : 0 ≤ (x14_4 : Int):=of_decide_eq_true (by first|(with_reducible assumption)|assumption)
                       have q180 : x14_4 < (t173.length : Int):=of_decide_eq_true (by first|(with_reducible assumption)|assumption)
                       obtain ⟨ad180,e180,hx180_0⟩:=Kd.at_int (Kd.R_reads' HO_13.out).2.2 x14_4 p180 q180
                       obtain rfl : ad176 = ad180:=(by injection e180)
                       replace p180:=eq_true p180
                       replace q180:=eq_true q180
                       have p55 : 0 ≤ ((rd t173 x14_4) : Int):=of_decide_eq_true (by first|(with_reducible assumption)|assumption)
                       have q55 : ((rd t173 x14_4) : Int) < ((x7_4.length : Int) : Int):=of_decide_eq_true (by first|(with_reducible assumption)|assumption)
                       obtain ⟨go55,co55,eo55,gb55,gl55,cl55,HG55⟩:=Kd.R_form HO_7.out (by omega)
                       (first|cases eo55|(injection eo55 with ea_ en_ ec_;(first|subst ea_|(injection ea_ with ea_;subst ea_));subst ec_;clear en_))
                       have GB55:=Aside0.mk gb55
                       have GG55:=Aside0.mk HG55
                       clear gb55 gl55 HG55
                       (first|simp only [add_plain] at hx177_0|skip)
                       obtain ⟨hx55_0,hf55_0⟩:=Kd.R_celln false HO_7.out ((rd t173 x14_4) : Int) p55 q55
                       replace p55:=eq_true p55
                       replace q55:=eq_true q55
                       have HP59:=Kd.R_putg HO_7.out ((rd t173 x14_4) : Int) true
                       go_wp2_with (first|((with_reducible refine gate_store (t:=4) (p:=109) rfl ?_);refine store_event (t:=4) (p:=109) (v:=?vo_w60) (w1:=(wr.setCell ⟨go55,((rd t173 x14_4) : Int).toNat,none⟩ (.bool true))) ?hg ?ho ?hn ?hr ?_;(case ho=>rfl);(case hg=>rfl);(case hn=>rfl);(case hr=>first|(go_simp;done)|(go_simp;rfl));intro w60 hw;have hg : wr.grownBy w60 (some go55):=(by rw [hw];exact HP59.2);have hp_ : Kd.R Kd.bool 4 w60 w.heap.size (fun _=>True) (.slice (some ⟨go55,0,none⟩) x7_4.length co58) y181:=(by rw [hw,Ny181.out];exact HP59.1);clear HP59;have n0_:=Aside0.mk (hp_);have n1_:=Aside0.mk (Kd.R_over' (v:=(.slice (some ⟨go55,0,none⟩) x7_4.length co58)) (by (with_reducible repeat (first|apply Kd.R_alloc|apply Kd.R_drewN|apply Kd.R_drew));exact HO_8.out) (Kd.R_typed HO_7.out) (by decide) hg);have n2_:=Aside0.mk (Kd.R_over' (v:=(.slice (some ⟨go55,0,none⟩) x7_4.length co58)) (by (with_reducible repeat (first|apply Kd.R_alloc|apply Kd.R_drewN|apply Kd.R_drew));exact HO_13.out) (Kd.R_typed HO_7.out) (by decide) hg);have n3_:=Aside0.mk ((by rw [hw];exact below_set (HB.out) GB55.out : Below w.heap.size w w60));clear HO_7;clear HO_8;clear HO_13;clear HB;have HO_7:=n0_;have HO_8:=n1_;have HO_13:=n2_;have HB:=n3_;clear n0_ n1_ n2_ n3_;clear hg hw hp_;have p182 : 0 ≤ (x14_4 : Int):=of_decide_eq_true (by first|(with_reducible assumption)|assumption);have q182 : x14_4 < (t173.length : Int):=of_decide_eq_true (by first|(with_reducible assumption)|assumption);obtain ⟨ad182,e182,hx182_0⟩:=Kd.at_int (Kd.R_reads' HO_13.out).2.2 x14_4 p182 q182;obtain rfl : ad176 = ad182:=(by injection e182);replace p182:=eq_true p182;replace q182:=eq_true q182)|((with_reducible refine gate_builtin (b:=.append) (xs:=#[.tmp 110,.tmp 115]) rfl ?_);at_builtin;refine Kd.R_append (Kd.int .i64) (w0:=w) w.heap.size rfl (.tmp 110) (.tmp 115) 22 2 (.int .i64 0) 8 rfl Tryd.underlying22 info2 rfl (by decide) (by omega) u8 x8_4 (rd t173 x14_4) [.int .i64 (rd t173 x14_4)] (fun k_=>some k_ ≠ (.slice (some ad176) t173.length co57 : Value).ownBlock) (fun _=>False) rfl rfl ?aP (fun _ hk=>hk.elim) ?aF ?aO ?aB ?aS ?aL ?_;(case aP=>exact rfl);(case aB=>exact (by repeat (first|(with_reducible first|exact HB.out|apply below_alloc|apply pw_below_drewN|apply below_drew1)|exact HB.out)));(case aF=>exact (fun k_ hk=>Kd.fresh' (Kd.R_lt (by (with_reducible repeat (first|apply Kd.R_alloc|apply Kd.R_drewN|apply Kd.R_drew));exact HO_13.out)) k_ hk));(case aO=>exact (by (with_reducible repeat (first|apply Kd.R_alloc|apply Kd.R_drewN|apply Kd.R_drew));exact HO_8.out));(case aS=>exact (below_size (by repeat (first|(with_reducible first|exact HB.out|apply below_alloc|apply pw_below_drewN|apply below_drew1)|exact HB.out))));(case aL=>have:=LMc56.out;omega);intro v184 w61 ho hb hg hat;rw [← Ny183.out] at ho;have n0_:=Aside0.mk (Kd.R_over' (by (with_reducible repeat (first|apply Kd.R_alloc|apply Kd.R_drewN|apply Kd.R_drew));exact HO_7.out) (Kd.R_typed (by (with_reducible repeat (first|apply Kd.R_alloc|apply Kd.R_drewN|apply Kd.R_drew));exact HO_8.out)) (by decide) hg);have n1_:=Aside0.mk (Kd.R_after (ok:=(fun _=>True)) (by (with_reducible repeat (first|apply Kd.R_alloc|apply Kd.R_drewN|apply Kd.R_drew));exact Kd.R_mono HO_13.out (fun _ hk=>⟨trivial,hk⟩)) hg hat);have n2_:=Aside0.mk (hb);have n3_:=Aside0.mk (ho);clear HO_7;clear HO_13;clear HB;clear HO_8;have HO_7:=n0_;have HO_13:=n1_;have HB:=n2_;have HO185:=n3_;clear n0_ n1_ n2_ n3_;clear ho hb hg hat))
                       go_roundg k4
                       case measure=>have:=HK1.out;have:=HK2.out;have:=HJ33.out;have:=HK4.out;omega
                       case rel=>exact ⟨(y181),(y183),(wrap64 (x14_4 + 1)),(by first|rfl|(simp;done)|(simp [*];done)),H',⟨by have:=HK1.out;have:=HK2.out;have:=HJ33.out;have:=HK4.out;omega⟩,⟨by (with_reducible repeat (first|apply Kd.R_alloc|apply Kd.R_drewN|apply Kd.R_drew));exact HO_7.out⟩,⟨by (with_reducible repeat (first|apply Kd.R_alloc|apply Kd.R_drewN|apply Kd.R_drew));exact HO185.out⟩,⟨by (with_reducible repeat (first|apply Kd.R_alloc|apply Kd.R_drewN|apply Kd.R_drew));exact Kd.R_mono HO_13.out (fun _ hk=>hk.2)⟩,⟨by repeat (first|(with_reducible first|exact HB.out|apply below_alloc|apply pw_below_drewN|apply below_drew1)|exact HB.out)⟩⟩
                      ·rw [if_neg c56] at H
                       exact absurd H (by simp)
                     ·rw [if_neg c54] at H
                      have c54b0 : ((rd l1 (rd t173 x14_4)) == a2) = false:=beq_eq_false_iff_ne.mpr c54
                      have c54b1 : ((rd l1 (rd t173 x14_4)) != a2) = true:=bne_iff_ne.mpr c54
                      have H':=Aside0.mk H
                      clear H
                      obtain ⟨Ao62,co62,eo62⟩:=Kd.R_slice HO_13.out
                      subst eo62
                      have p176 : 0 ≤ (x14_4 : Int):=of_decide_eq_true (by first|(with_reducible assumption)|assumption)
                      have q176 : x14_4 < (t173.length : Int):=of_decide_eq_true (by first|(with_reducible assumption)|assumption)
                      obtain ⟨ad176,e176,hx176_0⟩:=Kd.at_int (Kd.R_reads' HO_13.out).2.2 x14_4 p176 q176
                      cases e176
                      replace p176:=eq_true p176
                      replace q176:=eq_true q176
                      obtain ⟨Ao63,co63,eo63⟩:=Kd.R_slice HO_7.out
                      subst eo63
                      have p177 : 0 ≤ ((rd t173 x14_4) : Int):=of_decide_eq_true (by first|(with_reducible assumption)|assumption)
                      have q177 : (rd t173 x14_4) < (x7_4.length : Int):=of_decide_eq_true (by first|(with_reducible assumption)|assumption)
                      obtain ⟨ad177,e177,hx177_0⟩:=Kd.at_bool (Kd.R_reads' HO_7.out).2.2 (rd t173 x14_4) p177 q177
                      (try rw [← Nbq49.out] at hx177_0)
                      cases e177
                      replace p177:=eq_true p177
                      replace q177:=eq_true q177
                      have p178 : 0 ≤ (x14_4 : Int):=of_decide_eq_true (by first|(with_reducible assumption)|assumption)
                      have q178 : x14_4 < (t173.length : Int):=of_decide_eq_true (by first|(with_reducible assumption)|assumption)
                      obtain ⟨ad178,e178,hx178_0⟩:=Kd.at_int (Kd.R_reads' HO_13.out).2.2 x14_4 p178 q178
                      obtain rfl : ad176 = ad178:=(by injection e178)
                      replace p178:=eq_true p178
                      replace q178:=eq_true q178
                      have p179 : 0 ≤ ((rd t173 x14_4) : Int):=of_decide_eq_true (by first|(with_reducible assumption)|assumption)
                      have q179 : (rd t173 x14_4) < (l1.length : Int):=of_decide_eq_true (by first|(with_reducible assumption)|assumption)
                      obtain ⟨ad179,e179,hx179_0⟩:=Kd.at_int HR1.out (rd t173 x14_4) p179 q179
                      cases e179
                      replace hx179_0:=(HB.out.cell (World.block_lt_of_cell? w _ hx179_0)).trans hx179_0
                      replace p179:=eq_true p179
                      replace q179:=eq_true q179
                      go_wp2
                      go_roundg k4
                      case measure=>have:=HK1.out;have:=HK2.out;have:=HJ33.out;have:=HK4.out;omega
                      case rel=>exact ⟨(x7_4),(x8_4),(wrap64 (x14_4 + 1)),(by first|rfl|(simp;done)|(simp [*];done)),H',⟨by have:=HK1.out;have:=HK2.out;have:=HJ33.out;have:=HK4.out;omega⟩,⟨by (with_reducible repeat (first|apply Kd.R_alloc|apply Kd.R_drewN|apply Kd.R_drew));exact HO_7.out⟩,⟨by (with_reducible repeat (first|apply Kd.R_alloc|apply Kd.R_drewN|apply Kd.R_drew));exact HO_8.out⟩,⟨by (with_reducible repeat (first|apply Kd.R_alloc|apply Kd.R_drewN|apply Kd.R_drew));exact HO_13.out⟩,⟨by repeat (first|(with_reducible first|exact HB.out|apply below_alloc|apply pw_below_drewN|apply below_drew1)|exact HB.out)⟩⟩
                    ·rw [if_neg c53] at H
                     exact absurd H (by simp)
                  ·rw [if_neg c48] at H
                   exact absurd H (by simp)
                 ·rw [if_neg c47] at H
                  exact absurd H (by simp)
                ·rw [if_neg c46] at H
                 exact absurd H (by simp)
               ·rw [if_neg c45] at H
                have c45b0 : decide (x14_4 < (t173.length : Int)) = false:=decide_eq_false c45
                clear c45
                have H':=Aside0.mk H
                clear H
                obtain ⟨Ao64,co64,eo64⟩:=Kd.R_slice HO_13.out
                subst eo64
                go_wp2
                go_roundg k4
                case measure=>have:=HK1.out;have:=HK2.out;have:=HJ33.out;have:=HK4.out;omega
                case rel=>exact ⟨(x7_4),(x8_4),(wrap64 (x11_2 + 1)),(by first|rfl|(simp;done)|(simp [*];done)),H',⟨by have:=HK1.out;have:=HK2.out;have:=HJ33.out;have:=HK4.out;omega⟩,⟨by (with_reducible repeat (first|apply Kd.R_alloc|apply Kd.R_drewN|apply Kd.R_drew));exact HO_7.out⟩,⟨by (with_reducible repeat (first|apply Kd.R_alloc|apply Kd.R_drewN|apply Kd.R_drew));exact Kd.R_mono HO_8.out (fun _ hk=>trivial)⟩,⟨by repeat (first|(with_reducible first|exact HB.out|apply below_alloc|apply pw_below_drewN|apply below_drew1)|exact HB.out)⟩⟩
         ·rw [if_neg c33] at H
          exact absurd H (by simp)
        ·rw [if_neg c32] at H
         have c32b0 : decide (x11_2 < (x8_2.length : Int)) = false:=decide_eq_false c32
         clear c32
         obtain rfl:=Option.some.inj H
         obtain ⟨Ao65,co65,eo65⟩:=Kd.R_slice HO_8.out
         subst eo65
         go_wp2
         go_ret
         exact ⟨by first|rfl|(simp [errW_none,errW_some] <;> rfl)|(simp only [← hji4];first|rfl|(simp [errW_none,errW_some] <;> rfl))|(simp [*,errW_none,errW_some] <;> rfl),by repeat (first|(with_reducible first|exact HB.out|apply below_alloc|apply pw_below_drewN|apply below_drew1)|exact HB.out)⟩
  ·rw [if_neg c6] at H
   exact absurd H (by simp)
 ·rw [if_neg c5] at H
  exact absurd H (by simp)

end Go.Proofs.YtcfdlbjngpmcaaaDoor.PAll
