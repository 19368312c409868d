import Derived.Test.YtcfdlbjngpmcaaaDoorMerged10
namespace Go.Proofs.YtcfdlbjngpmcaaaDoor.PAll
open Go.RowKit Go.Maps Go.Proofs.YtcfdlbjngpmcaaaDoorW.PrintWords Go.Proofs.YtcfdlbjngpmcaaaDoorW.PrintLast Go.Proofs.YtcfdlbjngpmcaaaDoorW.PrintMore
set_option linter.unusedVariables false
set_option linter.unusedSimpArgs false

theorem w64' {x : Int} (h0 : -9223372036854775808 ≤ x) (h1 : x ≤ 9223372036854775807) : wrap64 x = x := by unfold wrap64; omega
def impl_Hex_need.T31 : Bool × List (List Nat × List Nat) := (true, [([], []), ([], []), ([], []), ([0, 1, 2], [0, 1, 2]), ([], []), ([4], [4]), ([5], [5]), ([3, 6], [3, 6]), ([7, 3], [7]), ([8], [8]), ([9, 8], [8, 9]), ([10, 8, 8], [8, 10]), ([11], [11]), ([11], [11]), ([12, 13, 11], [11, 12, 13]), ([11, 14, 8], [8, 11, 14]), ([8, 15], [8, 15])])
def impl_Hex_need.B31 : List Nat := [0, 0, 0, 7, 0, 16, 48, 127, 255, 511, 1023, 2047, 4095, 4095, 16383, 32767, 65535]
theorem impl_Hex_need.tab31 : rtab .any (opsOf Tryd.f46 31) = impl_Hex_need.T31 := by kernel_rfl
theorem impl_Hex_need.bits31 : waitsOk impl_Hex_need.T31.2 impl_Hex_need.B31 = true := by kernel_rfl
theorem need1_val {x s : Int} {l : List Int} {c : Int} (h : impl_Hex_need_1.f x s l = some c) : c = 0 ∨ c = 1 := by
  unfold impl_Hex_need_1.f impl_bit.f at h
  split at h
  · split at h
    · split at h
      · cases h; exact Or.inr rfl
      · cases h; exact Or.inl rfl
    · cases h
  · cases h
theorem World.ownsMap.drewN' {w : World} {b n : Nat} {D : DataW Unit} (h : w.ownsMap Tryd.prog 2 (plainElem Tryd.prog 2) b n D) (k : Nat) : (w.drewN k).ownsMap Tryd.prog 2 (plainElem Tryd.prog 2) b n D := h
theorem need2_val {x s p : Int} {l : List Int} {o : Bool} (h : impl_Hex_need_2.f x s l p = some o) : 0 ≤ x ∧ x < (l.length : Int) := by
  unfold impl_Hex_need_2.f at h
  split at h
  · split at h
    · exact ⟨by assumption, by assumption⟩
    · cases h
  · cases h
theorem made_MapR (w : World) : MapR (w.alloc (.map #[] 0)) w.heap.size [] := ⟨.map [], World.ownsMap_made _ _ _ _, holds_nil⟩

set_option maxHeartbeats 8000000 in
set_option maxRecDepth 100000 in
theorem impl_Hex_need.calls (k : Nat) (a0_0 : Int) (A0_1 : Option Addr) (c0_1 : Nat) (l0_1 : List Int) (a1 : Int) (r : Int) (w : World) (hr0_1 : Kd.C (Kd.int .i64) w A0_1 l0_1.length l0_1) (hc0_1 : l0_1.length ≤ c0_1) (h : impl_Hex_need.f k a0_0 l0_1 a1 = some r) :
    Calls Tryd.prog 46 #[.agg #[.int .i64 a0_0, .slice A0_1 l0_1.length c0_1], .int .i64 a1] w fun e w' => e = .returned (.int .i64 r) ∧ Below w.heap.size w w' := by
  have hmm := @run_makeMap Tryd.prog
  have hu28 := Tryd.underlying28
  unfold impl_Hex_need.f at h
  split at h
  · cases h
  rename_i hs0
  split at h
  case isFalse => cases h
  rename_i hlen
  have HR := Aside0.mk hr0_1
  have HC := Aside0.mk hc0_1
  clear hr0_1 hc0_1
  have HB := Aside0.mk (Below.refl w.heap.size w)
  have H' := Aside0.mk h
  clear h
  go_enter Tryd.func46, Tryd.ntmps46
  go_wp2_with (first
    | ((with_reducible refine gate_dst (N := 2) rfl ?_); refine box_event ?hg (N := 2) ?hd (cs := #[.int .i64 a0_0, .slice A0_1 l0_1.length c0_1]) (t := 28) ?hr ?_; (case hd => rfl); (case hg => rfl); (case hr => first | (go_simp; done) | (go_simp; rfl)); intro g2 hg w2 hbox hb
       have n0_ := Aside0.mk (below_step HB.out hb); have B2 := Aside0.mk hbox; have G2 := Aside0.mk (by rw [hg]; exact below_size HB.out : w.heap.size ≤ g2); clear HB; have HB := n0_; clear n0_ hb hbox hg)
    | ((with_reducible refine gate_dst (N := 3) rfl ?_); refine box_event ?hg (N := 3) ?hd (cs := #[.int .i64 a1]) (t := 2) ?hr ?_; (case hd => rfl); (case hg => rfl); (case hr => first | (go_simp; done) | (go_simp; rfl)); intro g3 hg w3 hbox hb
       have n0_ := Aside0.mk (below_step HB.out hb); have n1_ := Aside0.mk (blk_below (g := g2) (o := .cells #[.int .i64 a0_0, .slice A0_1 l0_1.length c0_1] 28 (0, 0)) B2.out hb); have B3 := Aside0.mk hbox; clear HB; have HB := n0_; clear B2; have B2 := n1_; clear n0_ n1_ hb hbox hg
       have z1 : (w3.alloc (.map #[] 0)).cell? ⟨g2, 1, none⟩ = some (.slice A0_1 l0_1.length c0_1) := (blk_cell (blk_alloc B2.out _) 1).trans rfl)
    | (go_at_call 38; (with_reducible refine (impl_size_int64.calls _ _ l0_1 (l0_1.length : Int) _ ?side1 ?side2 rfl).mono ?_); (case side1 => exact Kd.C_alloc (Kd.C_below HR.out HB.out) _); (case side2 => exact HC.out); rintro e w' ⟨rfl, ⟨nd, rfl⟩⟩))
  have hgm : g2 < w3.heap.size := (Array.getElem?_eq_some_iff.1 B2.out).1
  have hgm3 : g3 < w3.heap.size := (Array.getElem?_eq_some_iff.1 B3.out).1
  have GM := Aside0.mk (below_size HB.out : w.heap.size ≤ w3.heap.size)
  have HM0 := Aside0.mk (made_MapR w3)
  have n0_ := Aside0.mk (blk_alloc B2.out (.map #[] 0)); have n1_ := Aside0.mk (blk_alloc B3.out (.map #[] 0)); have n2_ := Aside0.mk (below_alloc HB.out (o := .map #[] 0))
  clear B2 B3 HB
  have B2 := n0_; have B3 := n1_; have HB := n2_; clear n0_ n1_ n2_
  generalize w3.alloc (.map #[] 0) = w4 at HM0 B2 B3 HB ⊢
  generalize w3.heap.size = gm at hgm hgm3 GM HM0 ⊢
  have hne2 : some g2 ≠ some gm := fun e => by cases e; omega
  have hne3 : some g3 ≠ some gm := fun e => by cases e; omega
  clear z1 hgm hgm3
  go_loopg [26] k (fun kq v26 w' => ∃ (x : Int) (m : List (Int × Int)), v26 = .int .i64 x ∧ Aside0 (0 ≤ x) ∧ Aside0 (impl_Hex_need.l0 kq a0_0 l0_1 a1 m x = some r) ∧ Aside0 (kq ≤ k) ∧ Aside0 (MapR w' gm m) ∧ Aside0 (w'.heap[g2]? = some (.cells #[.int .i64 a0_0, .slice A0_1 l0_1.length c0_1] 28 (0, 0))) ∧ Aside0 (w'.heap[g3]? = some (.cells #[.int .i64 a1] 2 (0, 0))) ∧ Aside0 (Below w.heap.size w w'))
  case atStart => exact ⟨0, [], rfl, ⟨by omega⟩, H', ⟨Nat.le_refl _⟩, ⟨HM0.out.drewN _⟩, ⟨blk_drewN B2.out _⟩, ⟨blk_drewN B3.out _⟩, ⟨pw_below_drewN HB.out _⟩⟩
  case round =>
    clear H' HM0 B2 B3 HB
    obtain ⟨x, m, rfl, HX, HA, HK, HM, B2, B3, HB⟩ := hrel
    cases gk with
    | zero => exact absurd HA.out (by simp [impl_Hex_need.l0])
    | succ k1 =>
      have H := HA.out
      clear HA
      rw [impl_Hex_need.l0] at H
      have hx0 := HX.out
      have z0 : wr.cell? ⟨g2, 0, none⟩ = some (.int .i64 a0_0) := (blk_cell B2.out 0).trans rfl
      have z1 : wr.cell? ⟨g2, 1, none⟩ = some (.slice A0_1 l0_1.length c0_1) := (blk_cell B2.out 1).trans rfl
      have z2 : wr.cell? ⟨g3, 0, none⟩ = some (.int .i64 a1) := (blk_cell B3.out 0).trans rfl
      by_cases c : x < (l0_1.length : Int)
      · rw [if_pos c] at H
        have cb : decide (x < (l0_1.length : Int)) = true := decide_eq_true c
        have wfx : (Lit.int .i64 x).wf = true := WalkArith.wf_i64 (by omega)
        have e1 : wrap64 (x + 1) = x + 1 := w64' (by omega) (by omega)
        rw [e1] at H
        have hline : impl_Hex_line.f a0_0 l0_1 a1 x = some (lineI a0_0 a1 x) := by
          unfold impl_Hex_line.f lineI
          by_cases e : a1 = 1
          · rw [if_pos e, if_pos e, if_neg hs0]
          · rw [if_neg e, if_neg e, if_neg hs0]
        by_cases c2 : lineI a0_0 a1 x = 0
        · rw [if_pos c2] at H
          have c2b : (lineI a0_0 a1 x == 0) = true := beq_iff_eq.mpr c2
          obtain ⟨o, Ho, H⟩ := Option.bind_eq_some_iff.mp H
          cases o with
          | false =>
            rw [if_neg (by decide)] at H
            have H' := Aside0.mk H
            clear H
            go_wp2_with (first
            | (go_at_call 58; (with_reducible refine (impl_Hex_line.calls a0_0 _ _ l0_1 a1 x (lineI a0_0 a1 x) _ ?side1 ?side2 hline).mono ?_); (case side1 => exact Kd.C_below HR.out HB.out); (case side2 => exact HC.out); rintro e w5 ⟨rfl, hb⟩; have n0_ := Aside0.mk (blk_below (g := g2) (o := .cells #[.int .i64 a0_0, .slice A0_1 l0_1.length c0_1] 28 (0, 0)) B2.out hb); have n1_ := Aside0.mk (blk_below (g := g3) (o := .cells #[.int .i64 a1] 2 (0, 0)) B3.out hb); have n2_ := Aside0.mk (HM.out.below hb); have n3_ := Aside0.mk (below_step HB.out hb); clear B2 B3 HM HB; have B2 := n0_; have B3 := n1_; have HM := n2_; have HB := n3_; clear n0_ n1_ n2_ n3_ hb)
            | (go_at_call 57; (with_reducible refine (impl_Hex_need_2.calls x g2 a0_0 A0_1 c0_1 l0_1 g3 a1 false _ ?side1 ?side2 ?side3 ?side4 Ho).mono ?_); (case side1 => exact B2.out); (case side2 => exact Kd.C_below HR.out HB.out); (case side3 => exact HC.out); (case side4 => exact B3.out); rintro e w' ⟨rfl, ⟨nd, rfl⟩⟩))
            go_roundg k1
            case measure => have := HK.out; omega
            case rel => exact ⟨x + 1, m, rfl, ⟨by omega⟩, H', ⟨by have := HK.out; omega⟩, ⟨HM.out.drewN _⟩, ⟨blk_drewN B2.out _⟩, ⟨blk_drewN B3.out _⟩, ⟨pw_below_drewN HB.out _⟩⟩
          | true =>
            rw [if_pos rfl] at H
            obtain ⟨cst, Hc, H⟩ := Option.bind_eq_some_iff.mp H
            by_cases cl : m.length < 1048576
            · rw [if_pos cl] at H
              have wfc : (Lit.int .i64 cst).wf = true := WalkArith.wf_i64 (by rcases need1_val Hc with e | e <;> rw [e] <;> decide)
              have H' := Aside0.mk H
              clear H
              go_wp2_with (first
              | (go_at_call 58; (with_reducible refine (impl_Hex_line.calls a0_0 _ _ l0_1 a1 x (lineI a0_0 a1 x) _ ?side1 ?side2 hline).mono ?_); (case side1 => exact Kd.C_below HR.out HB.out); (case side2 => exact HC.out); rintro e w5 ⟨rfl, hb⟩; have n0_ := Aside0.mk (blk_below (g := g2) (o := .cells #[.int .i64 a0_0, .slice A0_1 l0_1.length c0_1] 28 (0, 0)) B2.out hb); have n1_ := Aside0.mk (blk_below (g := g3) (o := .cells #[.int .i64 a1] 2 (0, 0)) B3.out hb); have n2_ := Aside0.mk (HM.out.below hb); have n3_ := Aside0.mk (below_step HB.out hb); clear B2 B3 HM HB; have B2 := n0_; have B3 := n1_; have HM := n2_; have HB := n3_; clear n0_ n1_ n2_ n3_ hb)
              | (go_at_call 57; (with_reducible refine (impl_Hex_need_2.calls x g2 a0_0 A0_1 c0_1 l0_1 g3 a1 true _ ?side1 ?side2 ?side3 ?side4 Ho).mono ?_); (case side1 => exact B2.out); (case side2 => exact Kd.C_below HR.out HB.out); (case side3 => exact HC.out); (case side4 => exact B3.out); rintro e w' ⟨rfl, ⟨nd, rfl⟩⟩)
              | (go_at_call 55; (with_reducible refine (impl_Hex_need_1.calls x g2 a0_0 A0_1 c0_1 l0_1 cst _ ?side1 ?side2 ?side3 Hc).mono ?_); (case side1 => exact B2.out); (case side2 => exact Kd.C_drewN (Kd.C_below HR.out HB.out) _); (case side3 => exact HC.out); rintro e w' ⟨rfl, ⟨nd2, rfl⟩⟩)
              | (obtain ⟨D, hown, hH⟩ := HM.out; at_mapUpdate; refine wpList_mapUpdate_own _ rfl _ _ _ 78 rfl 2 2 law2 Tryd.underlying78 _ gm m.length D rfl (World.ownsMap.drewN' hown _) (by simp only [maxLen]; omega) _ _ _ rfl rfl (keyOf_int_mk Tryd.underlying2 wfx) _ [] (plainElem_int Tryd.underlying2 wfc) ?_; intro w9 hown9 hg9))
              go_roundg k1
              case measure => have := HK.out; omega
              case rel =>
                exact ⟨x + 1, mput m x cst, rfl, ⟨by omega⟩, H', ⟨by have := HK.out; omega⟩, ⟨_, hown9, holds_put hH hown.isMap x cst⟩, ⟨blk_grown (blk_drewN B2.out _) hg9 hne2⟩, ⟨blk_grown (blk_drewN B3.out _) hg9 hne3⟩, ⟨(pw_below_drewN HB.out _).grown hg9 HB.out.size (fun j hj => by cases hj; exact GM.out)⟩⟩
            · rw [if_neg cl] at H
              cases H
        · rw [if_neg c2] at H
          have c2b : (lineI a0_0 a1 x == 0) = false := beq_eq_false_iff_ne.mpr c2
          have H' := Aside0.mk H
          clear H
          go_wp2_with (first
            | (go_at_call 58; (with_reducible refine (impl_Hex_line.calls a0_0 _ _ l0_1 a1 x (lineI a0_0 a1 x) _ ?side1 ?side2 hline).mono ?_); (case side1 => exact Kd.C_below HR.out HB.out); (case side2 => exact HC.out); rintro e w5 ⟨rfl, hb⟩; have n0_ := Aside0.mk (blk_below (g := g2) (o := .cells #[.int .i64 a0_0, .slice A0_1 l0_1.length c0_1] 28 (0, 0)) B2.out hb); have n1_ := Aside0.mk (blk_below (g := g3) (o := .cells #[.int .i64 a1] 2 (0, 0)) B3.out hb); have n2_ := Aside0.mk (HM.out.below hb); have n3_ := Aside0.mk (below_step HB.out hb); clear B2 B3 HM HB; have B2 := n0_; have B3 := n1_; have HM := n2_; have HB := n3_; clear n0_ n1_ n2_ n3_ hb))
          go_roundg k1
          case measure => have := HK.out; omega
          case rel => exact ⟨x + 1, m, rfl, ⟨by omega⟩, H', ⟨by have := HK.out; omega⟩, HM, B2, B3, HB⟩
      · rw [if_neg c] at H
        have cb : decide (x < (l0_1.length : Int)) = false := decide_eq_false c
        have H' := Aside0.mk H
        clear H
        have SS := Aside0.mk (NS.mk HM.out B2.out B3.out HB.out GM.out hne2 hne3)
        clear B2 B3 HM HB z0 z1 z2
        go_wp2
        clear c cb hx0
        go_loopg [9] k1 (fun kq v9 w' => ∃ (ch : Bool) (m : List (Int × Int)), v9 = .bool ch ∧ Aside0 (impl_Hex_need.l1 kq a0_0 l0_1 a1 m ch = some r) ∧ Aside0 (kq ≤ k1) ∧ Aside0 (NS w w' gm g2 g3 a0_0 A0_1 c0_1 l0_1 a1 m))
        case atStart => exact ⟨true, m, rfl, H', ⟨Nat.le_refl _⟩, SS⟩
        case round =>
          clear H' SS HX HK
          obtain ⟨ch, m, rfl, HA, HK, SS⟩ := hrel
          cases gk with
          | zero => exact absurd HA.out (by simp [impl_Hex_need.l1])
          | succ k2 =>
            have H := HA.out
            clear HA
            rw [impl_Hex_need.l1] at H
            cases ch with
            | true =>
              rw [if_pos rfl] at H
              have H' := Aside0.mk H
              clear H
              have z1 := SS.out.z1
              go_wp2_with (first
                | (go_at_call 38; (with_reducible refine (impl_size_int64.calls _ _ l0_1 (l0_1.length : Int) _ ?side1 ?side2 rfl).mono ?_); (case side1 => exact Kd.C_below HR.out SS.out.hb); (case side2 => exact HC.out); rintro e w' ⟨rfl, ⟨nd, rfl⟩⟩))
              go_loopg [9, 49] k2 (fun kq v9 v49 w' => ∃ (ch : Bool) (x : Int) (m : List (Int × Int)), v9 = .bool ch ∧ v49 = .int .i64 x ∧ Aside0 (0 ≤ x) ∧ Aside0 (impl_Hex_need.l2 kq a0_0 l0_1 a1 m ch x = some r) ∧ Aside0 (kq ≤ k2) ∧ Aside0 (NS w w' gm g2 g3 a0_0 A0_1 c0_1 l0_1 a1 m))
              case atStart => exact ⟨false, 0, m, rfl, rfl, ⟨by omega⟩, H', ⟨Nat.le_refl _⟩, ⟨SS.out.drewN _⟩⟩
              case round =>
                clear H' SS z1
                obtain ⟨ch, x, m, rfl, rfl, HX, HA, HK2, SS⟩ := hrel
                cases gk with
                | zero => exact absurd HA.out (by simp [impl_Hex_need.l2])
                | succ k3 =>
                  have H := HA.out
                  clear HA
                  rw [impl_Hex_need.l2] at H
                  have hx0 := HX.out
                  by_cases c : x < (l0_1.length : Int)
                  · rw [if_pos c] at H
                    have cb : decide (x < (l0_1.length : Int)) = true := decide_eq_true c
                    have wfx : (Lit.int .i64 x).wf = true := WalkArith.wf_i64 (by omega)
                    have e1 : wrap64 (x + 1) = x + 1 := w64' (by omega) (by omega)
                    obtain ⟨D, hown, hH⟩ := SS.out.M
                    have hhas := (hH x).1
                    have hat1 := (hH x).2
                    cases hgt : mget m x with
                    | none =>
                      rw [hgt] at H hhas
                      simp only [Option.isSome_none] at hhas
                      simp only [e1] at H
                      have H' := Aside0.mk H
                      clear H
                      go_wp2_with (first
                        | (at_lookup; refine wpList_lookup_own_ok_int _ rfl _ _ 78 rfl 2 2 .i64 law2 Tryd.underlying78 Tryd.underlying2 (zero2 _) gm m.length D rfl hown _ _ rfl (keyOf_int_mk Tryd.underlying2 wfx) ?_; intro c1 hat hwc; rw [hhas]))
                      go_roundg k3
                      case measure => have := HK2.out; omega
                      case rel => exact ⟨ch, x + 1, m, rfl, rfl, ⟨by omega⟩, H', ⟨by have := HK2.out; omega⟩, SS⟩
                    | some n =>
                      rw [hgt] at H hhas
                      simp only [Option.isSome_some] at hhas
                      obtain ⟨nr, Hn, H⟩ := Option.bind_eq_some_iff.mp H
                      have H' := Aside0.mk H
                      clear H
                      have z0 := SS.out.z0
                      go_wp2_with (first
                        | (at_lookup; refine wpList_lookup_own_ok_int _ rfl _ _ 78 rfl 2 2 .i64 law2 Tryd.underlying78 Tryd.underlying2 (zero2 _) gm m.length D rfl hown _ _ rfl (keyOf_int_mk Tryd.underlying2 wfx) ?_; intro c1 hat hwc; rw [hhas]; obtain rfl : n = c1 := (by have := (hat1 n hgt (.lit (.int .i64 0))).symm.trans hat; injection this with this; injection this with _ this))
                        | (go_at_call 59; (with_reducible refine (impl_near.calls k3 a0_0 x nr _ Hn).mono ?_); rintro e w' ⟨vn, rfl, ho, hb⟩; obtain ⟨An, cn, en⟩ := Kd.R_slice ho; subst en; have n0_ := Aside0.mk (SS.out.below hb); have HO := Aside0.mk (Kd.R_lower ho (SS.out.M.lt : gm + 1 ≤ wr.heap.size)); clear SS; have SS := n0_; clear n0_ ho hb))
                      clear hown hH hhas hat1 z0
                      go_loopg [9, 65] k3 (fun kq v9 v65 w' => ∃ (ch : Bool) (j : Int) (m : List (Int × Int)), v9 = .bool ch ∧ v65 = .int .i64 j ∧ Aside0 (impl_Hex_need.l3 kq a0_0 l0_1 a1 m ch x n nr j = some r) ∧ Aside0 (kq ≤ k3) ∧ Aside0 (Kd.R (Kd.int .i64) 2 w' (gm + 1) (fun _ => True) (.slice An nr.length cn) nr) ∧ Aside0 (NS w w' gm g2 g3 a0_0 A0_1 c0_1 l0_1 a1 m))
                      case atStart => exact ⟨ch, 0, m, rfl, rfl, H', ⟨Nat.le_refl _⟩, HO, SS⟩
                      case round =>
                        clear H' HO SS
                        obtain ⟨ch, j, m, rfl, rfl, HA, HK3, HO, SS⟩ := hrel
                        cases gk with
                        | zero => exact absurd HA.out (by simp [impl_Hex_need.l3])
                        | succ k4 =>
                          have H := HA.out
                          clear HA
                          rw [impl_Hex_need.l3] at H
                          by_cases cj : j < (nr.length : Int)
                          · rw [if_pos cj] at H
                            have cjb : decide (j < (nr.length : Int)) = true := decide_eq_true cj
                            by_cases pj : 0 ≤ j
                            · rw [if_pos pj] at H
                              obtain ⟨o, Ho, H⟩ := Option.bind_eq_some_iff.mp H
                              have hy := need2_val Ho
                              obtain ⟨ad, e, hxj⟩ := Kd.at_int (Kd.R_reads' HO.out).2.2 j pj cj
                              cases e
                              have wfy : (Lit.int .i64 (rd nr j)).wf = true := WalkArith.wf_i64 (by omega)
                              obtain ⟨D, hown, hH⟩ := SS.out.M
                              have hhas := (hH (rd nr j)).1
                              have hat1 := (hH (rd nr j)).2
                              generalize rd nr j = y at hxj Ho hy wfy hhas hat1 H
                              have pj' := eq_true pj
                              have cj' := eq_true cj
                              cases hgy : mget m y with
                              | none =>
                                rw [hgy] at hhas
                                simp only [Option.isSome_none] at hhas
                                cases o with
                                | false =>
                                  rw [if_neg (by decide)] at H
                                  have H' := Aside0.mk H
                                  clear H
                                  go_wp2_with (first
                                    | (at_lookup; refine wpList_lookup_own_ok_int _ rfl _ _ 78 rfl 2 2 .i64 law2 Tryd.underlying78 Tryd.underlying2 (zero2 _) gm m.length D rfl hown _ _ rfl (keyOf_int_mk Tryd.underlying2 wfy) ?_; intro c1 hat hwc; rw [hhas])
                                    | (go_at_call 57; (with_reducible refine (impl_Hex_need_2.calls y g2 a0_0 A0_1 c0_1 l0_1 g3 a1 false _ ?side1 ?side2 ?side3 ?side4 Ho).mono ?_); (case side1 => exact SS.out.b2); (case side2 => exact Kd.C_below HR.out SS.out.hb); (case side3 => exact HC.out); (case side4 => exact SS.out.b3); rintro e w' ⟨rfl, ⟨nd, rfl⟩⟩)
                                    )
                                  go_roundg k4
                                  case measure => have := HK3.out; omega
                                  case rel => exact ⟨ch, wrap64 (j + 1), m, rfl, (by first | rfl | simp), H', ⟨by have := HK3.out; omega⟩, ⟨Kd.R_drewN HO.out _⟩, ⟨SS.out.drewN _⟩⟩
                                | true =>
                                  rw [if_pos rfl, hgy] at H
                                  obtain ⟨cst, Hc, H⟩ := Option.bind_eq_some_iff.mp H
                                  by_cases cl : m.length < 1048576
                                  · rw [if_pos cl] at H
                                    have H' := Aside0.mk H
                                    clear H
                                    go_wp2_with (first
                                      | (at_lookup; refine wpList_lookup_own_ok_int _ rfl _ _ 78 rfl 2 2 .i64 law2 Tryd.underlying78 Tryd.underlying2 (zero2 _) gm m.length D rfl hown _ _ rfl (keyOf_int_mk Tryd.underlying2 wfy) ?_; intro c1 hat hwc; rw [hhas])
                                      | (go_at_call 57; (with_reducible refine (impl_Hex_need_2.calls y g2 a0_0 A0_1 c0_1 l0_1 g3 a1 true _ ?side1 ?side2 ?side3 ?side4 Ho).mono ?_); (case side1 => exact SS.out.b2); (case side2 => exact Kd.C_below HR.out SS.out.hb); (case side3 => exact HC.out); (case side4 => exact SS.out.b3); rintro e w' ⟨rfl, ⟨nd, rfl⟩⟩)
                                      | (go_at_call 55; (with_reducible refine (impl_Hex_need_1.calls y g2 a0_0 A0_1 c0_1 l0_1 cst _ ?side1 ?side2 ?side3 Hc).mono ?_); (case side1 => exact SS.out.b2); (case side2 => first | exact Kd.C_drewN (Kd.C_below HR.out SS.out.hb) _ | exact Kd.C_below HR.out SS.out.hb); (case side3 => exact HC.out); rintro e w' ⟨rfl, ⟨nd2, rfl⟩⟩)
                                      | (at_mapUpdate; refine wpList_mapUpdate_own _ rfl _ _ _ 78 rfl 2 2 law2 Tryd.underlying78 _ gm m.length D rfl (World.ownsMap.drewN' hown _) (by simp only [maxLen]; omega) _ _ _ rfl rfl (keyOf_int_mk Tryd.underlying2 wfy) _ [] (plainElem_int Tryd.underlying2 (wrap64_wf _)) ?_; intro w9 hown9 hg9)
                                      )
                                    go_roundg k4
                                    case measure => have := HK3.out; omega
                                    case rel => exact ⟨true, wrap64 (j + 1), mput m y (wrap64 (n + cst)), rfl, (by first | rfl | simp), H', ⟨by have := HK3.out; omega⟩, ⟨Kd.R_grown2 (Kd.R_drewN HO.out _) rfl hg9 (fun k hk => by cases hk; intro z; have := Kd.R_base HO.out gm z.symm; omega)⟩, ⟨(SS.out.drewN _).put (World.ownsMap.drewN' hown _) hH y (wrap64 (n + cst)) hown9 hg9⟩⟩
                                  · rw [if_neg cl] at H
                                    cases H
                              | some v =>
                                rw [hgy] at hhas
                                simp only [Option.isSome_some] at hhas
                                cases o with
                                | false =>
                                  rw [if_neg (by decide)] at H
                                  have H' := Aside0.mk H
                                  clear H
                                  go_wp2_with (first
                                    | (at_lookup; refine wpList_lookup_own_ok_int _ rfl _ _ 78 rfl 2 2 .i64 law2 Tryd.underlying78 Tryd.underlying2 (zero2 _) gm m.length D rfl hown _ _ rfl (keyOf_int_mk Tryd.underlying2 wfy) ?_; intro c1 hat hwc; rw [hhas]; obtain rfl : v = c1 := (by have := (hat1 v hgy (.lit (.int .i64 0))).symm.trans hat; injection this with this; injection this with _ this))
                                    | (go_at_call 57; (with_reducible refine (impl_Hex_need_2.calls y g2 a0_0 A0_1 c0_1 l0_1 g3 a1 false _ ?side1 ?side2 ?side3 ?side4 Ho).mono ?_); (case side1 => exact SS.out.b2); (case side2 => exact Kd.C_below HR.out SS.out.hb); (case side3 => exact HC.out); (case side4 => exact SS.out.b3); rintro e w' ⟨rfl, ⟨nd, rfl⟩⟩)
                                    )
                                  go_roundg k4
                                  case measure => have := HK3.out; omega
                                  case rel => exact ⟨ch, wrap64 (j + 1), m, rfl, (by first | rfl | simp), H', ⟨by have := HK3.out; omega⟩, ⟨Kd.R_drewN HO.out _⟩, ⟨SS.out.drewN _⟩⟩
                                | true =>
                                  rw [if_pos rfl, hgy] at H
                                  obtain ⟨cst, Hc, H⟩ := Option.bind_eq_some_iff.mp H
                                  by_cases cv : wrap64 (n + cst) < v
                                  · rw [if_pos cv] at H
                                    have cvb : decide (wrap64 (n + cst) < v) = true := decide_eq_true cv
                                    by_cases cl : m.length < 1048576
                                    · rw [if_pos cl] at H
                                      have H' := Aside0.mk H
                                      clear H
                                      go_wp2_with (first
                                        | (at_lookup; refine wpList_lookup_own_ok_int _ rfl _ _ 78 rfl 2 2 .i64 law2 Tryd.underlying78 Tryd.underlying2 (zero2 _) gm m.length D rfl hown _ _ rfl (keyOf_int_mk Tryd.underlying2 wfy) ?_; intro c1 hat hwc; rw [hhas]; obtain rfl : v = c1 := (by have := (hat1 v hgy (.lit (.int .i64 0))).symm.trans hat; injection this with this; injection this with _ this))
                                        | (go_at_call 57; (with_reducible refine (impl_Hex_need_2.calls y g2 a0_0 A0_1 c0_1 l0_1 g3 a1 true _ ?side1 ?side2 ?side3 ?side4 Ho).mono ?_); (case side1 => exact SS.out.b2); (case side2 => exact Kd.C_below HR.out SS.out.hb); (case side3 => exact HC.out); (case side4 => exact SS.out.b3); rintro e w' ⟨rfl, ⟨nd, rfl⟩⟩)
                                        | (go_at_call 55; (with_reducible refine (impl_Hex_need_1.calls y g2 a0_0 A0_1 c0_1 l0_1 cst _ ?side1 ?side2 ?side3 Hc).mono ?_); (case side1 => exact SS.out.b2); (case side2 => first | exact Kd.C_drewN (Kd.C_below HR.out SS.out.hb) _ | exact Kd.C_below HR.out SS.out.hb); (case side3 => exact HC.out); rintro e w' ⟨rfl, ⟨nd2, rfl⟩⟩)
                                        | (at_mapUpdate; refine wpList_mapUpdate_own _ rfl _ _ _ 78 rfl 2 2 law2 Tryd.underlying78 _ gm m.length D rfl (World.ownsMap.drewN' hown _) (by simp only [maxLen]; omega) _ _ _ rfl rfl (keyOf_int_mk Tryd.underlying2 wfy) _ [] (plainElem_int Tryd.underlying2 (wrap64_wf _)) ?_; intro w9 hown9 hg9)
                                        )
                                      go_roundg k4
                                      case measure => have := HK3.out; omega
                                      case rel => exact ⟨true, wrap64 (j + 1), mput m y (wrap64 (n + cst)), rfl, (by first | rfl | simp), H', ⟨by have := HK3.out; omega⟩, ⟨Kd.R_grown2 (Kd.R_drewN HO.out _) rfl hg9 (fun k hk => by cases hk; intro z; have := Kd.R_base HO.out gm z.symm; omega)⟩, ⟨(SS.out.drewN _).put (World.ownsMap.drewN' hown _) hH y (wrap64 (n + cst)) hown9 hg9⟩⟩
                                    · rw [if_neg cl] at H
                                      cases H
                                  · rw [if_neg cv] at H
                                    have cvb : decide (wrap64 (n + cst) < v) = false := decide_eq_false cv
                                    have H' := Aside0.mk H
                                    clear H
                                    go_wp2_with (first
                                      | (at_lookup; refine wpList_lookup_own_ok_int _ rfl _ _ 78 rfl 2 2 .i64 law2 Tryd.underlying78 Tryd.underlying2 (zero2 _) gm m.length D rfl hown _ _ rfl (keyOf_int_mk Tryd.underlying2 wfy) ?_; intro c1 hat hwc; rw [hhas]; obtain rfl : v = c1 := (by have := (hat1 v hgy (.lit (.int .i64 0))).symm.trans hat; injection this with this; injection this with _ this))
                                      | (go_at_call 57; (with_reducible refine (impl_Hex_need_2.calls y g2 a0_0 A0_1 c0_1 l0_1 g3 a1 true _ ?side1 ?side2 ?side3 ?side4 Ho).mono ?_); (case side1 => exact SS.out.b2); (case side2 => exact Kd.C_below HR.out SS.out.hb); (case side3 => exact HC.out); (case side4 => exact SS.out.b3); rintro e w' ⟨rfl, ⟨nd, rfl⟩⟩)
                                      | (go_at_call 55; (with_reducible refine (impl_Hex_need_1.calls y g2 a0_0 A0_1 c0_1 l0_1 cst _ ?side1 ?side2 ?side3 Hc).mono ?_); (case side1 => exact SS.out.b2); (case side2 => first | exact Kd.C_drewN (Kd.C_below HR.out SS.out.hb) _ | exact Kd.C_below HR.out SS.out.hb); (case side3 => exact HC.out); rintro e w' ⟨rfl, ⟨nd2, rfl⟩⟩)
                                      )
                                    go_roundg k4
                                    case measure => have := HK3.out; omega
                                    case rel => exact ⟨ch, wrap64 (j + 1), m, rfl, (by first | rfl | simp), H', ⟨by have := HK3.out; omega⟩, ⟨Kd.R_drewN HO.out _⟩, ⟨SS.out.drewN _⟩⟩
                            · rw [if_neg pj] at H
                              cases H
                          · rw [if_neg cj] at H
                            have cjb : decide (j < (nr.length : Int)) = false := decide_eq_false cj
                            rw [e1] at H
                            have H' := Aside0.mk H
                            clear H
                            go_wp2
                            go_roundg k4
                            case measure => have := HK2.out; have := HK3.out; omega
                            case rel => exact ⟨ch, x + 1, m, rfl, rfl, ⟨by omega⟩, H', ⟨by have := HK2.out; have := HK3.out; omega⟩, SS⟩
                  · rw [if_neg c] at H
                    have cb : decide (x < (l0_1.length : Int)) = false := decide_eq_false c
                    have H' := Aside0.mk H
                    clear H
                    go_wp2
                    go_roundg k3
                    case measure => have := HK.out; have := HK2.out; omega
                    case rel => exact ⟨ch, m, rfl, H', ⟨by have := HK.out; have := HK2.out; omega⟩, SS⟩
            | false =>
              rw [if_neg (by decide)] at H
              by_cases call : m.all (fun q => decide (0 ≤ q.2)) = true
              case neg => rw [if_neg call] at H; cases H
              rw [if_pos call] at H
              obtain rfl := Option.some.inj H
              clear H
              obtain ⟨D, hown, hH⟩ := SS.out.M
              go_wp2_with (first
                | (at_range; refine wpList_range_own _ rfl _ 78 rfl 2 2 law2 Tryd.underlying78 _ gm m.length D rfl hown ?_; intro w0 hrg0 hg0 hsz0))
              go_frame
              have S0 := Aside0.mk (SS.out.grown hg0 (fun k hk => by cases hk))
              have hrb : gm < wr.heap.size ∧ g2 < wr.heap.size ∧ g3 < wr.heap.size ∧ w.heap.size ≤ wr.heap.size := ⟨SS.out.M.lt, blk_lt SS.out.b2, blk_lt SS.out.b3, SS.out.hb.size⟩
              generalize wr.heap.size = rb at hrg0 S0 hrb ⊢
              go_loopw [17] (fun v17 wq => ∃ (left : Lit → Bool) (cnt : Nat) (b : Int), v17 = .int .i64 b ∧ wq.ranges Tryd.prog 2 (plainElem Tryd.prog 2) gm rb m.length D left cnt ∧ BestAt a0_0 a1 m left b ∧ Aside0 (NS w wq gm g2 g3 a0_0 A0_1 c0_1 l0_1 a1 m))
                (fun _ wq => wq.rangeLeft gm rb)
              case atStart => exact ⟨_, _, -1, rfl, hrg0, best_start a0_0 a1 hH, S0⟩
              case round =>
                obtain ⟨left, cnt, b, rfl, hrg, hB, SS⟩ := hrel
                go_wp2_with (first
                  | (at_next; refine wpList_next_ranges_ii _ rfl _ rfl 2 2 .i64 .i64 law2 Tryd.underlying2 Tryd.underlying2 gm rb m.length _ _ _ rfl hrg ?_ ?_))
                · intro hc0 hl0
                  go_wp2
                  go_ret
                  exact ⟨by rw [best_end hB hl0 call]; rfl, SS.out.hb⟩
                · intro y v w1 cnt1 hwx hwc hlx hat hrg1 hlt hg1 hs1 hen
                  have hmy := mget_of_at hH hat
                  have S1 := Aside0.mk (SS.out.grown' hg1 hrb)
                  clear SS
                  have hline : impl_Hex_line.f a0_0 l0_1 a1 y = some (lineI a0_0 a1 y) := by
                    unfold impl_Hex_line.f lineI
                    by_cases e : a1 = 1
                    · rw [if_pos e, if_pos e, if_neg hs0]
                    · rw [if_neg e, if_neg e, if_neg hs0]
                  by_cases cl : lineI a0_0 a1 y = wrap64 (a0_0 - 1)
                  · have clb : (lineI a0_0 a1 y == wrap64 (a0_0 - 1)) = true := beq_iff_eq.mpr cl
                    by_cases c0 : b < 0
                    · have c0b : decide (b < 0) = true := decide_eq_true c0
                      go_wp2
                      have S2 := Aside0.mk (S1.out.drewN 1)
                      have hrg2 := ranges_drew hrg1
                      clear S1 hrg1 hen hg1
                      refine start_ (n := 17) (S := fun w' => w'.cell? ⟨g2, 0, none⟩ = some (.int .i64 a0_0) ∧ w'.cell? ⟨g2, 1, none⟩ = some (.slice A0_1 l0_1.length c0_1) ∧ w'.cell? ⟨g3, 0, none⟩ = some (.int .i64 a1)) (ds := []) #[false, false, false, false, false, false, false, false, false, false, false, false, false, false, false, false, false] (by kernel_rfl) rfl rfl ⟨S2.out.z0, S2.out.z1, S2.out.z2⟩ (fun hHeld => ?_); refine with_tabW impl_Hex_need.tab31 impl_Hex_need.bits31 (fun HT_ HW_ => ?_)
                      rw [show w1.drewN 1 = w1.drew from rfl] at S2 hrg2
                      generalize w1.drew = w8 at S2 hrg2 hHeld ⊢
                      refine pure_ (i := 2) (N := some 109) (v := ?_) (a' := ?_) #[false, false, true, false, false, false, false, false, false, false, false, false, false, false, false, false, false] rfl rfl (any_of HT_.out (by kernel_rfl)) (fun _ _ _ h => h) (Or.inl ⟨by rfl, ?_⟩) ?_ ?_
                      rotate_left
                      · intro w'
                        go_simp
                        with_reducible rfl
                      rotate_left
                      · simp only [Act.put, List.setIfInBounds_toArray, List.set_cons_zero, List.set_cons_succ, i64_w, i32_w]
                        rfl
                      refine pure_ (i := 4) (N := some 111) (v := ?_) (a' := ?_) #[false, false, true, false, true, false, false, false, false, false, false, false, false, false, false, false, false] rfl rfl (any_of HT_.out (by kernel_rfl)) (fun _ _ _ h => h) (Or.inl ⟨by rfl, ?_⟩) ?_ ?_
                      rotate_left
                      · intro w'
                        go_simp
                        with_reducible rfl
                      rotate_left
                      · simp only [Act.put, List.setIfInBounds_toArray, List.set_cons_zero, List.set_cons_succ, i64_w, i32_w]
                        rfl
                      refine take_ (i := 0) (N := some 107) (v := ?_) (a' := ?_) #[true, false, true, false, true, false, false, false, false, false, false, false, false, false, false, false, false] rfl rfl (take_ofW HT_.out HW_.out (by kernel_rfl)) (fun _ _ _ h => h) (Or.inl ⟨by rfl, ?_⟩) hHeld ?_ ?_
                      rotate_left
                      · rintro w' ⟨s0, s1, s2⟩
                        go_simp
                        with_reducible rfl
                      rotate_left
                      · simp only [Act.put, List.setIfInBounds_toArray, List.set_cons_zero, List.set_cons_succ, i64_w, i32_w]
                        rfl
                      refine take_ (i := 1) (N := some 108) (v := ?_) (a' := ?_) #[true, true, true, false, true, false, false, false, false, false, false, false, false, false, false, false, false] rfl rfl (take_ofW HT_.out HW_.out (by kernel_rfl)) (fun _ _ _ h => h) (Or.inl ⟨by rfl, ?_⟩) hHeld ?_ ?_
                      rotate_left
                      · rintro w' ⟨s0, s1, s2⟩
                        go_simp
                        with_reducible rfl
                      rotate_left
                      · simp only [Act.put, List.setIfInBounds_toArray, List.set_cons_zero, List.set_cons_succ, i64_w, i32_w]
                        rfl
                      refine take_ (i := 5) (N := some 112) (v := ?_) (a' := ?_) #[true, true, true, false, true, true, false, false, false, false, false, false, false, false, false, false, false] rfl rfl (take_ofW HT_.out HW_.out (by kernel_rfl)) (fun _ _ _ h => h) (Or.inl ⟨by rfl, ?_⟩) hHeld ?_ ?_
                      rotate_left
                      · rintro w' ⟨s0, s1, s2⟩
                        go_simp
                        with_reducible rfl
                      rotate_left
                      · simp only [Act.put, List.setIfInBounds_toArray, List.set_cons_zero, List.set_cons_succ, i64_w, i32_w]
                        rfl
                      refine pure_ (i := 6) (N := some 113) (v := ?_) (a' := ?_) #[true, true, true, false, true, true, true, false, false, false, false, false, false, false, false, false, false] rfl rfl (any_of HT_.out (by kernel_rfl)) (fun _ _ _ h => h) (Or.inl ⟨by rfl, ?_⟩) ?_ ?_
                      rotate_left
                      · intro w'
                        go_simp
                        with_reducible rfl
                      rotate_left
                      · simp only [Act.put, List.setIfInBounds_toArray, List.set_cons_zero, List.set_cons_succ, i64_w, i32_w]
                        rfl
                      refine one_ (i := 3) (N := some 110) #[true, true, true, true, true, true, true, false, false, false, false, false, false, false, false, false, false] rfl rfl (one_of HT_.out (by kernel_rfl)) (by decide) (fun K hK => ?_)
                      refine goes_ Tryd.func58 (by kernel_rfl) rfl #[.agg #[.int .i64 a0_0, .slice A0_1 l0_1.length c0_1], .int .i64 a1, .int .i64 y] (by rfl) rfl rfl (by (try simp only [List.map_toArray, List.map_cons, List.map_nil]); first | done | rfl) ?_
                      with_reducible refine (impl_Hex_line.calls a0_0 _ _ l0_1 a1 y (lineI a0_0 a1 y) _ ?side1 ?side2 hline).mono ?_
                      (case side1 => exact Kd.C_below HR.out S2.out.hb)
                      (case side2 => exact HC.out)
                      rintro e w9 ⟨rfl, hb⟩
                      refine ⟨_, rfl, ?_⟩
                      have n0_ := Aside0.mk (S2.out.below hb)
                      have hrg3 := ranges_below hrg2 hb
                      clear S2 hrg2 hb
                      have S2 := n0_
                      clear n0_
                      refine hK.out _ _ ⟨S2.out.z0, S2.out.z1, S2.out.z2⟩ (fun hHeld => ?_)
                      clear hK K
                      refine norm_ (a' := ?_) ?_ ?_
                      rotate_left
                      · show Act.put _ (some 110) _ = _
                        simp only [Act.put, List.setIfInBounds_toArray, List.set_cons_zero, List.set_cons_succ, i64_w, i32_w]
                        rfl
                      refine pure_ (i := 7) (N := some 114) (v := ?_) (a' := ?_) #[true, true, true, true, true, true, true, true, false, false, false, false, false, false, false, false, false] rfl rfl (any_of HT_.out (by kernel_rfl)) (fun _ _ _ h => h) (Or.inl ⟨by rfl, ?_⟩) ?_ ?_
                      rotate_left
                      · intro w'
                        go_simp
                        with_reducible rfl
                      rotate_left
                      · simp only [Act.put, List.setIfInBounds_toArray, List.set_cons_zero, List.set_cons_succ, i64_w, i32_w]
                        rfl
                      refine pure_ (i := 8) (N := some 115) (v := ?_) (a' := ?_) #[true, true, true, true, true, true, true, true, true, false, false, false, false, false, false, false, false] rfl rfl (any_of HT_.out (by kernel_rfl)) (fun _ _ _ h => h) (Or.inl ⟨by rfl, ?_⟩) ?_ ?_
                      rotate_left
                      · intro w'
                        go_simp
                        with_reducible rfl
                      rotate_left
                      · simp only [Act.put, List.setIfInBounds_toArray, List.set_cons_zero, List.set_cons_succ, i64_w, i32_w]
                        rfl
                      refine pure_ (i := 9) (N := some 116) (v := ?_) (a' := ?_) #[true, true, true, true, true, true, true, true, true, true, false, false, false, false, false, false, false] rfl rfl (any_of HT_.out (by kernel_rfl)) (fun _ _ _ h => h) (Or.inl ⟨by rfl, ?_⟩) ?_ ?_
                      rotate_left
                      · intro w'
                        go_simp
                        with_reducible rfl
                      rotate_left
                      · simp only [Act.put, List.setIfInBounds_toArray, List.set_cons_zero, List.set_cons_succ, i64_w, i32_w]
                        rfl
                      refine pure_ (i := 10) (N := some 117) (v := ?_) (a' := ?_) #[true, true, true, true, true, true, true, true, true, true, true, false, false, false, false, false, false] rfl rfl (any_of HT_.out (by kernel_rfl)) (fun _ _ _ h => h) (Or.inl ⟨by rfl, ?_⟩) ?_ ?_
                      rotate_left
                      · intro w'
                        go_simp
                        with_reducible rfl
                      rotate_left
                      · simp only [Act.put, List.setIfInBounds_toArray, List.set_cons_zero, List.set_cons_succ, i64_w, i32_w]
                        rfl
                      refine pure_ (i := 11) (N := some 118) (v := ?_) (a' := ?_) #[true, true, true, true, true, true, true, true, true, true, true, true, false, false, false, false, false] rfl rfl (any_of HT_.out (by kernel_rfl)) (fun _ _ _ h => h) (Or.inl ⟨by rfl, ?_⟩) ?_ ?_
                      rotate_left
                      · intro w'
                        go_simp
                        with_reducible rfl
                      rotate_left
                      · simp only [Act.put, List.setIfInBounds_toArray, List.set_cons_zero, List.set_cons_succ, i64_w, i32_w]
                        rfl
                      refine pure_ (i := 12) (N := some 119) (v := undef) (a' := ?_) #[true, true, true, true, true, true, true, true, true, true, true, true, true, false, false, false, false] rfl rfl (any_of HT_.out (by kernel_rfl)) (fun _ _ _ h => h) (Or.inr ⟨by rfl, rfl⟩) ?_ ?_
                      rotate_left
                      · simp only [Act.put, List.setIfInBounds_toArray, List.set_cons_zero, List.set_cons_succ, i64_w, i32_w]
                        rfl
                      refine pure_ (i := 13) (N := some 120) (v := undef) (a' := ?_) #[true, true, true, true, true, true, true, true, true, true, true, true, true, true, false, false, false] rfl rfl (any_of HT_.out (by kernel_rfl)) (fun _ _ _ h => h) (Or.inr ⟨by rfl, rfl⟩) ?_ ?_
                      rotate_left
                      · simp only [Act.put, List.setIfInBounds_toArray, List.set_cons_zero, List.set_cons_succ, i64_w, i32_w]
                        rfl
                      refine pure_ (i := 14) (N := some 121) (v := undef) (a' := ?_) #[true, true, true, true, true, true, true, true, true, true, true, true, true, true, true, false, false] rfl rfl (any_of HT_.out (by kernel_rfl)) (fun _ _ _ h => h) (Or.inr ⟨by rfl, rfl⟩) ?_ ?_
                      rotate_left
                      · simp only [Act.put, List.setIfInBounds_toArray, List.set_cons_zero, List.set_cons_succ, i64_w, i32_w]
                        rfl
                      refine pure_ (i := 15) (N := some 122) (v := ?_) (a' := ?_) #[true, true, true, true, true, true, true, true, true, true, true, true, true, true, true, true, false] rfl rfl (any_of HT_.out (by kernel_rfl)) (fun _ _ _ h => h) (Or.inl ⟨by rfl, ?_⟩) ?_ ?_
                      rotate_left
                      · intro w'
                        go_simp
                        with_reducible rfl
                      rotate_left
                      · simp only [Act.put, List.setIfInBounds_toArray, List.set_cons_zero, List.set_cons_succ, i64_w, i32_w]
                        rfl
                      refine pure_ (i := 16) (N := some 123) (v := ?_) (a' := ?_) #[true, true, true, true, true, true, true, true, true, true, true, true, true, true, true, true, true] rfl rfl (any_of HT_.out (by kernel_rfl)) (fun _ _ _ h => h) (Or.inl ⟨by rfl, ?_⟩) ?_ ?_
                      rotate_left
                      · intro w'
                        go_simp
                        with_reducible rfl
                      rotate_left
                      · simp only [Act.put, List.setIfInBounds_toArray, List.set_cons_zero, List.set_cons_succ, i64_w, i32_w]
                        rfl
                      refine done_ (done_of HT_.out (by kernel_rfl)) ?_
                      go_wp2
                      go_roundw
                      case rel => exact ⟨_, cnt1, v, rfl, hrg3, best_step hB hmy cl (Or.inl c0) (mget_nonneg call), S2⟩
                      case measure => rw [hrg3.left_eq, hrg.left_eq]; exact hlt
                    · have c0b : decide (b < 0) = false := decide_eq_false c0
                      by_cases c1 : v < b
                      · have c1b : decide (v < b) = true := decide_eq_true c1
                        go_wp2
                        have S2 := Aside0.mk (S1.out.drewN 1)
                        have hrg2 := ranges_drew hrg1
                        clear S1 hrg1 hen hg1
                        refine start_ (n := 17) (S := fun w' => w'.cell? ⟨g2, 0, none⟩ = some (.int .i64 a0_0) ∧ w'.cell? ⟨g2, 1, none⟩ = some (.slice A0_1 l0_1.length c0_1) ∧ w'.cell? ⟨g3, 0, none⟩ = some (.int .i64 a1)) (ds := []) #[false, false, false, false, false, false, false, false, false, false, false, false, false, false, false, false, false] (by kernel_rfl) rfl rfl ⟨S2.out.z0, S2.out.z1, S2.out.z2⟩ (fun hHeld => ?_); refine with_tabW impl_Hex_need.tab31 impl_Hex_need.bits31 (fun HT_ HW_ => ?_)
                        rw [show w1.drewN 1 = w1.drew from rfl] at S2 hrg2
                        generalize w1.drew = w8 at S2 hrg2 hHeld ⊢
                        refine pure_ (i := 2) (N := some 109) (v := ?_) (a' := ?_) #[false, false, true, false, false, false, false, false, false, false, false, false, false, false, false, false, false] rfl rfl (any_of HT_.out (by kernel_rfl)) (fun _ _ _ h => h) (Or.inl ⟨by rfl, ?_⟩) ?_ ?_
                        rotate_left
                        · intro w'
                          go_simp
                          with_reducible rfl
                        rotate_left
                        · simp only [Act.put, List.setIfInBounds_toArray, List.set_cons_zero, List.set_cons_succ, i64_w, i32_w]
                          rfl
                        refine pure_ (i := 4) (N := some 111) (v := ?_) (a' := ?_) #[false, false, true, false, true, false, false, false, false, false, false, false, false, false, false, false, false] rfl rfl (any_of HT_.out (by kernel_rfl)) (fun _ _ _ h => h) (Or.inl ⟨by rfl, ?_⟩) ?_ ?_
                        rotate_left
                        · intro w'
                          go_simp
                          with_reducible rfl
                        rotate_left
                        · simp only [Act.put, List.setIfInBounds_toArray, List.set_cons_zero, List.set_cons_succ, i64_w, i32_w]
                          rfl
                        refine take_ (i := 0) (N := some 107) (v := ?_) (a' := ?_) #[true, false, true, false, true, false, false, false, false, false, false, false, false, false, false, false, false] rfl rfl (take_ofW HT_.out HW_.out (by kernel_rfl)) (fun _ _ _ h => h) (Or.inl ⟨by rfl, ?_⟩) hHeld ?_ ?_
                        rotate_left
                        · rintro w' ⟨s0, s1, s2⟩
                          go_simp
                          with_reducible rfl
                        rotate_left
                        · simp only [Act.put, List.setIfInBounds_toArray, List.set_cons_zero, List.set_cons_succ, i64_w, i32_w]
                          rfl
                        refine take_ (i := 1) (N := some 108) (v := ?_) (a' := ?_) #[true, true, true, false, true, false, false, false, false, false, false, false, false, false, false, false, false] rfl rfl (take_ofW HT_.out HW_.out (by kernel_rfl)) (fun _ _ _ h => h) (Or.inl ⟨by rfl, ?_⟩) hHeld ?_ ?_
                        rotate_left
                        · rintro w' ⟨s0, s1, s2⟩
                          go_simp
                          with_reducible rfl
                        rotate_left
                        · simp only [Act.put, List.setIfInBounds_toArray, List.set_cons_zero, List.set_cons_succ, i64_w, i32_w]
                          rfl
                        refine take_ (i := 5) (N := some 112) (v := ?_) (a' := ?_) #[true, true, true, false, true, true, false, false, false, false, false, false, false, false, false, false, false] rfl rfl (take_ofW HT_.out HW_.out (by kernel_rfl)) (fun _ _ _ h => h) (Or.inl ⟨by rfl, ?_⟩) hHeld ?_ ?_
                        rotate_left
                        · rintro w' ⟨s0, s1, s2⟩
                          go_simp
                          with_reducible rfl
                        rotate_left
                        · simp only [Act.put, List.setIfInBounds_toArray, List.set_cons_zero, List.set_cons_succ, i64_w, i32_w]
                          rfl
                        refine pure_ (i := 6) (N := some 113) (v := ?_) (a' := ?_) #[true, true, true, false, true, true, true, false, false, false, false, false, false, false, false, false, false] rfl rfl (any_of HT_.out (by kernel_rfl)) (fun _ _ _ h => h) (Or.inl ⟨by rfl, ?_⟩) ?_ ?_
                        rotate_left
                        · intro w'
                          go_simp
                          with_reducible rfl
                        rotate_left
                        · simp only [Act.put, List.setIfInBounds_toArray, List.set_cons_zero, List.set_cons_succ, i64_w, i32_w]
                          rfl
                        refine one_ (i := 3) (N := some 110) #[true, true, true, true, true, true, true, false, false, false, false, false, false, false, false, false, false] rfl rfl (one_of HT_.out (by kernel_rfl)) (by decide) (fun K hK => ?_)
                        refine goes_ Tryd.func58 (by kernel_rfl) rfl #[.agg #[.int .i64 a0_0, .slice A0_1 l0_1.length c0_1], .int .i64 a1, .int .i64 y] (by rfl) rfl rfl (by (try simp only [List.map_toArray, List.map_cons, List.map_nil]); first | done | rfl) ?_
                        with_reducible refine (impl_Hex_line.calls a0_0 _ _ l0_1 a1 y (lineI a0_0 a1 y) _ ?side1 ?side2 hline).mono ?_
                        (case side1 => exact Kd.C_below HR.out S2.out.hb)
                        (case side2 => exact HC.out)
                        rintro e w9 ⟨rfl, hb⟩
                        refine ⟨_, rfl, ?_⟩
                        have n0_ := Aside0.mk (S2.out.below hb)
                        have hrg3 := ranges_below hrg2 hb
                        clear S2 hrg2 hb
                        have S2 := n0_
                        clear n0_
                        refine hK.out _ _ ⟨S2.out.z0, S2.out.z1, S2.out.z2⟩ (fun hHeld => ?_)
                        clear hK K
                        refine norm_ (a' := ?_) ?_ ?_
                        rotate_left
                        · show Act.put _ (some 110) _ = _
                          simp only [Act.put, List.setIfInBounds_toArray, List.set_cons_zero, List.set_cons_succ, i64_w, i32_w]
                          rfl
                        refine pure_ (i := 7) (N := some 114) (v := ?_) (a' := ?_) #[true, true, true, true, true, true, true, true, false, false, false, false, false, false, false, false, false] rfl rfl (any_of HT_.out (by kernel_rfl)) (fun _ _ _ h => h) (Or.inl ⟨by rfl, ?_⟩) ?_ ?_
                        rotate_left
                        · intro w'
                          go_simp
                          with_reducible rfl
                        rotate_left
                        · simp only [Act.put, List.setIfInBounds_toArray, List.set_cons_zero, List.set_cons_succ, i64_w, i32_w]
                          rfl
                        refine pure_ (i := 8) (N := some 115) (v := ?_) (a' := ?_) #[true, true, true, true, true, true, true, true, true, false, false, false, false, false, false, false, false] rfl rfl (any_of HT_.out (by kernel_rfl)) (fun _ _ _ h => h) (Or.inl ⟨by rfl, ?_⟩) ?_ ?_
                        rotate_left
                        · intro w'
                          go_simp
                          with_reducible rfl
                        rotate_left
                        · simp only [Act.put, List.setIfInBounds_toArray, List.set_cons_zero, List.set_cons_succ, i64_w, i32_w]
                          rfl
                        refine pure_ (i := 9) (N := some 116) (v := ?_) (a' := ?_) #[true, true, true, true, true, true, true, true, true, true, false, false, false, false, false, false, false] rfl rfl (any_of HT_.out (by kernel_rfl)) (fun _ _ _ h => h) (Or.inl ⟨by rfl, ?_⟩) ?_ ?_
                        rotate_left
                        · intro w'
                          go_simp
                          with_reducible rfl
                        rotate_left
                        · simp only [Act.put, List.setIfInBounds_toArray, List.set_cons_zero, List.set_cons_succ, i64_w, i32_w]
                          rfl
                        refine pure_ (i := 10) (N := some 117) (v := ?_) (a' := ?_) #[true, true, true, true, true, true, true, true, true, true, true, false, false, false, false, false, false] rfl rfl (any_of HT_.out (by kernel_rfl)) (fun _ _ _ h => h) (Or.inl ⟨by rfl, ?_⟩) ?_ ?_
                        rotate_left
                        · intro w'
                          go_simp
                          with_reducible rfl
                        rotate_left
                        · simp only [Act.put, List.setIfInBounds_toArray, List.set_cons_zero, List.set_cons_succ, i64_w, i32_w]
                          rfl
                        refine pure_ (i := 11) (N := some 118) (v := ?_) (a' := ?_) #[true, true, true, true, true, true, true, true, true, true, true, true, false, false, false, false, false] rfl rfl (any_of HT_.out (by kernel_rfl)) (fun _ _ _ h => h) (Or.inl ⟨by rfl, ?_⟩) ?_ ?_
                        rotate_left
                        · intro w'
                          go_simp
                          with_reducible rfl
                        rotate_left
                        · simp only [Act.put, List.setIfInBounds_toArray, List.set_cons_zero, List.set_cons_succ, i64_w, i32_w]
                          rfl
                        refine pure_ (i := 12) (N := some 119) (v := ?_) (a' := ?_) #[true, true, true, true, true, true, true, true, true, true, true, true, true, false, false, false, false] rfl rfl (any_of HT_.out (by kernel_rfl)) (fun _ _ _ h => h) (Or.inl ⟨by rfl, ?_⟩) ?_ ?_
                        rotate_left
                        · intro w'
                          go_simp
                          with_reducible rfl
                        rotate_left
                        · simp only [Act.put, List.setIfInBounds_toArray, List.set_cons_zero, List.set_cons_succ, i64_w, i32_w]
                          rfl
                        refine pure_ (i := 13) (N := some 120) (v := ?_) (a' := ?_) #[true, true, true, true, true, true, true, true, true, true, true, true, true, true, false, false, false] rfl rfl (any_of HT_.out (by kernel_rfl)) (fun _ _ _ h => h) (Or.inl ⟨by rfl, ?_⟩) ?_ ?_
                        rotate_left
                        · intro w'
                          go_simp
                          with_reducible rfl
                        rotate_left
                        · simp only [Act.put, List.setIfInBounds_toArray, List.set_cons_zero, List.set_cons_succ, i64_w, i32_w]
                          rfl
                        refine pure_ (i := 14) (N := some 121) (v := ?_) (a' := ?_) #[true, true, true, true, true, true, true, true, true, true, true, true, true, true, true, false, false] rfl rfl (any_of HT_.out (by kernel_rfl)) (fun _ _ _ h => h) (Or.inl ⟨by rfl, ?_⟩) ?_ ?_
                        rotate_left
                        · intro w'
                          go_simp
                          with_reducible rfl
                        rotate_left
                        · simp only [Act.put, List.setIfInBounds_toArray, List.set_cons_zero, List.set_cons_succ, i64_w, i32_w]
                          rfl
                        refine pure_ (i := 15) (N := some 122) (v := ?_) (a' := ?_) #[true, true, true, true, true, true, true, true, true, true, true, true, true, true, true, true, false] rfl rfl (any_of HT_.out (by kernel_rfl)) (fun _ _ _ h => h) (Or.inl ⟨by rfl, ?_⟩) ?_ ?_
                        rotate_left
                        · intro w'
                          go_simp
                          with_reducible rfl
                        rotate_left
                        · simp only [Act.put, List.setIfInBounds_toArray, List.set_cons_zero, List.set_cons_succ, i64_w, i32_w]
                          rfl
                        refine pure_ (i := 16) (N := some 123) (v := ?_) (a' := ?_) #[true, true, true, true, true, true, true, true, true, true, true, true, true, true, true, true, true] rfl rfl (any_of HT_.out (by kernel_rfl)) (fun _ _ _ h => h) (Or.inl ⟨by rfl, ?_⟩) ?_ ?_
                        rotate_left
                        · intro w'
                          go_simp
                          with_reducible rfl
                        rotate_left
                        · simp only [Act.put, List.setIfInBounds_toArray, List.set_cons_zero, List.set_cons_succ, i64_w, i32_w]
                          rfl
                        refine done_ (done_of HT_.out (by kernel_rfl)) ?_
                        go_wp2
                        go_roundw
                        case rel => exact ⟨_, cnt1, v, rfl, hrg3, best_step hB hmy cl (Or.inr c1) (mget_nonneg call), S2⟩
                        case measure => rw [hrg3.left_eq, hrg.left_eq]; exact hlt
                      · have c1b : decide (v < b) = false := decide_eq_false c1
                        go_wp2
                        have S2 := Aside0.mk (S1.out.drewN 1)
                        have hrg2 := ranges_drew hrg1
                        clear S1 hrg1 hen hg1
                        refine start_ (n := 17) (S := fun w' => w'.cell? ⟨g2, 0, none⟩ = some (.int .i64 a0_0) ∧ w'.cell? ⟨g2, 1, none⟩ = some (.slice A0_1 l0_1.length c0_1) ∧ w'.cell? ⟨g3, 0, none⟩ = some (.int .i64 a1)) (ds := []) #[false, false, false, false, false, false, false, false, false, false, false, false, false, false, false, false, false] (by kernel_rfl) rfl rfl ⟨S2.out.z0, S2.out.z1, S2.out.z2⟩ (fun hHeld => ?_); refine with_tabW impl_Hex_need.tab31 impl_Hex_need.bits31 (fun HT_ HW_ => ?_)
                        rw [show w1.drewN 1 = w1.drew from rfl] at S2 hrg2
                        generalize w1.drew = w8 at S2 hrg2 hHeld ⊢
                        refine pure_ (i := 2) (N := some 109) (v := ?_) (a' := ?_) #[false, false, true, false, false, false, false, false, false, false, false, false, false, false, false, false, false] rfl rfl (any_of HT_.out (by kernel_rfl)) (fun _ _ _ h => h) (Or.inl ⟨by rfl, ?_⟩) ?_ ?_
                        rotate_left
                        · intro w'
                          go_simp
                          with_reducible rfl
                        rotate_left
                        · simp only [Act.put, List.setIfInBounds_toArray, List.set_cons_zero, List.set_cons_succ, i64_w, i32_w]
                          rfl
                        refine pure_ (i := 4) (N := some 111) (v := ?_) (a' := ?_) #[false, false, true, false, true, false, false, false, false, false, false, false, false, false, false, false, false] rfl rfl (any_of HT_.out (by kernel_rfl)) (fun _ _ _ h => h) (Or.inl ⟨by rfl, ?_⟩) ?_ ?_
                        rotate_left
                        · intro w'
                          go_simp
                          with_reducible rfl
                        rotate_left
                        · simp only [Act.put, List.setIfInBounds_toArray, List.set_cons_zero, List.set_cons_succ, i64_w, i32_w]
                          rfl
                        refine take_ (i := 0) (N := some 107) (v := ?_) (a' := ?_) #[true, false, true, false, true, false, false, false, false, false, false, false, false, false, false, false, false] rfl rfl (take_ofW HT_.out HW_.out (by kernel_rfl)) (fun _ _ _ h => h) (Or.inl ⟨by rfl, ?_⟩) hHeld ?_ ?_
                        rotate_left
                        · rintro w' ⟨s0, s1, s2⟩
                          go_simp
                          with_reducible rfl
                        rotate_left
                        · simp only [Act.put, List.setIfInBounds_toArray, List.set_cons_zero, List.set_cons_succ, i64_w, i32_w]
                          rfl
                        refine take_ (i := 1) (N := some 108) (v := ?_) (a' := ?_) #[true, true, true, false, true, false, false, false, false, false, false, false, false, false, false, false, false] rfl rfl (take_ofW HT_.out HW_.out (by kernel_rfl)) (fun _ _ _ h => h) (Or.inl ⟨by rfl, ?_⟩) hHeld ?_ ?_
                        rotate_left
                        · rintro w' ⟨s0, s1, s2⟩
                          go_simp
                          with_reducible rfl
                        rotate_left
                        · simp only [Act.put, List.setIfInBounds_toArray, List.set_cons_zero, List.set_cons_succ, i64_w, i32_w]
                          rfl
                        refine take_ (i := 5) (N := some 112) (v := ?_) (a' := ?_) #[true, true, true, false, true, true, false, false, false, false, false, false, false, false, false, false, false] rfl rfl (take_ofW HT_.out HW_.out (by kernel_rfl)) (fun _ _ _ h => h) (Or.inl ⟨by rfl, ?_⟩) hHeld ?_ ?_
                        rotate_left
                        · rintro w' ⟨s0, s1, s2⟩
                          go_simp
                          with_reducible rfl
                        rotate_left
                        · simp only [Act.put, List.setIfInBounds_toArray, List.set_cons_zero, List.set_cons_succ, i64_w, i32_w]
                          rfl
                        refine pure_ (i := 6) (N := some 113) (v := ?_) (a' := ?_) #[true, true, true, false, true, true, true, false, false, false, false, false, false, false, false, false, false] rfl rfl (any_of HT_.out (by kernel_rfl)) (fun _ _ _ h => h) (Or.inl ⟨by rfl, ?_⟩) ?_ ?_
                        rotate_left
                        · intro w'
                          go_simp
                          with_reducible rfl
                        rotate_left
                        · simp only [Act.put, List.setIfInBounds_toArray, List.set_cons_zero, List.set_cons_succ, i64_w, i32_w]
                          rfl
                        refine one_ (i := 3) (N := some 110) #[true, true, true, true, true, true, true, false, false, false, false, false, false, false, false, false, false] rfl rfl (one_of HT_.out (by kernel_rfl)) (by decide) (fun K hK => ?_)
                        refine goes_ Tryd.func58 (by kernel_rfl) rfl #[.agg #[.int .i64 a0_0, .slice A0_1 l0_1.length c0_1], .int .i64 a1, .int .i64 y] (by rfl) rfl rfl (by (try simp only [List.map_toArray, List.map_cons, List.map_nil]); first | done | rfl) ?_
                        with_reducible refine (impl_Hex_line.calls a0_0 _ _ l0_1 a1 y (lineI a0_0 a1 y) _ ?side1 ?side2 hline).mono ?_
                        (case side1 => exact Kd.C_below HR.out S2.out.hb)
                        (case side2 => exact HC.out)
                        rintro e w9 ⟨rfl, hb⟩
                        refine ⟨_, rfl, ?_⟩
                        have n0_ := Aside0.mk (S2.out.below hb)
                        have hrg3 := ranges_below hrg2 hb
                        clear S2 hrg2 hb
                        have S2 := n0_
                        clear n0_
                        refine hK.out _ _ ⟨S2.out.z0, S2.out.z1, S2.out.z2⟩ (fun hHeld => ?_)
                        clear hK K
                        refine norm_ (a' := ?_) ?_ ?_
                        rotate_left
                        · show Act.put _ (some 110) _ = _
                          simp only [Act.put, List.setIfInBounds_toArray, List.set_cons_zero, List.set_cons_succ, i64_w, i32_w]
                          rfl
                        refine pure_ (i := 7) (N := some 114) (v := ?_) (a' := ?_) #[true, true, true, true, true, true, true, true, false, false, false, false, false, false, false, false, false] rfl rfl (any_of HT_.out (by kernel_rfl)) (fun _ _ _ h => h) (Or.inl ⟨by rfl, ?_⟩) ?_ ?_
                        rotate_left
                        · intro w'
                          go_simp
                          with_reducible rfl
                        rotate_left
                        · simp only [Act.put, List.setIfInBounds_toArray, List.set_cons_zero, List.set_cons_succ, i64_w, i32_w]
                          rfl
                        refine pure_ (i := 8) (N := some 115) (v := ?_) (a' := ?_) #[true, true, true, true, true, true, true, true, true, false, false, false, false, false, false, false, false] rfl rfl (any_of HT_.out (by kernel_rfl)) (fun _ _ _ h => h) (Or.inl ⟨by rfl, ?_⟩) ?_ ?_
                        rotate_left
                        · intro w'
                          go_simp
                          with_reducible rfl
                        rotate_left
                        · simp only [Act.put, List.setIfInBounds_toArray, List.set_cons_zero, List.set_cons_succ, i64_w, i32_w]
                          rfl
                        refine pure_ (i := 9) (N := some 116) (v := ?_) (a' := ?_) #[true, true, true, true, true, true, true, true, true, true, false, false, false, false, false, false, false] rfl rfl (any_of HT_.out (by kernel_rfl)) (fun _ _ _ h => h) (Or.inl ⟨by rfl, ?_⟩) ?_ ?_
                        rotate_left
                        · intro w'
                          go_simp
                          with_reducible rfl
                        rotate_left
                        · simp only [Act.put, List.setIfInBounds_toArray, List.set_cons_zero, List.set_cons_succ, i64_w, i32_w]
                          rfl
                        refine pure_ (i := 10) (N := some 117) (v := ?_) (a' := ?_) #[true, true, true, true, true, true, true, true, true, true, true, false, false, false, false, false, false] rfl rfl (any_of HT_.out (by kernel_rfl)) (fun _ _ _ h => h) (Or.inl ⟨by rfl, ?_⟩) ?_ ?_
                        rotate_left
                        · intro w'
                          go_simp
                          with_reducible rfl
                        rotate_left
                        · simp only [Act.put, List.setIfInBounds_toArray, List.set_cons_zero, List.set_cons_succ, i64_w, i32_w]
                          rfl
                        refine pure_ (i := 11) (N := some 118) (v := ?_) (a' := ?_) #[true, true, true, true, true, true, true, true, true, true, true, true, false, false, false, false, false] rfl rfl (any_of HT_.out (by kernel_rfl)) (fun _ _ _ h => h) (Or.inl ⟨by rfl, ?_⟩) ?_ ?_
                        rotate_left
                        · intro w'
                          go_simp
                          with_reducible rfl
                        rotate_left
                        · simp only [Act.put, List.setIfInBounds_toArray, List.set_cons_zero, List.set_cons_succ, i64_w, i32_w]
                          rfl
                        refine pure_ (i := 12) (N := some 119) (v := ?_) (a' := ?_) #[true, true, true, true, true, true, true, true, true, true, true, true, true, false, false, false, false] rfl rfl (any_of HT_.out (by kernel_rfl)) (fun _ _ _ h => h) (Or.inl ⟨by rfl, ?_⟩) ?_ ?_
                        rotate_left
                        · intro w'
                          go_simp
                          with_reducible rfl
                        rotate_left
                        · simp only [Act.put, List.setIfInBounds_toArray, List.set_cons_zero, List.set_cons_succ, i64_w, i32_w]
                          rfl
                        refine pure_ (i := 13) (N := some 120) (v := ?_) (a' := ?_) #[true, true, true, true, true, true, true, true, true, true, true, true, true, true, false, false, false] rfl rfl (any_of HT_.out (by kernel_rfl)) (fun _ _ _ h => h) (Or.inl ⟨by rfl, ?_⟩) ?_ ?_
                        rotate_left
                        · intro w'
                          go_simp
                          with_reducible rfl
                        rotate_left
                        · simp only [Act.put, List.setIfInBounds_toArray, List.set_cons_zero, List.set_cons_succ, i64_w, i32_w]
                          rfl
                        refine pure_ (i := 14) (N := some 121) (v := ?_) (a' := ?_) #[true, true, true, true, true, true, true, true, true, true, true, true, true, true, true, false, false] rfl rfl (any_of HT_.out (by kernel_rfl)) (fun _ _ _ h => h) (Or.inl ⟨by rfl, ?_⟩) ?_ ?_
                        rotate_left
                        · intro w'
                          go_simp
                          with_reducible rfl
                        rotate_left
                        · simp only [Act.put, List.setIfInBounds_toArray, List.set_cons_zero, List.set_cons_succ, i64_w, i32_w]
                          rfl
                        refine pure_ (i := 15) (N := some 122) (v := ?_) (a' := ?_) #[true, true, true, true, true, true, true, true, true, true, true, true, true, true, true, true, false] rfl rfl (any_of HT_.out (by kernel_rfl)) (fun _ _ _ h => h) (Or.inl ⟨by rfl, ?_⟩) ?_ ?_
                        rotate_left
                        · intro w'
                          go_simp
                          with_reducible rfl
                        rotate_left
                        · simp only [Act.put, List.setIfInBounds_toArray, List.set_cons_zero, List.set_cons_succ, i64_w, i32_w]
                          rfl
                        refine pure_ (i := 16) (N := some 123) (v := ?_) (a' := ?_) #[true, true, true, true, true, true, true, true, true, true, true, true, true, true, true, true, true] rfl rfl (any_of HT_.out (by kernel_rfl)) (fun _ _ _ h => h) (Or.inl ⟨by rfl, ?_⟩) ?_ ?_
                        rotate_left
                        · intro w'
                          go_simp
                          with_reducible rfl
                        rotate_left
                        · simp only [Act.put, List.setIfInBounds_toArray, List.set_cons_zero, List.set_cons_succ, i64_w, i32_w]
                          rfl
                        refine done_ (done_of HT_.out (by kernel_rfl)) ?_
                        go_wp2
                        go_roundw
                        case rel => exact ⟨_, cnt1, b, rfl, hrg3, best_step' hB hmy (Or.inr ⟨by omega, by omega⟩), S2⟩
                        case measure => rw [hrg3.left_eq, hrg.left_eq]; exact hlt
                  · have clb : (lineI a0_0 a1 y == wrap64 (a0_0 - 1)) = false := beq_eq_false_iff_ne.mpr cl
                    go_wp2
                    have S2 := Aside0.mk (S1.out.drewN 1)
                    have hrg2 := ranges_drew hrg1
                    clear S1 hrg1 hen hg1
                    refine start_ (n := 17) (S := fun w' => w'.cell? ⟨g2, 0, none⟩ = some (.int .i64 a0_0) ∧ w'.cell? ⟨g2, 1, none⟩ = some (.slice A0_1 l0_1.length c0_1) ∧ w'.cell? ⟨g3, 0, none⟩ = some (.int .i64 a1)) (ds := []) #[false, false, false, false, false, false, false, false, false, false, false, false, false, false, false, false, false] (by kernel_rfl) rfl rfl ⟨S2.out.z0, S2.out.z1, S2.out.z2⟩ (fun hHeld => ?_); refine with_tabW impl_Hex_need.tab31 impl_Hex_need.bits31 (fun HT_ HW_ => ?_)
                    rw [show w1.drewN 1 = w1.drew from rfl] at S2 hrg2
                    generalize w1.drew = w8 at S2 hrg2 hHeld ⊢
                    refine pure_ (i := 2) (N := some 109) (v := ?_) (a' := ?_) #[false, false, true, false, false, false, false, false, false, false, false, false, false, false, false, false, false] rfl rfl (any_of HT_.out (by kernel_rfl)) (fun _ _ _ h => h) (Or.inl ⟨by rfl, ?_⟩) ?_ ?_
                    rotate_left
                    · intro w'
                      go_simp
                      with_reducible rfl
                    rotate_left
                    · simp only [Act.put, List.setIfInBounds_toArray, List.set_cons_zero, List.set_cons_succ, i64_w, i32_w]
                      rfl
                    refine pure_ (i := 4) (N := some 111) (v := ?_) (a' := ?_) #[false, false, true, false, true, false, false, false, false, false, false, false, false, false, false, false, false] rfl rfl (any_of HT_.out (by kernel_rfl)) (fun _ _ _ h => h) (Or.inl ⟨by rfl, ?_⟩) ?_ ?_
                    rotate_left
                    · intro w'
                      go_simp
                      with_reducible rfl
                    rotate_left
                    · simp only [Act.put, List.setIfInBounds_toArray, List.set_cons_zero, List.set_cons_succ, i64_w, i32_w]
                      rfl
                    refine take_ (i := 0) (N := some 107) (v := ?_) (a' := ?_) #[true, false, true, false, true, false, false, false, false, false, false, false, false, false, false, false, false] rfl rfl (take_ofW HT_.out HW_.out (by kernel_rfl)) (fun _ _ _ h => h) (Or.inl ⟨by rfl, ?_⟩) hHeld ?_ ?_
                    rotate_left
                    · rintro w' ⟨s0, s1, s2⟩
                      go_simp
                      with_reducible rfl
                    rotate_left
                    · simp only [Act.put, List.setIfInBounds_toArray, List.set_cons_zero, List.set_cons_succ, i64_w, i32_w]
                      rfl
                    refine take_ (i := 1) (N := some 108) (v := ?_) (a' := ?_) #[true, true, true, false, true, false, false, false, false, false, false, false, false, false, false, false, false] rfl rfl (take_ofW HT_.out HW_.out (by kernel_rfl)) (fun _ _ _ h => h) (Or.inl ⟨by rfl, ?_⟩) hHeld ?_ ?_
                    rotate_left
                    · rintro w' ⟨s0, s1, s2⟩
                      go_simp
                      with_reducible rfl
                    rotate_left
                    · simp only [Act.put, List.setIfInBounds_toArray, List.set_cons_zero, List.set_cons_succ, i64_w, i32_w]
                      rfl
                    refine take_ (i := 5) (N := some 112) (v := ?_) (a' := ?_) #[true, true, true, false, true, true, false, false, false, false, false, false, false, false, false, false, false] rfl rfl (take_ofW HT_.out HW_.out (by kernel_rfl)) (fun _ _ _ h => h) (Or.inl ⟨by rfl, ?_⟩) hHeld ?_ ?_
                    rotate_left
                    · rintro w' ⟨s0, s1, s2⟩
                      go_simp
                      with_reducible rfl
                    rotate_left
                    · simp only [Act.put, List.setIfInBounds_toArray, List.set_cons_zero, List.set_cons_succ, i64_w, i32_w]
                      rfl
                    refine pure_ (i := 6) (N := some 113) (v := ?_) (a' := ?_) #[true, true, true, false, true, true, true, false, false, false, false, false, false, false, false, false, false] rfl rfl (any_of HT_.out (by kernel_rfl)) (fun _ _ _ h => h) (Or.inl ⟨by rfl, ?_⟩) ?_ ?_
                    rotate_left
                    · intro w'
                      go_simp
                      with_reducible rfl
                    rotate_left
                    · simp only [Act.put, List.setIfInBounds_toArray, List.set_cons_zero, List.set_cons_succ, i64_w, i32_w]
                      rfl
                    refine one_ (i := 3) (N := some 110) #[true, true, true, true, true, true, true, false, false, false, false, false, false, false, false, false, false] rfl rfl (one_of HT_.out (by kernel_rfl)) (by decide) (fun K hK => ?_)
                    refine goes_ Tryd.func58 (by kernel_rfl) rfl #[.agg #[.int .i64 a0_0, .slice A0_1 l0_1.length c0_1], .int .i64 a1, .int .i64 y] (by rfl) rfl rfl (by (try simp only [List.map_toArray, List.map_cons, List.map_nil]); first | done | rfl) ?_
                    with_reducible refine (impl_Hex_line.calls a0_0 _ _ l0_1 a1 y (lineI a0_0 a1 y) _ ?side1 ?side2 hline).mono ?_
                    (case side1 => exact Kd.C_below HR.out S2.out.hb)
                    (case side2 => exact HC.out)
                    rintro e w9 ⟨rfl, hb⟩
                    refine ⟨_, rfl, ?_⟩
                    have n0_ := Aside0.mk (S2.out.below hb)
                    have hrg3 := ranges_below hrg2 hb
                    clear S2 hrg2 hb
                    have S2 := n0_
                    clear n0_
                    refine hK.out _ _ ⟨S2.out.z0, S2.out.z1, S2.out.z2⟩ (fun hHeld => ?_)
                    clear hK K
                    refine norm_ (a' := ?_) ?_ ?_
                    rotate_left
                    · show Act.put _ (some 110) _ = _
                      simp only [Act.put, List.setIfInBounds_toArray, List.set_cons_zero, List.set_cons_succ, i64_w, i32_w]
                      rfl
                    refine pure_ (i := 7) (N := some 114) (v := ?_) (a' := ?_) #[true, true, true, true, true, true, true, true, false, false, false, false, false, false, false, false, false] rfl rfl (any_of HT_.out (by kernel_rfl)) (fun _ _ _ h => h) (Or.inl ⟨by rfl, ?_⟩) ?_ ?_
                    rotate_left
                    · intro w'
                      go_simp
                      with_reducible rfl
                    rotate_left
                    · simp only [Act.put, List.setIfInBounds_toArray, List.set_cons_zero, List.set_cons_succ, i64_w, i32_w]
                      rfl
                    refine pure_ (i := 8) (N := some 115) (v := ?_) (a' := ?_) #[true, true, true, true, true, true, true, true, true, false, false, false, false, false, false, false, false] rfl rfl (any_of HT_.out (by kernel_rfl)) (fun _ _ _ h => h) (Or.inl ⟨by rfl, ?_⟩) ?_ ?_
                    rotate_left
                    · intro w'
                      go_simp
                      with_reducible rfl
                    rotate_left
                    · simp only [Act.put, List.setIfInBounds_toArray, List.set_cons_zero, List.set_cons_succ, i64_w, i32_w]
                      rfl
                    refine pure_ (i := 9) (N := some 116) (v := undef) (a' := ?_) #[true, true, true, true, true, true, true, true, true, true, false, false, false, false, false, false, false] rfl rfl (any_of HT_.out (by kernel_rfl)) (fun _ _ _ h => h) (Or.inr ⟨by rfl, rfl⟩) ?_ ?_
                    rotate_left
                    · simp only [Act.put, List.setIfInBounds_toArray, List.set_cons_zero, List.set_cons_succ, i64_w, i32_w]
                      rfl
                    refine pure_ (i := 10) (N := some 117) (v := undef) (a' := ?_) #[true, true, true, true, true, true, true, true, true, true, true, false, false, false, false, false, false] rfl rfl (any_of HT_.out (by kernel_rfl)) (fun _ _ _ h => h) (Or.inr ⟨by rfl, rfl⟩) ?_ ?_
                    rotate_left
                    · simp only [Act.put, List.setIfInBounds_toArray, List.set_cons_zero, List.set_cons_succ, i64_w, i32_w]
                      rfl
                    refine pure_ (i := 11) (N := some 118) (v := undef) (a' := ?_) #[true, true, true, true, true, true, true, true, true, true, true, true, false, false, false, false, false] rfl rfl (any_of HT_.out (by kernel_rfl)) (fun _ _ _ h => h) (Or.inr ⟨by rfl, rfl⟩) ?_ ?_
                    rotate_left
                    · simp only [Act.put, List.setIfInBounds_toArray, List.set_cons_zero, List.set_cons_succ, i64_w, i32_w]
                      rfl
                    refine pure_ (i := 12) (N := some 119) (v := undef) (a' := ?_) #[true, true, true, true, true, true, true, true, true, true, true, true, true, false, false, false, false] rfl rfl (any_of HT_.out (by kernel_rfl)) (fun _ _ _ h => h) (Or.inr ⟨by rfl, rfl⟩) ?_ ?_
                    rotate_left
                    · simp only [Act.put, List.setIfInBounds_toArray, List.set_cons_zero, List.set_cons_succ, i64_w, i32_w]
                      rfl
                    refine pure_ (i := 13) (N := some 120) (v := undef) (a' := ?_) #[true, true, true, true, true, true, true, true, true, true, true, true, true, true, false, false, false] rfl rfl (any_of HT_.out (by kernel_rfl)) (fun _ _ _ h => h) (Or.inr ⟨by rfl, rfl⟩) ?_ ?_
                    rotate_left
                    · simp only [Act.put, List.setIfInBounds_toArray, List.set_cons_zero, List.set_cons_succ, i64_w, i32_w]
                      rfl
                    refine pure_ (i := 14) (N := some 121) (v := undef) (a' := ?_) #[true, true, true, true, true, true, true, true, true, true, true, true, true, true, true, false, false] rfl rfl (any_of HT_.out (by kernel_rfl)) (fun _ _ _ h => h) (Or.inr ⟨by rfl, rfl⟩) ?_ ?_
                    rotate_left
                    · simp only [Act.put, List.setIfInBounds_toArray, List.set_cons_zero, List.set_cons_succ, i64_w, i32_w]
                      rfl
                    refine pure_ (i := 15) (N := some 122) (v := undef) (a' := ?_) #[true, true, true, true, true, true, true, true, true, true, true, true, true, true, true, true, false] rfl rfl (any_of HT_.out (by kernel_rfl)) (fun _ _ _ h => h) (Or.inr ⟨by rfl, rfl⟩) ?_ ?_
                    rotate_left
                    · simp only [Act.put, List.setIfInBounds_toArray, List.set_cons_zero, List.set_cons_succ, i64_w, i32_w]
                      rfl
                    refine pure_ (i := 16) (N := some 123) (v := ?_) (a' := ?_) #[true, true, true, true, true, true, true, true, true, true, true, true, true, true, true, true, true] rfl rfl (any_of HT_.out (by kernel_rfl)) (fun _ _ _ h => h) (Or.inl ⟨by rfl, ?_⟩) ?_ ?_
                    rotate_left
                    · intro w'
                      go_simp
                      with_reducible rfl
                    rotate_left
                    · simp only [Act.put, List.setIfInBounds_toArray, List.set_cons_zero, List.set_cons_succ, i64_w, i32_w]
                      rfl
                    refine done_ (done_of HT_.out (by kernel_rfl)) ?_
                    go_wp2
                    go_roundw
                    case rel => exact ⟨_, cnt1, b, rfl, hrg3, best_step' hB hmy (Or.inl cl), S2⟩
                    case measure => rw [hrg3.left_eq, hrg.left_eq]; exact hlt
end Go.Proofs.YtcfdlbjngpmcaaaDoor.PAll
