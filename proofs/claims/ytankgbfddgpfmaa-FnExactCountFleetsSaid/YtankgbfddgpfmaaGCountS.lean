/- CountFleets of the reference: its walk. -/
import Derived.Test.YtankgbfddgpfmaaGCountG
namespace Go.Proofs.Ytankgbfddgpfmaa.PAll
open Go.RowKit Go.Proofs.YtankgbfddgpfmaaW.PrintWords Go.Proofs.YtankgbfddgpfmaaW.PrintLast Go.Proofs.YtankgbfddgpfmaaW.PrintMore
set_option linter.unusedVariables false
set_option linter.unusedSimpArgs false

theorem spec_l09Go_nil (k : Nat) (s0 s1 : Int) (A : Option Addr) (c : Nat) (l : List Int) (B : Option Addr) (d : Nat) (used : Int) (n : Nat) (w : World) (hr : Kd.C (Kd.int .i64) w A l.length l) (hc : l.length ≤ c) (hr1 : Kd.C (Kd.int .i64) w B 0 []) (h : spec_l09Go.f k s0 s1 l [] used = some n) :
    Calls Try.prog 45 #[.agg #[.int .i64 s0, .int .i64 s1, .slice A l.length c], .slice B 0 d, .int .i64 used, .slice none 0 0, .int .i64 (-1)] w fun e w' => ∃ (v : Value) (hs : List (Option Addr × Nat × Nat)), e = .returned v ∧ hs.length = n ∧ Kd.R hdr 22 w' w.heap.size (fun _ => True) v hs ∧ Below w.heap.size w w' := spec_l09Go.calls k s0 s1 A c l B d [] used n w hr hc hr1 (Nat.zero_le _) h
set_option maxHeartbeats 8000000 in
set_option maxRecDepth 100000 in
theorem spec_CountFleets.calls (k : Nat) (s0 : Int) (s1 : Int) (A : Option Addr) (c : Nat) (l : List Int) (r1 : Int) (r2 : Int) (w : World) (hr : Kd.C (Kd.int .i64) w A l.length l) (hc : l.length ≤ c) (h : spec_CountFleets.f k s0 s1 l = some (r1, r2)) :
    Calls Try.prog 22 #[.agg #[.int .i64 s0, .int .i64 s1, .slice A l.length c]] w fun e w' => e = .returned (.tuple #[.int .i64 r1, .int .i64 r2]) ∧ Below w.heap.size w w' := by
  have hu28 := Try.underlying28
  unfold spec_CountFleets.f at h
  obtain ⟨b, Hb, H⟩ := Option.bind_eq_some_iff.mp h
  clear h
  have HRA := Aside0.mk hr
  have HCA := Aside0.mk hc
  clear hr hc
  cases b with
  | true =>
    rw [if_pos rfl] at H
    obtain ⟨n, Hn, H⟩ := Option.bind_eq_some_iff.mp H
    obtain ⟨rfl, rfl⟩ : (n : Int) = r1 ∧ 0 = r2 := by simpa using H
    clear H
    go_enter Try.func22, Try.ntmps22
    go_wp2_with (first
      | ((with_reducible refine gate_dst (N := 1) rfl ?_); refine box_event ?hg (N := 1) ?hd (cs := #[.int .i64 s0, .int .i64 s1, .slice A l.length c]) (t := 28) ?hr ?_; (case hd => rfl); (case hg => rfl); (case hr => first | (go_simp; done) | (go_simp; rfl)); intro gb hg w2 hbox hb; have G := Aside0.mk (GB.mk (w := w) (s0 := s0) (s1 := s1) (A := A) (c := c) (l := l) hb hbox); clear hbox hb hg; have z0 := G.out.z0; have z1 := G.out.z1; have z2 := G.out.z2)
      | (go_at_call 36; (with_reducible refine (spec_l09Is.calls k s0 s1 _ _ l true _ ?side1 ?side2 Hb).mono ?_); (case side1 => exact Kd.C_below HRA.out G.out.hb); (case side2 => exact HCA.out); rintro e w3 ⟨rfl, hb⟩; have n0_ := Aside0.mk (G.out.below hb); clear G z0 z1 z2 hb; have G := n0_; clear n0_; have z0 := G.out.z0; have z1 := G.out.z1; have z2 := G.out.z2)
      | ((with_reducible refine gate_dst (N := 8) rfl ?_); refine Kd.R_lit (Kd.int .i64) _ 2 ?hg (N := 8) ?hd (xs := ([] : List Int)) (inner := []) (ok := fun _ => True) (okp := fun _ => True) ?hr ?hp (fun _ hk => hk) trivial (Below.refl _ _) (Nat.le_refl _) (by simp) ?_; (case hd => rfl); (case hg => rfl); (case hr => first | (go_simp; done) | (go_simp; rfl)); (case hp => exact (Reps.none _ _)); intro v1 w4 ho hb hg_ hnew_; clear hg_ hnew_; obtain ⟨AE, cE, eE⟩ := Kd.R_slice ho; subst eE; have HO := Aside0.mk ho; have n0_ := Aside0.mk (G.out.below hb); clear G z0 z1 z2; have G := n0_; clear n0_ ho hb)
      | (go_at_call 45; (with_reducible refine (spec_l09Go_nil k s0 s1 _ _ l AE cE 0 n _ ?side1 ?side2 ?side3 Hn).mono ?_); (case side1 => exact Kd.C_below HRA.out G.out.hb); (case side2 => exact HCA.out); (case side3 => exact (Kd.R_reads' HO.out).2.2); rintro e w5 ⟨v, hs, rfl, hm, ho, hb⟩; obtain ⟨AR, cR, eR⟩ := Kd.R_slice ho; subst eR; have n0_ := Aside0.mk (G.out.below hb); clear G HO ho hb; have G := n0_; clear n0_; subst hm))
    go_ret2
    exact ⟨by first | rfl | (simp; done) | (simp [*]; done), G.out.hb⟩
  | false =>
    rw [if_neg (by decide)] at H
    obtain ⟨rfl, rfl⟩ : 0 = r1 ∧ 1 = r2 := by simpa using H
    clear H
    go_enter Try.func22, Try.ntmps22
    go_wp2_with (first
      | ((with_reducible refine gate_dst (N := 1) rfl ?_); refine box_event ?hg (N := 1) ?hd (cs := #[.int .i64 s0, .int .i64 s1, .slice A l.length c]) (t := 28) ?hr ?_; (case hd => rfl); (case hg => rfl); (case hr => first | (go_simp; done) | (go_simp; rfl)); intro gb hg w2 hbox hb; have G := Aside0.mk (GB.mk (w := w) (s0 := s0) (s1 := s1) (A := A) (c := c) (l := l) hb hbox); clear hbox hb hg; have z0 := G.out.z0; have z1 := G.out.z1; have z2 := G.out.z2)
      | (go_at_call 36; (with_reducible refine (spec_l09Is.calls k s0 s1 _ _ l false _ ?side1 ?side2 Hb).mono ?_); (case side1 => exact Kd.C_below HRA.out G.out.hb); (case side2 => exact HCA.out); rintro e w3 ⟨rfl, hb⟩; have n0_ := Aside0.mk (G.out.below hb); clear G z0 z1 z2 hb; have G := n0_; clear n0_; have z0 := G.out.z0; have z1 := G.out.z1; have z2 := G.out.z2))
    go_ret2
    exact ⟨by first | rfl | (simp; done) | (simp [*]; done), G.out.hb⟩
end Go.Proofs.Ytankgbfddgpfmaa.PAll
