/- laws.FnExactCountFleets, called with any arguments that can be read, answers true and leaves them as they read: for every input, no condition. -/
import Derived.Test.YtankgbfddgpfmaaMerged23
import Derived.Test.YtankgbfddgpfmaaRows
import Derived.Test.YtankgbfddgpfmaaPAllx28
import Derived.WalkKit
import Derived.ProofKit
import Derived.OpenShut
import Derived.ShutString
import Derived.ChangeOld
import Derived.Below
import Derived.SizedLaws
import Derived.Lib.SmallJoins
namespace Go.Proofs.Ytankgbfddgpfmaa.fnExactCountFleets
open Go.ChangeShapes Go.WideShapes Go.ChangeAt Go.RowKit Go.Proofs.YtankgbfddgpfmaaW.PrintWords Go.Proofs.Ytankgbfddgpfmaa.GRead Go.Proofs.Ytankgbfddgpfmaa.PAll
open Go.ChangeMaps (open_string shut_string)
set_option linter.unusedVariables false
theorem own : ownKnob Try.prog.godebug = none := by kernel_rfl
theorem laidOut : laidOutB Try.prog = true := by kernel_rfl
theorem walk (Q : laws_FnExactCountFleets.Pure) (a0_0 : Int) (a0_1 : Int) (A0_2 : Option Addr) (c0_2 : Nat) (l0_2 : List Int) (w : World) (hw0_0 : (Lit.int .i64 a0_0).wf = true) (hw0_1 : (Lit.int .i64 a0_1).wf = true) (hr0_2 : Kd.C (Kd.int .i64) w A0_2 l0_2.length l0_2) (hc0_2 : l0_2.length ≤ c0_2) (hw0_2 : l0_2.length ≤ maxLen ∧ ∀ y0_ ∈ l0_2, (Lit.int .i64 y0_).wf = true) :
    Calls Try.prog 5 #[.agg #[.int .i64 a0_0, .int .i64 a0_1, .slice A0_2 l0_2.length c0_2]] w fun e w' => e = .returned (.bool true) ∧ Below w.heap.size w w' := by
  obtain ⟨k, h⟩ := Q a0_0 a0_1 l0_2 hw0_0 hw0_1 hw0_2
  refine (laws_FnExactCountFleets.calls k a0_0 a0_1 A0_2 c0_2 l0_2 true w hr0_2 hc0_2 h).mono ?_
  rintro e w' ⟨rfl, hd⟩
  exact ⟨rfl, hd⟩
set_option maxRecDepth 100000 in
theorem lifted (os : Os) (started : os.Started) (H : Type) (enc : TypeId × Value → H) :
    ReturnsInHanded {} Try.checked os 5 .any (Rows.fnExactCountFleetsSpec.pre6 enc Try.prog Try.f5 Rows.fnExactCountFleetsRow.domain false) (Rows.fnExactCountFleetsSpec.post enc Try.prog Try.f5 false true false false) := by
  refine returnsInHanded_of_change_sized (C := Try.checked) own started (by kernel_rfl) Try.func5
    (ChangeSpec.witness6 (enc := enc) (C := Try.checked) false ⟨#[], #[.agg #[.int .i64 0, .int .i64 0, .slice none 0 0]], []⟩ 8 (by kernel_rfl) (by kernel_rfl) (by kernel_rfl) (by kernel_rfl)) ?_
  intro W base args ds gs before hval0 hW hcnd hsz0 _
  have hval : ∀ (j : Nat) t v, Try.f5.params[j]? = some t → args[j]? = some v → Value.okWide Try.prog W .any base t v := hval0
  have hW' := hW
  obtain ⟨p, q, hA0, hV, rfl, hfz, hnd⟩ := hW
  have hA : DataW.TrodAll enc Try.prog W 0 (fun _ => true) true Try.f5.params.toList args.toList ds p := hA0
  rw [Try.params5] at hA hval
  obtain ⟨v0, vs0, d0, ds0, p0, q0, hargs, rfl, rfl, h0, r0⟩ := trodAll_cons hA
  obtain ⟨rfl, rfl, rfl⟩ := trodAll_nil r0
  obtain rfl : args = #[v0] := by cases args; simp_all
  obtain ⟨rfl, rfl⟩ := trodVars_none hV
  have k0 := h0
  have lt0 : ∀ x ∈ p0, x.block < W.heap.size := by obtain ⟨m, hm⟩ := k0; exact DataW.trod_lt m _ _ _ hm
  obtain ⟨u0_0, u0_1, u0_2, y0_0, y0_1, y0_2, m0, rfl, hd0, hp0, t0_0, t0_1, t0_2⟩ := Go.Joins.open_agg3 Try.underlying24 (by kernel_rfl) (by kernel_rfl) (hval 0 24 v0 rfl rfl) h0
  obtain ⟨a0_0, hs0_0, hw0_0⟩ := (opens_int Try.underlying2) t0_0
  obtain rfl : u0_0 = .int .i64 a0_0 := by simpa [Kd.int, Kd.scalar] using hs0_0
  obtain ⟨a0_1, hs0_1, hw0_1⟩ := (opens_int Try.underlying2) t0_1
  obtain rfl : u0_1 = .int .i64 a0_1 := by simpa [Kd.int, Kd.scalar] using hs0_1
  obtain ⟨l0_2, ⟨A0_2, c0_2, hs0_2, hc0_2, hr0_2⟩, hw0_2⟩ := (opens_slice 0 Try.underlying22 (by kernel_rfl) (opens_int Try.underlying2)) t0_2
  obtain rfl : u0_2 = .slice A0_2 l0_2.length c0_2 := by simpa using hs0_2
  clear hA0 hval0 hsz0
  refine (walk Pure.FnExactCountFleets a0_0 a0_1 A0_2 c0_2 l0_2 W hw0_0 hw0_1 hr0_2 hc0_2 hw0_2).mono fun e W' ⟨he, bel⟩ => ?_
  subst he
  exact ⟨_, rfl, _, _, _, [], _, [], hW', trodAll_mk1 (shut_bool Try.underlying4 _), (trodAll_cons_mk (Below.trod laidOut (by kernel_rfl) (of_decide_eq_true (by kernel_rfl)) k0 bel lt0) trodAll_mk0), rfl, bel.frame _, fun h => by cases h⟩
theorem over : Rows.fnExactCountFleetsRow.holds Try.pinned (OpenSpec.ofChange Rows.fnExactCountFleetsSpec) :=
  OpenClaim.holds_of_wide 5 Try.f5 rfl rfl rfl rfl rfl rfl rfl ⟨rfl, rfl, rfl, rfl, rfl⟩ rfl rfl rfl rfl rfl (by kernel_rfl) Try.func5 (by kernel_rfl)
    (of_decide_eq_true (by kernel_rfl)) (by unfold Func.isWrapper; first | (rw [if_pos (by decide +kernel)]; kernel_rfl) | (rw [if_neg (by decide +kernel)]; exact ⟨rfl, rfl⟩))
    (fun os started H enc _ => lifted os started H enc)
theorem proved : Rows.FnExactCountFleetsSaid := over
end Go.Proofs.Ytankgbfddgpfmaa.fnExactCountFleets
namespace Go.Proofs.Ytankgbfddgpfmaa
/-- The row, under a short name, for the claim. -/
theorem fnExactCountFleets_holds : Rows.FnExactCountFleetsSaid := fnExactCountFleets.proved
#print axioms fnExactCountFleets_holds
end Go.Proofs.Ytankgbfddgpfmaa
