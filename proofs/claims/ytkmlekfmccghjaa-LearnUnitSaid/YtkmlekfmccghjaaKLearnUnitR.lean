/- What First teaches above level 0 is a unit when the levels above the told one are taken back, and added there it forces its literal: no conditions. -/
import Derived.Test.YtkmlekfmccghjaaRows
import Derived.WalkKit
import Derived.ProofKit
import Derived.OpenShut
import Derived.ShutString
import Derived.ChangeOld
import Derived.Below
import Derived.SizedLaws
import Derived.Test.YtkmlekfmccghjaaKLearnUnit13
import Derived.Test.YtkmlekfmccghjaaKLearnUnitP
namespace Go.Proofs.Ytkmlekfmccghjaa.learnUnit
open Go.ChangeShapes Go.WideShapes Go.ChangeAt Go.RowKit Go.Proofs.YtkmlekfmccghjaaW.PrintWords Go.Proofs.YtkmlekfmccghjaaW.PrintLast
open Go.ChangeMaps (open_string shut_string)
set_option linter.unusedVariables false
theorem own : ownKnob Try.prog.godebug = none := by kernel_rfl
theorem laidOut : laidOutB Try.prog = true := by kernel_rfl
set_option maxRecDepth 100000 in
theorem lifted (os : Os) (started : os.Started) (H : Type) (enc : TypeId × Value → H) :
    ReturnsInHanded {} Try.checked os 7 .any (Rows.learnUnitSpec.pre6 enc Try.prog Try.f7 Rows.learnUnitRow.domain false) (Rows.learnUnitSpec.post enc Try.prog Try.f7 false true false false) := by
  refine returnsInHanded_of_change_sized (C := Try.checked) own started (by kernel_rfl) Try.func7
    (ChangeSpec.witness6 (enc := enc) (C := Try.checked) false ⟨#[], #[.agg #[.int .i64 0, .slice none 0 0], .slice none 0 0], []⟩ 8 (by kernel_rfl) (by kernel_rfl) (by kernel_rfl) (by kernel_rfl)) ?_
  intro W base args ds gs before hval0 hW hcnd hsz0 _
  have hsz : (DataW.weightsEach Try.prog (Try.f7.params.toList ++ Rows.learnUnitSpec.plain.varTypes Try.prog) (ds ++ gs)).all (· ≤ reachBytes) = true := hsz0
  have hval : ∀ (j : Nat) t v, Try.f7.params[j]? = some t → args[j]? = some v → Value.okWide Try.prog W .any base t v := hval0
  have hW' := hW
  obtain ⟨p, q, hA0, hV, rfl, hfz, hnd⟩ := hW
  have hA : DataW.TrodAll enc Try.prog W 0 (fun _ => true) true Try.f7.params.toList args.toList ds p := hA0
  rw [Try.params7] at hA hval hsz
  obtain ⟨v0, vs0, d0, ds0, p0, q0, hargs, rfl, rfl, h0, r0⟩ := trodAll_cons hA
  obtain ⟨v1, vs1, d1, ds1, p1, q1, rfl, rfl, rfl, h1, r1⟩ := trodAll_cons r0
  obtain ⟨rfl, rfl, rfl⟩ := trodAll_nil r1
  obtain rfl : args = #[v0, v1] := by cases args; simp_all
  obtain ⟨rfl, rfl⟩ := trodVars_none hV
  have k0 := h0
  have lt0 : ∀ x ∈ p0, x.block < W.heap.size := by obtain ⟨m, hm⟩ := h0; exact DataW.trod_lt m _ _ _ hm
  have g0 := Open.at_ hsz (j := 0) (t := 24) rfl rfl
  obtain ⟨v0_0, v0_1, y0_0, y0_1, n0, rfl, rfl, rfl, h0_0, h0_1⟩ := Go.Joins.open_agg2 Try.underlying24 (by kernel_rfl) (by kernel_rfl) (hval 0 24 v0 rfl rfl) h0
  obtain ⟨a0_0, rfl, w0_0⟩ := Open.int_field Try.underlying3 h0_0
  obtain ⟨A0_1, c0_1, l0_1, rfl, hf0_1, hc0_1, w0_1⟩ := Open.slice_field (Open.slice_ (B := 24) Try.underlying22 (by kernel_rfl) (by kernel_rfl) (by decide) (Open.slice_ (B := 8) Try.underlying37 (by kernel_rfl) (by kernel_rfl) (by decide) (Open.int_ Try.underlying3))) h0_1 (Open.fields Try.underlying24 g0 (j := 1) rfl rfl)
  have hr0_1 := Kd.F_now hf0_1
  have hs0_1 := Kd.V_mk (e := 37) (base := W.heap.size) hc0_1 hf0_1
  have k1 := h1
  have lt1 : ∀ x ∈ p1, x.block < W.heap.size := by obtain ⟨m, hm⟩ := h1; exact DataW.trod_lt m _ _ _ hm
  have g1 := Open.at_ hsz (j := 1) (t := 37) rfl rfl
  obtain ⟨A1, len1, c1, rfl⟩ := okWide_slice Try.underlying37 (hval 1 37 v1 rfl rfl)
  obtain ⟨l1, rfl, hf1, hc1, w1⟩ := Open.slice_arg (Open.slice_ (B := 8) Try.underlying37 (by kernel_rfl) (by kernel_rfl) (by decide) (Open.int_ Try.underlying3)) h1 g1
  have hr1 := Kd.F_now hf1
  have hs1 := Kd.V_mk (e := 3) (base := W.heap.size) hc1 hf1
  clear hA0 hval0 hsz0 hsz
  obtain ⟨k, h⟩ := Pure.LearnUnit a0_0 l0_1 l1 w0_0 w0_1 w1
  refine (P.sequiturlaw21_LearnUnit.calls k a0_0 A0_1 c0_1 l0_1 A1 c1 l1 W hr0_1 hc0_1 hr1 hc1 h).mono fun e W' ⟨he, bel⟩ => ?_
  subst he
  exact ⟨_, rfl, _, _, _, [], _, [], hW', trodAll_mk1 (shut_bool Try.underlying4 _), (trodAll_cons_mk (Below.trod laidOut (by kernel_rfl) (of_decide_eq_true (by kernel_rfl)) k0 bel lt0) (trodAll_cons_mk (Below.trod laidOut (by kernel_rfl) (of_decide_eq_true (by kernel_rfl)) k1 bel lt1) trodAll_mk0)), rfl, bel.frame _, fun h => by cases h⟩
theorem over : Rows.learnUnitRow.holds Try.pinned (OpenSpec.ofChange Rows.learnUnitSpec) :=
  OpenClaim.holds_of_wide 7 Try.f7 rfl rfl rfl rfl rfl rfl rfl ⟨rfl, rfl, rfl, rfl, rfl⟩ rfl rfl rfl rfl rfl (by kernel_rfl) Try.func7 (by kernel_rfl)
    (of_decide_eq_true (by kernel_rfl)) (by unfold Func.isWrapper; first | (rw [if_pos (by decide +kernel)]; kernel_rfl) | (rw [if_neg (by decide +kernel)]; exact ⟨rfl, rfl⟩))
    (fun os started H enc _ => lifted os started H enc)
theorem proved : Rows.LearnUnitSaid := over
#print axioms proved
end Go.Proofs.Ytkmlekfmccghjaa.learnUnit
namespace Go.Proofs.Ytkmlekfmccghjaa
/-- The row, under a short name, for the claim. -/
theorem learnUnit_holds : Rows.LearnUnitSaid := learnUnit.proved
end Go.Proofs.Ytkmlekfmccghjaa
