/- ChainSteps: for all clauses, every chain and number, the derived clause or the first error that chain.Step tells is the reference's. -/
import Derived.Test.YtmihgbjfiigmlaaRows
import Derived.WalkKit
import Derived.ProofKit
import Derived.OpenShut
import Derived.ShutString
import Derived.ChangeOld
import Derived.Below
import Derived.SizedLaws
import Derived.Test.YtmihgbjfiigmlaaKChainSteps9
import Derived.Test.YtmihgbjfiigmlaaKChainStepsP
namespace Go.Proofs.Ytmihgbjfiigmlaa.chainSteps
open Go.ChangeShapes Go.WideShapes Go.ChangeAt Go.RowKit Go.Proofs.YtmihgbjfiigmlaaW.PrintWords Go.Proofs.YtmihgbjfiigmlaaW.PrintLast
open Go.ChangeMaps (open_string shut_string)
set_option linter.unusedVariables false
theorem own : ownKnob Try.prog.godebug = none := by kernel_rfl
theorem laidOut : laidOutB Try.prog = true := by kernel_rfl
set_option maxRecDepth 100000 in
theorem lifted (os : Os) (started : os.Started) (H : Type) (enc : TypeId × Value → H) :
    ReturnsInHanded {} Try.checked os 9 .any (Rows.chainStepsSpec.pre6 enc Try.prog Try.f9 Rows.chainStepsRow.domain false) (Rows.chainStepsSpec.post enc Try.prog Try.f9 false true false false) := by
  refine returnsInHanded_of_change_sized (C := Try.checked) own started (by kernel_rfl) Try.func9
    (ChangeSpec.witness6 (enc := enc) (C := Try.checked) false ⟨#[], #[.slice none 0 0, .int .i64 0, .agg #[.slice none 0 0, .slice none 0 0]], []⟩ 8 (by kernel_rfl) (by kernel_rfl) (by kernel_rfl) (by kernel_rfl)) ?_
  intro W base args ds gs before hval0 hW hcnd hsz0 _
  have hsz : (DataW.weightsEach Try.prog (Try.f9.params.toList ++ Rows.chainStepsSpec.plain.varTypes Try.prog) (ds ++ gs)).all (· ≤ reachBytes) = true := hsz0
  have hval : ∀ (j : Nat) t v, Try.f9.params[j]? = some t → args[j]? = some v → Value.okWide Try.prog W .any base t v := hval0
  have hW' := hW
  obtain ⟨p, q, hA0, hV, rfl, hfz, hnd⟩ := hW
  have hA : DataW.TrodAll enc Try.prog W 0 (fun _ => true) true Try.f9.params.toList args.toList ds p := hA0
  rw [Try.params9] at hA hval hsz
  obtain ⟨v0, vs0, d0, ds0, p0, q0, hargs, rfl, rfl, h0, r0⟩ := trodAll_cons hA
  obtain ⟨v1, vs1, d1, ds1, p1, q1, rfl, rfl, rfl, h1, r1⟩ := trodAll_cons r0
  obtain ⟨v2, vs2, d2, ds2, p2, q2, rfl, rfl, rfl, h2, r2⟩ := trodAll_cons r1
  obtain ⟨rfl, rfl, rfl⟩ := trodAll_nil r2
  obtain rfl : args = #[v0, v1, v2] := by cases args; simp_all
  obtain ⟨rfl, rfl⟩ := trodVars_none hV
  have k0 := h0
  have lt0 : ∀ x ∈ p0, x.block < W.heap.size := by obtain ⟨m, hm⟩ := h0; exact DataW.trod_lt m _ _ _ hm
  have g0 := Open.at_ hsz (j := 0) (t := 41) rfl rfl
  obtain ⟨A0, len0, c0, rfl⟩ := okWide_slice Try.underlying41 (hval 0 41 v0 rfl rfl)
  obtain ⟨l0, rfl, hf0, hc0, w0⟩ := Open.slice_arg (Open.slice_ (B := 24) Try.underlying41 (by kernel_rfl) (by kernel_rfl) (by decide) (Open.slice_ (B := 8) Try.underlying22 (by kernel_rfl) (by kernel_rfl) (by decide) (Open.int_ Try.underlying3))) h0 g0
  have hr0 := Kd.F_now hf0
  have hs0 := Kd.V_mk (e := 22) (base := W.heap.size) hc0 hf0
  obtain ⟨a1, rfl, rfl, rfl, w1⟩ := open_int Try.underlying3 (hval 1 3 v1 rfl rfl) h1
  have k2 := h2
  have lt2 : ∀ x ∈ p2, x.block < W.heap.size := by obtain ⟨m, hm⟩ := h2; exact DataW.trod_lt m _ _ _ hm
  have g2 := Open.at_ hsz (j := 2) (t := 43) rfl rfl
  obtain ⟨v2_0, v2_1, y2_0, y2_1, n2, rfl, rfl, rfl, h2_0, h2_1⟩ := Go.Joins.open_agg2 Try.underlying43 (by kernel_rfl) (by kernel_rfl) (hval 2 43 v2 rfl rfl) h2
  obtain ⟨A2_0, c2_0, l2_0, rfl, hf2_0, hc2_0, w2_0⟩ := Open.slice_field (Open.slice_ (B := 8) Try.underlying22 (by kernel_rfl) (by kernel_rfl) (by decide) (Open.int_ Try.underlying3)) h2_0 (Open.fields Try.underlying43 g2 (j := 0) rfl rfl)
  have hr2_0 := Kd.F_now hf2_0
  have hs2_0 := Kd.V_mk (e := 3) (base := W.heap.size) hc2_0 hf2_0
  obtain ⟨A2_1, c2_1, l2_1, rfl, hf2_1, hc2_1, w2_1⟩ := Open.slice_field (Open.slice_ (B := 8) Try.underlying22 (by kernel_rfl) (by kernel_rfl) (by decide) (Open.int_ Try.underlying3)) h2_1 (Open.fields Try.underlying43 g2 (j := 1) rfl rfl)
  have hr2_1 := Kd.F_now hf2_1
  have hs2_1 := Kd.V_mk (e := 3) (base := W.heap.size) hc2_1 hf2_1
  clear hA0 hval0 hsz0 hsz
  obtain ⟨k, h⟩ := Pure.ChainSteps l0 a1 l2_0 l2_1 w0 w1 w2_0 w2_1
  refine (P.sequiturlaw24_ChainSteps.calls k A0 c0 l0 a1 (fun _ => True) A2_0 c2_0 l2_0 (fun _ => True) A2_1 c2_1 l2_1 true W hr0 hc0 hs2_0 hs2_1 rfl h).mono fun e W' ⟨he, bel⟩ => ?_
  subst he
  exact ⟨_, rfl, _, _, _, [], _, [], hW', trodAll_mk1 (shut_bool Try.underlying4 _), (trodAll_cons_mk (Below.trod laidOut (by kernel_rfl) (of_decide_eq_true (by kernel_rfl)) k0 bel lt0) (trodAll_cons_mk (shut_int Try.underlying3 w1) (trodAll_cons_mk (Below.trod laidOut (by kernel_rfl) (of_decide_eq_true (by kernel_rfl)) k2 bel lt2) trodAll_mk0))), rfl, bel.frame _, fun h => by cases h⟩
theorem over : Rows.chainStepsRow.holds Try.pinned (OpenSpec.ofChange Rows.chainStepsSpec) :=
  OpenClaim.holds_of_wide 9 Try.f9 rfl rfl rfl rfl rfl rfl rfl ⟨rfl, rfl, rfl, rfl, rfl⟩ rfl rfl rfl rfl rfl (by kernel_rfl) Try.func9 (by kernel_rfl)
    (of_decide_eq_true (by kernel_rfl)) (by unfold Func.isWrapper; first | (rw [if_pos (by decide +kernel)]; kernel_rfl) | (rw [if_neg (by decide +kernel)]; exact ⟨rfl, rfl⟩))
    (fun os started H enc _ => lifted os started H enc)
theorem proved : Rows.ChainStepsSaid := over
#print axioms proved
end Go.Proofs.Ytmihgbjfiigmlaa.chainSteps
namespace Go.Proofs.Ytmihgbjfiigmlaa
/-- The row, under a short name, for the claim. -/
theorem chainSteps_holds : Rows.ChainStepsSaid := chainSteps.proved
end Go.Proofs.Ytmihgbjfiigmlaa
