/- LitWithin: for all clauses and all values, who is within another one holds only if that one does; the same are within one another. -/
import Derived.Test.YtmihgbjfiigmlaaRows
import Derived.WalkKit
import Derived.ProofKit
import Derived.OpenShut
import Derived.ShutString
import Derived.ChangeOld
import Derived.Below
import Derived.SizedLaws
import Derived.Test.YtmihgbjfiigmlaaKLitWithin4
import Derived.Test.YtmihgbjfiigmlaaKLitWithinP
namespace Go.Proofs.Ytmihgbjfiigmlaa.litWithin
open Go.ChangeShapes Go.WideShapes Go.ChangeAt Go.RowKit Go.Proofs.YtmihgbjfiigmlaaW.PrintWords Go.Proofs.YtmihgbjfiigmlaaW.PrintLast
open Go.ChangeMaps (open_string shut_string)
set_option linter.unusedVariables false
theorem own : ownKnob Try.prog.godebug = none := by kernel_rfl
theorem laidOut : laidOutB Try.prog = true := by kernel_rfl
set_option maxRecDepth 100000 in
theorem lifted (os : Os) (started : os.Started) (H : Type) (enc : TypeId × Value → H) :
    ReturnsInHanded {} Try.checked os 8 .any (Rows.litWithinSpec.pre6 enc Try.prog Try.f8 Rows.litWithinRow.domain false) (Rows.litWithinSpec.post enc Try.prog Try.f8 false true false false) := by
  refine returnsInHanded_of_change_sized (C := Try.checked) own started (by kernel_rfl) Try.func8
    (ChangeSpec.witness6 (enc := enc) (C := Try.checked) false ⟨#[], #[.slice none 0 0, .slice none 0 0, .slice none 0 0], []⟩ 8 (by kernel_rfl) (by kernel_rfl) (by kernel_rfl) (by kernel_rfl)) ?_
  intro W base args ds gs before hval0 hW hcnd hsz0 _
  have hsz : (DataW.weightsEach Try.prog (Try.f8.params.toList ++ Rows.litWithinSpec.plain.varTypes Try.prog) (ds ++ gs)).all (· ≤ reachBytes) = true := hsz0
  have hval : ∀ (j : Nat) t v, Try.f8.params[j]? = some t → args[j]? = some v → Value.okWide Try.prog W .any base t v := hval0
  have hW' := hW
  obtain ⟨p, q, hA0, hV, rfl, hfz, hnd⟩ := hW
  have hA : DataW.TrodAll enc Try.prog W 0 (fun _ => true) true Try.f8.params.toList args.toList ds p := hA0
  rw [Try.params8] at hA hval hsz
  obtain ⟨v0, vs0, d0, ds0, p0, q0, hargs, rfl, rfl, h0, r0⟩ := trodAll_cons hA
  obtain ⟨v1, vs1, d1, ds1, p1, q1, rfl, rfl, rfl, h1, r1⟩ := trodAll_cons r0
  obtain ⟨v2, vs2, d2, ds2, p2, q2, rfl, rfl, rfl, h2, r2⟩ := trodAll_cons r1
  obtain ⟨rfl, rfl, rfl⟩ := trodAll_nil r2
  obtain rfl : args = #[v0, v1, v2] := by cases args; simp_all
  obtain ⟨rfl, rfl⟩ := trodVars_none hV
  have k0 := h0
  have lt0 : ∀ x ∈ p0, x.block < W.heap.size := by obtain ⟨m, hm⟩ := h0; exact DataW.trod_lt m _ _ _ hm
  have g0 := Open.at_ hsz (j := 0) (t := 22) rfl rfl
  obtain ⟨A0, len0, c0, rfl⟩ := okWide_slice Try.underlying22 (hval 0 22 v0 rfl rfl)
  obtain ⟨l0, rfl, hf0, hc0, w0⟩ := Open.slice_arg (Open.slice_ (B := 8) Try.underlying22 (by kernel_rfl) (by kernel_rfl) (by decide) (Open.int_ Try.underlying3)) h0 g0
  have hr0 := Kd.F_now hf0
  have hs0 := Kd.V_mk (e := 3) (base := W.heap.size) hc0 hf0
  have k1 := h1
  have lt1 : ∀ x ∈ p1, x.block < W.heap.size := by obtain ⟨m, hm⟩ := h1; exact DataW.trod_lt m _ _ _ hm
  have g1 := Open.at_ hsz (j := 1) (t := 22) rfl rfl
  obtain ⟨A1, len1, c1, rfl⟩ := okWide_slice Try.underlying22 (hval 1 22 v1 rfl rfl)
  obtain ⟨l1, rfl, hf1, hc1, w1⟩ := Open.slice_arg (Open.slice_ (B := 8) Try.underlying22 (by kernel_rfl) (by kernel_rfl) (by decide) (Open.int_ Try.underlying3)) h1 g1
  have hr1 := Kd.F_now hf1
  have hs1 := Kd.V_mk (e := 3) (base := W.heap.size) hc1 hf1
  have k2 := h2
  have lt2 : ∀ x ∈ p2, x.block < W.heap.size := by obtain ⟨m, hm⟩ := h2; exact DataW.trod_lt m _ _ _ hm
  have g2 := Open.at_ hsz (j := 2) (t := 23) rfl rfl
  obtain ⟨A2, len2, c2, rfl⟩ := okWide_slice Try.underlying23 (hval 2 23 v2 rfl rfl)
  obtain ⟨l2, rfl, hf2, hc2, w2⟩ := Open.slice_arg (Open.slice_ (B := 1) Try.underlying23 (by kernel_rfl) (by kernel_rfl) (by decide) (Open.bool_ Try.underlying4)) h2 g2
  have hr2 := Kd.F_now hf2
  have hs2 := Kd.V_mk (e := 4) (base := W.heap.size) hc2 hf2
  clear hA0 hval0 hsz0 hsz
  obtain ⟨k, h⟩ := Pure.LitWithin l0 l1 l2 w0 w1 w2
  refine (P.sequiturlaw17_LitWithin.calls k A0 c0 l0 A1 c1 l1 A2 c2 l2 true W hr0 hc0 hr1 hc1 hr2 hc2 rfl h).mono fun e W' ⟨he, bel⟩ => ?_
  subst he
  exact ⟨_, rfl, _, _, _, [], _, [], hW', trodAll_mk1 (shut_bool Try.underlying4 _), (trodAll_cons_mk (Below.trod laidOut (by kernel_rfl) (of_decide_eq_true (by kernel_rfl)) k0 bel lt0) (trodAll_cons_mk (Below.trod laidOut (by kernel_rfl) (of_decide_eq_true (by kernel_rfl)) k1 bel lt1) (trodAll_cons_mk (Below.trod laidOut (by kernel_rfl) (of_decide_eq_true (by kernel_rfl)) k2 bel lt2) trodAll_mk0))), rfl, bel.frame _, fun h => by cases h⟩
theorem over : Rows.litWithinRow.holds Try.pinned (OpenSpec.ofChange Rows.litWithinSpec) :=
  OpenClaim.holds_of_wide 8 Try.f8 rfl rfl rfl rfl rfl rfl rfl ⟨rfl, rfl, rfl, rfl, rfl⟩ rfl rfl rfl rfl rfl (by kernel_rfl) Try.func8 (by kernel_rfl)
    (of_decide_eq_true (by kernel_rfl)) (by unfold Func.isWrapper; first | (rw [if_pos (by decide +kernel)]; kernel_rfl) | (rw [if_neg (by decide +kernel)]; exact ⟨rfl, rfl⟩))
    (fun os started H enc _ => lifted os started H enc)
theorem proved : Rows.LitWithinSaid := over
#print axioms proved
end Go.Proofs.Ytmihgbjfiigmlaa.litWithin
namespace Go.Proofs.Ytmihgbjfiigmlaa
/-- The row, under a short name, for the claim. -/
theorem litWithin_holds : Rows.LitWithinSaid := litWithin.proved
end Go.Proofs.Ytmihgbjfiigmlaa
