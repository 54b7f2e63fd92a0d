import Derived.StillTailTactics
import Derived.Shelf.Abstract
import Derived.Laws.EntriesVeiled
import Derived.WalkMore
import Derived.Test.YtaibnbhgjnddnaaKSolveOnce1
import Derived.Test.YtaibnbhgjnddnaaKSolveOnce2
import Derived.Test.YtaibnbhgjnddnaaKSolveOnce8
import Derived.Test.YtaibnbhgjnddnaaKSolveOnce3
import Derived.Test.YtaibnbhgjnddnaaKSolveOnce4
-- Printed by wip/tools/pp.py of this claim's session (over the kit's print.py); Lean checks it.
namespace Go.Proofs.Ytaibnbhgjnddnaa.P
open Go.RowKit Go.Proofs.YtaibnbhgjnddnaaW.PrintWords Go.Proofs.YtaibnbhgjnddnaaW.PrintLast Go.Proofs.YtaibnbhgjnddnaaW.PrintMore
attribute [local go_sem] max2_int min2_int max_two min_two max_three min_three max_four min_four   -- for this text's walks alone
set_option linter.unusedVariables false
set_option linter.unusedSimpArgs false

-- SOLO
-- IMPORTS Derived.Test.YtaibnbhgjnddnaaPxAunitEng
/-! ### unit_Engine_Add: function 65 -/
/-- A clause more, and it goes on. -/
def Eng.add (k : Nat) (E : Eng) (c : List Int) : Option (Eng × Int) :=
  (lit_Right.f k c E.n).bind fun e => if e ≠ 0 then some (E, e) else if E.cls.length ≥ 4096 then some (E, 2) else (lit_Clean.f c).bind fun r =>
    if E.ws + r.1.length < 4398046511104 ∧ E.tr.length < 4398046511104 then (if E.br < 0 then (Eng.follow k ((E.laid r.1).look E.cls.length) E.tr.length).bind fun E' => some (E', 0) else some (E.laid r.1, 0)) else none
set_option maxRecDepth 100000 in
set_option maxHeartbeats 4000000 in
theorem eng_Add.calls (k : Nat) (E : Eng) (B : Nat) (T : Tag) (p : EngP) (A0 : Option Addr) (c0 : Nat) (l0 : List Int) (E2 : Eng) (r : Int) (w : World) (h : EngIn w B T E p) (hr0 : Kd.C (Kd.int .i64) w A0 l0.length l0) (hc0 : l0.length ≤ c0) (hlit : E.Lits) (hwf : ∀ r, lit_Clean.f l0 = some r → ∀ x ∈ r.1, (Lit.int .i64 x).wf = true) (hf : Eng.add k E l0 = some (E2, r)) :
    Calls Try.prog 65 #[.pointer (some ⟨B, 0, none⟩), .slice A0 l0.length c0] w fun e w' => e = .returned (.int .i64 r) ∧ ∃ T' p', EngIn w' B T' E2 p' ∧ Moved T T' w w' := by
  unfold Eng.add at hf
  obtain ⟨e, he, hf⟩ := Option.bind_eq_some_iff.mp hf
  have c0' := h.cells.1
  have HE := Aside0.mk h
  have HR := Aside0.mk (lit_Right.calls k A0 c0 l0 E.n e w hr0 hc0 he)
  clear he
  by_cases h0 : e = 0
  · subst h0
    rw [if_neg (by decide)] at hf
    obtain ⟨A1, k1, e1⟩ := Kd.R_slice h.cls
    obtain ⟨N, hN⟩ : ∃ N, E.cls.length = N := ⟨_, rfl⟩
    have hcc : ∀ {W : World}, Below w.heap.size w W → W.cell? ⟨B, 1, none⟩ = some (.slice A1 N k1) := fun hb => by
      rw [(h.below hb).cells.2.1, e1, h.len, hN]
    have HCC := Aside0.mk @hcc
    rw [hN] at hf
    by_cases h4 : N ≥ 4096
    · rw [if_pos h4] at hf
      simp only [Option.some.injEq, Prod.mk.injEq] at hf
      obtain ⟨h1, h2⟩ := hf
      subst h2
      have H2 := Aside0.mk h1
      have d1 : decide ((4096 : Int) ≤ (N : Int)) = true := decide_eq_true (by omega)
      have d2 : (4096 ≤ N) = True := eq_true h4
      clear h1 h hlit hwf hr0 hN hcc e1
      go_enter Try.func65, Try.ntmps65
      go_wp2_with fail
      refine HR.out.mono ?_
      rintro e' w1 ⟨rfl, ⟨⟨n1, rfl⟩⟩⟩
      have hb1 := pw_below_drewN (Below.refl w.heap.size w) n1
      have c1 := HCC.out hb1
      have HB1 := Aside0.mk hb1
      clear hb1
      go_wp2
      go_ret
      rw [← H2.out]
      exact ⟨rfl, T, p, HE.out.below HB1.out, Moved.of_below HB1.out⟩
    · rw [if_neg h4] at hf
      obtain ⟨⟨r1, r2⟩, hcl, hf⟩ := Option.bind_eq_some_iff.mp hf
      dsimp only at hf
      by_cases hbd : E.ws + r1.length < 4398046511104 ∧ E.tr.length < 4398046511104
      · rw [if_pos hbd] at hf
        have d1 : decide ((4096 : Int) ≤ (N : Int)) = false := decide_eq_false (by omega)
        have d2 : (4096 ≤ N) = False := eq_false h4
        have hw1 := hwf _ hcl
        have HCALL := Aside0.mk (fun W (hW : Below w.heap.size w W) => eng_lay.calls E B T p A0 c0 l0 r1 r2 W (h.below hW) (Kd.C_below hr0 hW) hc0 hcl hw1 hbd.1 (by rw [hN]; omega))
        obtain ⟨s1, s2, s3, s4, s5, s6, s7⟩ := E.laid_same r1
        have HS1 := Aside0.mk s1
        have HS2 := Aside0.mk s2
        have HS3 := Aside0.mk (show (E.laid r1).cls.length = N + 1 by rw [s3, List.length_append, hN]; rfl)
        have HLL := Aside0.mk (Eng.laid_lits hlit hw1)
        have HBD := Aside0.mk hbd
        have HF := Aside0.mk hf
        have hNb : N < 4096 := by omega
        clear h hlit hwf hr0 hN hcc e1 hcl hw1 s1 s2 s3 s4 s5 s6 s7 hbd hf h4
        go_enter Try.func65, Try.ntmps65
        go_wp2_with fail
        refine HR.out.mono ?_
        rintro e' w1 ⟨rfl, ⟨⟨n1, rfl⟩⟩⟩
        have hb1 := pw_below_drewN (Below.refl w.heap.size w) n1
        have c1 := HCC.out hb1
        have HB1 := Aside0.mk hb1
        clear hb1
        go_wp2_with fail
        refine (HCALL.out _ HB1.out).mono ?_
        rintro e' w2 ⟨rfl, T2, p2, h2, m2⟩
        have c6 := h2.cells.2.2.2.2.2.2.1
        rw [HS1.out] at c6
        have HM2 := Aside0.mk ((Moved.of_below HB1.out).trans m2)
        by_cases hbr : E.br < 0
        · have hf := HF.out
          rw [if_pos hbr] at hf
          obtain ⟨E5, hf5, hr⟩ := Option.bind_eq_some_iff.mp hf
          simp only [Option.some.injEq, Prod.mk.injEq] at hr
          obtain ⟨h1, h3⟩ := hr
          subst h3
          have H2 := Aside0.mk h1
          have d3 : decide (E.br < 0) = true := decide_eq_true hbr
          have c3 := h2.cells.2.2.2.1
          obtain ⟨A3, k3, e3⟩ := Kd.R_slice h2.tr
          obtain ⟨n3, hn3⟩ : ∃ n3, E.tr.length = n3 := ⟨_, rfl⟩
          rw [e3, HS2.out, hn3] at c3
          have c1' := h2.cells.2.1
          obtain ⟨A1', k1', e1'⟩ := Kd.R_slice h2.cls
          rw [e1', h2.len, HS3.out] at c1'
          have HLK := Aside0.mk (eng_look.calls (E.laid r1) B T2 p2 N w2 h2 (by rw [HS3.out]; omega) (HLL.out _ (List.getElem_mem _)) (by rw [HS2.out]; exact HBD.out.2))
          have HF5 := Aside0.mk hf5
          have HN3 := Aside0.mk hn3
          clear hf hf5 h1 hbr e3 hn3 e1' h2 m2 HCALL
          go_wp2_with fail
          refine HLK.out.mono ?_
          rintro e' w4 ⟨rfl, T4, p4, h4, m4, f4⟩
          have HM4 := Aside0.mk (HM2.out.trans m4)
          obtain ⟨l1, l2, _⟩ := (E.laid r1).look_cls N
          have HFO := Aside0.mk (eng_follow.calls k _ B T4 p4 n3 E5 w4 h4 (by unfold Eng.Lits; rw [l1]; exact HLL.out) (by rw [← HN3.out]; exact HF5.out))
          clear h4 m4 f4 l1 l2 HLK
          go_wp2_with fail
          refine HFO.out.mono ?_
          rintro e' w5 ⟨rfl, T5, p5, h5, m5, f5⟩
          have H5 := Aside0.mk h5
          have M5 := Aside0.mk (HM4.out.trans m5)
          clear h5 m5 f5 HFO
          go_wp2
          go_ret
          rw [← H2.out]
          exact ⟨rfl, T5, p5, H5.out, M5.out⟩
        · have hf := HF.out
          rw [if_neg hbr] at hf
          simp only [Option.some.injEq, Prod.mk.injEq] at hf
          obtain ⟨h1, h3⟩ := hf
          subst h3
          have H2 := Aside0.mk h1
          have d3 : decide (E.br < 0) = false := decide_eq_false hbr
          have H3 := Aside0.mk h2
          clear h1 hbr h2 m2 HCALL
          go_wp2
          go_ret
          rw [← H2.out]
          exact ⟨rfl, T2, p2, H3.out, HM2.out⟩
      · rw [if_neg hbd] at hf; cases hf
  · rw [if_pos h0] at hf
    simp only [Option.some.injEq, Prod.mk.injEq] at hf
    obtain ⟨h1, h2⟩ := hf
    subst h2
    have H2 := Aside0.mk h1
    have q1 : (e != 0) = true := by simpa using h0
    have q2 : (e == 0) = false := by simpa using h0
    clear h1 h hlit hwf hr0 h0
    go_enter Try.func65, Try.ntmps65
    go_wp2_with fail
    refine HR.out.mono ?_
    rintro e' w1 ⟨rfl, ⟨⟨n1, rfl⟩⟩⟩
    have HB1 := Aside0.mk (pw_below_drewN (Below.refl w.heap.size w) n1)
    go_wp2
    go_ret
    rw [← H2.out]
    exact ⟨rfl, T, p, HE.out.below HB1.out, Moved.of_below HB1.out⟩
set_option maxRecDepth 100000 in
theorem eng_Add.nobody (A0 : Option Addr) (n0 c0 : Nat) (w : World) : Calls Try.prog 65 #[.pointer none, .slice A0 n0 c0] w fun e w' => e = .returned (.int .i64 1) ∧ w' = w := by
  go_enter Try.func65, Try.ntmps65
  go_wp2
  go_ret
  exact ⟨rfl, rfl⟩


end Go.Proofs.Ytaibnbhgjnddnaa.P

-- Printed by wip/tools/pp.py of this claim's session (over the kit's print.py); Lean checks it.
namespace Go.Proofs.Ytaibnbhgjnddnaa.P
open Go.RowKit Go.Proofs.YtaibnbhgjnddnaaW.PrintWords Go.Proofs.YtaibnbhgjnddnaaW.PrintLast Go.Proofs.YtaibnbhgjnddnaaW.PrintMore
attribute [local go_sem] max2_int min2_int max_two min_two max_three min_three max_four min_four   -- for this text's walks alone
set_option linter.unusedVariables false
set_option linter.unusedSimpArgs false

-- SOLO
-- IMPORTS Derived.Test.YtaibnbhgjnddnaaPxAsolveS Derived.StillTailTactics
/-! ### solve_solver_learn: function 44 -/
/-- The highest level of some literals. -/
def Eng.top (E : Eng) (cl : List Int) (n : Int) : Int := cl.foldl (fun n x => mx n (E.level (vbl x))) n
/-- Levels are taken back until there are less than so many. -/
def PopTo (k : Nat) (lev : Int) : Nat → Eng → Eng → Prop
  | 0, _, _ => False
  | m + 1, E, E' => if lev ≤ (E.st.length : Int) then E.Lits ∧ (∀ x ∈ E.tr, (Lit.int .i64 x).wf = true) ∧ ∃ E1 b, Eng.pop k E = some (E1, b) ∧ PopTo k lev m E1 E' else E' = E
/-- A clause is learnt: the error, and the solver behind it. -/
def Sol.learns (Z : Sol) (k : Nat) (cl : List Int) (f : Int) (Z' : Sol) : Prop :=
  ∃ m E1 E2 f2, PopTo k (Z.E.top cl 0) m Z.E E1 ∧ E1.Lits ∧ (∀ x ∈ cl, (Lit.int .i64 x).wf = true) ∧ (∀ r, lit_Clean.f cl = some r → ∀ x ∈ r.1, (Lit.int .i64 x).wf = true) ∧ Eng.add k E1 cl = some (E2, f2) ∧ Z.all.length < 2199023255552 ∧
    (if f2 ≠ 0 then f = 2 else if 4096 ≤ Z.log.length then f = 2 else f = 0 ∧ Z' = { Z with E := E2, all := Z.all ++ [cl], log := Z.log ++ [⟨false, cl⟩] })
def LearnPost (w0 : World) (S B : Nat) (T : Tag) (U : Col) (f : Int) (Z' : Sol) (w w' : World) : Prop := Below w0.heap.size w0 w' ∧ (∀ g, U g = 5 → w'.heap[g]? = w.heap[g]?) ∧ (f = 0 → SolPost w0 S B T U Z' w w')
set_option maxRecDepth 100000 in
set_option maxHeartbeats 4000000 in
theorem sol_learn.calls (k : Nat) {w0 w : World} {S B : Nat} {T : Tag} {U : Col} {Z : Sol} {p : EngP} {q : SolP} (h0 : SolIn w0 w S B T U Z p q) (A : Option Addr) (c : Nat) (cl : List Int) (f : Int) (Z' : Sol) (hc : cl.length ≤ c) (hF : Kd.F (Kd.int .i64) w (fun k => T k = (0, 0) ∧ U k = 4) A cl.length cl) (hf : Z.learns k cl f Z') :
    Calls Try.prog 44 #[.pointer (some ⟨S, 0, none⟩), .slice A cl.length c] w fun e w' => e = .returned (.int .i64 f) ∧ LearnPost w0 S B T U f Z' w w' := by
  obtain ⟨m, E1, E2, f2, hpop, hlit, hcw, hcl, hadd, hall, hfin⟩ := hf
  have HS := Aside0.mk h0
  have HF4 := Aside0.mk hF
  have HF := Aside0.mk (SolIn.row_ok (w0 := w0) hF)
  have HC := Aside0.mk hc
  have HPOP := Aside0.mk hpop
  have HLIT := Aside0.mk hlit
  have HCW := Aside0.mk hcw
  have HCL := Aside0.mk hcl
  have HADD := Aside0.mk hadd
  have HALL := Aside0.mk hall
  have HFIN := Aside0.mk hfin
  have hbig := (Kd.F_now hF).2.1
  have HR := Aside0.mk (Kd.F_now hF)
  clear h0 hF hc hpop hlit hcw hcl hadd hall hfin
  go_enter Try.func44, Try.ntmps44
  go_wp2
  go_loopg [5, 11] cl.length (fun gg v5 v11 wr => ∃ (j : Nat) (n : Int), v11 = .int .i64 (j : Int) ∧ v5 = .int .i64 n ∧ Aside0 (j + gg = cl.length) ∧ Aside0 (Below w.heap.size w wr) ∧ Aside0 (Z.E.top (cl.drop j) n = Z.E.top cl 0))
  case atStart => exact ⟨0, 0, rfl, rfl, ⟨by simp⟩, ⟨Below.refl _ _⟩, ⟨rfl⟩⟩
  case round =>
    obtain ⟨j, n, rfl, rfl, hg, HB, HT⟩ := hrel
    by_cases hlt : j < cl.length
    · obtain ⟨ad2, e2, x2⟩ := Kd.at_int (Kd.C_below HR.out HB.out) (j : Int) (by omega) (by omega)
      cases e2
      obtain ⟨y, hy⟩ : ∃ y, cl[j] = y := ⟨_, rfl⟩
      have hrd : rd cl (j : Int) = y := by simp [rd, hlt, hy]
      rw [hrd] at x2
      simp only [Int.toNat_natCast] at x2
      have Q0 : ((0 : Int) ≤ (j : Int)) = True := eq_true (by omega)
      have Q1 : ((j : Int) < (cl.length : Int)) = True := eq_true (by omega)
      have Q2 : (j < cl.length) = True := eq_true hlt
      have hd2 : decide ((j : Int) < (cl.length : Int)) = true := decide_eq_true (by omega)
      have HYW := Aside0.mk (HCW.out y (by rw [← hy]; exact List.getElem_mem hlt))
      have ht := HT.out
      rw [List.drop_eq_getElem_cons hlt, hy] at ht
      have HT2 := Aside0.mk (show Z.E.top (cl.drop (j + 1)) (mx n (Z.E.level (vbl y))) = Z.E.top cl 0 from ht)
      clear hy hrd ht HT
      go_upto_region 5 with fail
      have hdr : Below w.heap.size w wr.drew := below_step HB.out (below_drew (Below.refl _ _))
      have d0 := (HS.out.below HB.out).cells.1
      have dE := (HS.out.below hdr).e
      refine start_ (n := 10) (S := fun w' => w'.cell? ⟨S, 0, none⟩ = some (.pointer (some ⟨B, 0, none⟩)) ∧ EngIn w' B T Z.E p ∧ Below w.heap.size w w') (ds := []) #[false, false, false, false, false, false, false, false, false, false] (by kernel_rfl) rfl rfl ⟨d0, dE, hdr⟩ (fun hHeld => ?_)
      refine pure_ (i := 0) (N := some 15) (v := ?_) (a' := ?_) #[true, false, false, false, false, false, false, false, false, false] rfl rfl (by kernel_rfl) (fun _ _ _ h => h) (Or.inl ⟨by rfl, ?_⟩) ?_ ?_
      rotate_left
      · intro w'
        go_simp
        with_reducible rfl
      rotate_left
      · simp only [Act.put, List.setIfInBounds_toArray, List.set_cons_zero, List.set_cons_succ, i64_w, i32_w]
        rfl
      refine pure_ (i := 1) (N := some 16) (v := ?_) (a' := ?_) #[true, true, false, false, false, false, false, false, false, false] rfl rfl (by kernel_rfl) (fun _ _ _ h => h) (Or.inl ⟨by rfl, ?_⟩) ?_ ?_
      rotate_left
      · intro w'
        go_simp
        with_reducible rfl
      rotate_left
      · simp only [Act.put, List.setIfInBounds_toArray, List.set_cons_zero, List.set_cons_succ, i64_w, i32_w]
        rfl
      refine pure_ (i := 2) (N := some 17) (v := ?_) (a' := ?_) #[true, true, true, false, false, false, false, false, false, false] rfl rfl (by kernel_rfl) (fun _ _ _ h => h) (Or.inl ⟨by rfl, ?_⟩) ?_ ?_
      rotate_left
      · intro w'
        go_simp
        with_reducible rfl
      rotate_left
      · simp only [Act.put, List.setIfInBounds_toArray, List.set_cons_zero, List.set_cons_succ, i64_w, i32_w]
        rfl
      refine pure_ (i := 3) (N := some 18) (v := ?_) (a' := ?_) #[true, true, true, true, false, false, false, false, false, false] rfl rfl (by kernel_rfl) (fun _ _ _ h => h) (Or.inl ⟨by rfl, ?_⟩) ?_ ?_
      rotate_left
      · intro w'
        go_simp
        with_reducible rfl
      rotate_left
      · simp only [Act.put, List.setIfInBounds_toArray, List.set_cons_zero, List.set_cons_succ, i64_w, i32_w]
        rfl
      refine pure_ (i := 5) (N := some 20) (v := ?_) (a' := ?_) #[true, true, true, true, false, true, false, false, false, false] rfl rfl (by kernel_rfl) (fun _ _ _ h => h) (Or.inl ⟨by rfl, ?_⟩) ?_ ?_
      rotate_left
      · intro w'
        go_simp
        with_reducible rfl
      rotate_left
      · simp only [Act.put, List.setIfInBounds_toArray, List.set_cons_zero, List.set_cons_succ, i64_w, i32_w]
        rfl
      refine take_ (i := 4) (N := some 19) (v := ?_) (a' := ?_) #[true, true, true, true, true, true, false, false, false, false] rfl rfl (by kernel_rfl) (fun _ _ _ h => h) (Or.inl ⟨by rfl, ?_⟩) hHeld ?_ ?_
      rotate_left
      · rintro w' ⟨s0, s1, s2⟩
        go_simp
        with_reducible rfl
      rotate_left
      · simp only [Act.put, List.setIfInBounds_toArray, List.set_cons_zero, List.set_cons_succ, i64_w, i32_w]
        rfl
      refine one_ (i := 6) (N := some 21) #[true, true, true, true, true, true, true, false, false, false] rfl rfl (by kernel_rfl) (by decide) (fun K hK => ?_)
      refine goes_ Try.func62 (by kernel_rfl) rfl #[.int .i64 y] (by rfl) rfl rfl (by simp only [List.map_toArray, List.map_cons, List.map_nil]; rfl) ?_
      with_reducible refine (solve_variable.calls y (vbl y) _ rfl).mono ?_
      rintro e' w3 ⟨rfl, hb3⟩
      refine ⟨_, rfl, ?_⟩
      refine hK.out _ _ ⟨pw_cell_below hb3 hHeld.1, hHeld.2.1.below hb3, below_step hHeld.2.2 hb3⟩ (fun hHeld => ?_)
      clear hK K
      refine norm_ (a' := ?_) ?_ ?_
      rotate_left
      · show Act.put _ (some 21) _ = _
        simp only [Act.put, List.setIfInBounds_toArray, List.set_cons_zero, List.set_cons_succ, i64_w, i32_w]
        rfl
      refine one_ (i := 7) (N := some 22) #[true, true, true, true, true, true, true, true, false, false] rfl rfl (by kernel_rfl) (by decide) (fun K hK => ?_)
      refine goes_ Try.func61 (by kernel_rfl) rfl #[.pointer (some ⟨B, 0, none⟩), .int .i64 (vbl y)] (by rfl) rfl rfl (by simp only [List.map_toArray, List.map_cons, List.map_nil]; rfl) ?_
      with_reducible refine (eng_Level.calls Z.E B T p (vbl y) _ hHeld.2.1 (vbl_wf HYW.out)).mono ?_
      rintro e' w4 ⟨rfl, hb4⟩
      refine ⟨_, rfl, ?_⟩
      refine hK.out _ _ ⟨pw_cell_below hb4 hHeld.1, hHeld.2.1.below hb4, below_step hHeld.2.2 hb4⟩ (fun hHeld => ?_)
      clear hK K
      refine norm_ (a' := ?_) ?_ ?_
      rotate_left
      · show Act.put _ (some 22) _ = _
        simp only [Act.put, List.setIfInBounds_toArray, List.set_cons_zero, List.set_cons_succ, i64_w, i32_w]
        rfl
      refine pure_ (i := 8) (N := some 23) (v := ?_) (a' := ?_) #[true, true, true, true, true, true, true, true, true, false] rfl rfl (by kernel_rfl) (fun _ _ _ h => h) (Or.inl ⟨by rfl, ?_⟩) ?_ ?_
      rotate_left
      · intro w'
        go_simp
        with_reducible rfl
      rotate_left
      · simp only [Act.put, List.setIfInBounds_toArray, List.set_cons_zero, List.set_cons_succ, i64_w, i32_w]
        rfl
      refine pure_ (i := 9) (N := some 5) (v := ?_) (a' := ?_) #[true, true, true, true, true, true, true, true, true, true] rfl rfl (by kernel_rfl) (fun _ _ _ h => h) (Or.inl ⟨by rfl, ?_⟩) ?_ ?_
      rotate_left
      · intro w'
        go_simp
        with_reducible rfl
      rotate_left
      · simp only [Act.put, List.setIfInBounds_toArray, List.set_cons_zero, List.set_cons_succ, i64_w, i32_w]
        rfl
      refine done_ (by kernel_rfl) ?_
      clear d0 dE hdr
      have HB2 := Aside0.mk hHeld.2.2
      clear hHeld
      go_wp2
      all_goals
        go_roundg (cl.length - (j + 1))
        case measure => have := hg.out; omega
        case rel => exact ⟨j + 1, mx n (Z.E.level (vbl y)), by simp, by unfold mx; first | rw [if_pos (by omega)] | rw [if_neg (by omega)], ⟨by have := hg.out; omega⟩, HB2, HT2⟩
    · have hd2 : decide ((j : Int) < (cl.length : Int)) = false := decide_eq_false (by omega)
      have Q2 : (j < cl.length) = False := eq_false hlt
      have ht := HT.out
      rw [List.drop_of_length_le (by omega)] at ht
      obtain ⟨lev, hlev⟩ : ∃ lev, Z.E.top cl 0 = lev := ⟨_, rfl⟩
      have ht2 : n = lev := ht.trans hlev
      subst ht2
      rw [hlev] at HPOP
      have HS1 := Aside0.mk (HS.out.below HB.out)
      have HM1 := Aside0.mk (MovedS.of_below (T := T) (U := U) HB.out)
      clear ht hlev HT HR
      go_wp2
      go_loopg [] m (fun gg wr2 => ∃ (m2 : Nat) (E3 : Eng) (T3 : Tag) (p3 : EngP), Aside0 (m2 = gg) ∧ Aside0 (SolIn w0 wr2 S B T3 U { Z with E := E3 } p3 q) ∧ Aside0 (MovedS T U T3 U w wr2) ∧ Aside0 (PopTo k n m2 E3 E1))
      case atStart => exact ⟨m, Z.E, T, p, ⟨rfl⟩, HS1, HM1, HPOP⟩
      case round =>
        clear HS1 HM1 HPOP
        obtain ⟨m2, E3, T3, p3, HGG, HS1, HM1, HPOP⟩ := hrel
        have c0 := HS1.out.cells.1
        have hpop := HPOP.out
        cases m2 with
        | zero => exact hpop.elim
        | succ gk =>
          unfold PopTo at hpop
          by_cases hle : n ≤ (E3.st.length : Int)
          · rw [if_pos hle] at hpop
            obtain ⟨p1, p2, E4, b, p4, p5⟩ := hpop
            have dl : decide (n ≤ (E3.st.length : Int)) = true := decide_eq_true hle
            have HCALL := Aside0.mk (eng_Pop.calls k E3 B T3 p3 E4 b _ HS1.out.e p1 p2 p4)
            have HP5 := Aside0.mk p5
            clear p1 p2 p4 p5 hle HPOP
            go_wp2_with fail
            refine (eng_Levels.calls E3 B T3 p3 _ HS1.out.e).mono ?_
            rintro e' w5 ⟨rfl, rfl⟩
            go_wp2_with fail
            refine HCALL.out.mono ?_
            rintro e' w6 ⟨rfl, T6, p6, h6, m6, f6⟩
            obtain ⟨s6, n6⟩ := HS1.out.moved h6 m6
            have HS6 := Aside0.mk s6
            have HM6 := Aside0.mk (HM1.out.trans n6)
            clear h6 m6 f6 s6 n6 HCALL c0 HS1 HM1
            go_wp2
            go_roundg gk
            case measure => have := HGG.out; omega
            case rel => exact ⟨gk, E4, T6, p6, ⟨rfl⟩, HS6, HM6, HP5⟩
          · rw [if_neg hle] at hpop
            have dl : decide (n ≤ (E3.st.length : Int)) = false := decide_eq_false hle
            subst hpop
            clear hle HPOP
            go_wp2_with fail
            refine (eng_Levels.calls E1 B T3 p3 _ HS1.out.e).mono ?_
            rintro e' w5 ⟨rfl, rfl⟩
            have hF5 := HS.out.row_moved HM1.out HF.out
            have HCALL := Aside0.mk (eng_Add.calls k E1 B T3 p3 A c cl E2 f2 _ HS1.out.e (Kd.F_now hF5) HC.out HLIT.out HCL.out HADD.out)
            clear hF5
            go_wp2_with fail
            refine HCALL.out.mono ?_
            rintro e' w6 ⟨rfl, T6, p6, h6, m6⟩
            obtain ⟨s6, n6⟩ := HS1.out.moved h6 m6
            have HS6 := Aside0.mk s6
            have HM6 := Aside0.mk (HM1.out.trans n6)
            clear h6 m6 s6 n6 HCALL c0 HS1 HM1 HADD
            have hfin := HFIN.out
            by_cases hf2 : f2 = 0
            · rw [if_neg (by rw [hf2]; decide)] at hfin
              have q2 : (f2 != 0) = false := by rw [hf2]; rfl
              have hF6 := HS.out.row_moved HM6.out HF.out
              have HF6 := Aside0.mk hF6
              obtain ⟨AA, kA, eA⟩ := Kd.R_slice HS6.out.all
              have c2 := HS6.out.cells.2.2.1
              have hRA := HS6.out.all
              rw [eA] at c2 hRA
              have HEA := Aside0.mk eA
              have HRA := Aside0.mk hRA
              have HLN := Aside0.mk (show (q.hs.length + 1) * 24 ≤ 140737488355328 by have := HS6.out.len; have := HALL.out; simp only at *; omega)
              have HFIN2 := Aside0.mk hfin
              have HS3 := Aside0.mk (show some S ≠ (Value.slice AA q.hs.length kA).ownBlock from fun e => by have := (HS6.out.all.1 S (by rw [HEA.out]; exact e.symm)).2; rw [HS6.out.uS] at this; cases this)
              clear hf2 hfin HFIN hF6 eA hRA
              go_wp2_with (at_builtin; refine Kd.R_append kH (w0 := w6) (W := w6) 0 rfl (.tmp 49) (.tmp 51) 22 25 (.slice none 0 0) 24 rfl Try.underlying22 (by kernel_rfl) rfl (by decide) (by decide) (.slice AA q.hs.length kA) q.hs ((A, cl.length, c) : Hd) [.slice A cl.length c] (fun k => (T6 k = (0, 0) ∧ U k = 1) ∨ w6.heap.size ≤ k) (fun _ => False) rfl rfl rfl (fun _ h => h.elim) (fun k hk => .inr hk) (Kd.R_mono HRA.out (fun _ hk => .inl hk)) (Below.refl _ _) (Nat.zero_le _) HLN.out ?_; intro v7 w7 r7 hb7 hg7 hat7; obtain ⟨A7, k7, e7⟩ := Kd.R_slice r7; subst e7; have H7 := Aside0.mk (HS6.out.turn_all (hd := (A, cl.length, c)) (c := cl) ⟨rfl, HC.out, HF6.out⟩ r7 (by rw [HEA.out]; exact hg7) (by rw [HEA.out]; exact hat7)); have c71 := (blk_cell (blk_grown HS6.out.blk hg7 HS3.out) 2); have f71 := (blk_frozen (blk_grown HS6.out.blk hg7 HS3.out) 2); replace c71 := c71.trans (show _ = some q.vA from rfl); rw [HEA.out] at c71; clear r7 hb7 hg7 hat7)
              obtain ⟨W8, hW8⟩ : ∃ W8, w7.setCell ⟨S, 2, none⟩ (.slice A7 (q.hs.length + 1) k7) = W8 := ⟨_, rfl⟩
              have h7 := H7.out
              simp only [List.length_append, List.length_singleton] at h7
              rw [hW8] at h7 ⊢
              have HS8 := Aside0.mk h7.1
              have HM8 := Aside0.mk (HM6.out.trans h7.2)
              have HF8 := Aside0.mk (SolIn.row_moved4 HM8.out HF4.out)
              clear h7 H7 hW8 c2 HF6
              have hfin := HFIN2.out
              by_cases hl : 4096 ≤ Z.log.length
              · rw [if_pos hl] at hfin
                subst hfin
                go_wp2_with fail
                refine (sol_put.full HS8.out (.slice A cl.length c) hl).mono ?_
                rintro e' w9 ⟨rfl, rfl⟩
                go_wp2
                go_ret
                exact ⟨rfl, HS8.out.old, HM8.out.keeps HS.out, fun h => absurd h (by decide)⟩
              · rw [if_neg hl] at hfin
                obtain ⟨hf0, hz⟩ := hfin
                subst hf0
                have HZ := Aside0.mk hz
                have HCALL := Aside0.mk (sol_put.calls HS8.out A c cl HC.out HF8.out (Nat.lt_of_not_le hl))
                clear hz hl
                go_wp2_with fail
                refine HCALL.out.mono ?_
                rintro e' w9 ⟨rfl, hp⟩
                have HP9 := Aside0.mk hp
                clear hp HCALL
                go_wp2
                go_ret
                obtain ⟨T9, U9, p9, q9, s9, m9, _⟩ := HP9.out
                exact ⟨rfl, s9.old, (HM8.out.trans m9).keeps HS.out, fun _ => ⟨T9, U9, p9, q9, by rw [HZ.out]; exact s9, HM8.out.trans m9⟩⟩
            · rw [if_pos hf2] at hfin
              have q2 : (f2 != 0) = true := by simpa using hf2
              subst hfin
              clear hf2
              go_wp2
              go_ret
              exact ⟨rfl, HS6.out.old, HM6.out.keeps HS.out, fun h => absurd h (by decide)⟩


end Go.Proofs.Ytaibnbhgjnddnaa.P

-- Printed by wip/tools/pp.py of this claim's session (over the kit's print.py); Lean checks it.
namespace Go.Proofs.Ytaibnbhgjnddnaa.P
open Go.RowKit Go.Proofs.YtaibnbhgjnddnaaW.PrintWords Go.Proofs.YtaibnbhgjnddnaaW.PrintLast Go.Proofs.YtaibnbhgjnddnaaW.PrintMore
attribute [local go_sem] max2_int min2_int max_two min_two max_three min_three max_four min_four   -- for this text's walks alone
set_option linter.unusedVariables false
set_option linter.unusedSimpArgs false

-- SOLO
-- IMPORTS Derived.Test.YtaibnbhgjnddnaaPxAsolveS Derived.Test.YtaibnbhgjnddnaaPxAsolveR Derived.StillTailTactics Derived.Shelf.Abstract Derived.Laws.EntriesVeiled Derived.WalkMore
/-! ### solve_solver_run: function 27 -/
/-- The search goes: what it tells, in so many rounds at most (by sol_learn.calls, sol_values.calls and the others). -/
def Sol.runs (k m : Nat) : Nat → Sol → Found → Prop
  | 0, _, _ => False
  | i + 1, Z, r => (∀ c ∈ Z.all, ∀ x ∈ c, (Lit.int .i64 x).wf = true) ∧ Z.E.Lits ∧ (Lit.int .i64 Z.next.1).wf = true ∧
      (if 0 ≤ Z.E.br then ∃ bl, Z.blamed m 0 = some bl ∧ (if Z.stepped.steps ≤ Z.fuel then (∀ x ∈ bl, slices_Contains_int_int.f k Z.asm x = some (decide (x ∈ Z.asm))) ∧
          (if Z.stepped.assumed bl = true then ∃ cl, Z.stepped.ends k bl 0 cl ∧ endFound Z.stepped cl bl 0 = r
            else ∃ ol f Z2, solve_opposites.f k bl = some ol ∧ Z.stepped.learns k ol f Z2 ∧ (if f ≠ 0 then r = Found.bad f 0 else Sol.runs k m i Z2 r)) else r = Found.bad 9 Z.fuel)
      else if Z.next.2 = false then (if Z.stepped.steps ≤ Z.fuel then ∃ bl, Z.stepped.blamed m Z.next.1 = some bl ∧ ∃ cl, Z.stepped.ends k bl Z.next.1 cl ∧ endFound Z.stepped cl bl Z.next.1 = r else r = Found.bad 9 Z.fuel)
      else if Z.next.1 = 0 then r = ⟨0, true, Z.values, [], Z.steps, []⟩
      else if Z.stepped.steps ≤ Z.fuel then ∃ E2 b, Eng.push k Z.E Z.next.1 = some (E2, b) ∧ Sol.runs k m i { Z.stepped with E := E2 } r else r = Found.bad 9 Z.fuel)
theorem learns_same {Z Z' : Sol} {k : Nat} {cl : List Int} (h : Z.learns k cl 0 Z') : Z'.asm = Z.asm ∧ Z'.n = Z.n := by
  obtain ⟨m, E1, E2, f2, _, _, _, _, _, _, h⟩ := h
  split at h
  · cases h
  · split at h
    · cases h
    · rw [h.2]; exact ⟨rfl, rfl⟩
/-- What stays of the caller's. -/
def K5 (U0 : Col) (w : World) (U : Col) (W : World) : Prop := ∀ g, U0 g = 5 → U g = 5 ∧ W.heap[g]? = w.heap[g]? ∧ g < w.heap.size ∧ g < W.heap.size
theorem K5.lt {W W' : World} {g : Nat} (h : W'.heap[g]? = W.heap[g]?) (hg : g < W.heap.size) : g < W'.heap.size := by
  by_cases h2 : g < W'.heap.size
  · exact h2
  · rw [Array.getElem?_eq_none (by omega), Array.getElem?_eq_getElem hg] at h
    cases h
theorem K5.recolor {U0 U U' : Col} {w W W' : World} (h : K5 U0 w U W) (hk : ∀ g, U g = 5 → U' g = 5 ∧ W'.heap[g]? = W.heap[g]?) : K5 U0 w U' W' := fun g hg =>
  ⟨(hk g (h g hg).1).1, (hk g (h g hg).1).2.trans (h g hg).2.1, (h g hg).2.2.1, K5.lt (hk g (h g hg).1).2 (h g hg).2.2.2⟩
theorem K5.keeps {U0 U : Col} {w W W' : World} (h : K5 U0 w U W) (hk : ∀ g, U g = 5 → W'.heap[g]? = W.heap[g]?) : K5 U0 w U W' := h.recolor fun g hg => ⟨hg, hk g hg⟩
theorem K5.below {U0 U : Col} {w W W' : World} (h : K5 U0 w U W) (hb : Below W.heap.size W W') : K5 U0 w U W' := fun g hg =>
  ⟨(h g hg).1, (hb.block g (h g hg).2.2.2).trans (h g hg).2.1, (h g hg).2.2.1, Nat.lt_of_lt_of_le (h g hg).2.2.2 hb.size⟩
theorem K5.out {U0 U : Col} {w W : World} {g2 : Nat} (h : K5 U0 w U W) (hg2 : w.heap.size ≤ g2) (v0 v1 v2 v3 : Value) : ∀ g, U0 g = 5 → (put4 W g2 v0 v1 v2 v3).heap[g]? = w.heap[g]? := fun g hg =>
  (put4_far v0 v1 v2 v3 g (fun e => by have := (h g hg).2.2.1; omega)).trans (h g hg).2.1
theorem K5.okU {w0 : World} {U0 U : Col} {w W : World} (h : K5 U0 w U W) : ∀ k, P.okU w0 U k → P.okU w0 U0 k := fun k hk => ⟨hk.1, fun e => hk.2 (h k e).1⟩
theorem K5.ok {U0 U : Col} {w W : World} (h : K5 U0 w U W) : ∀ k, U k ≠ 5 → U0 k ≠ 5 := fun k hk e => hk (h k e).1
set_option maxRecDepth 100000 in
set_option maxHeartbeats 16000000 in
theorem sol_run.calls (k m i : Nat) {w0 w : World} {S B : Nat} {T : Tag} {U0 : Col} {Z : Sol} {p : EngP} {q : SolP} (r : Found) (h0 : SolIn w0 w S B T U0 Z p q) (hasm : ∀ l ∈ Z.asm, (Lit.int .i64 l).wf = true) (hn : 0 ≤ Z.n ∧ Z.n ≤ 1024) (hf : Z.runs k m i r) :
    Calls Try.prog 27 #[.pointer (some ⟨S, 0, none⟩)] w fun e w' => FoundIn w0 w U0 r e w' := by
  have hu33 := Try.underlying33
  have eg := enters_of Try.func37 (by kernel_rfl) rfl
  obtain ⟨W1, hW1⟩ : ∃ W1, w.alloc (.cells #[.pointer (some ⟨S, 0, none⟩)] 54) = W1 := ⟨_, rfl⟩
  obtain ⟨W2, hW2⟩ : ∃ W2, W1.alloc (.cells #[.bool false, .slice none 0 0, .slice none 0 0, .int .i64 0] 33) = W2 := ⟨_, rfl⟩
  obtain ⟨g1, hg1⟩ : ∃ g, w.heap.size = g := ⟨_, rfl⟩
  have hs1 : W1.heap.size = g1 + 1 := by rw [← hW1, ← hg1]; simp
  obtain ⟨g2, hg2⟩ : ∃ g, g1 + 1 = g := ⟨_, rfl⟩
  have hs2 : W2.heap.size = g2 + 1 := by rw [← hW2, ← hg2]; simp [hs1]
  have b1 : Below w.heap.size w W1 := by rw [← hW1]; exact below_alloc (Below.refl _ _) _
  have b2 : Below W1.heap.size W1 W2 := by rw [← hW2]; exact below_alloc (Below.refl _ _) _
  have n1 := blk_new w (.cells #[.pointer (some ⟨S, 0, none⟩)] 54)
  have n2 := blk_new W1 (.cells #[.bool false, .slice none 0 0, .slice none 0 0, .int .i64 0] 33)
  rw [hW1, hg1] at n1
  rw [hW2, hs1, hg2] at n2
  have hsz := h0.old.size
  have t1 := h0.e.fresh g1 (by omega)
  have t2 := h0.e.fresh g2 (by omega)
  have u1 := h0.fresh g1 (by omega)
  have u2 := h0.fresh g2 (by omega)
  have HX1 := Aside0.mk (blk_below n1 b2)
  have HX2 := Aside0.mk n2
  have hs := (((h0.below b1).below b2).own5 g1 (by omega) (by omega) u1 t1).own5 g2 (by omega) (by omega) (show (if g2 = g1 then 5 else U0 g2) = 0 by rw [if_neg (by omega)]; exact u2) t2
  obtain ⟨U', q', HS, HU, HK⟩ : ∃ (U' : Col) (q' : SolP), Aside0 (SolIn w0 W2 S B T U' Z p q') ∧ Aside0 (T g1 = (0, 0) ∧ U' g1 = 5 ∧ T g2 = (0, 0) ∧ U' g2 = 5) ∧ Aside0 (K5 U0 w U' W2) := ⟨_, _, ⟨hs⟩, ⟨t1, by
    show (if g1 = g2 then 5 else if g1 = g1 then 5 else U0 g1) = 5
    rw [if_neg (by omega), if_pos rfl], t2, if_pos rfl⟩, ⟨fun g hg => by
    have hlt : g < w.heap.size := Nat.lt_of_not_le fun hle => by have := h0.fresh g hle; rw [hg] at this; cases this
    refine ⟨?_, (b2.block g (Nat.lt_of_lt_of_le hlt b1.size)).trans (b1.block g hlt), hlt, Nat.lt_of_lt_of_le hlt (Nat.le_trans b1.size b2.size)⟩
    show (if g = g2 then 5 else if g = g1 then 5 else U0 g) = 5
    split
    · rfl
    · split
      · rfl
      · exact hg⟩⟩
  have HF := Aside0.mk hf
  have HAS := Aside0.mk hasm
  have HNN := Aside0.mk hn
  have HGE := Aside0.mk (show w0.heap.size ≤ g1 ∧ w0.heap.size ≤ g2 by omega)
  have HGW := Aside0.mk (show w.heap.size ≤ g2 by omega)
  have hg3 : W1.heap.size = g2 := by rw [hs1, hg2]
  clear h0 hf hasm hn hs t1 t2 u1 u2 n1 n2 b1 b2 hs1 hs2 hsz
  go_enter Try.func27, Try.ntmps27
  go_wp2
  go_step3
  go_wp2
  go_step3
  go_wp2
  clear hg3 hg1 hg2 hW1 hW2
  go_loopg [] i (fun gg wr => ∃ (i2 : Nat) (T2 : Tag) (U2 : Col) (Z2 : Sol) (p2 : EngP) (q2 : SolP), Aside0 (i2 = gg) ∧ Aside0 (SolIn w0 wr S B T2 U2 Z2 p2 q2) ∧ Aside0 (T2 g1 = (0, 0) ∧ U2 g1 = 5 ∧ T2 g2 = (0, 0) ∧ U2 g2 = 5) ∧ Aside0 (K5 U0 w U2 wr) ∧ Aside0 (wr.heap[g1]? = some (.cells #[.pointer (some ⟨S, 0, none⟩)] 54 (0, 0))) ∧ Aside0 (wr.heap[g2]? = some (.cells #[.bool false, .slice none 0 0, .slice none 0 0, .int .i64 0] 33 (0, 0))) ∧ Aside0 (Z2.runs k m i2 r) ∧ Aside0 (∀ l ∈ Z2.asm, (Lit.int .i64 l).wf = true) ∧ Aside0 (0 ≤ Z2.n ∧ Z2.n ≤ 1024))
  case atStart => exact ⟨i, T, U', Z, p, q', ⟨rfl⟩, HS, HU, HK, HX1, HX2, HF, HAS, HNN⟩
  case round =>
    clear HS HU HK HX1 HX2 HF HAS HNN
    obtain ⟨i2, T, U, Z, p, q, HI, HS, HU, HK, HX1, HX2, HF, HAS, HNN⟩ := hrel
    have hf := HF.out
    cases i2 with
    | zero => exact hf.elim
    | succ i2 =>
      unfold Sol.runs at hf
      obtain ⟨hlit, hlits, hlw, hf⟩ := hf
      have HLIT := Aside0.mk hlit
      have HLITS := Aside0.mk hlits
      have HLW := Aside0.mk hlw
      have c1 : wr.cell? ⟨g1, 0, none⟩ = some (.pointer (some ⟨S, 0, none⟩)) := (blk_cell HX1.out 0).trans rfl
      have HNX := Aside0.mk (sol_next.calls HS.out HAS.out HNN.out)
      obtain ⟨l, hl⟩ : ∃ l, Z.next.1 = l := ⟨_, rfl⟩
      obtain ⟨op, hop⟩ : ∃ op, Z.next.2 = op := ⟨_, rfl⟩
      rw [hl] at HLW HNX hf
      rw [hop] at HNX hf
      have HFF := Aside0.mk hf
      clear hlit hlits hlw hf HF hl hop
      go_wp2_with fail
      refine HNX.out.mono ?_
      rintro e' w3 ⟨rfl, hb3⟩
      have HS3 := Aside0.mk (HS.out.below hb3)
      have HX13 := Aside0.mk (blk_below HX1.out hb3)
      have HX23 := Aside0.mk (blk_below HX2.out hb3)
      have HK3 := Aside0.mk (HK.out.below hb3)
      have c1 : w3.cell? ⟨g1, 0, none⟩ = some (.pointer (some ⟨S, 0, none⟩)) := (blk_cell HX13.out 0).trans rfl
      have c0 := HS3.out.cells.1
      clear hb3 HS HX1 HX2 HK HNX
      have hf := HFF.out
      by_cases hbr : 0 ≤ Z.E.br
      · rw [if_pos hbr] at hf
        obtain ⟨bl, hbl, hf⟩ := hf
        have db : decide ((0 : Int) ≤ Z.E.br) = true := decide_eq_true hbr
        have HBC := Aside0.mk (sol_blamed.calls HS3.out HLIT.out m 0 bl (by decide) hbl)
        have HF2 := Aside0.mk hf
        clear hbr hbl hf HFF
        go_wp2_with fail
        refine (eng_Broken.calls Z.E B T p _ HS3.out.e).mono ?_
        rintro e' w3' ⟨rfl, rfl⟩
        go_wp2_with fail
        refine HBC.out.mono ?_
        rintro e' w4 ⟨v4, rfl, r4, hb4⟩
        have HR4 := Aside0.mk (show Kd.R (Kd.int .i64) 3 w4 w0.heap.size (fun k => T k = (0, 0) ∧ U k = 0) v4 bl from Kd.R_of_own (Kd.own_of_R (Kd.R_lower r4 HS3.out.old.size)) (fun k hk => ⟨HS3.out.e.fresh k (Kd.R_base r4 k hk), HS3.out.fresh k (Kd.R_base r4 k hk)⟩))
        have HS4 := Aside0.mk (HS3.out.below hb4)
        have HX14 := Aside0.mk (blk_below HX13.out hb4)
        have HX24 := Aside0.mk (blk_below HX23.out hb4)
        have HK4 := Aside0.mk (HK3.out.below hb4)
        have c1 : w4.cell? ⟨g1, 0, none⟩ = some (.pointer (some ⟨S, 0, none⟩)) := (blk_cell HX14.out 0).trans rfl
        obtain ⟨A8, c8, e8⟩ := Kd.R_slice r4
        subst e8
        clear r4 hb4 HS3 HX13 HX23 HK3 HBC c0
        go_wp2_with fail
        refine (sol_step.calls HS4.out).mono ?_
        rintro e' w5 ⟨rfl, s5, m5⟩
        have HS5 := Aside0.mk s5
        have HX15 := Aside0.mk ((m5.same g1 (blk_lt HX14.out) HU.out.1 (by rw [HU.out.2.1]; decide)).trans HX14.out)
        have HX25 := Aside0.mk ((m5.same g2 (blk_lt HX24.out) HU.out.2.2.1 (by rw [HU.out.2.2.2]; decide)).trans HX24.out)
        have HK5 := Aside0.mk (HK4.out.keeps (m5.keeps HS4.out))
        have HR5 := Aside0.mk (Kd.R_step HR4.out (fun k hk hl => m5.same k hl hk.1 (by rw [hk.2]; decide)))
        have c1 : w5.cell? ⟨g1, 0, none⟩ = some (.pointer (some ⟨S, 0, none⟩)) := (blk_cell HX15.out 0).trans rfl
        clear s5 m5 HS4 HX14 HX24 HK4 HR4
        have hf := HF2.out
        by_cases hst : Z.stepped.steps ≤ Z.fuel
        · rw [if_pos hst] at hf
          obtain ⟨hcon, hf⟩ := hf
          have ds : decide (Z.stepped.steps ≤ Z.fuel) = true := decide_eq_true hst
          have HAC := Aside0.mk (sol_assumed.calls k HS5.out A8 c8 bl (Kd.R_reads' HR5.out).2.2 hcon)
          have HF3 := Aside0.mk hf
          clear hst hcon hf HF2
          go_wp2_with fail
          refine HAC.out.mono ?_
          rintro e' w6 ⟨rfl, hb6⟩
          have HS6 := Aside0.mk (HS5.out.below hb6)
          have HX16 := Aside0.mk (blk_below HX15.out hb6)
          have HX26 := Aside0.mk (blk_below HX25.out hb6)
          have HK6 := Aside0.mk (HK5.out.below hb6)
          have HR6 := Aside0.mk (Kd.R_below HR5.out hb6)
          have c1 : w6.cell? ⟨g1, 0, none⟩ = some (.pointer (some ⟨S, 0, none⟩)) := (blk_cell HX16.out 0).trans rfl
          clear hb6 HS5 HX15 HX25 HK5 HR5 HAC
          obtain ⟨Z1, hZ1⟩ : ∃ Z1, Z.stepped = Z1 := ⟨_, rfl⟩
          have hz1 : Z1.asm = Z.asm ∧ Z1.n = Z.n := by rw [← hZ1]; exact ⟨rfl, rfl⟩
          have HZ1 := Aside0.mk hz1
          rw [hZ1] at HF3 HS6 ⊢
          clear hZ1 hz1
          have hf := HF3.out
          cases has : Z1.assumed bl with
          | true =>
            rw [if_pos has] at hf
            obtain ⟨cl, hends, hrs⟩ := hf
            have HEC := Aside0.mk (sol_end.run k HS6.out A8 c8 bl 0 cl r HR6.out hends hrs)
            clear has hends hrs HF3
            go_wp2_with fail
            refine HEC.out.mono ?_
            rintro e' w7 ⟨ho4, hx4, vV, vL, vN, rfl, rV, rL, rN⟩
            have HX4K := Aside0.mk hx4
            have hx8 := (hx4 g2 HU.out.2.2.2).trans HX26.out
            obtain ⟨AV, cV, eV⟩ := Kd.R_slice rV
            obtain ⟨AL, cL, eL⟩ := Kd.N_slice rL
            obtain ⟨AN, cN, eN⟩ := Kd.R_slice rN
            subst eV eL eN
            have e0 := blk_cell hx8 0
            have e1 := blk_cell hx8 1
            have e2 := blk_cell hx8 2
            have e3 := blk_cell hx8 3
            have y0 := blk_frozen hx8 0
            have y1 := blk_frozen hx8 1
            have y2 := blk_frozen hx8 2
            have y3 := blk_frozen hx8 3
            have HB8 := Aside0.mk (put4_facts hx8 (.bool r.sat) (.slice AV r.vals.length cV) (.slice AL r.log.length cL) (.int .i64 r.steps)).2.2.2.2
            have HP8 := Aside0.mk (put4_below ho4 HGE.out.2 (.bool r.sat) (.slice AV r.vals.length cV) (.slice AL r.log.length cL) (.int .i64 r.steps))
            have hfar := put4_far (w := w7) (g := g2) (.bool r.sat) (.slice AV r.vals.length cV) (.slice AL r.log.length cL) (.int .i64 r.steps)
            have hne : ∀ k, U k ≠ 5 → k ≠ g2 := fun k hk e => hk (by rw [e]; exact HU.out.2.2.2)
            have HV8 := Aside0.mk (Kd.R_mono (Kd.R_step rV (fun k hk _ => hfar k (hne k hk.2))) HK6.out.okU (ok' := okU w0 U0))
            have HL8 := Aside0.mk (Kd.N_mono (Kd.N_step rL (fun k hk _ => hfar k (hne k hk.1.1.2))) (fun k hk => ⟨⟨HK6.out.okU k hk.1.1, hk.1.2⟩, hk.2⟩) (ok' := fun k => (okU w0 U0 k ∧ some k ≠ (Value.slice AN r.need.length cN).ownBlock) ∧ some k ≠ (Value.slice AV r.vals.length cV).ownBlock))
            have HN8 := Aside0.mk (Kd.R_mono (Kd.R_step rN (fun k hk _ => hfar k (hne k hk.2))) HK6.out.okU (ok' := okU w0 U0))
            clear hx8 hx4 ho4 rV rL rN hfar hne HEC
            go_wp2
            try simp only [Exit.inBlock, Exit.then, Exit.noGoto_ret]
            refine bodyPost_ret (results_cell3 rfl _ _ g2 _ _ _ _ rfl HB8.out hu33 rfl (by kernel_rfl)) rfl ?_
            exact ⟨HP8.out, (HK6.out.keeps HX4K.out).out HGW.out _ _ _ _, _, _, _, rfl, HV8.out, HL8.out, HN8.out⟩
          | false =>
            rw [if_neg (by rw [has]; decide)] at hf
            obtain ⟨ol, fe, Z2, hol, hle, hf⟩ := hf
            have HOL := Aside0.mk hol
            have HLEARN := Aside0.mk hle
            have HC8 := Aside0.mk (Kd.R_reads' HR6.out).2.1
            have HF4 := Aside0.mk hf
            clear has hol hle hf HF3
            go_upto_region 9 with fail
            have hdr : Below w6.heap.size w6 w6.drew := below_drew (Below.refl _ _)
            have d1 := c1
            have dS := HS6.out.below hdr
            have dC := Kd.C_below (Kd.R_reads' HR6.out).2.2 hdr
            refine start_ (n := 5) (S := fun w' => w'.cell? ⟨g1, 0, none⟩ = some (.pointer (some ⟨S, 0, none⟩)) ∧ SolIn w0 w' S B T U Z1 p q ∧ Kd.C (Kd.int .i64) w' A8 bl.length bl) (ds := [3]) #[false, false, false, false, false] (by kernel_rfl) rfl rfl ⟨d1, dS, dC⟩ (fun hHeld => ?_)
            refine pure_ (i := 1) (N := some 43) (v := ?_) (a' := ?_) #[false, true, false, false, false] rfl rfl (by kernel_rfl) (fun _ _ _ h => h) (Or.inl ⟨by rfl, ?_⟩) ?_ ?_
            rotate_left
            · intro w'
              go_simp
              with_reducible rfl
            rotate_left
            · simp only [Act.put, List.setIfInBounds_toArray, List.set_cons_zero, List.set_cons_succ, i64_w, i32_w]
              rfl
            refine take_ (i := 0) (N := some 42) (v := ?_) (a' := ?_) #[true, true, false, false, false] rfl rfl (by kernel_rfl) (fun _ _ _ h => h) (Or.inl ⟨by rfl, ?_⟩) hHeld ?_ ?_
            rotate_left
            · rintro w' ⟨s0, s1, s2⟩
              go_simp
              with_reducible rfl
            rotate_left
            · simp only [Act.put, List.setIfInBounds_toArray, List.set_cons_zero, List.set_cons_succ, i64_w, i32_w]
              rfl
            refine one_ (i := 2) (N := some 44) #[true, true, true, false, false] rfl rfl (by kernel_rfl) (by decide) (fun K hK => ?_)
            refine goes_ Try.func45 (by kernel_rfl) rfl #[.slice A8 bl.length c8] (by rfl) rfl rfl (by simp only [List.map_toArray, List.map_cons, List.map_nil]; rfl) ?_
            with_reducible refine (solve_opposites.calls k A8 c8 bl ol _ hHeld.2.2 HC8.out HOL.out).mono ?_
            rintro e' w3 ⟨v3, rfl, r3, hb3⟩
            refine ⟨_, rfl, ?_⟩
            obtain ⟨A3, c3, e3⟩ := Kd.R_slice r3
            subst e3
            have HR3 := Aside0.mk (show Kd.R (Kd.int .i64) 3 w3 w0.heap.size (fun k => T k = (0, 0) ∧ U k = 0) (.slice A3 ol.length c3) ol from Kd.R_of_own (Kd.own_of_R (Kd.R_lower r3 hHeld.2.1.old.size)) (fun k hk => ⟨hHeld.2.1.e.fresh k (Kd.R_base r3 k hk), hHeld.2.1.fresh k (Kd.R_base r3 k hk)⟩))
            have HC3 := Aside0.mk (Kd.R_reads' r3).2.1
            clear r3
            refine hK.out _ _ ⟨pw_cell_below hb3 hHeld.1, hHeld.2.1.below hb3, Kd.C_below hHeld.2.2 hb3⟩ (fun hHeld => ?_)
            clear hK K
            refine norm_ (a' := ?_) ?_ ?_
            rotate_left
            · show Act.put _ (some 44) _ = _
              simp only [Act.put, List.setIfInBounds_toArray, List.set_cons_zero, List.set_cons_succ, i64_w, i32_w]
              rfl
            refine last_ (i := 3) (N := some 45) #[true, true, true, true, false] rfl rfl (by kernel_rfl) (by decide) (fun K hK => ?_)
            obtain ⟨s7, m7, f7⟩ := hHeld.2.1.color HR3.out
            refine goes_ Try.func44 (by kernel_rfl) rfl #[.pointer (some ⟨S, 0, none⟩), .slice A3 ol.length c3] (by rfl) rfl rfl (by simp only [List.map_toArray, List.map_cons, List.map_nil]; rfl) ?_
            with_reducible refine (sol_learn.calls k s7 A3 c3 ol fe Z2 HC3.out (f7 A3 c3 rfl) HLEARN.out).mono ?_
            rintro e' w4 ⟨rfl, hp4⟩
            refine ⟨_, rfl, ?_⟩
            have HP4 := Aside0.mk hp4
            have HM7 := Aside0.mk m7
            clear hp4 s7 m7 f7
            refine hK.out _ _ ?_
            clear hK K
            refine norm_ (a' := ?_) ?_ ?_
            rotate_left
            · show Act.put _ (some 45) _ = _
              simp only [Act.put, List.setIfInBounds_toArray, List.set_cons_zero, List.set_cons_succ, i64_w, i32_w]
              rfl
            refine pure_ (i := 4) (N := some 9) (v := ?_) (a' := ?_) #[true, true, true, true, true] rfl rfl (by kernel_rfl) (fun _ _ _ h => h) (Or.inl ⟨by rfl, ?_⟩) ?_ ?_
            rotate_left
            · intro w'
              go_simp
              with_reducible rfl
            rotate_left
            · simp only [Act.put, List.setIfInBounds_toArray, List.set_cons_zero, List.set_cons_succ, i64_w, i32_w]
              rfl
            refine done_ (by kernel_rfl) ?_
            clear d1 dS dC hdr
            have hp5 : ∀ g, U g = 5 → paint U (.slice A3 ol.length c3) 4 g = 5 := fun g hg => (HM7.out.ukn g (Nat.lt_of_not_le fun hle => by have := (HS6.out.below (below_drew (Below.refl _ _))).fresh g (Nat.le_trans hb3.size hle); rw [hg] at this; cases this) (by rw [hg]; decide)).trans hg
            have HX17 := Aside0.mk ((HP4.out.2.1 g1 (hp5 g1 HU.out.2.1)).trans (blk_below (w := w6.drew) HX16.out hb3))
            have HX27 := Aside0.mk ((HP4.out.2.1 g2 (hp5 g2 HU.out.2.2.2)).trans (blk_below (w := w6.drew) HX26.out hb3))
            have HK7 := Aside0.mk ((HK6.out.below (W' := w3) (below_step (below_drew (Below.refl _ _)) hb3)).recolor fun g hg => ⟨hp5 g hg, HP4.out.2.1 g (hp5 g hg)⟩)
            have HKU := Aside0.mk (show ∀ g, U0 g = 5 → U g = 5 from fun g hg => (HK6.out g hg).1)
            have HLT := Aside0.mk (show ∀ g, U g = 5 → g < w3.heap.size from fun g hg => Nat.lt_of_lt_of_le (Nat.lt_of_not_le fun hle => by have := HS6.out.fresh g hle; rw [hg] at this; cases this) hb3.size)
            have HP5 := Aside0.mk hp5
            have HO4 := Aside0.mk HP4.out.1
            have HPS := Aside0.mk HP4.out.2.2
            clear hp5 hHeld HP4 hb3 HS6 HX16 HX26 HK6 HR6 c1
            have hf := HF4.out
            by_cases hfe : fe = 0
            · subst hfe
              rw [if_neg (by decide)] at hf
              obtain ⟨T9, U9, p9, q9, s9, m9⟩ := HPS.out rfl
              have hsame := learns_same HLEARN.out
              have hk9 : ∀ g, U g = 5 → T g = (0, 0) → T9 g = (0, 0) ∧ U9 g = 5 := fun g hg ht => ⟨(m9.tk g (HLT.out g hg)).trans ht, (m9.ukn g (HLT.out g hg) (by rw [HP5.out g hg]; decide)).trans (HP5.out g hg)⟩
              have HS9 := Aside0.mk s9
              have HK9 := Aside0.mk (show K5 U0 w U9 _ from fun g hg => ⟨(m9.ukn g (HLT.out g (HKU.out g hg)) (by rw [(HK7.out g hg).1]; decide)).trans (HK7.out g hg).1, (HK7.out g hg).2⟩)
              have HU9 := Aside0.mk (show T9 g1 = (0, 0) ∧ U9 g1 = 5 ∧ T9 g2 = (0, 0) ∧ U9 g2 = 5 from ⟨(hk9 g1 HU.out.2.1 HU.out.1).1, (hk9 g1 HU.out.2.1 HU.out.1).2, (hk9 g2 HU.out.2.2.2 HU.out.2.2.1).1, (hk9 g2 HU.out.2.2.2 HU.out.2.2.1).2⟩)
              have HF5 := Aside0.mk hf
              have HAS5 := Aside0.mk (show ∀ l ∈ Z2.asm, (Lit.int .i64 l).wf = true by rw [hsame.1, HZ1.out.1]; exact HAS.out)
              have HNN5 := Aside0.mk (show 0 ≤ Z2.n ∧ Z2.n ≤ 1024 by rw [hsame.2, HZ1.out.2]; exact HNN.out)
              clear hf hsame hk9 s9 m9
              go_wp2
              go_roundg i2
              case measure => have := HI.out; omega
              case rel => exact ⟨i2, T9, U9, Z2, p9, q9, ⟨rfl⟩, HS9, HU9, HK9, HX17, HX27, HF5, HAS5, HNN5⟩
            · rw [if_pos hfe] at hf
              have q1 : (fe != 0) = true := by simpa using hfe
              have HRE := Aside0.mk hf
              have hx8 := HX27.out
              have e0 := blk_cell hx8 0
              have e1 := blk_cell hx8 1
              have e2 := blk_cell hx8 2
              have e3 := blk_cell hx8 3
              have y0 := blk_frozen hx8 0
              have y1 := blk_frozen hx8 1
              have y2 := blk_frozen hx8 2
              have y3 := blk_frozen hx8 3
              have HB8 := Aside0.mk (put4_facts hx8 (.bool false) (.slice none 0 0) (.slice none 0 0) (.int .i64 0)).2.2.2.2
              have HP8 := Aside0.mk (put4_below HO4.out HGE.out.2 (.bool false) (.slice none 0 0) (.slice none 0 0) (.int .i64 0))
              clear hx8 hfe hf
              go_wp2
              try simp only [Exit.inBlock, Exit.then, Exit.noGoto_ret]
              refine bodyPost_ret (results_cell3 rfl _ _ g2 _ _ _ _ rfl HB8.out hu33 rfl (by kernel_rfl)) rfl ?_
              exact ⟨HP8.out, HK7.out.out HGW.out _ _ _ _, _, _, _, by rw [HRE.out]; rfl, by rw [HRE.out]; exact Kd.R_nil _ _ _ _ _, by rw [HRE.out]; exact Kd.N_nil _ _ _ _ _, by rw [HRE.out]; exact Kd.R_nil _ _ _ _ _⟩
        · rw [if_neg hst] at hf
          have ds : decide (Z.stepped.steps ≤ Z.fuel) = false := decide_eq_false hst
          have HRE := Aside0.mk hf
          clear hst hf HF2
          go_wp2_with fail
          refine (sol_out.calls HS5.out g1 ((blk_cell HX15.out 0).trans rfl)).mono ?_
          rintro e' w8 ⟨rfl, hb8⟩
          have hx8 := blk_below HX25.out hb8
          have HO8 := Aside0.mk (below_step HS5.out.old hb8)
          have HB58 := Aside0.mk hb8
          have e0 := blk_cell hx8 0
          have e1 := blk_cell hx8 1
          have e2 := blk_cell hx8 2
          have e3 := blk_cell hx8 3
          have y0 := blk_frozen hx8 0
          have y1 := blk_frozen hx8 1
          have y2 := blk_frozen hx8 2
          have y3 := blk_frozen hx8 3
          have HB8 := Aside0.mk (put4_facts hx8 (.bool false) (.slice none 0 0) (.slice none 0 0) (.int .i64 Z.stepped.fuel)).2.2.2.2
          have HP8 := Aside0.mk (put4_below HO8.out HGE.out.2 (.bool false) (.slice none 0 0) (.slice none 0 0) (.int .i64 Z.stepped.fuel))
          clear hx8 hb8 HS5 HX15 HX25
          go_wp2
          try simp only [Exit.inBlock, Exit.then, Exit.noGoto_ret]
          refine bodyPost_ret (results_cell3 rfl _ _ g2 _ _ _ _ rfl HB8.out hu33 rfl (by kernel_rfl)) rfl ?_
          exact ⟨HP8.out, (HK5.out.below HB58.out).out HGW.out _ _ _ _, _, _, _, by rw [HRE.out]; rfl, by rw [HRE.out]; exact Kd.R_nil _ _ _ _ _, by rw [HRE.out]; exact Kd.N_nil _ _ _ _ _, by rw [HRE.out]; exact Kd.R_nil _ _ _ _ _⟩
      · rw [if_neg hbr] at hf
        have db : decide ((0 : Int) ≤ Z.E.br) = false := decide_eq_false hbr
        have HF2 := Aside0.mk hf
        clear hbr hf HFF
        cases op with
        | false =>
          have hf := HF2.out
          rw [if_pos rfl] at hf
          have HF3 := Aside0.mk hf
          clear hf HF2
          go_wp2_with fail
          refine (eng_Broken.calls Z.E B T p _ HS3.out.e).mono ?_
          rintro e' w3' ⟨rfl, rfl⟩
          go_wp2_with fail
          refine (sol_step.calls HS3.out).mono ?_
          rintro e' w5 ⟨rfl, s5, m5⟩
          have HS5 := Aside0.mk s5
          have HX15 := Aside0.mk ((m5.keeps HS3.out g1 HU.out.2.1).trans HX13.out)
          have HX25 := Aside0.mk ((m5.keeps HS3.out g2 HU.out.2.2.2).trans HX23.out)
          have HK5 := Aside0.mk (HK3.out.keeps (m5.keeps HS3.out))
          have c1 : w5.cell? ⟨g1, 0, none⟩ = some (.pointer (some ⟨S, 0, none⟩)) := (blk_cell HX15.out 0).trans rfl
          clear s5 m5 HS3 HX13 HX23 HK3 c0
          have hf := HF3.out
          by_cases hst : Z.stepped.steps ≤ Z.fuel
          · rw [if_pos hst] at hf
            obtain ⟨bl, hbl, cl, hends, hrs⟩ := hf
            have ds : decide (Z.stepped.steps ≤ Z.fuel) = true := decide_eq_true hst
            obtain ⟨Z1, hZ1⟩ : ∃ Z1, Z.stepped = Z1 := ⟨_, rfl⟩
            have HLIT1 := Aside0.mk (show ∀ c ∈ Z1.all, ∀ x ∈ c, (Lit.int .i64 x).wf = true by rw [← hZ1]; exact HLIT.out)
            rw [hZ1] at HS5 hbl hends hrs ds ⊢
            have HBL := Aside0.mk hbl
            have HENDS := Aside0.mk hends
            have HRS := Aside0.mk hrs
            clear hst hbl hends hrs hZ1 HF3 HLIT
            have HLIT := HLIT1
            clear HLIT1
            obtain ⟨rs, hrse⟩ : ∃ rs, r = rs := ⟨_, rfl⟩
            rw [hrse] at HRS
            go_upto_region 15 with fail
            have hdr : Below w5.heap.size w5 w5.drew := below_drew (Below.refl _ _)
            have d1 := c1
            have dS := HS5.out.below hdr
            have d2 := HX25.out
            refine start_ (n := 12) (S := fun w' => w'.cell? ⟨g1, 0, none⟩ = some (.pointer (some ⟨S, 0, none⟩)) ∧ SolIn w0 w' S B T U Z1 p q ∧ w'.heap[g2]? = some (.cells #[.bool false, .slice none 0 0, .slice none 0 0, .int .i64 0] 33 (0, 0))) (ds := [5, 9]) #[false, false, false, false, false, false, false, false, false, false, false, false] (by kernel_rfl) rfl rfl ⟨d1, dS, d2⟩ (fun hHeld => ?_)
            refine pure_ (i := 2) (N := some 63) (v := ?_) (a' := ?_) #[false, false, true, false, false, false, false, false, false, false, false, false] rfl rfl (by kernel_rfl) (fun _ _ _ h => h) (Or.inl ⟨by rfl, ?_⟩) ?_ ?_
            rotate_left
            · intro w'
              go_simp
              with_reducible rfl
            rotate_left
            · simp only [Act.put, List.setIfInBounds_toArray, List.set_cons_zero, List.set_cons_succ, i64_w, i32_w]
              rfl
            refine pure_ (i := 4) (N := some 65) (v := ?_) (a' := ?_) #[false, false, true, false, true, false, false, false, false, false, false, false] rfl rfl (by kernel_rfl) (fun _ _ _ h => h) (Or.inl ⟨by rfl, ?_⟩) ?_ ?_
            rotate_left
            · intro w'
              go_simp
              with_reducible rfl
            rotate_left
            · simp only [Act.put, List.setIfInBounds_toArray, List.set_cons_zero, List.set_cons_succ, i64_w, i32_w]
              rfl
            refine take_ (i := 0) (N := some 61) (v := ?_) (a' := ?_) #[true, false, true, false, true, false, false, false, false, false, false, false] rfl rfl (by kernel_rfl) (fun _ _ _ h => h) (Or.inl ⟨by rfl, ?_⟩) hHeld ?_ ?_
            rotate_left
            · rintro w' ⟨s0, s1, s2⟩
              go_simp
              with_reducible rfl
            rotate_left
            · simp only [Act.put, List.setIfInBounds_toArray, List.set_cons_zero, List.set_cons_succ, i64_w, i32_w]
              rfl
            refine take_ (i := 1) (N := some 62) (v := ?_) (a' := ?_) #[true, true, true, false, true, false, false, false, false, false, false, false] rfl rfl (by kernel_rfl) (fun _ _ _ h => h) (Or.inl ⟨by rfl, ?_⟩) hHeld ?_ ?_
            rotate_left
            · rintro w' ⟨s0, s1, s2⟩
              go_simp
              with_reducible rfl
            rotate_left
            · simp only [Act.put, List.setIfInBounds_toArray, List.set_cons_zero, List.set_cons_succ, i64_w, i32_w]
              rfl
            refine one_ (i := 3) (N := some 64) #[true, true, true, true, true, false, false, false, false, false, false, false] rfl rfl (by kernel_rfl) (by decide) (fun K hK => ?_)
            refine goes_ Try.func40 (by kernel_rfl) rfl #[.pointer (some ⟨S, 0, none⟩), .int .i64 l] (by rfl) rfl rfl (by simp only [List.map_toArray, List.map_cons, List.map_nil]; rfl) ?_
            with_reducible refine (sol_blamed.calls hHeld.2.1 HLIT.out m l bl HLW.out HBL.out).mono ?_
            rintro e' w3 ⟨v3, rfl, r3, hb3⟩
            refine ⟨_, rfl, ?_⟩
            obtain ⟨A3, c3, e3⟩ := Kd.R_slice r3
            subst e3
            have HR3 := Aside0.mk (show Kd.R (Kd.int .i64) 3 w3 w0.heap.size (fun k => T k = (0, 0) ∧ U k = 0) (.slice A3 bl.length c3) bl from Kd.R_of_own (Kd.own_of_R (Kd.R_lower r3 hHeld.2.1.old.size)) (fun k hk => ⟨hHeld.2.1.e.fresh k (Kd.R_base r3 k hk), hHeld.2.1.fresh k (Kd.R_base r3 k hk)⟩))
            clear r3
            refine hK.out _ _ ⟨pw_cell_below hb3 hHeld.1, hHeld.2.1.below hb3, blk_below hHeld.2.2 hb3⟩ (fun hHeld => ?_)
            clear hK K
            refine norm_ (a' := ?_) ?_ ?_
            rotate_left
            · show Act.put _ (some 64) _ = _
              simp only [Act.put, List.setIfInBounds_toArray, List.set_cons_zero, List.set_cons_succ, i64_w, i32_w]
              rfl
            refine last_ (i := 5) (N := some 66) #[true, true, true, true, true, true, false, false, false, false, false, false] rfl rfl (by kernel_rfl) (by decide) (fun K hK => ?_)
            refine goes_ Try.func43 (by kernel_rfl) rfl #[.pointer (some ⟨S, 0, none⟩), .slice A3 bl.length c3, .int .i64 l] (by rfl) rfl rfl (by simp only [List.map_toArray, List.map_cons, List.map_nil]; rfl) ?_
            with_reducible refine (sol_end.run k hHeld.2.1 A3 c3 bl l cl rs HR3.out HENDS.out HRS.out).mono ?_
            rintro e' w4 ⟨ho4, hx4, vV, vL, vN, rfl, rV, rL, rN⟩
            refine ⟨_, rfl, ?_⟩
            have HO4 := Aside0.mk ho4
            have HX4 := Aside0.mk ((hx4 g2 HU.out.2.2.2).trans hHeld.2.2)
            have HKE := Aside0.mk ((HK5.out.below (W' := w3) (below_step (below_drew (Below.refl _ _)) hb3)).keeps hx4)
            obtain ⟨AV, cV, eV⟩ := Kd.R_slice rV
            obtain ⟨AL, cL, eL⟩ := Kd.N_slice rL
            obtain ⟨AN, cN, eN⟩ := Kd.R_slice rN
            subst eV eL eN
            have HV4 := Aside0.mk rV
            have HL4 := Aside0.mk rL
            have HN4 := Aside0.mk rN
            clear ho4 hx4 rV rL rN
            refine hK.out _ _ ?_
            clear hK K
            refine norm_ (a' := ?_) ?_ ?_
            rotate_left
            · show Act.put _ (some 66) _ = _
              simp only [Act.put, List.setIfInBounds_toArray, List.set_cons_zero, List.set_cons_succ, i64_w, i32_w]
              rfl
            refine pure_ (i := 6) (N := some 67) (v := ?_) (a' := ?_) #[true, true, true, true, true, true, true, false, false, false, false, false] rfl rfl (by kernel_rfl) (fun _ _ _ h => h) (Or.inl ⟨by rfl, ?_⟩) ?_ ?_
            rotate_left
            · intro w'
              go_simp
              with_reducible rfl
            rotate_left
            · simp only [Act.put, List.setIfInBounds_toArray, List.set_cons_zero, List.set_cons_succ, i64_w, i32_w]
              rfl
            refine pure_ (i := 7) (N := some 68) (v := ?_) (a' := ?_) #[true, true, true, true, true, true, true, true, false, false, false, false] rfl rfl (by kernel_rfl) (fun _ _ _ h => h) (Or.inl ⟨by rfl, ?_⟩) ?_ ?_
            rotate_left
            · intro w'
              go_simp
              with_reducible rfl
            rotate_left
            · simp only [Act.put, List.setIfInBounds_toArray, List.set_cons_zero, List.set_cons_succ, i64_w, i32_w]
              rfl
            refine pure_ (i := 8) (N := some 69) (v := ?_) (a' := ?_) #[true, true, true, true, true, true, true, true, true, false, false, false] rfl rfl (by kernel_rfl) (fun _ _ _ h => h) (Or.inl ⟨by rfl, ?_⟩) ?_ ?_
            rotate_left
            · intro w'
              go_simp
              with_reducible rfl
            rotate_left
            · simp only [Act.put, List.setIfInBounds_toArray, List.set_cons_zero, List.set_cons_succ, i64_w, i32_w]
              rfl
            refine last_ (i := 9) (N := none) #[true, true, true, true, true, true, true, true, true, true, false, false] rfl rfl (by kernel_rfl) (by decide) (fun K hK => ?_)
            have hx5 := HX4.out
            have e0 := blk_cell hx5 0
            have e1 := blk_cell hx5 1
            have e2 := blk_cell hx5 2
            have e3 := blk_cell hx5 3
            have y0 := blk_frozen hx5 0
            have y1 := blk_frozen hx5 1
            have y2 := blk_frozen hx5 2
            have y3 := blk_frozen hx5 3
            clear hx5
            refine skip_ (w1 := ?_) (by rfl) rfl ?_ ?_
            rotate_left
            · go_simp
              rfl
            refine hK.out _ _ ?_
            clear hK K
            refine pure_ (i := 10) (N := some 3) (v := ?_) (a' := ?_) #[true, true, true, true, true, true, true, true, true, true, true, false] rfl rfl (by kernel_rfl) (fun _ _ _ h => h) (Or.inl ⟨by rfl, ?_⟩) ?_ ?_
            rotate_left
            · intro w'
              go_simp
              with_reducible rfl
            rotate_left
            · simp only [Act.put, List.setIfInBounds_toArray, List.set_cons_zero, List.set_cons_succ, i64_w, i32_w]
              rfl
            refine pure_ (i := 11) (N := some 4) (v := ?_) (a' := ?_) #[true, true, true, true, true, true, true, true, true, true, true, true] rfl rfl (by kernel_rfl) (fun _ _ _ h => h) (Or.inl ⟨by rfl, ?_⟩) ?_ ?_
            rotate_left
            · intro w'
              go_simp
              with_reducible rfl
            rotate_left
            · simp only [Act.put, List.setIfInBounds_toArray, List.set_cons_zero, List.set_cons_succ, i64_w, i32_w]
              rfl
            refine done_ (by kernel_rfl) ?_
            clear d1 dS d2 hdr e0 e1 e2 e3 y0 y1 y2 y3
            have hx8 := HX4.out
            have HB8 := Aside0.mk (put4_facts hx8 (.bool rs.sat) (.slice AV rs.vals.length cV) (.slice AL rs.log.length cL) (.int .i64 rs.steps)).2.2.2.2
            have HP8 := Aside0.mk (put4_below HO4.out HGE.out.2 (.bool rs.sat) (.slice AV rs.vals.length cV) (.slice AL rs.log.length cL) (.int .i64 rs.steps))
            have hfar := put4_far (w := w4) (g := g2) (.bool rs.sat) (.slice AV rs.vals.length cV) (.slice AL rs.log.length cL) (.int .i64 rs.steps)
            have hne : ∀ k, U k ≠ 5 → k ≠ g2 := fun k hk e => hk (by rw [e]; exact HU.out.2.2.2)
            have HV8 := Aside0.mk (Kd.R_mono (Kd.R_step HV4.out (fun k hk _ => hfar k (hne k hk.2))) HKE.out.okU (ok' := okU w0 U0))
            have HL8 := Aside0.mk (Kd.N_mono (Kd.N_step HL4.out (fun k hk _ => hfar k (hne k hk.1.1.2))) (fun k hk => ⟨⟨HKE.out.okU k hk.1.1, hk.1.2⟩, hk.2⟩) (ok' := fun k => (okU w0 U0 k ∧ some k ≠ (Value.slice AN rs.need.length cN).ownBlock) ∧ some k ≠ (Value.slice AV rs.vals.length cV).ownBlock))
            have HN8 := Aside0.mk (Kd.R_mono (Kd.R_step HN4.out (fun k hk _ => hfar k (hne k hk.2))) HKE.out.okU (ok' := okU w0 U0))
            have HRR := Aside0.mk hrse
            clear hx8 hfar hne hrse
            go_wp2
            try simp only [Exit.inBlock, Exit.then, Exit.noGoto_ret]
            refine bodyPost_ret (results_cell3 rfl _ _ g2 _ _ _ _ rfl HB8.out hu33 rfl (by kernel_rfl)) rfl ?_
            rw [HRR.out]
            exact ⟨HP8.out, HKE.out.out HGW.out _ _ _ _, _, _, _, rfl, HV8.out, HL8.out, HN8.out⟩
          · rw [if_neg hst] at hf
            have ds : decide (Z.stepped.steps ≤ Z.fuel) = false := decide_eq_false hst
            have HRE := Aside0.mk hf
            clear hst hf HF3
            go_wp2_with fail
            refine (sol_out.calls HS5.out g1 ((blk_cell HX15.out 0).trans rfl)).mono ?_
            rintro e' w8 ⟨rfl, hb8⟩
            have hx8 := blk_below HX25.out hb8
            have HO8 := Aside0.mk (below_step HS5.out.old hb8)
            have HB58 := Aside0.mk hb8
            have e0 := blk_cell hx8 0
            have e1 := blk_cell hx8 1
            have e2 := blk_cell hx8 2
            have e3 := blk_cell hx8 3
            have y0 := blk_frozen hx8 0
            have y1 := blk_frozen hx8 1
            have y2 := blk_frozen hx8 2
            have y3 := blk_frozen hx8 3
            have HB8 := Aside0.mk (put4_facts hx8 (.bool false) (.slice none 0 0) (.slice none 0 0) (.int .i64 Z.stepped.fuel)).2.2.2.2
            have HP8 := Aside0.mk (put4_below HO8.out HGE.out.2 (.bool false) (.slice none 0 0) (.slice none 0 0) (.int .i64 Z.stepped.fuel))
            clear hx8 hb8 HS5 HX15 HX25
            go_wp2
            try simp only [Exit.inBlock, Exit.then, Exit.noGoto_ret]
            refine bodyPost_ret (results_cell3 rfl _ _ g2 _ _ _ _ rfl HB8.out hu33 rfl (by kernel_rfl)) rfl ?_
            exact ⟨HP8.out, (HK5.out.below HB58.out).out HGW.out _ _ _ _, _, _, _, by rw [HRE.out]; rfl, by rw [HRE.out]; exact Kd.R_nil _ _ _ _ _, by rw [HRE.out]; exact Kd.N_nil _ _ _ _ _, by rw [HRE.out]; exact Kd.R_nil _ _ _ _ _⟩
        | true =>
          have hf := HF2.out
          rw [if_neg (by decide)] at hf
          have HF3 := Aside0.mk hf
          clear hf HF2
          go_wp2_with fail
          refine (eng_Broken.calls Z.E B T p _ HS3.out.e).mono ?_
          rintro e' w3' ⟨rfl, rfl⟩
          have hf := HF3.out
          by_cases hl0 : l = 0
          · rw [if_pos hl0] at hf
            have ql : (l == 0) = true := by rw [hl0]; rfl
            have HRE := Aside0.mk hf
            clear hl0 hf HF3
            have HG2 := Aside0.mk (blk_lt HX23.out)
            obtain ⟨st, hst⟩ : ∃ st, Z.steps = st := ⟨_, rfl⟩
            have HST := Aside0.mk hst
            have hdr : Below w3'.heap.size w3' w3'.drew := below_drew (Below.refl _ _)
            have d1 := c1
            have dS := HS3.out.below hdr
            have d2 := HX23.out
            have d5 := HS3.out.cells.2.2.2.2.2.1
            rw [hst] at d5
            clear hst
            go_upto_region 20 with fail
            refine start_ (n := 10) (S := fun w' => w'.cell? ⟨g1, 0, none⟩ = some (.pointer (some ⟨S, 0, none⟩)) ∧ SolIn w0 w' S B T U Z p q ∧ w'.heap[g2]? = some (.cells #[.bool false, .slice none 0 0, .slice none 0 0, .int .i64 0] 33 (0, 0)) ∧ w'.cell? ⟨S, 5, none⟩ = some (.int .i64 st)) (ds := [7]) #[false, false, false, false, false, false, false, false, false, false] (by kernel_rfl) rfl rfl ⟨d1, dS, d2, d5⟩ (fun hHeld => ?_)
            refine take_ (i := 0) (N := some 88) (v := ?_) (a' := ?_) #[true, false, false, false, false, false, false, false, false, false] rfl rfl (by kernel_rfl) (fun _ _ _ h => h) (Or.inl ⟨by rfl, ?_⟩) hHeld ?_ ?_
            rotate_left
            · rintro w' ⟨s0, s1, s2, s3⟩
              go_simp
              with_reducible rfl
            rotate_left
            · simp only [Act.put, List.setIfInBounds_toArray, List.set_cons_zero, List.set_cons_succ, i64_w, i32_w]
              rfl
            refine take_ (i := 2) (N := some 90) (v := ?_) (a' := ?_) #[true, false, true, false, false, false, false, false, false, false] rfl rfl (by kernel_rfl) (fun _ _ _ h => h) (Or.inl ⟨by rfl, ?_⟩) hHeld ?_ ?_
            rotate_left
            · rintro w' ⟨s0, s1, s2, s3⟩
              go_simp
              with_reducible rfl
            rotate_left
            · simp only [Act.put, List.setIfInBounds_toArray, List.set_cons_zero, List.set_cons_succ, i64_w, i32_w]
              rfl
            refine pure_ (i := 3) (N := some 91) (v := ?_) (a' := ?_) #[true, false, true, true, false, false, false, false, false, false] rfl rfl (by kernel_rfl) (fun _ _ _ h => h) (Or.inl ⟨by rfl, ?_⟩) ?_ ?_
            rotate_left
            · intro w'
              go_simp
              with_reducible rfl
            rotate_left
            · simp only [Act.put, List.setIfInBounds_toArray, List.set_cons_zero, List.set_cons_succ, i64_w, i32_w]
              rfl
            refine pure_ (i := 4) (N := some 92) (v := ?_) (a' := ?_) #[true, false, true, true, true, false, false, false, false, false] rfl rfl (by kernel_rfl) (fun _ _ _ h => h) (Or.inl ⟨by rfl, ?_⟩) ?_ ?_
            rotate_left
            · intro w'
              go_simp
              with_reducible rfl
            rotate_left
            · simp only [Act.put, List.setIfInBounds_toArray, List.set_cons_zero, List.set_cons_succ, i64_w, i32_w]
              rfl
            refine take_ (i := 5) (N := some 93) (v := ?_) (a' := ?_) #[true, false, true, true, true, true, false, false, false, false] rfl rfl (by kernel_rfl) (fun _ _ _ h => h) (Or.inl ⟨by rfl, ?_⟩) hHeld ?_ ?_
            rotate_left
            · rintro w' ⟨s0, s1, s2, s3⟩
              go_simp
              with_reducible rfl
            rotate_left
            · simp only [Act.put, List.setIfInBounds_toArray, List.set_cons_zero, List.set_cons_succ, i64_w, i32_w]
              rfl
            refine one_ (i := 1) (N := some 89) #[true, true, true, true, true, true, false, false, false, false] rfl rfl (by kernel_rfl) (by decide) (fun K hK => ?_)
            refine goes_ Try.func47 (by kernel_rfl) rfl #[.pointer (some ⟨S, 0, none⟩)] (by rfl) rfl rfl (by simp only [List.map_toArray, List.map_cons, List.map_nil]; rfl) ?_
            with_reducible refine (sol_values.calls hHeld.2.1 HNN.out).mono ?_
            rintro e' w3 ⟨v3, rfl, r3, hb3⟩
            refine ⟨_, rfl, ?_⟩
            obtain ⟨A3, c3, e3⟩ := Kd.R_slice r3
            subst e3
            have HR3 := Aside0.mk r3
            have HB3 := Aside0.mk hb3
            clear r3
            refine hK.out _ _ ⟨pw_cell_below hb3 hHeld.1, hHeld.2.1.below hb3, blk_below hHeld.2.2.1 hb3, pw_cell_below hb3 hHeld.2.2.2⟩ (fun hHeld => ?_)
            clear hK K
            refine norm_ (a' := ?_) ?_ ?_
            rotate_left
            · show Act.put _ (some 89) _ = _
              simp only [Act.put, List.setIfInBounds_toArray, List.set_cons_zero, List.set_cons_succ, i64_w, i32_w]
              rfl
            refine pure_ (i := 6) (N := some 94) (v := ?_) (a' := ?_) #[true, true, true, true, true, true, true, false, false, false] rfl rfl (by kernel_rfl) (fun _ _ _ h => h) (Or.inl ⟨by rfl, ?_⟩) ?_ ?_
            rotate_left
            · intro w'
              go_simp
              with_reducible rfl
            rotate_left
            · simp only [Act.put, List.setIfInBounds_toArray, List.set_cons_zero, List.set_cons_succ, i64_w, i32_w]
              rfl
            refine last_ (i := 7) (N := none) #[true, true, true, true, true, true, true, true, false, false] rfl rfl (by kernel_rfl) (by decide) (fun K hK => ?_)
            have hx5 := hHeld.2.2.1
            have HS5 := Aside0.mk hHeld.2.1
            have HX5 := Aside0.mk hx5
            have e0 := blk_cell hx5 0
            have e1 := blk_cell hx5 1
            have e2 := blk_cell hx5 2
            have e3 := blk_cell hx5 3
            have y0 := blk_frozen hx5 0
            have y1 := blk_frozen hx5 1
            have y2 := blk_frozen hx5 2
            have y3 := blk_frozen hx5 3
            clear hx5
            refine skip_ (w1 := ?_) (by rfl) rfl ?_ ?_
            rotate_left
            · go_simp
              rfl
            refine hK.out _ _ ?_
            clear hK K
            refine pure_ (i := 8) (N := some 3) (v := ?_) (a' := ?_) #[true, true, true, true, true, true, true, true, true, false] rfl rfl (by kernel_rfl) (fun _ _ _ h => h) (Or.inl ⟨by rfl, ?_⟩) ?_ ?_
            rotate_left
            · intro w'
              go_simp
              with_reducible rfl
            rotate_left
            · simp only [Act.put, List.setIfInBounds_toArray, List.set_cons_zero, List.set_cons_succ, i64_w, i32_w]
              rfl
            refine pure_ (i := 9) (N := some 4) (v := ?_) (a' := ?_) #[true, true, true, true, true, true, true, true, true, true] rfl rfl (by kernel_rfl) (fun _ _ _ h => h) (Or.inl ⟨by rfl, ?_⟩) ?_ ?_
            rotate_left
            · intro w'
              go_simp
              with_reducible rfl
            rotate_left
            · simp only [Act.put, List.setIfInBounds_toArray, List.set_cons_zero, List.set_cons_succ, i64_w, i32_w]
              rfl
            refine done_ (by kernel_rfl) ?_
            clear d1 dS d2 hdr d5 e0 e1 e2 e3 y0 y1 y2 y3
            have HKE := Aside0.mk (HK3.out.below (W' := w3) (below_step (below_drew (Below.refl _ _)) HB3.out))
            have hx8 := HX5.out
            have HB8 := Aside0.mk (put4_facts hx8 (.bool true) (.slice A3 Z.values.length c3) (.slice none 0 0) (.int .i64 st)).2.2.2.2
            have HP8 := Aside0.mk (put4_below HS5.out.old HGE.out.2 (.bool true) (.slice A3 Z.values.length c3) (.slice none 0 0) (.int .i64 st))
            have HV8 := Aside0.mk (Kd.R_mono (Kd.R_lower (Kd.R_step (Kd.R_bound HR3.out) (fun k hk _ => put4_far (w := w3) (g := g2) (.bool true) (.slice A3 Z.values.length c3) (.slice none 0 0) (.int .i64 st) k (fun e => by have h1 := hk.2.1; have h2 := HG2.out; rw [e] at h1; exact absurd h2 (Nat.not_lt.2 h1)))) (Nat.zero_le _)) (fun k hk => ⟨Nat.le_trans HS3.out.old.size hk.2.1, fun e => absurd (HK3.out k e).2.2.2 (Nat.not_lt.2 hk.2.1)⟩) (ok' := okU w0 U0))
            clear hx8 hHeld
            go_wp2
            try simp only [Exit.inBlock, Exit.then, Exit.noGoto_ret]
            refine bodyPost_ret (results_cell3 rfl _ _ g2 _ _ _ _ rfl HB8.out hu33 rfl (by kernel_rfl)) rfl ?_
            rw [HRE.out, HST.out]
            exact ⟨HP8.out, HKE.out.out HGW.out _ _ _ _, _, _, _, rfl, HV8.out, Kd.N_nil _ _ _ _ _, Kd.R_nil _ _ _ _ _⟩
          · rw [if_neg hl0] at hf
            have ql : (l == 0) = false := by simpa using hl0
            have HF4 := Aside0.mk hf
            clear hl0 hf HF3
            go_wp2_with fail
            refine (sol_step.calls HS3.out).mono ?_
            rintro e' w5 ⟨rfl, s5, m5⟩
            have HS5 := Aside0.mk s5
            have HX15 := Aside0.mk ((m5.keeps HS3.out g1 HU.out.2.1).trans HX13.out)
            have HX25 := Aside0.mk ((m5.keeps HS3.out g2 HU.out.2.2.2).trans HX23.out)
            have HK5 := Aside0.mk (HK3.out.keeps (m5.keeps HS3.out))
            have c1 : w5.cell? ⟨g1, 0, none⟩ = some (.pointer (some ⟨S, 0, none⟩)) := (blk_cell HX15.out 0).trans rfl
            clear s5 m5 HS3 HX13 HX23 HK3 c0
            have hf := HF4.out
            by_cases hst : Z.stepped.steps ≤ Z.fuel
            · rw [if_pos hst] at hf
              obtain ⟨E2, b, hpush, hf⟩ := hf
              have ds : decide (Z.stepped.steps ≤ Z.fuel) = true := decide_eq_true hst
              have HPC := Aside0.mk (eng_Push.calls k Z.E B T p l E2 b _ HS5.out.e HLW.out HLITS.out hpush)
              have HF5 := Aside0.mk hf
              have c0 := HS5.out.cells.1
              clear hst hpush hf HF4
              go_wp2_with fail
              refine HPC.out.mono ?_
              rintro e' w6 ⟨rfl, T6, p6, h6, m6, f6⟩
              obtain ⟨s6, n6⟩ := HS5.out.moved h6 m6
              have HS6 := Aside0.mk s6
              have HX16 := Aside0.mk ((n6.keeps HS5.out g1 HU.out.2.1).trans HX15.out)
              have HX26 := Aside0.mk ((n6.keeps HS5.out g2 HU.out.2.2.2).trans HX25.out)
              have HK6 := Aside0.mk (HK5.out.keeps (n6.keeps HS5.out))
              have HU6 := Aside0.mk (show T6 g1 = (0, 0) ∧ U g1 = 5 ∧ T6 g2 = (0, 0) ∧ U g2 = 5 from ⟨(n6.tk g1 (blk_lt HX15.out)).trans HU.out.1, HU.out.2.1, (n6.tk g2 (blk_lt HX25.out)).trans HU.out.2.2.1, HU.out.2.2.2⟩)
              clear h6 m6 f6 s6 n6 HPC HS5 HX15 HX25 HK5 c0 c1
              go_wp2
              go_roundg i2
              case measure => have := HI.out; omega
              case rel => exact ⟨i2, T6, U, { Z.stepped with E := E2 }, p6, q, ⟨rfl⟩, HS6, HU6, HK6, HX16, HX26, HF5, HAS, HNN⟩
            · rw [if_neg hst] at hf
              have ds : decide (Z.stepped.steps ≤ Z.fuel) = false := decide_eq_false hst
              have HRE := Aside0.mk hf
              clear hst hf HF4
              go_wp2_with fail
              refine (sol_out.calls HS5.out g1 ((blk_cell HX15.out 0).trans rfl)).mono ?_
              rintro e' w8 ⟨rfl, hb8⟩
              have hx8 := blk_below HX25.out hb8
              have HO8 := Aside0.mk (below_step HS5.out.old hb8)
              have HB58 := Aside0.mk hb8
              have e0 := blk_cell hx8 0
              have e1 := blk_cell hx8 1
              have e2 := blk_cell hx8 2
              have e3 := blk_cell hx8 3
              have y0 := blk_frozen hx8 0
              have y1 := blk_frozen hx8 1
              have y2 := blk_frozen hx8 2
              have y3 := blk_frozen hx8 3
              have HB8 := Aside0.mk (put4_facts hx8 (.bool false) (.slice none 0 0) (.slice none 0 0) (.int .i64 Z.stepped.fuel)).2.2.2.2
              have HP8 := Aside0.mk (put4_below HO8.out HGE.out.2 (.bool false) (.slice none 0 0) (.slice none 0 0) (.int .i64 Z.stepped.fuel))
              clear hx8 hb8 HS5 HX15 HX25
              go_wp2
              try simp only [Exit.inBlock, Exit.then, Exit.noGoto_ret]
              refine bodyPost_ret (results_cell3 rfl _ _ g2 _ _ _ _ rfl HB8.out hu33 rfl (by kernel_rfl)) rfl ?_
              exact ⟨HP8.out, (HK5.out.below HB58.out).out HGW.out _ _ _ _, _, _, _, by rw [HRE.out]; rfl, by rw [HRE.out]; exact Kd.R_nil _ _ _ _ _, by rw [HRE.out]; exact Kd.N_nil _ _ _ _ _, by rw [HRE.out]; exact Kd.R_nil _ _ _ _ _⟩


end Go.Proofs.Ytaibnbhgjnddnaa.P

-- Printed by wip/tools/pp.py of this claim's session (over the kit's print.py); Lean checks it.
namespace Go.Proofs.Ytaibnbhgjnddnaa.P
open Go.RowKit Go.Proofs.YtaibnbhgjnddnaaW.PrintWords Go.Proofs.YtaibnbhgjnddnaaW.PrintLast Go.Proofs.YtaibnbhgjnddnaaW.PrintMore
attribute [local go_sem] max2_int min2_int max_two min_two max_three min_three max_four min_four   -- for this text's walks alone
set_option linter.unusedVariables false
set_option linter.unusedSimpArgs false

-- SOLO
-- IMPORTS Derived.Test.YtaibnbhgjnddnaaPxAsolveS Derived.Test.YtaibnbhgjnddnaaPxAsolveR Derived.Test.YtaibnbhgjnddnaaPxAslicesCloneRows Derived.StillTailTactics
/-! ### solve_Under: function 12 -/
theorem F_of_old {w0 W : World} {ok : Nat → Prop} {A : Option Addr} {n : Nat} {xs : List Int} (hb : Below w0.heap.size w0 W) (hok : ∀ k, k < w0.heap.size → ok k) (h : Kd.C (Kd.int .i64) w0 A n xs) : Kd.F (Kd.int .i64) W ok A n xs :=
  fun _ hW => (Kd.heap_int .i64).C (fun k hk => (hW k (hok k hk) (Nat.lt_of_lt_of_le hk hb.size)).trans (hb.block k hk)) h
def firstU (S : Nat) (v : Value) (a b : Nat) : Col := fun k => if k = S then 3 else if v.ownBlock = some k then 1 else if a ≤ k ∧ k < b then 5 else 0
theorem SolIn.make {w0 w4 w7 : World} {n fuel : Int} {T : Tag} {E : Eng} {p : EngP} {B lo c7 c1 : Nat} {A7 A1 : Option Addr} {l0 : List (List Int)} {l1 : List Int} {hs : List Hd}
    (he : EngIn w7 B T E p) (ht : ∀ k, k < w4.heap.size → T k = (0, 0)) (hb0 : Below w0.heap.size w0 w4) (hb4 : Below w4.heap.size w4 w7) (hR : Kd.R kH 25 w7 lo (fun _ => True) (.slice A7 hs.length c7) hs) (hlo : ∀ k, lo ≤ k → T k = (0, 0)) (hl0 : w4.heap.size ≤ lo)
    (hds : HdsOf w0 hs l0) (hC1 : Kd.C (Kd.int .i64) w0 A1 l1.length l1) (hc1 : l1.length ≤ c1) :
    SolIn w0 (w7.alloc (.cells #[.pointer (some ⟨B, 0, none⟩), .int .i64 n, .slice A7 hs.length c7, .slice A1 l1.length c1, .slice none 0 0, .int .i64 0, .int .i64 fuel] 57)) w7.heap.size B T (firstU w7.heap.size (.slice A7 hs.length c7) w0.heap.size w4.heap.size)
      ⟨E, n, l0, l1, [], 0, fuel⟩ p { vA := .slice A7 hs.length c7, hs := hs, aA := A1, cA := c1, vL := .slice none 0 0, five := fun k => w4.heap[k]? } := by
  obtain ⟨o, ho⟩ : ∃ o : Obj, o = .cells #[.pointer (some ⟨B, 0, none⟩), .int .i64 n, .slice A7 hs.length c7, .slice A1 l1.length c1, .slice none 0 0, .int .i64 0, .int .i64 fuel] 57 := ⟨_, rfl⟩
  have hx := blk_new w7 (.cells #[.pointer (some ⟨B, 0, none⟩), .int .i64 n, .slice A7 hs.length c7, .slice A1 l1.length c1, .slice none 0 0, .int .i64 0, .int .i64 fuel] 57)
  rw [← ho] at hx ⊢
  have hal : Below w7.heap.size w7 (w7.alloc o) := below_alloc (Below.refl _ _) _
  have hsz : (w7.alloc o).heap.size = w7.heap.size + 1 := by simp
  have hlt : ∀ k, (Value.slice A7 hs.length c7).ownBlock = some k → k < w7.heap.size := fun k e => Kd.R_lt hR k e
  have hge : ∀ k, (Value.slice A7 hs.length c7).ownBlock = some k → lo ≤ k := fun k e => Kd.R_base hR k e
  have hb := below_step hb0 hb4
  have hw0 := hb.size
  have hw4 := hb0.size
  have hw7 := hb4.size
  have hu0 : ∀ k, k < w0.heap.size → firstU w7.heap.size (.slice A7 hs.length c7) w0.heap.size w4.heap.size k = 0 := fun k hk => by
    unfold firstU
    rw [if_neg (by omega), if_neg (fun e => by have := hge k e; omega), if_neg (by omega)]
  have hb8 : Below w0.heap.size w0 (w7.alloc o) := below_step hb hal
  refine { e := he.below hal, blk := by rw [hx, ho]; rfl, tS := he.fresh _ (Nat.le_refl _), uS := if_pos rfl, fresh := fun k hk => ?_, all := ?_, len := hds.1, rows := ?_, log := Kd.N_nil _ _ _ _ _, uL := fun k e => (by cases e), asm := F_of_old hb8 (fun k hk => ⟨ht k (by omega), .inr hk⟩) hC1, asmc := hc1, old := hb8, t0 := fun k hk => ⟨ht k (by omega), hu0 k hk⟩, five := fun g hg => ?_ }
  · rw [hsz] at hk
    unfold firstU
    rw [if_neg (by omega), if_neg (fun e => by have := hlt k e; omega), if_neg (by omega)]
  · refine Kd.R_of_own (Kd.own_of_R (Kd.R_lower (Kd.R_below hR hal) (Nat.zero_le _))) (fun k hk => ⟨hlo k (hge k hk), ?_⟩)
    unfold firstU
    rw [if_neg (fun e => by have := hlt k hk; omega), if_pos hk]
  · intro i h c hh hc
    obtain ⟨a, b, d⟩ := hds.2 i h c hh hc
    exact ⟨a, b, F_of_old hb8 (fun k hk => ⟨ht k (by omega), .inr hk⟩) d⟩
  · unfold firstU at hg
    split at hg
    · cases hg
    · split at hg
      · cases hg
      · split at hg
        · rename_i hk
          exact ⟨ht g hk.2, (hal.block g (by omega)).trans (hb4.block g hk.2)⟩
        · cases hg
/-- A search under assumptions: what it tells. -/
def underP (k m i : Nat) (n : Int) (l : List (List Int)) (asm : List Int) (fuel : Int) (r : Found) : Prop :=
  ∃ ra re, cnf_Right.f k n l = some (ra, re) ∧ (if re ≠ 0 then r = Found.bad re 0 else ∃ e2, lit_Right.f k asm n = some e2 ∧ (if e2 ≠ 0 then r = Found.bad e2 0 else if fuel < 0 ∨ 1048576 < fuel then r = Found.bad 1 0
    else l.length < 2199023255552 ∧ (0 ≤ n ∧ n ≤ 1024) ∧ (∀ x ∈ asm, (Lit.int .i64 x).wf = true) ∧ ∃ E, Eng.new k n l = some (E, 0) ∧ (∀ c ∈ l, ∀ r, lit_Clean.f c = some r → ∀ x ∈ r.1, (Lit.int .i64 x).wf = true) ∧ Sol.runs k m i ⟨E, n, l, asm, [], 0, fuel⟩ r))
/-- What a search under assumptions leaves: its rows are new. -/
def UnderPost (w : World) (r : Found) (e : Ending) (w' : World) : Prop :=
  Below w.heap.size w w' ∧ ∃ vV vL vN, e = .returned (.tuple #[.agg #[.bool r.sat, vV, vL, .int .i64 r.steps], vN, .int .i64 r.err]) ∧ Kd.R Kd.bool 4 w' 0 (fun k => w.heap.size ≤ k) vV r.vals ∧ Kd.N k64 64 w' 0 (fun k => (w.heap.size ≤ k ∧ some k ≠ vN.ownBlock) ∧ some k ≠ vV.ownBlock) vL r.log ∧ Kd.R (Kd.int .i64) 3 w' 0 (fun k => w.heap.size ≤ k) vN r.need
set_option maxRecDepth 100000 in
set_option maxHeartbeats 8000000 in
theorem solve_Under.walk (k m i : Nat) (n : Int) (A0 : Option Addr) (c0 : Nat) (l0 : List (List Int)) (A1 : Option Addr) (c1 : Nat) (l1 : List Int) (fuel : Int) (r : Found) (w0 w : World) (hb0 : Below w0.heap.size w0 w)
    (hr0 : Kd.C (Kd.slice 3 (Kd.int .i64)) w0 A0 l0.length l0) (hc0 : l0.length ≤ c0) (hr1 : Kd.C (Kd.int .i64) w0 A1 l1.length l1) (hc1 : l1.length ≤ c1) (hf : underP k m i n l0 l1 fuel r) :
    Calls Try.prog 12 #[.agg #[.int .i64 n, .slice A0 l0.length c0], .slice A1 l1.length c1, .int .i64 fuel] w fun e w' => UnderPost w r e w' := by
  obtain ⟨ra, re, hcr, hf⟩ := hf
  have HB0 := Aside0.mk hb0
  have HR00 := Aside0.mk hr0
  have HR10 := Aside0.mk hr1
  have hr0 := Kd.C_below hr0 hb0
  have hr1 := Kd.C_below hr1 hb0
  have HR0 := Aside0.mk hr0
  have HC0 := Aside0.mk hc0
  have HR1 := Aside0.mk hr1
  have HC1 := Aside0.mk hc1
  have hu24 := Try.underlying24
  have hu33 := Try.underlying33
  have HF := Aside0.mk hf
  obtain ⟨W1, hW1⟩ : ∃ W1, w.alloc (.cells #[.int .i64 n, .slice A0 l0.length c0] 24) = W1 := ⟨_, rfl⟩
  obtain ⟨W2, hW2⟩ : ∃ W2, W1.alloc (.cells #[.bool false, .slice none 0 0, .slice none 0 0, .int .i64 0] 33) = W2 := ⟨_, rfl⟩
  obtain ⟨g3, hg3⟩ : ∃ g, w.heap.size = g := ⟨_, rfl⟩
  have hs1 : W1.heap.size = g3 + 1 := by rw [← hW1, ← hg3]; simp
  obtain ⟨g6, hg6⟩ : ∃ g, g3 + 1 = g := ⟨_, rfl⟩
  have b1 : Below w.heap.size w W1 := by rw [← hW1]; exact below_alloc (Below.refl _ _) _
  have b2 : Below W1.heap.size W1 W2 := by rw [← hW2]; exact below_alloc (Below.refl _ _) _
  have n1 := blk_new w (.cells #[.int .i64 n, .slice A0 l0.length c0] 24)
  have n2 := blk_new W1 (.cells #[.bool false, .slice none 0 0, .slice none 0 0, .int .i64 0] 33)
  rw [hW1, hg3] at n1
  rw [hW2, hs1, hg6] at n2
  have HX3 := Aside0.mk (blk_below n1 b2)
  have HX6 := Aside0.mk n2
  have HB := Aside0.mk (below_step b1 b2)
  have HGE := Aside0.mk (show w.heap.size ≤ g3 ∧ w.heap.size ≤ g6 by omega)
  have hg7 : W1.heap.size = g6 := by rw [hs1, hg6]
  have HCR := Aside0.mk (cnf_Right.calls k n A0 c0 l0 ra re W2 (Kd.C_below hr0 HB.out) hc0 hcr)
  have c30 : W2.cell? ⟨g3, 0, none⟩ = some (.int .i64 n) := (blk_cell HX3.out 0).trans rfl
  have c31 : W2.cell? ⟨g3, 1, none⟩ = some (.slice A0 l0.length c0) := (blk_cell HX3.out 1).trans rfl
  clear hr0 hc0 hr1 hc1 hf hcr b1 b2 n1 n2 hs1
  go_enter Try.func12, Try.ntmps12
  go_wp2_with fail
  refine HCR.out.mono ?_
  rintro e' w3 ⟨rfl, hb3⟩
  have HX33 := Aside0.mk (blk_below HX3.out hb3)
  have HX63 := Aside0.mk (blk_below HX6.out hb3)
  have HB3 := Aside0.mk (below_step HB.out hb3)
  clear hb3 HCR c30 c31
  by_cases hre : re = 0
  case neg =>
    have hf := HF.out
    rw [if_pos hre] at hf
    have q1 : (re != 0) = true := by simpa using hre
    have HRE := Aside0.mk hf
    have hx8 := HX63.out
    have e0 := blk_cell hx8 0
    have e1 := blk_cell hx8 1
    have e2_ := blk_cell hx8 2
    have e3 := blk_cell hx8 3
    have y0 := blk_frozen hx8 0
    have y1 := blk_frozen hx8 1
    have y2 := blk_frozen hx8 2
    have y3 := blk_frozen hx8 3
    have HB8 := Aside0.mk (put4_facts hx8 (.bool false) (.slice none 0 0) (.slice none 0 0) (.int .i64 0)).2.2.2.2
    have HP8 := Aside0.mk (put4_below HB3.out HGE.out.2 (.bool false) (.slice none 0 0) (.slice none 0 0) (.int .i64 0))
    clear hx8 hf
    go_wp2
    try simp only [Exit.inBlock, Exit.then, Exit.noGoto_ret]
    refine bodyPost_ret (results_cell3 rfl _ _ g6 _ _ _ _ rfl HB8.out hu33 rfl (by kernel_rfl)) rfl ?_
    exact ⟨HP8.out, _, _, _, by rw [HRE.out]; rfl, by rw [HRE.out]; exact Kd.R_nil _ _ _ _ _, by rw [HRE.out]; exact Kd.N_nil _ _ _ _ _, by rw [HRE.out]; exact Kd.R_nil _ _ _ _ _⟩
  case pos =>
  have hf := HF.out
  rw [if_neg (by simpa using hre)] at hf
  obtain ⟨e2, hlr, hf⟩ := hf
  have q1 : (re != 0) = false := by rw [hre]; rfl
  have HF2 := Aside0.mk hf
  have HLR := Aside0.mk (lit_Right.calls k A1 c1 l1 n e2 w3 (Kd.C_below HR1.out HB3.out) HC1.out hlr)
  have c30 : w3.cell? ⟨g3, 0, none⟩ = some (.int .i64 n) := (blk_cell HX33.out 0).trans rfl
  clear hf HF hlr hre
  go_wp2_with fail
  refine HLR.out.mono ?_
  rintro e' w4 ⟨rfl, nd, rfl⟩
  have hb4 : Below w3.heap.size w3 (w3.drewN nd) := ⟨rfl, rfl, rfl, Nat.le_refl _, fun _ _ => rfl⟩
  obtain ⟨w4, hw4⟩ : ∃ w4, w3.drewN nd = w4 := ⟨_, rfl⟩
  rw [hw4] at hb4 ⊢
  have HX34 := Aside0.mk (blk_below HX33.out hb4)
  have HX64 := Aside0.mk (blk_below HX63.out hb4)
  have HB4 := Aside0.mk (below_step HB3.out hb4)
  clear hb4 hw4 HLR c30 HX33 HX63 HB3
  by_cases hre : e2 = 0
  case neg =>
    have hf := HF2.out
    rw [if_pos hre] at hf
    have q2 : (e2 != 0) = true := by simpa using hre
    have HRE := Aside0.mk hf
    have hx8 := HX64.out
    have e0 := blk_cell hx8 0
    have e1 := blk_cell hx8 1
    have e2_ := blk_cell hx8 2
    have e3 := blk_cell hx8 3
    have y0 := blk_frozen hx8 0
    have y1 := blk_frozen hx8 1
    have y2 := blk_frozen hx8 2
    have y3 := blk_frozen hx8 3
    have HB8 := Aside0.mk (put4_facts hx8 (.bool false) (.slice none 0 0) (.slice none 0 0) (.int .i64 0)).2.2.2.2
    have HP8 := Aside0.mk (put4_below HB4.out HGE.out.2 (.bool false) (.slice none 0 0) (.slice none 0 0) (.int .i64 0))
    clear hx8 hf
    go_wp2
    try simp only [Exit.inBlock, Exit.then, Exit.noGoto_ret]
    refine bodyPost_ret (results_cell3 rfl _ _ g6 _ _ _ _ rfl HB8.out hu33 rfl (by kernel_rfl)) rfl ?_
    exact ⟨HP8.out, _, _, _, by rw [HRE.out]; rfl, by rw [HRE.out]; exact Kd.R_nil _ _ _ _ _, by rw [HRE.out]; exact Kd.N_nil _ _ _ _ _, by rw [HRE.out]; exact Kd.R_nil _ _ _ _ _⟩
  case pos =>
  have hf := HF2.out
  rw [if_neg (by simpa using hre)] at hf
  have q2 : (e2 != 0) = false := by rw [hre]; rfl
  have HF3 := Aside0.mk hf
  clear hf HF2 hre
  by_cases hfu : fuel < 0 ∨ 1048576 < fuel
  case pos =>
    have hf := HF3.out
    rw [if_pos hfu] at hf
    by_cases hf0 : fuel < 0
    · have q3 : decide (fuel < 0) = true := decide_eq_true hf0
      clear hfu hf0
      have HRE := Aside0.mk hf
      have hx8 := HX64.out
      have e0 := blk_cell hx8 0
      have e1 := blk_cell hx8 1
      have e2_ := blk_cell hx8 2
      have e3 := blk_cell hx8 3
      have y0 := blk_frozen hx8 0
      have y1 := blk_frozen hx8 1
      have y2 := blk_frozen hx8 2
      have y3 := blk_frozen hx8 3
      have HB8 := Aside0.mk (put4_facts hx8 (.bool false) (.slice none 0 0) (.slice none 0 0) (.int .i64 0)).2.2.2.2
      have HP8 := Aside0.mk (put4_below HB4.out HGE.out.2 (.bool false) (.slice none 0 0) (.slice none 0 0) (.int .i64 0))
      clear hx8 hf
      go_wp2
      try simp only [Exit.inBlock, Exit.then, Exit.noGoto_ret]
      refine bodyPost_ret (results_cell3 rfl _ _ g6 _ _ _ _ rfl HB8.out hu33 rfl (by kernel_rfl)) rfl ?_
      exact ⟨HP8.out, _, _, _, by rw [HRE.out]; rfl, by rw [HRE.out]; exact Kd.R_nil _ _ _ _ _, by rw [HRE.out]; exact Kd.N_nil _ _ _ _ _, by rw [HRE.out]; exact Kd.R_nil _ _ _ _ _⟩
    · have q3 : decide (fuel < 0) = false := decide_eq_false hf0
      have q4 : decide ((1048576 : Int) < fuel) = true := decide_eq_true (hfu.resolve_left hf0)
      clear hfu hf0
      have HRE := Aside0.mk hf
      have hx8 := HX64.out
      have e0 := blk_cell hx8 0
      have e1 := blk_cell hx8 1
      have e2_ := blk_cell hx8 2
      have e3 := blk_cell hx8 3
      have y0 := blk_frozen hx8 0
      have y1 := blk_frozen hx8 1
      have y2 := blk_frozen hx8 2
      have y3 := blk_frozen hx8 3
      have HB8 := Aside0.mk (put4_facts hx8 (.bool false) (.slice none 0 0) (.slice none 0 0) (.int .i64 0)).2.2.2.2
      have HP8 := Aside0.mk (put4_below HB4.out HGE.out.2 (.bool false) (.slice none 0 0) (.slice none 0 0) (.int .i64 0))
      clear hx8 hf
      go_wp2
      try simp only [Exit.inBlock, Exit.then, Exit.noGoto_ret]
      refine bodyPost_ret (results_cell3 rfl _ _ g6 _ _ _ _ rfl HB8.out hu33 rfl (by kernel_rfl)) rfl ?_
      exact ⟨HP8.out, _, _, _, by rw [HRE.out]; rfl, by rw [HRE.out]; exact Kd.R_nil _ _ _ _ _, by rw [HRE.out]; exact Kd.N_nil _ _ _ _ _, by rw [HRE.out]; exact Kd.R_nil _ _ _ _ _⟩
  case neg =>
  have hf := HF3.out
  rw [if_neg hfu] at hf
  obtain ⟨hll, hnn, hasw, E, hnew, hclw, hruns⟩ := hf
  have q3 : decide (fuel < 0) = false := decide_eq_false (by omega)
  have q4 : decide ((1048576 : Int) < fuel) = false := decide_eq_false (by omega)
  have HNN := Aside0.mk hnn
  have HLL := Aside0.mk hll
  have HASW := Aside0.mk hasw
  have HRUNS := Aside0.mk hruns
  have c30 : w4.cell? ⟨g3, 0, none⟩ = some (.int .i64 n) := (blk_cell HX34.out 0).trans rfl
  have c31 : w4.cell? ⟨g3, 1, none⟩ = some (.slice A0 l0.length c0) := (blk_cell HX34.out 1).trans rfl
  have HNEW := Aside0.mk (eng_New.calls k n A0 c0 l0 E w4 (Kd.C_below HR0.out HB4.out) HC0.out hclw hnew)
  clear hfu hll hnn hasw hruns hnew hclw HF3
  go_wp2_with fail
  refine HNEW.out.mono ?_
  rintro e' w5 ⟨B, rfl, T, p, he, hb5, ht5⟩
  have HE := Aside0.mk he
  have HT5 := Aside0.mk ht5
  have HX35 := Aside0.mk (blk_below HX34.out hb5)
  have HX65 := Aside0.mk (blk_below HX64.out hb5)
  have HB5 := Aside0.mk (below_step HB4.out hb5)
  have HB45 := Aside0.mk hb5
  have HR14 := Aside0.mk (Kd.C_below HR1.out HB4.out)
  clear he hb5 ht5 HNEW c30 c31 HX34
  obtain ⟨hs, hds, hC⟩ := HdsOf.part HR00.out
  have hC := Kd.C_below hC (below_step HB0.out HB5.out)
  have hlen := hds.1
  have HCLN := Aside0.mk (fun (W : World) (hb : Below w5.heap.size w5 W) => by
    have h := slices_Clone_rows.calls A0 c0 hs W (by rw [hlen]; exact Kd.C_below hC hb) (by rw [hlen]; exact HC0.out) (by have := HLL.out; omega)
    rw [hlen] at h
    exact h)
  have HDS := Aside0.mk hds
  have d0 : w5.cell? ⟨g3, 0, none⟩ = some (.int .i64 n) := (blk_cell HX35.out 0).trans rfl
  have d1 : w5.cell? ⟨g3, 1, none⟩ = some (.slice A0 l0.length c0) := (blk_cell HX35.out 1).trans rfl
  have hdr : Below w5.heap.size w5 (w5.drew) := below_drew (Below.refl _ _)
  clear hds hC
  go_upto_region 10 with fail
  refine start_ (n := 11) (S := fun w' => w'.cell? ⟨g3, 0, none⟩ = some (.int .i64 n) ∧ w'.cell? ⟨g3, 1, none⟩ = some (.slice A0 l0.length c0) ∧ Below w5.heap.size w5 w') (ds := [9]) #[false, false, false, false, false, false, false, false, false, false, false] (by kernel_rfl) rfl rfl ⟨d0, d1, hdr⟩ (fun hHeld => ?_)
  refine pure_ (i := 0) (N := some 44) (v := ?_) (a' := ?_) #[true, false, false, false, false, false, false, false, false, false, false] rfl rfl (by kernel_rfl) (fun _ _ _ h => h) (Or.inl ⟨by rfl, ?_⟩) ?_ ?_
  rotate_left
  · intro w'
    go_simp
    with_reducible rfl
  rotate_left
  · simp only [Act.put, List.setIfInBounds_toArray, List.set_cons_zero, List.set_cons_succ, i64_w, i32_w]
    rfl
  refine pure_ (i := 1) (N := some 45) (v := ?_) (a' := ?_) #[true, true, false, false, false, false, false, false, false, false, false] rfl rfl (by kernel_rfl) (fun _ _ _ h => h) (Or.inl ⟨by rfl, ?_⟩) ?_ ?_
  rotate_left
  · intro w'
    go_simp
    with_reducible rfl
  rotate_left
  · simp only [Act.put, List.setIfInBounds_toArray, List.set_cons_zero, List.set_cons_succ, i64_w, i32_w]
    rfl
  refine pure_ (i := 3) (N := some 47) (v := ?_) (a' := ?_) #[true, true, false, true, false, false, false, false, false, false, false] rfl rfl (by kernel_rfl) (fun _ _ _ h => h) (Or.inl ⟨by rfl, ?_⟩) ?_ ?_
  rotate_left
  · intro w'
    go_simp
    with_reducible rfl
  rotate_left
  · simp only [Act.put, List.setIfInBounds_toArray, List.set_cons_zero, List.set_cons_succ, i64_w, i32_w]
    rfl
  refine pure_ (i := 6) (N := some 50) (v := ?_) (a' := ?_) #[true, true, false, true, false, false, true, false, false, false, false] rfl rfl (by kernel_rfl) (fun _ _ _ h => h) (Or.inl ⟨by rfl, ?_⟩) ?_ ?_
  rotate_left
  · intro w'
    go_simp
    with_reducible rfl
  rotate_left
  · simp only [Act.put, List.setIfInBounds_toArray, List.set_cons_zero, List.set_cons_succ, i64_w, i32_w]
    rfl
  refine pure_ (i := 7) (N := some 51) (v := ?_) (a' := ?_) #[true, true, false, true, false, false, true, true, false, false, false] rfl rfl (by kernel_rfl) (fun _ _ _ h => h) (Or.inl ⟨by rfl, ?_⟩) ?_ ?_
  rotate_left
  · intro w'
    go_simp
    with_reducible rfl
  rotate_left
  · simp only [Act.put, List.setIfInBounds_toArray, List.set_cons_zero, List.set_cons_succ, i64_w, i32_w]
    rfl
  refine take_ (i := 2) (N := some 46) (v := ?_) (a' := ?_) #[true, true, true, true, false, false, true, true, false, false, false] rfl rfl (by kernel_rfl) (fun _ _ _ h => h) (Or.inl ⟨by rfl, ?_⟩) hHeld ?_ ?_
  rotate_left
  · rintro w' ⟨s0, s1, s2⟩
    go_simp
    with_reducible rfl
  rotate_left
  · simp only [Act.put, List.setIfInBounds_toArray, List.set_cons_zero, List.set_cons_succ, i64_w, i32_w]
    rfl
  refine take_ (i := 4) (N := some 48) (v := ?_) (a' := ?_) #[true, true, true, true, true, false, true, true, false, false, false] rfl rfl (by kernel_rfl) (fun _ _ _ h => h) (Or.inl ⟨by rfl, ?_⟩) hHeld ?_ ?_
  rotate_left
  · rintro w' ⟨s0, s1, s2⟩
    go_simp
    with_reducible rfl
  rotate_left
  · simp only [Act.put, List.setIfInBounds_toArray, List.set_cons_zero, List.set_cons_succ, i64_w, i32_w]
    rfl
  refine one_ (i := 5) (N := some 49) #[true, true, true, true, true, true, true, true, false, false, false] rfl rfl (by kernel_rfl) (by decide) (fun K hK => ?_)
  refine goes_ Try.func26 (by kernel_rfl) rfl #[.slice A0 l0.length c0] (by rfl) rfl rfl (by simp only [List.map_toArray, List.map_cons, List.map_nil]; rfl) ?_
  with_reducible refine (HCLN.out _ hHeld.2.2).mono ?_
  rintro e' w7 ⟨v7, rfl, r7, hb7⟩
  refine ⟨_, rfl, ?_⟩
  obtain ⟨A7, c7, e7⟩ := Kd.R_slice r7
  subst e7
  have HR7 := Aside0.mk r7
  have HB7 := Aside0.mk hb7
  clear r7
  refine hK.out _ _ ⟨pw_cell_below hb7 hHeld.1, pw_cell_below hb7 hHeld.2.1, below_step hHeld.2.2 hb7⟩ (fun hHeld => ?_)
  clear hK K
  refine norm_ (a' := ?_) ?_ ?_
  rotate_left
  · show Act.put _ (some 49) _ = _
    simp only [Act.put, List.setIfInBounds_toArray, List.set_cons_zero, List.set_cons_succ, i64_w, i32_w]
    rfl
  refine pure_ (i := 8) (N := some 52) (v := ?_) (a' := ?_) #[true, true, true, true, true, true, true, true, true, false, false] rfl rfl (by kernel_rfl) (fun _ _ _ h => h) (Or.inl ⟨by rfl, ?_⟩) ?_ ?_
  rotate_left
  · intro w'
    go_simp
    with_reducible rfl
  rotate_left
  · simp only [Act.put, List.setIfInBounds_toArray, List.set_cons_zero, List.set_cons_succ, i64_w, i32_w]
    rfl
  refine last_ (i := 9) (N := some 53) #[true, true, true, true, true, true, true, true, true, true, false] rfl rfl (by kernel_rfl) (by decide) (fun K hK => ?_)
  refine value_ (w1 := ?_) (v := ?_) (by rfl) rfl ?_ ?_
  rotate_left 2
  · go_simp
    constructor
    · rfl
    · rfl
  refine hK.out _ _ ?_
  clear hK K
  refine norm_ (a' := ?_) ?_ ?_
  rotate_left
  · show Act.put _ (some 53) _ = _
    simp only [Act.put, List.setIfInBounds_toArray, List.set_cons_zero, List.set_cons_succ, i64_w, i32_w]
    rfl
  refine pure_ (i := 10) (N := some 14) (v := ?_) (a' := ?_) #[true, true, true, true, true, true, true, true, true, true, true] rfl rfl (by kernel_rfl) (fun _ _ _ h => h) (Or.inl ⟨by rfl, ?_⟩) ?_ ?_
  rotate_left
  · intro w'
    go_simp
    with_reducible rfl
  rotate_left
  · simp only [Act.put, List.setIfInBounds_toArray, List.set_cons_zero, List.set_cons_succ, i64_w, i32_w]
    rfl
  refine done_ (by kernel_rfl) ?_
  have hsz7 : w5.heap.size ≤ w5.drew.heap.size := Nat.le_refl _
  have hb57 := hHeld.2.2
  have HX67 := Aside0.mk (blk_below HX65.out hb57)
  have hg6 : g6 < w4.heap.size := blk_lt HX64.out
  have b04 := below_step HB0.out HB4.out
  have hs8 := SolIn.make (w0 := w0) (w4 := w4) (n := n) (fuel := fuel) (HE.out.below hb57) HT5.out b04 (below_step HB45.out hb57) HR7.out (fun j hj => HE.out.fresh j hj) HB45.out.size HDS.out HR10.out HC1.out
  obtain ⟨W8, hW8⟩ : ∃ W8, w7.alloc (.cells #[.pointer (some ⟨B, 0, none⟩), .int .i64 n, .slice A7 hs.length c7, .slice A1 l1.length c1, .slice none 0 0, .int .i64 0, .int .i64 fuel] 57) = W8 := ⟨_, rfl⟩
  rw [hW8] at hs8
  have hb78 : Below w7.heap.size w7 W8 := by rw [← hW8]; exact below_alloc (Below.refl _ _) _
  have hx68 := blk_below HX67.out hb78
  have hsz57 := hb57.size
  have hsz78 := hb78.size
  have hsz45 := HB45.out.size
  have HU5 := Aside0.mk (show ∀ g, w0.heap.size ≤ g → g < w4.heap.size → firstU w7.heap.size (.slice A7 hs.length c7) w0.heap.size w4.heap.size g = 5 from fun g h1 h2 => by
    unfold firstU
    rw [if_neg (by omega), if_neg (fun e => by have := Kd.R_base HR7.out g e; omega), if_pos ⟨h1, h2⟩])
  have HB48 := Aside0.mk (below_step (below_step HB45.out hb57) hb78)
  have HG6 := Aside0.mk hg6
  have HRUN := Aside0.mk (sol_run.calls k m i r hs8 HASW.out HNN.out HRUNS.out)
  have HX68 := Aside0.mk hx68
  rw [hlen] at hW8
  clear hs8 hb78 hx68 hsz57 hsz78 hsz45 hb57 hsz7 hg6 hlen b04
  rw [hW8]
  go_wp2_with fail
  refine HRUN.out.mono ?_
  rintro e' w8 ⟨ho4, hx4, vV, vL, vN, rfl, rV, rL, rN⟩
  have hgw : w0.heap.size ≤ g6 := Nat.le_trans HB0.out.size HGE.out.2
  have hx8 := (hx4 g6 (HU5.out g6 hgw HG6.out)).trans HX68.out
  have hok : ∀ j, okU w0 (firstU w7.heap.size (.slice A7 hs.length c7) w0.heap.size w4.heap.size) j → (w.heap.size ≤ j) ∧ j ≠ g6 := fun j hj => by
    have h1 := HB4.out.size
    have h0 := hj.1
    by_cases h : w0.heap.size ≤ j ∧ j < w4.heap.size
    · exact absurd (HU5.out j h.1 h.2) hj.2
    · have := HG6.out
      exact ⟨by omega, by omega⟩
  have b04 := below_step HB0.out HB4.out
  have hw8 : Below w4.heap.size w4 w8 := ⟨ho4.1.trans b04.1.symm, ho4.2.trans b04.2.symm, ho4.3.trans b04.3.symm, by
    have h1 := HG6.out
    have h2 := K5.lt ((hx4 (w4.heap.size - 1) (HU5.out _ (by omega) (by omega))).trans (HB48.out.block _ (by omega))) (by omega)
    omega, fun j hj => by
    by_cases h : j < w0.heap.size
    · exact (ho4.block j h).trans (b04.block j h).symm
    · exact (hx4 j (HU5.out j (by omega) hj)).trans (HB48.out.block j hj)⟩
  obtain ⟨AV, cV, eV⟩ := Kd.R_slice rV
  obtain ⟨AL, cL, eL⟩ := Kd.N_slice rL
  obtain ⟨AN, cN, eN⟩ := Kd.R_slice rN
  subst eV eL eN
  have e0 := blk_cell hx8 0
  have e1 := blk_cell hx8 1
  have e2_ := blk_cell hx8 2
  have e3 := blk_cell hx8 3
  have y0 := blk_frozen hx8 0
  have y1 := blk_frozen hx8 1
  have y2 := blk_frozen hx8 2
  have y3 := blk_frozen hx8 3
  have HB8 := Aside0.mk (put4_facts hx8 (.bool r.sat) (.slice AV r.vals.length cV) (.slice AL r.log.length cL) (.int .i64 r.steps)).2.2.2.2
  have HP8 := Aside0.mk (put4_below (below_step HB4.out hw8) HGE.out.2 (.bool r.sat) (.slice AV r.vals.length cV) (.slice AL r.log.length cL) (.int .i64 r.steps))
  have hfar := put4_far (w := w8) (g := g6) (.bool r.sat) (.slice AV r.vals.length cV) (.slice AL r.log.length cL) (.int .i64 r.steps)
  have HV8 := Aside0.mk (Kd.R_mono (Kd.R_step rV (fun j hj _ => hfar j (hok j hj).2)) (fun j hj => (hok j hj).1) (ok' := fun j => w.heap.size ≤ j))
  have HL8 := Aside0.mk (Kd.N_mono (Kd.N_step rL (fun j hj _ => hfar j (hok j hj.1.1).2)) (fun j hj => ⟨⟨(hok j hj.1.1).1, hj.1.2⟩, hj.2⟩) (ok' := fun j => (w.heap.size ≤ j ∧ some j ≠ (Value.slice AN r.need.length cN).ownBlock) ∧ some j ≠ (Value.slice AV r.vals.length cV).ownBlock))
  have HN8 := Aside0.mk (Kd.R_mono (Kd.R_step rN (fun j hj _ => hfar j (hok j hj).2)) (fun j hj => (hok j hj).1) (ok' := fun j => w.heap.size ≤ j))
  clear hx8 hx4 ho4 rV rL rN hfar HRUN hok hw8 b04 hgw
  go_wp2
  try simp only [Exit.inBlock, Exit.then, Exit.noGoto_ret]
  refine bodyPost_ret (results_cell3 rfl _ _ g6 _ _ _ _ rfl HB8.out hu33 rfl (by kernel_rfl)) rfl ?_
  exact ⟨HP8.out, _, _, _, rfl, HV8.out, HL8.out, HN8.out⟩

theorem own_rebase {w : World} {b b' e s n : Nat} {v : Value} {xs : List Value} (h : w.ownsRow b e s v n xs) (hk : ∀ k, v.ownBlock = some k → b' ≤ k) : w.ownsRow b' e s v n xs := by
  obtain ⟨h0, h⟩ := h
  refine ⟨h0, h.imp id ?_⟩
  rintro ⟨g, cap, cur, e1, _, rest⟩
  exact ⟨g, cap, cur, e1, hk g (by rw [e1]; rfl), rest⟩
theorem N_rebase {α : Type} {d : Kd α} {e : Nat} {w : World} {b b' : Nat} {ok : Nat → Prop} {v : Value} {xs : List α} (h : Kd.N d e w b ok v xs) (hk : ∀ k, ok k → b' ≤ k) : Kd.N d e w b' ok v xs := by
  obtain ⟨h0, rows, hl, ⟨hr0, inner, ho, hrp⟩, hf⟩ := h
  exact ⟨h0, rows, hl, ⟨hr0, inner, own_rebase ho (fun k e => hk k (h0 k e)), hrp⟩, hf⟩
theorem R_rebase {α : Type} {enc : α → Value} {h1 : ∀ x, (enc x).oneCell' = true} {e : Nat} {w : World} {b b' : Nat} {ok : Nat → Prop} {v : Value} {xs : List α} (h : (Kd.scalar enc h1).R e w b ok v xs) (hk : ∀ k, ok k → b' ≤ k) : (Kd.scalar enc h1).R e w b' ok v xs :=
  Kd.R_of_own (own_rebase (Kd.own_of_R h) (fun k e => hk k (h.1 k e))) h.1
/-- A search under assumptions tells r, whatever the bounds are from some on. -/
def Sol.told (n : Int) (l : List (List Int)) (asm : List Int) (fuel : Int) (r : Found) : Prop := ∃ K : Nat, ∀ k m i, K ≤ k → K ≤ m → K ≤ i → underP k m i n l asm fuel r
/-- What a search under assumptions tells, as a function: any of its answers (there is at most one). -/
noncomputable def solve_Under.f (n : Int) (l : List (List Int)) (asm : List Int) (fuel : Int) : Option (Bool × List Bool × (List S64) × Int × List Int × Int) :=
  @dite _ (∃ r : Found, Sol.told n l asm fuel r) (Classical.propDecidable _) (fun h => some ((Classical.choose h).sat, (Classical.choose h).vals, (Classical.choose h).log, (Classical.choose h).steps, (Classical.choose h).need, (Classical.choose h).err)) (fun _ => none)
theorem solve_Under.inv {n : Int} {l : List (List Int)} {asm : List Int} {fuel : Int} {t : Bool × List Bool × (List S64) × Int × List Int × Int} (h : solve_Under.f n l asm fuel = some t) : ∃ r : Found, Sol.told n l asm fuel r ∧ t = (r.sat, r.vals, r.log, r.steps, r.need, r.err) := by
  unfold solve_Under.f at h
  split at h
  · rename_i hx
    exact ⟨Classical.choose hx, Classical.choose_spec hx, (Option.some.inj h).symm⟩
  · cases h
theorem solve_Under.tells {n : Int} {l : List (List Int)} {asm : List Int} {fuel : Int} (h : ∃ r : Found, Sol.told n l asm fuel r) : ∃ r : Found, Sol.told n l asm fuel r ∧ solve_Under.f n l asm fuel = some (r.sat, r.vals, r.log, r.steps, r.need, r.err) :=
  ⟨Classical.choose h, Classical.choose_spec h, dif_pos h⟩
theorem solve_Under.calls (a0_0 : Int) (A0_1 : Option Addr) (c0_1 : Nat) (l0_1 : List (List Int)) (A1 : Option Addr) (c1 : Nat) (l1 : List Int) (a2 : Int) (r1 : Bool) (r2 : List Bool) (r3 : List S64) (r4 : Int) (r5 : List Int) (r6 : Int) (w : World) (hr0_1 : Kd.C (Kd.slice 3 (Kd.int .i64)) w A0_1 l0_1.length l0_1) (hc0_1 : l0_1.length ≤ c0_1) (hr1 : Kd.C (Kd.int .i64) w A1 l1.length l1) (hc1 : l1.length ≤ c1) (h : solve_Under.f a0_0 l0_1 l1 a2 = some (r1, r2, r3, r4, r5, r6)) :
    Calls Try.prog 12 #[.agg #[.int .i64 a0_0, .slice A0_1 l0_1.length c0_1], .slice A1 l1.length c1, .int .i64 a2] w fun e w' => ∃ v1_ v2_ v4_ : Value, e = .returned (.tuple #[.agg #[.bool r1, v1_, v2_, .int .i64 r4], v4_, .int .i64 r6]) ∧ Kd.R Kd.bool 4 w' w.heap.size (fun k_ => (w.heap.size ≤ k_)) v1_ r2 ∧ Kd.N k64 64 w' w.heap.size (fun k_ => (w.heap.size ≤ k_) ∧ some k_ ≠ (v1_ : Value).ownBlock ∧ some k_ ≠ (v4_ : Value).ownBlock) v2_ r3 ∧ Kd.R (Kd.int .i64) 3 w' w.heap.size (fun k_ => (w.heap.size ≤ k_)) v4_ r5 ∧ Below w.heap.size w w' := by
  obtain ⟨r, ⟨K, hu⟩, ht⟩ := solve_Under.inv h
  injection ht with t1 ht
  injection ht with t2 ht
  injection ht with t3 ht
  injection ht with t4 ht
  injection ht with t5 t6
  subst t1 t2 t3 t4 t5 t6
  refine (solve_Under.walk K K K a0_0 A0_1 c0_1 l0_1 A1 c1 l1 a2 r w w (Below.refl _ _) hr0_1 hc0_1 hr1 hc1 (hu K K K (Nat.le_refl _) (Nat.le_refl _) (Nat.le_refl _))).mono ?_
  rintro e w' ⟨hb, vV, vL, vN, rfl, hV, hL, hN⟩
  exact ⟨vV, vL, vN, rfl, R_rebase hV (fun _ h => h), Kd.N_mono (N_rebase hL (fun _ h => h.1.1)) (fun k hk => ⟨hk.1.1, hk.2, hk.1.2⟩), R_rebase hN (fun _ h => h), hb⟩


end Go.Proofs.Ytaibnbhgjnddnaa.P

-- Printed by wip/tools/pp.py of this claim's session (over the kit's print.py); Lean checks it.
namespace Go.Proofs.Ytaibnbhgjnddnaa.P
open Go.RowKit Go.Proofs.YtaibnbhgjnddnaaW.PrintWords Go.Proofs.YtaibnbhgjnddnaaW.PrintLast Go.Proofs.YtaibnbhgjnddnaaW.PrintMore
attribute [local go_sem] max2_int min2_int max_two min_two max_three min_three max_four min_four   -- for this text's walks alone
set_option linter.unusedVariables false
set_option linter.unusedSimpArgs false

-- SOLO
-- IMPORTS Derived.Test.YtaibnbhgjnddnaaPxAsolveS Derived.Test.YtaibnbhgjnddnaaPxAsolveR Derived.StillTailTactics
/-! ### solve_Run: function 16 -/
noncomputable def solve_Run.f (n : Int) (l : List (List Int)) (fuel : Int) : Option (Bool × List Bool × (List S64) × Int × Int) := (solve_Under.f n l [] fuel).bind fun t => some (t.1, t.2.1, t.2.2.1, t.2.2.2.1, t.2.2.2.2.2)
set_option maxRecDepth 100000 in
set_option maxHeartbeats 8000000 in
theorem solve_Run.calls (a0_0 : Int) (A0_1 : Option Addr) (c0_1 : Nat) (l0_1 : List (List Int)) (a1 : Int) (r1 : Bool) (r2 : List Bool) (r3 : List S64) (r4 : Int) (r5 : Int) (w : World) (hr0_1 : Kd.C (Kd.slice 3 (Kd.int .i64)) w A0_1 l0_1.length l0_1) (hc0_1 : l0_1.length ≤ c0_1) (h : solve_Run.f a0_0 l0_1 a1 = some (r1, r2, r3, r4, r5)) :
    Calls Try.prog 16 #[.agg #[.int .i64 a0_0, .slice A0_1 l0_1.length c0_1], .int .i64 a1] w fun e w' => ∃ v1_ v2_ : Value, e = .returned (.tuple #[.agg #[.bool r1, v1_, v2_, .int .i64 r4], .int .i64 r5]) ∧ Kd.R Kd.bool 4 w' w.heap.size (fun k_ => (w.heap.size ≤ k_)) v1_ r2 ∧ Kd.N k64 64 w' w.heap.size (fun k_ => (w.heap.size ≤ k_) ∧ some k_ ≠ (v1_ : Value).ownBlock) v2_ r3 ∧ Below w.heap.size w w' := by
  unfold solve_Run.f at h
  obtain ⟨⟨s1, s2, s3, s4, s5, s6⟩, hU, h⟩ := Option.bind_eq_some_iff.1 h
  injection h with h
  injection h with t1 h
  injection h with t2 h
  injection h with t3 h
  injection h with t4 t5
  subst t1 t2 t3 t4 t5
  have hu24 := Try.underlying24
  have hu33 := Try.underlying33
  obtain ⟨W1, hW1⟩ : ∃ W1, w.alloc (.cells #[.int .i64 a0_0, .slice A0_1 l0_1.length c0_1] 24) = W1 := ⟨_, rfl⟩
  obtain ⟨W2, hW2⟩ : ∃ W2, W1.alloc (.cells #[.bool false, .slice none 0 0, .slice none 0 0, .int .i64 0] 33) = W2 := ⟨_, rfl⟩
  obtain ⟨g2, hg2⟩ : ∃ g, w.heap.size = g := ⟨_, rfl⟩
  have hs1 : W1.heap.size = g2 + 1 := by rw [← hW1, ← hg2]; simp
  obtain ⟨g4, hg4⟩ : ∃ g, g2 + 1 = g := ⟨_, rfl⟩
  have b1 : Below w.heap.size w W1 := by rw [← hW1]; exact below_alloc (Below.refl _ _) _
  have b2 : Below W1.heap.size W1 W2 := by rw [← hW2]; exact below_alloc (Below.refl _ _) _
  have n1 := blk_new w (.cells #[.int .i64 a0_0, .slice A0_1 l0_1.length c0_1] 24)
  have n2 := blk_new W1 (.cells #[.bool false, .slice none 0 0, .slice none 0 0, .int .i64 0] 33)
  rw [hW1, hg2] at n1
  rw [hW2, hs1, hg4] at n2
  have hx2 := blk_below n1 b2
  have HX4 := Aside0.mk n2
  have HB := Aside0.mk (below_step b1 b2)
  have HGE := Aside0.mk (show w.heap.size ≤ g4 by omega)
  have hg5 : W1.heap.size = g4 := by rw [hs1, hg4]
  have hs2 : W2.heap.size = g4 + 1 := by rw [← hW2, ← hg5]; simp
  have HLT := Aside0.mk (show w.heap.size ≤ g4 ∧ g4 < W2.heap.size by omega)
  have HU := Aside0.mk (solve_Under.calls a0_0 A0_1 c0_1 l0_1 none 0 [] a1 s1 s2 s3 s4 s5 s6 W2 (Kd.C_below hr0_1 HB.out) hc0_1 (Kd.R_reads' (Kd.R_nil (Kd.int .i64) 3 W2 0 (fun _ => True))).2.2 (Nat.le_refl _) hU)
  have c20 : W2.cell? ⟨g2, 0, none⟩ = some (.int .i64 a0_0) := (blk_cell hx2 0).trans rfl
  have c21 : W2.cell? ⟨g2, 1, none⟩ = some (.slice A0_1 l0_1.length c0_1) := (blk_cell hx2 1).trans rfl
  clear hr0_1 hc0_1 hU b1 b2 n1 n2 hs1 hs2 hx2
  go_enter Try.func16, Try.ntmps16
  go_wp2_with fail
  refine HU.out.mono ?_
  rintro e' w3 ⟨vV, vL, vN, rfl, rV, rL, rN, hb3⟩
  obtain ⟨AV, cV, eV⟩ := Kd.R_slice rV
  obtain ⟨AL, cL, eL⟩ := Kd.N_slice rL
  obtain ⟨AN, cN, eN⟩ := Kd.R_slice rN
  subst eV eL eN
  have h43 := blk_below HX4.out hb3
  obtain ⟨o7, ho7⟩ : ∃ o : Obj, (Obj.cells #[.bool s1, .slice AV s2.length cV, .slice AL s3.length cL, .int .i64 s4] 33 (0, 0)) = o := ⟨_, rfl⟩
  have hx7 := blk_new w3 o7
  have b37 : Below w3.heap.size w3 (w3.alloc o7) := below_alloc (Below.refl _ _) _
  have h47 := blk_below h43 b37
  have HB7 := Aside0.mk (below_step (below_step HB.out hb3) b37)
  have HR7 := Aside0.mk (Kd.R_below rV b37)
  have HL7 := Aside0.mk (Kd.N_below rL b37)
  have HO7 := Aside0.mk ho7
  obtain ⟨g7, hg7⟩ : ∃ g, w3.heap.size = g := ⟨_, rfl⟩
  have HG7 := Aside0.mk (show W2.heap.size ≤ g7 by rw [← hg7]; exact hb3.size)
  rw [hg7] at hx7
  clear rV rL rN b37 h43 HU c20 c21 hb3 HX4
  go_upto_region 2 with fail
  try rw [ho7]
  try rw [hg7]
  obtain ⟨W7, hW7⟩ : ∃ W7, w3.alloc o7 = W7 := ⟨_, rfl⟩
  rw [hW7] at hx7 h47 HB7 HR7 HL7 ⊢
  clear hW7 hg7
  rw [← ho7] at hx7
  clear ho7 HO7
  have f0 := blk_cell hx7 0
  have f1 := blk_cell hx7 1
  have f2 := blk_cell hx7 2
  have f3 := blk_cell hx7 3
  have i0 := blk_cell h47 0
  have i1 := blk_cell h47 1
  have i2 := blk_cell h47 2
  have i3 := blk_cell h47 3
  have z0 := blk_frozen h47 0
  have z1 := blk_frozen h47 1
  have z2 := blk_frozen h47 2
  have z3 := blk_frozen h47 3
  have HB8 := Aside0.mk (put4_facts h47 (.bool s1) (.slice AV s2.length cV) (.slice AL s3.length cL) (.int .i64 s4)).2.2.2.2
  have HP8 := Aside0.mk (put4_below HB7.out HGE.out (.bool s1) (.slice AV s2.length cV) (.slice AL s3.length cL) (.int .i64 s4))
  have hfar := fun j (hj : W2.heap.size ≤ j) => put4_far (w := W7) (g := g4) (.bool s1) (.slice AV s2.length cV) (.slice AL s3.length cL) (.int .i64 s4) j (by have := HLT.out; omega)
  have hok : ∀ j, W2.heap.size ≤ j → w.heap.size ≤ j := fun j hj => Nat.le_trans HB.out.size hj
  have HV8 := Aside0.mk (Kd.R_mono (Kd.R_lower (Kd.R_step HR7.out (fun j hj _ => hfar j hj)) HB.out.size) hok)
  have HL8 := Aside0.mk (Kd.N_mono (Kd.N_lower (Kd.N_step HL7.out (fun j hj _ => hfar j hj.1)) HB.out.size) (fun j hj => ⟨hok j hj.1, hj.2.1⟩) (ok' := fun k_ => (w.heap.size ≤ k_) ∧ some k_ ≠ (Value.slice AV s2.length cV).ownBlock))
  clear hfar hok HR7 HL7 HB7 hx7 h47
  go_wp2
  refine bodyPost_ret (results_cell2 rfl _ _ g4 _ _ _ _ rfl HB8.out hu33 rfl (by kernel_rfl)) rfl ?_
  exact ⟨_, _, rfl, HV8.out, HL8.out, HP8.out⟩


end Go.Proofs.Ytaibnbhgjnddnaa.P
