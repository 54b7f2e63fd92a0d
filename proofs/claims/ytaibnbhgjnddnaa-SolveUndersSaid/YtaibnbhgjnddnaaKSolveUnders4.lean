import Derived.WalkSpells
import Derived.StillTailTactics
import Derived.RangeFuncCalls
import Derived.Lib.SliceRun
import Derived.Deep.RegionLaw
import Derived.Shelf.RegionOpenPlain
import Derived.Shelf.Abstract
import Derived.Laws.EntriesVeiled
import Derived.Test.YtaibnbhgjnddnaaKSolveUnders1
import Derived.Test.YtaibnbhgjnddnaaKSolveUnders2
import Derived.Test.YtaibnbhgjnddnaaKSolveUnders3
namespace Go.Proofs.Ytaibnbhgjnddnaa.P
open Go.RowKit Go.Proofs.YtaibnbhgjnddnaaW.PrintWords Go.Proofs.YtaibnbhgjnddnaaW.PrintLast Go.Proofs.YtaibnbhgjnddnaaW.PrintMore
attribute [local go_sem] max2_int min2_int max_two min_two max_three min_three max_four min_four
set_option linter.unusedVariables false
set_option linter.unusedSimpArgs false
def Eng.truth (E : Eng) (l : Int) : Int := if E.val l < 0 then wrap64 (-l) else l
set_option maxRecDepth 100000 in
set_option maxHeartbeats 1000000 in
theorem sol_truth.calls {w0 w : World} {S B : Nat} {T : Tag} {U : Col} {Z : Sol} {p : EngP} {q : SolP} (l : Int) (h : SolIn w0 w S B T U Z p q) (hl : (Lit.int .i64 l).wf = true) :
    Calls Try.prog 56 #[.pointer (some ⟨S, 0, none⟩), .int .i64 l] w fun e w' => e = .returned (.int .i64 (Z.E.truth l)) ∧ Below w.heap.size w w' := by
  have HV := K0 (eng_Value.calls Z.E B T p l w h.e hl)
  have c0 := h.cells.1
  clear h
  unfold Eng.truth
  by_cases hv : Z.E.val l < 0
  · rw [if_pos hv]
    have d : decide (Z.E.val l < 0) = true := zqt hv
    go_enter Try.func56, Try.ntmps56
    go_wp2_with fail
    refine HV.out.mono ?_
    rintro e' w1 ⟨rfl, hb⟩
    have HB := K0 hb
    clear hb
    go_wp2
    go_ret
    exact ⟨rfl, HB.out⟩
  · rw [if_neg hv]
    have d : decide (Z.E.val l < 0) = false := zqu hv
    go_enter Try.func56, Try.ntmps56
    go_wp2_with fail
    refine HV.out.mono ?_
    rintro e' w1 ⟨rfl, hb⟩
    have HB := K0 hb
    clear hb
    go_wp2
    go_ret
    exact ⟨rfl, HB.out⟩
set_option maxRecDepth 100000 in
theorem eng_Broken.calls (E : Eng) (B : Nat) (T : Tag) (p : EngP) (w : World) (h : EngIn w B T E p) :
    Calls Try.prog 39 #[.pointer (some ⟨B, 0, none⟩)] w fun e w' => e = .returned (.int .i64 E.br) ∧ w' = w := by
  have c2 := h.cells.2.2.1
  have c6 := h.cells.2.2.2.2.2.2.1
  have q2 := run_eql_map_nil (P := Try.prog) w 67 3 25 (some p.bw) Try.underlying67
  simp only [Option.isNone_some] at q2
  clear h
  go_enter Try.func39, Try.ntmps39
  go_wp2
  go_ret
  exact ⟨rfl, rfl⟩
def Eng.push (k : Nat) (E : Eng) (l : Int) : Option (Eng × Bool) :=
  if E.br ≥ 0 then some (E, false) else (lit_Right.f k [l] E.n).bind fun e => if e ≠ 0 then some (E, false) else if E.val l ≠ 0 then some (E, false)
    else if E.tr.length < 2199023255552 ∧ E.st.length < 2199023255552 then (Eng.follow k (({ E with st := E.st ++ [(E.tr.length : Int)] } : Eng).put l (-1)) E.tr.length).bind fun E' => some (E', true) else none
theorem C_one (W : World) (l : Int) : Kd.C (Kd.int .i64) (W.alloc (.cells #[.int .i64 l] 3)) (some ⟨W.heap.size, 0, none⟩) 1 [l] :=
  ⟨rfl, by decide, fun _ => ⟨_, rfl, fun j p hp => ⟨[.int .i64 l], rfl, by
    have : p = l := by
      rcases j with _ | j
      · simpa using hp.symm
      · simp at hp
    rw [this]; rfl, fun i u hu => by
    have hj : j = 0 := by have := (List.getElem?_eq_some_iff.1 hp).1; simp at this; omega
    have hi : i = 0 := by have := (List.getElem?_eq_some_iff.1 hu).1; simp at this; omega
    subst hj; subst hi
    have := zql (blk_new W (.cells #[.int .i64 l] 3)) 0
    simp at hu
    rw [← hu]
    exact this⟩⟩⟩
set_option maxRecDepth 100000 in
set_option maxHeartbeats 4000000 in
theorem eng_Push.calls (k : Nat) (E : Eng) (B : Nat) (T : Tag) (p : EngP) (l : Int) (E2 : Eng) (r : Bool) (w : World) (h : EngIn w B T E p) (hl : (Lit.int .i64 l).wf = true) (hlit : E.Lits) (hf : Eng.push k E l = some (E2, r)) :
    Calls Try.prog 46 #[.pointer (some ⟨B, 0, none⟩), .int .i64 l] w fun e w' => e = .returned (.bool r) ∧ EngPost B T p E2 w w' := by
  unfold Eng.push at hf
  have c0 := h.cells.1
  have c6 := h.cells.2.2.2.2.2.2.1
  have HE := K0 h; have HL := K0 hlit
  by_cases hb : E.br ≥ 0
  · rw [if_pos hb] at hf
    simp only [Option.some.injEq, Prod.mk.injEq] at hf
    obtain ⟨h1, h2⟩ := hf
    subst h2; have H2 := K0 h1
    have hd : decide ((0 : Int) ≤ E.br) = true := zqt hb
    clear h1 h hlit hb
    go_enter Try.func46, Try.ntmps46
    go_wp2
    go_ret
    rw [← H2.out]
    exact ⟨rfl, T, p, HE.out, Moved.refl _ _, rfl⟩
  rw [if_neg hb] at hf
  obtain ⟨e, he, hf⟩ := Option.bind_eq_some_iff.mp hf
  have hd : decide ((0 : Int) ≤ E.br) = false := zqu hb
  have hba : Below w.heap.size w (w.alloc (.cells #[.int .i64 l] 3)) := zqb (zqw _ _) _
  have HR := K0 (lit_Right.calls k (some ⟨w.heap.size, 0, none⟩) 1 [l] E.n e (w.alloc (.cells #[.int .i64 l] 3)) (C_one w l) (zqx _) he)
  have c0a := pw_cell_below hba c0
  clear hb he
  by_cases h0 : e = 0
  case neg =>
    rw [if_pos h0] at hf
    simp only [Option.some.injEq, Prod.mk.injEq] at hf
    obtain ⟨h1, h2⟩ := hf
    subst h2; have H2 := K0 h1; have HB := K0 hba
    have q1 : (e != 0) = true := by simpa using h0
    have q2 : (e == 0) = false := by simpa using h0
    clear h1 h hlit h0 hba
    go_enter Try.func46, Try.ntmps46
    go_wp2_with fail
    refine HR.out.mono ?_
    rintro e' w1 ⟨rfl, ⟨⟨n1, rfl⟩⟩⟩
    go_wp2
    go_ret
    rw [← H2.out]
    have hB := HB.out.trans ((zqa (zqw _ _) n1).mono HB.out.size)
    exact ⟨rfl, T, p, HE.out.below hB, Moved.of_below hB, rfl⟩
  subst h0
  rw [if_neg (by decide)] at hf
  have HV := K0 (fun W (hW : Below w.heap.size w W) => eng_Value.calls E B T p l W (HE.out.below hW) hl)
  rcases E.val_or l with hv | hv | hv
  · rw [hv, if_pos (by decide)] at hf
    simp only [Option.some.injEq, Prod.mk.injEq] at hf
    obtain ⟨h1, h2⟩ := hf
    subst h2; have H2 := K0 h1; have HB := K0 hba; have HVv := K0 hv; clear h1 h hlit hba hv
    go_enter Try.func46, Try.ntmps46
    go_wp2_with fail
    refine HR.out.mono ?_
    rintro e' w1 ⟨rfl, ⟨⟨n1, rfl⟩⟩⟩
    have HB1 := K0 (HB.out.trans ((zqa (zqw _ _) n1).mono HB.out.size))
    go_wp2_with fail
    refine (HV.out _ HB1.out).mono ?_
    rintro e' w2 ⟨rfl, hb2⟩
    rw [HVv.out]
    have HB2 := K0 (HB1.out.trans (hb2.mono HB1.out.size))
    clear hb2
    go_wp2
    go_ret
    rw [← H2.out]
    exact ⟨rfl, T, p, HE.out.below HB2.out, Moved.of_below HB2.out, rfl⟩
  · rw [hv, if_neg (by decide)] at hf
    by_cases hbd : E.tr.length < 2199023255552 ∧ E.st.length < 2199023255552
    case neg =>
      rw [if_neg hbd] at hf; cases hf
    rw [if_pos hbd] at hf
    obtain ⟨E5, hf5, hr⟩ := Option.bind_eq_some_iff.mp hf
    simp only [Option.some.injEq, Prod.mk.injEq] at hr
    obtain ⟨h1, h2⟩ := hr
    subst h2; have H2 := K0 h1; have HB := K0 hba; have HVv := K0 hv; have HF := K0 hf5; have HBD := K0 hbd; clear h1 h hlit hba hv hf hf5 hbd
    go_enter Try.func46, Try.ntmps46
    go_wp2_with fail
    refine HR.out.mono ?_
    rintro e' w1 ⟨rfl, ⟨⟨n1, rfl⟩⟩⟩
    have HB1 := K0 (HB.out.trans ((zqa (zqw _ _) n1).mono HB.out.size))
    go_wp2_with fail
    refine (HV.out _ HB1.out).mono ?_
    rintro e' wo ⟨rfl, hb2⟩
    rw [HVv.out]
    have hb3 := HB1.out.trans (hb2.mono HB1.out.size)
    have hbd := hb3.trans ((below_drew (zqw wo.heap.size wo)).mono hb3.size)
    have hD := HE.out.below hbd
    obtain ⟨A5, k5, e5⟩ := Kd.R_slice hD.st
    obtain ⟨A3, k3, e3⟩ := Kd.R_slice hD.tr
    have c5 := hD.cells.2.2.2.2.2.1
    have c3 := hD.cells.2.2.2.1
    have hst := hD.st
    rw [e5] at c5 hst
    rw [e3] at c3
    obtain ⟨ss, hss⟩ : ∃ ss, E.st = ss := ⟨_, rfl⟩
    rw [hss] at c5 hst
    obtain ⟨n3, hn3⟩ : ∃ n3, E.tr.length = n3 := ⟨_, rfl⟩
    rw [hn3] at c3
    have haft : ∀ w1, wo.drew.grownBy w1 (Value.slice A5 ss.length k5).ownBlock → w1.cell? ⟨B, 5, none⟩ = some (.slice A5 ss.length k5) ∧ w1.frozen? ⟨B, 5, none⟩ = false ∧ w1.cell? ⟨B, 3, none⟩ = some (.slice A3 n3 k3) := fun w1 hg1 => by
      have hv := hst.1
      have a5 := hD.after hv (tag_ne (by decide) _ _) hg1 5
      have a3 := hD.after hv (tag_ne (by decide) _ _) hg1 3
      refine ⟨?_, a5.2, ?_⟩
      · rw [a5.1]; show some p.vS = _; rw [e5, hss]
      · rw [a3.1]; show some p.vT = _; rw [e3, hn3]
    have hba : Below wo.drew.heap.size wo.drew (wo.drew.alloc (.cells #[.int .i64 (n3 : Int)] 3)) := zqb (zqw _ _) _
    have d5 := pw_cell_below hba c5
    have d3 := pw_cell_below hba c3
    have HAFT := K0 haft; have HD := K0 hD; have HST := K0 hst; have HSS := K0 hss; have HN3 := K0 hn3; have HBd := K0 hbd
    have HSL := K0 (show ss.length < 4398046511104 by have := HBD.out.2; rw [hss] at this; omega)
    have HE5 := K0 e5; clear haft hD hst hss hn3 hba hb2 hb3 hbd e5 e3 HB1 HB HR HV
    go_wp2
    refine start_ (n := 15) (S := fun w' => w'.cell? ⟨B, 5, none⟩ = some (.slice A5 ss.length k5) ∧ w'.cell? ⟨B, 3, none⟩ = some (.slice A3 n3 k3)) (ds := [14]) #[false, false, false, false, false, false, false, false, false, false, false, false, false, false, false] (by kernel_rfl) rfl rfl ⟨c5, c3⟩ (fun hHeld => ?_)
    refine pure_ (i := 0) (N := some 30) (v := ?_) (a' := ?_) #[true, false, false, false, false, false, false, false, false, false, false, false, false, false, false] rfl rfl (by kernel_rfl) (fun _ _ _ h => h) (Or.inl ⟨by rfl, ?_⟩) ?_ ?_
    rotate_left
    · intro w'
      go_simp
      with_reducible rfl
    rotate_left
    · simp only [Act.put, zqf, zqg, zqh, i64_w, i32_w]
      rfl
    refine pure_ (i := 1) (N := some 31) (v := ?_) (a' := ?_) #[true, true, false, false, false, false, false, false, false, false, false, false, false, false, false] rfl rfl (by kernel_rfl) (fun _ _ _ h => h) (Or.inl ⟨by rfl, ?_⟩) ?_ ?_
    rotate_left
    · intro w'
      go_simp
      with_reducible rfl
    rotate_left
    · simp only [Act.put, zqf, zqg, zqh, i64_w, i32_w]
      rfl
    refine pure_ (i := 2) (N := some 32) (v := ?_) (a' := ?_) #[true, true, true, false, false, false, false, false, false, false, false, false, false, false, false] rfl rfl (by kernel_rfl) (fun _ _ _ h => h) (Or.inl ⟨by rfl, ?_⟩) ?_ ?_
    rotate_left
    · intro w'
      go_simp
      with_reducible rfl
    rotate_left
    · simp only [Act.put, zqf, zqg, zqh, i64_w, i32_w]
      rfl
    refine pure_ (i := 3) (N := some 33) (v := ?_) (a' := ?_) #[true, true, true, true, false, false, false, false, false, false, false, false, false, false, false] rfl rfl (by kernel_rfl) (fun _ _ _ h => h) (Or.inl ⟨by rfl, ?_⟩) ?_ ?_
    rotate_left
    · intro w'
      go_simp
      with_reducible rfl
    rotate_left
    · simp only [Act.put, zqf, zqg, zqh, i64_w, i32_w]
      rfl
    refine pure_ (i := 5) (N := some 35) (v := ?_) (a' := ?_) #[true, true, true, true, false, true, false, false, false, false, false, false, false, false, false] rfl rfl (by kernel_rfl) (fun _ _ _ h => h) (Or.inl ⟨by rfl, ?_⟩) ?_ ?_
    rotate_left
    · intro w'
      go_simp
      with_reducible rfl
    rotate_left
    · simp only [Act.put, zqf, zqg, zqh, i64_w, i32_w]
      rfl
    refine pure_ (i := 6) (N := some 36) (v := ?_) (a' := ?_) #[true, true, true, true, false, true, true, false, false, false, false, false, false, false, false] rfl rfl (by kernel_rfl) (fun _ _ _ h => h) (Or.inl ⟨by rfl, ?_⟩) ?_ ?_
    rotate_left
    · intro w'
      go_simp
      with_reducible rfl
    rotate_left
    · simp only [Act.put, zqf, zqg, zqh, i64_w, i32_w]
      rfl
    refine pure_ (i := 7) (N := some 37) (v := ?_) (a' := ?_) #[true, true, true, true, false, true, true, true, false, false, false, false, false, false, false] rfl rfl (by kernel_rfl) (fun _ _ _ h => h) (Or.inl ⟨by rfl, ?_⟩) ?_ ?_
    rotate_left
    · intro w'
      go_simp
      with_reducible rfl
    rotate_left
    · simp only [Act.put, zqf, zqg, zqh, i64_w, i32_w]
      rfl
    refine take_ (i := 4) (N := some 34) (v := ?_) (a' := ?_) #[true, true, true, true, true, true, true, true, false, false, false, false, false, false, false] rfl rfl (by kernel_rfl) (fun _ _ _ h => h) (Or.inl ⟨by rfl, ?_⟩) hHeld ?_ ?_
    rotate_left
    · rintro w' ⟨s0, s1⟩
      go_simp
      with_reducible rfl
    rotate_left
    · simp only [Act.put, zqf, zqg, zqh, i64_w, i32_w]
      rfl
    refine take_ (i := 8) (N := some 38) (v := ?_) (a' := ?_) #[true, true, true, true, true, true, true, true, true, false, false, false, false, false, false] rfl rfl (by kernel_rfl) (fun _ _ _ h => h) (Or.inl ⟨by rfl, ?_⟩) hHeld ?_ ?_
    rotate_left
    · rintro w' ⟨s0, s1⟩
      go_simp
      with_reducible rfl
    rotate_left
    · simp only [Act.put, zqf, zqg, zqh, i64_w, i32_w]
      rfl
    refine pure_ (i := 9) (N := some 39) (v := ?_) (a' := ?_) #[true, true, true, true, true, true, true, true, true, true, false, false, false, false, false] rfl rfl (by kernel_rfl) (fun _ _ _ h => h) (Or.inl ⟨by rfl, ?_⟩) ?_ ?_
    rotate_left
    · intro w'
      go_simp
      with_reducible rfl
    rotate_left
    · simp only [Act.put, zqf, zqg, zqh, i64_w, i32_w]
      rfl
    refine one_ (i := 10) (N := some 40) #[true, true, true, true, true, true, true, true, true, true, true, false, false, false, false] rfl rfl (by kernel_rfl) (by decide) (fun K hK => ?_)
    refine value_ (w1 := ?_) (v := ?_) (by rfl) rfl ?_ ?_
    rotate_left 2
    · go_simp
      constructor
      · rfl
      rfl
    refine hK.out _ _ ⟨d5, d3⟩ (fun hHeld => ?_)
    clear hK K
    refine norm_ (a' := ?_) ?_ ?_
    rotate_left
    · show Act.put _ (some 40) _ = _
      simp only [Act.put, zqf, zqg, zqh, i64_w, i32_w]
      rfl
    refine one_ (i := 11) (N := some 41) #[true, true, true, true, true, true, true, true, true, true, true, true, false, false, false] rfl rfl (by kernel_rfl) (by decide) (fun K hK => ?_)
    refine Kd.R_append_step (Kd.int .i64) (w0 := wo.drew) (W := wo.drew) 0 (by rfl) (.tmp 34) (.tmp 40) 25 3 (.int .i64 0) 8 rfl Try.underlying25 (by kernel_rfl) rfl (by decide) (by decide) (.slice A5 ss.length k5) ss (n3 : Int) [.int .i64 (n3 : Int)] (fun k => T k = (5, 0) ∨ wo.drew.heap.size ≤ k) (fun _ => False) (by rfl) (by rfl) rfl (fun _ h => h.elim) (fun k hk => .inr hk) (Kd.R_mono HST.out (fun _ hk => .inl hk)) (zqw 0 _) (Nat.zero_le _) (by have := HSL.out; omega) ?_
    intro v1 w1 r1' hb1 hg1 hat1
    obtain ⟨A6, k6, e6⟩ := Kd.R_slice r1'
    rw [List.length_append, List.length_singleton] at e6
    subst e6
    obtain ⟨c51, f51, c31⟩ := HAFT.out w1 hg1
    refine hK.out _ _ ⟨c51, c31⟩ (fun hHeld => ?_)
    clear hK K
    refine norm_ (a' := ?_) ?_ ?_
    rotate_left
    · show Act.put _ (some 41) _ = _
      simp only [Act.put, zqf, zqg, zqh, i64_w, i32_w]
      rfl
    refine pure_ (i := 12) (N := some 42) (v := ?_) (a' := ?_) #[true, true, true, true, true, true, true, true, true, true, true, true, true, false, false] rfl rfl (by kernel_rfl) (fun _ _ _ h => h) (Or.inl ⟨by rfl, ?_⟩) ?_ ?_
    rotate_left
    · intro w'
      go_simp
      with_reducible rfl
    rotate_left
    · simp only [Act.put, zqf, zqg, zqh, i64_w, i32_w]
      rfl
    refine pure_ (i := 13) (N := some 43) (v := ?_) (a' := ?_) #[true, true, true, true, true, true, true, true, true, true, true, true, true, true, false] rfl rfl (by kernel_rfl) (fun _ _ _ h => h) (Or.inl ⟨by rfl, ?_⟩) ?_ ?_
    rotate_left
    · intro w'
      go_simp
      with_reducible rfl
    rotate_left
    · simp only [Act.put, zqf, zqg, zqh, i64_w, i32_w]
      rfl
    refine last_ (i := 14) (N := none) #[true, true, true, true, true, true, true, true, true, true, true, true, true, true, true] rfl rfl (by kernel_rfl) (by decide) (fun K hK => ?_)
    refine skip_ (w1 := ?_) (by rfl) rfl ?_ ?_
    rotate_left
    · go_simp
      rfl
    refine hK.out _ _ ?_
    clear hK K
    refine done_ (by kernel_rfl) ?_
    have hgw : wo.drew.grownBy w1 p.vS.ownBlock := by rw [HE5.out, HSS.out]; exact hg1
    obtain ⟨T6, E6, p6, h6, m6, hE6, hp6⟩ : ∃ T6 E6 p6, EngIn (w1.setCell ⟨B, 5, none⟩ (.slice A6 (ss.length + 1) k6)) B T6 E6 p6 ∧ Moved T T6 wo.drew (w1.setCell ⟨B, 5, none⟩ (.slice A6 (ss.length + 1) k6)) ∧ E6 = { E with st := E.st ++ [(E.tr.length : Int)] } ∧ p6.fw = p.fw := by
      obtain ⟨a1, a2⟩ := HD.out.turn_st r1' hgw
      exact ⟨_, _, _, a1, a2, by rw [HSS.out, HN3.out], rfl⟩
    obtain ⟨W6, hW6⟩ : ∃ W6, w1.setCell ⟨B, 5, none⟩ (.slice A6 (ss.length + 1) k6) = W6 := ⟨_, rfl⟩
    rw [hW6] at h6 m6 ⊢
    have HM6 := K0 ((Moved.of_below HBd.out).trans m6)
    have HCP := K0 (eng_put.calls E6 B T6 p6 l (-1) W6 h6 hl (by rw [hE6]; have := HBD.out.1; show E.tr.length < _; omega))
    have HE6 := K0 hE6; have HP6 := K0 hp6; clear hgw hW6 h6 m6 hE6 hp6 r1' hb1 hg1 hat1 c51 f51 c31 c5 c3 d5 d3
    go_wp2_with fail
    refine HCP.out.mono ?_
    rintro e' w7 ⟨rfl, T7, p7, h7, m7, f7⟩
    have HM7 := K0 (HM6.out.trans m7)
    have HF7 := K0 (f7.trans HP6.out)
    have c3 := h7.cells.2.2.2.1
    obtain ⟨A7, k7, e7⟩ := Kd.R_slice h7.tr
    rw [e7, show (E6.put l (-1)).tr.length = n3 + 1 by rw [HE6.out]; show (E.tr ++ [l]).length = _; rw [List.length_append, HN3.out]; rfl] at c3
    have HCF := K0 (eng_follow.calls k _ B T7 p7 n3 E5 w7 h7 (by rw [HE6.out]; exact HL.out) (by rw [HE6.out, ← HN3.out]; exact HF.out))
    have hnb : n3 < 2199023255552 := by rw [← HN3.out]; exact HBD.out.1
    clear e7 h7 m7 f7 HCP
    go_wp2_with fail
    refine HCF.out.mono ?_
    rintro e' w8 ⟨rfl, T8, p8, h8, m8, f8⟩
    have H8 := K0 h8
    have M8 := K0 (HM7.out.trans m8)
    have F8 := K0 (f8.trans HF7.out)
    clear h8 m8 f8 HCF c3
    go_wp2
    go_ret
    rw [← H2.out]
    exact ⟨rfl, T8, p8, H8.out, M8.out, F8.out⟩
  rw [hv, if_pos (by decide)] at hf
  simp only [Option.some.injEq, Prod.mk.injEq] at hf
  obtain ⟨h1, h2⟩ := hf
  subst h2; have H2 := K0 h1; have HB := K0 hba; have HVv := K0 hv; clear h1 h hlit hba hv
  go_enter Try.func46, Try.ntmps46
  go_wp2_with fail
  refine HR.out.mono ?_
  rintro e' w1 ⟨rfl, ⟨⟨n1, rfl⟩⟩⟩
  have HB1 := K0 (HB.out.trans ((zqa (zqw _ _) n1).mono HB.out.size))
  go_wp2_with fail
  refine (HV.out _ HB1.out).mono ?_
  rintro e' w2 ⟨rfl, hb2⟩
  rw [HVv.out]
  have HB2 := K0 (HB1.out.trans (hb2.mono HB1.out.size))
  clear hb2
  go_wp2
  go_ret
  rw [← H2.out]
  exact ⟨rfl, T, p, HE.out.below HB2.out, Moved.of_below HB2.out, rfl⟩
def Sol.from (Z : Sol) (l : Int) : Option (List Int) := if l ≠ 0 then some [l] else if 0 ≤ Z.E.br then Z.all[Z.E.br.toNat]? else none
def Sol.blamed (Z : Sol) (m : Nat) (l : Int) : Option (List Int) := (Z.from l).bind fun c => (pushedP Z.E Z.all m c).bind fun out => if out.length < 2199023255552 ∧ ∀ x ∈ out, (Lit.int .i64 x).wf = true then some (out.map Z.E.truth) else none
set_option maxRecDepth 100000 in
set_option maxHeartbeats 4000000 in
theorem sol_blamed.calls {w0 w : World} {S B : Nat} {T : Tag} {U : Col} {Z : Sol} {p : EngP} {q : SolP} (h0 : SolIn w0 w S B T U Z p q) (hlit : ∀ c ∈ Z.all, ∀ x ∈ c, (Lit.int .i64 x).wf = true) (m : Nat) (l : Int) (r : List Int) (hl : (Lit.int .i64 l).wf = true) (hp : Z.blamed m l = some r) :
    Calls Try.prog 40 #[.pointer (some ⟨S, 0, none⟩), .int .i64 l] w fun e w' => ∃ v, e = .returned v ∧ Kd.R (Kd.int .i64) 3 w' w.heap.size (fun _ => True) v r ∧ Below w.heap.size w w' := by
  unfold Sol.blamed at hp
  obtain ⟨c, hc, hp⟩ := Option.bind_eq_some_iff.mp hp
  obtain ⟨out, hout, hp⟩ := Option.bind_eq_some_iff.mp hp
  split at hp
  · rename_i hsz
    injection hp with hp
    have HS := K0 h0; have HLIT := K0 hlit; have HOUT := K0 hout; have HSZ := K0 hsz; have HRR := K0 hp; have HLW := K0 hl; clear h0 hlit hout hsz hp hl
    go_enter Try.func40, Try.ntmps40
    unfold Sol.from at hc
    by_cases hl0 : l = 0
    case neg =>
      rw [if_pos hl0] at hc
      injection hc with hc
      subst hc
      have dz : (l != 0) = true := by simpa using hl0
      go_upto_region 5 with fail
      obtain ⟨W, hW⟩ : ∃ W, w.alloc (.cells #[.int .i64 l] 3) = W := ⟨_, rfl⟩
      have HBW := K0 (show Below w.heap.size w W by rw [← hW]; exact zqb (zqw _ _) _)
      have HC := K0 (show Kd.C (Kd.int .i64) W (some ⟨w.heap.size, 0, none⟩) [l].length [l] by rw [← hW]; exact C_one w l)
      have HC2 := K0 (show [l].length ≤ 1 by simp)
      have HCW := K0 (show ∀ x ∈ [l], (Lit.int .i64 x).wf = true from fun x hx => by rw [List.mem_singleton.1 hx]; exact HLW.out)
      have hcl : (Value.slice (some ⟨w.heap.size, 0, none⟩) 1 1) = (Value.slice (some ⟨w.heap.size, 0, none⟩) [l].length 1) := rfl
      rw [hW, hcl]
      obtain ⟨c, hc⟩ : ∃ c, [l] = c := ⟨_, rfl⟩
      rw [hc] at HC HC2 HCW HOUT ⊢
      obtain ⟨A1, hA1⟩ : ∃ A1 : Option Addr, some ⟨w.heap.size, 0, none⟩ = A1 := ⟨_, rfl⟩
      rw [hA1] at HC ⊢
      obtain ⟨cA1, hcA1⟩ : ∃ cA1, 1 = cA1 := ⟨_, rfl⟩
      rw [show (Value.slice A1 c.length 1) = .slice A1 c.length cA1 by rw [hcA1]]
      rw [hcA1] at HC2
      clear hW hc hcl hA1 hcA1 dz hl0
      go_wp2_with fail
      refine (sol_pushed.calls (HS.out.below HBW.out) HLIT.out m A1 cA1 c out HC.out HC2.out HCW.out HOUT.out).mono ?_
      rintro e' w2 ⟨v2, rfl, r2, hb2⟩
      have HB2 := K0 (zqo HBW.out hb2)
      have HP2 : Aside0 (Kd.R (Kd.int .i64) 3 w2 w.heap.size (fun k => True ∧ some k ≠ (Value.slice none 0 0).ownBlock) v2 out) := ⟨Kd.R_mono (Kd.R_lower r2 HBW.out.size) (fun k _ => ⟨trivial, by simp [Value.ownBlock]⟩)⟩
      obtain ⟨A2, c2, e2⟩ := Kd.R_slice r2
      subst e2
      have hbig : out.length ≤ 9223372036854775807 := (Kd.R_reads' r2).2.2.2.1
      clear r2 hb2 HBW HC HC2 HCW HOUT
      go_wp2
      go_loopg [6, 28] out.length (fun gg v6 v28 wr => ∃ (j : Nat), v28 = .int .i64 (j : Int) ∧ Aside0 (j + gg = out.length) ∧ Aside0 (Below w.heap.size w wr) ∧ Aside0 (Kd.R (Kd.int .i64) 3 wr w.heap.size (fun k => True ∧ some k ≠ v6.ownBlock) (.slice A2 out.length c2) out) ∧ Aside0 (Kd.R (Kd.int .i64) 3 wr w.heap.size (fun _ => True) v6 ((out.take j).map Z.E.truth)))
      case atStart => exact ⟨0, rfl, ⟨by simp⟩, HB2, HP2, ⟨Kd.R_nil _ _ _ _ _⟩⟩
      case round =>
        clear HB2 HP2
        obtain ⟨j, rfl, hg, HB, HP, HA⟩ := hrel
        by_cases hlt2 : j < out.length
        case neg =>
          have hd2 : decide ((j : Int) < (out.length : Int)) = false := zqu (by omega)
          have Q2 : (j < out.length) = False := eq_false hlt2
          have ha := HA.out
          rw [List.take_of_length_le (by omega), HRR.out] at ha
          have HA2 := K0 ha; clear ha HA
          go_wp2
          go_ret
          exact ⟨_, rfl, HA2.out, HB.out⟩
        obtain ⟨ad2, e2, x2⟩ := Kd.at_int (Kd.R_reads' HP.out).2.2 (j : Int) (by omega) (by omega)
        cases e2
        obtain ⟨y, hy⟩ : ∃ y, out[j] = y := ⟨_, rfl⟩
        have hrd : rd out (j : Int) = y := by simp [rd, hlt2, hy]
        rw [hrd] at x2
        simp only [Int.toNat_natCast] at x2
        have Q0 : ((0 : Int) ≤ (j : Int)) = True := eq_true (by omega)
        have Q1 : ((j : Int) < (out.length : Int)) = True := eq_true (by omega)
        have Q2 : (j < out.length) = True := eq_true hlt2
        have hd2 : decide ((j : Int) < (out.length : Int)) = true := zqt (by omega)
        have HTR := K0 (sol_truth.calls y (HS.out.below HB.out) (HSZ.out.2 y (by rw [← hy]; exact List.getElem_mem hlt2)))
        have HTK := K0 (show (out.take (j + 1)).map Z.E.truth = (out.take j).map Z.E.truth ++ [Z.E.truth y] by rw [List.take_add_one, List.getElem?_eq_getElem hlt2, hy]; simp)
        have HLN := K0 (show (((out.take j).map Z.E.truth).length + 1) * 8 ≤ 140737488355328 by have := HSZ.out.1; rw [List.length_map, zqr]; omega)
        clear hy hrd
        go_wp2_with fail
        refine HTR.out.mono ?_
        rintro e' w5 ⟨rfl, hb⟩
        have HB5 := K0 (zqo HB.out hb)
        have HP5 := K0 (Kd.R_below HP.out hb)
        have HA5 := K0 (Kd.R_below HA.out hb)
        clear hb HTR HB HP HA x2
        go_wp2_with (at_builtin; refine Kd.R_append (Kd.int .i64) (w0 := w) (W := w5) w.heap.size rfl (.tmp 32) (.tmp 36) 25 3 (.int .i64 0) 8 rfl Try.underlying25 (by kernel_rfl) rfl (by decide) (by decide) u6 ((out.take j).map Z.E.truth) (Z.E.truth y) [.int .i64 (Z.E.truth y)] (fun _ => True) (fun _ => False) rfl rfl rfl (fun _ h => h.elim) (fun _ _ => trivial) HA5.out HB5.out (zqp HB5.out) HLN.out ?_; intro v8 w8 r8 hb8 hg8 hat8)
        have HA8 := K0 r8; have HB8 := K0 hb8
        have HP8 := K0 (Kd.R_after HP5.out hg8 hat8)
        rw [← HTK.out] at HA8
        clear r8 hb8 hg8 hat8 HA5 HB5 HP5
        go_wp2
        go_roundg (out.length - (j + 1))
        case measure => have := hg.out; omega
        case rel => exact ⟨j + 1, by simp, ⟨by have := hg.out; omega⟩, HB8, HP8, HA8⟩
    rw [if_neg (fun h => h hl0)] at hc
    split at hc
    · rename_i hbr
      obtain ⟨n, hn⟩ : ∃ n : Nat, Z.E.br = (n : Int) := ⟨Z.E.br.toNat, by omega⟩
      rw [hn, Int.toNat_natCast] at hc
      have hlt : n < Z.all.length := (List.getElem?_eq_some_iff.1 hc).1
      have hcc : Z.all[n] = c := by rw [List.getElem?_eq_getElem hlt] at hc; injection hc
      obtain ⟨ad, kA, A1, cA1, e1, x1, r2, r3⟩ := HS.out.row n hlt
      rw [hcc] at x1 r2 r3
      have hcw : ∀ x ∈ c, (Lit.int .i64 x).wf = true := HLIT.out c (by rw [← hcc]; exact List.getElem_mem hlt)
      have HCW := K0 hcw; have HC2 := K0 r2
      have hdr : Below w.heap.size w w.drew := below_drew (zqw _ _)
      have HBW := K0 hdr
      have HC := K0 (Kd.C_below (Kd.F_now r3) hdr)
      have d2 : w.cell? ⟨S, 2, none⟩ = some (.slice (some ad) Z.all.length kA) := by rw [HS.out.cells.2.2.1, e1]
      have d0 := HS.out.cells.1
      have dn := x1
      have dE := (HS.out.below hdr).e
      have HBN := K0 hn; subst hl0
      have P0 : ((0 : Int) ≤ (n : Int)) = True := eq_true (by omega)
      have P1 : ((n : Int) < (Z.all.length : Int)) = True := eq_true (by omega)
      have P2 : (n < Z.all.length) = True := eq_true hlt
      clear hc hcc hbr e1 x1 r2 r3 hcw hn hdr
      go_upto_region 4 with fail
      refine start_ (n := 12) (S := fun w' => w'.cell? ⟨S, 2, none⟩ = some (.slice (some ad) Z.all.length kA) ∧ w'.cell? ⟨S, 0, none⟩ = some (.pointer (some ⟨B, 0, none⟩)) ∧ w'.cell? (ad.add n) = some (.slice A1 c.length cA1) ∧ EngIn w' B T Z.E p) (ds := []) #[false, false, false, false, false, false, false, false, false, false, false, false] (by kernel_rfl) rfl rfl ⟨d2, d0, dn, dE⟩ (fun hHeld => ?_)
      refine pure_ (i := 0) (N := some 13) (v := ?_) (a' := ?_) #[true, false, false, false, false, false, false, false, false, false, false, false] rfl rfl (by kernel_rfl) (fun _ _ _ h => h) (Or.inl ⟨by rfl, ?_⟩) ?_ ?_
      rotate_left
      · intro w'
        go_simp
        with_reducible rfl
      rotate_left
      · simp only [Act.put, zqf, zqg, zqh, i64_w, i32_w]
        rfl
      refine pure_ (i := 1) (N := some 14) (v := ?_) (a' := ?_) #[true, true, false, false, false, false, false, false, false, false, false, false] rfl rfl (by kernel_rfl) (fun _ _ _ h => h) (Or.inl ⟨by rfl, ?_⟩) ?_ ?_
      rotate_left
      · intro w'
        go_simp
        with_reducible rfl
      rotate_left
      · simp only [Act.put, zqf, zqg, zqh, i64_w, i32_w]
        rfl
      refine pure_ (i := 2) (N := some 15) (v := ?_) (a' := ?_) #[true, true, true, false, false, false, false, false, false, false, false, false] rfl rfl (by kernel_rfl) (fun _ _ _ h => h) (Or.inl ⟨by rfl, ?_⟩) ?_ ?_
      rotate_left
      · intro w'
        go_simp
        with_reducible rfl
      rotate_left
      · simp only [Act.put, zqf, zqg, zqh, i64_w, i32_w]
        rfl
      refine pure_ (i := 4) (N := some 17) (v := ?_) (a' := ?_) #[true, true, true, false, true, false, false, false, false, false, false, false] rfl rfl (by kernel_rfl) (fun _ _ _ h => h) (Or.inl ⟨by rfl, ?_⟩) ?_ ?_
      rotate_left
      · intro w'
        go_simp
        with_reducible rfl
      rotate_left
      · simp only [Act.put, zqf, zqg, zqh, i64_w, i32_w]
        rfl
      refine pure_ (i := 5) (N := some 18) (v := ?_) (a' := ?_) #[true, true, true, false, true, true, false, false, false, false, false, false] rfl rfl (by kernel_rfl) (fun _ _ _ h => h) (Or.inl ⟨by rfl, ?_⟩) ?_ ?_
      rotate_left
      · intro w'
        go_simp
        with_reducible rfl
      rotate_left
      · simp only [Act.put, zqf, zqg, zqh, i64_w, i32_w]
        rfl
      refine pure_ (i := 6) (N := some 19) (v := ?_) (a' := ?_) #[true, true, true, false, true, true, true, false, false, false, false, false] rfl rfl (by kernel_rfl) (fun _ _ _ h => h) (Or.inl ⟨by rfl, ?_⟩) ?_ ?_
      rotate_left
      · intro w'
        go_simp
        with_reducible rfl
      rotate_left
      · simp only [Act.put, zqf, zqg, zqh, i64_w, i32_w]
        rfl
      refine take_ (i := 3) (N := some 16) (v := ?_) (a' := ?_) #[true, true, true, true, true, true, true, false, false, false, false, false] rfl rfl (by kernel_rfl) (fun _ _ _ h => h) (Or.inl ⟨by rfl, ?_⟩) hHeld ?_ ?_
      rotate_left
      · rintro w' ⟨s0, s1, s2, s3⟩
        go_simp
        with_reducible rfl
      rotate_left
      · simp only [Act.put, zqf, zqg, zqh, i64_w, i32_w]
        rfl
      refine take_ (i := 7) (N := some 20) (v := ?_) (a' := ?_) #[true, true, true, true, true, true, true, true, false, false, false, false] rfl rfl (by kernel_rfl) (fun _ _ _ h => h) (Or.inl ⟨by rfl, ?_⟩) hHeld ?_ ?_
      rotate_left
      · rintro w' ⟨s0, s1, s2, s3⟩
        go_simp
        with_reducible rfl
      rotate_left
      · simp only [Act.put, zqf, zqg, zqh, i64_w, i32_w]
        rfl
      refine one_ (i := 8) (N := some 21) #[true, true, true, true, true, true, true, true, true, false, false, false] rfl rfl (by kernel_rfl) (by decide) (fun K hK => ?_)
      refine goes_ Try.func39 (by kernel_rfl) rfl #[.pointer (some ⟨B, 0, none⟩)] (by rfl) rfl rfl (by simp only [List.map_toArray, List.map_cons, List.map_nil]; rfl) ?_
      with_reducible refine (eng_Broken.calls Z.E B T p _ hHeld.2.2.2).mono ?_
      rintro e' w3 ⟨rfl, rfl⟩
      refine ⟨_, rfl, ?_⟩
      rw [HBN.out]
      refine hK.out _ _ ⟨hHeld.1, hHeld.2.1, hHeld.2.2.1, hHeld.2.2.2⟩ (fun hHeld => ?_)
      clear hK K
      refine norm_ (a' := ?_) ?_ ?_
      rotate_left
      · show Act.put _ (some 21) _ = _
        simp only [Act.put, zqf, zqg, zqh, i64_w, i32_w]
        rfl
      refine pure_ (i := 9) (N := some 22) (v := ?_) (a' := ?_) #[true, true, true, true, true, true, true, true, true, true, false, false] rfl rfl (by kernel_rfl) (fun _ _ _ h => h) (Or.inl ⟨by rfl, ?_⟩) ?_ ?_
      rotate_left
      · intro w'
        go_simp
        with_reducible rfl
      rotate_left
      · simp only [Act.put, zqf, zqg, zqh, i64_w, i32_w]
        rfl
      refine take_ (i := 10) (N := some 23) (v := ?_) (a' := ?_) #[true, true, true, true, true, true, true, true, true, true, true, false] rfl rfl (by kernel_rfl) (fun _ _ _ h => h) (Or.inl ⟨by rfl, ?_⟩) hHeld ?_ ?_
      rotate_left
      · rintro w' ⟨s0, s1, s2, s3⟩
        go_simp
        with_reducible rfl
      rotate_left
      · simp only [Act.put, zqf, zqg, zqh, i64_w, i32_w]
        rfl
      refine pure_ (i := 11) (N := some 5) (v := ?_) (a' := ?_) #[true, true, true, true, true, true, true, true, true, true, true, true] rfl rfl (by kernel_rfl) (fun _ _ _ h => h) (Or.inl ⟨by rfl, ?_⟩) ?_ ?_
      rotate_left
      · intro w'
        go_simp
        with_reducible rfl
      rotate_left
      · simp only [Act.put, zqf, zqg, zqh, i64_w, i32_w]
        rfl
      refine done_ (by kernel_rfl) ?_
      obtain ⟨W, hW⟩ : ∃ W, w.drew = W := ⟨_, rfl⟩
      rw [hW] at HBW HC ⊢
      clear d2 d0 dn dE hW
      go_wp2_with fail
      refine (sol_pushed.calls (HS.out.below HBW.out) HLIT.out m A1 cA1 c out HC.out HC2.out HCW.out HOUT.out).mono ?_
      rintro e' w2 ⟨v2, rfl, r2, hb2⟩
      have HB2 := K0 (zqo HBW.out hb2)
      have HP2 : Aside0 (Kd.R (Kd.int .i64) 3 w2 w.heap.size (fun k => True ∧ some k ≠ (Value.slice none 0 0).ownBlock) v2 out) := ⟨Kd.R_mono (Kd.R_lower r2 HBW.out.size) (fun k _ => ⟨trivial, by simp [Value.ownBlock]⟩)⟩
      obtain ⟨A2, c2, e2⟩ := Kd.R_slice r2
      subst e2
      have hbig : out.length ≤ 9223372036854775807 := (Kd.R_reads' r2).2.2.2.1
      clear r2 hb2 HBW HC HC2 HCW HOUT
      go_wp2
      go_loopg [6, 28] out.length (fun gg v6 v28 wr => ∃ (j : Nat), v28 = .int .i64 (j : Int) ∧ Aside0 (j + gg = out.length) ∧ Aside0 (Below w.heap.size w wr) ∧ Aside0 (Kd.R (Kd.int .i64) 3 wr w.heap.size (fun k => True ∧ some k ≠ v6.ownBlock) (.slice A2 out.length c2) out) ∧ Aside0 (Kd.R (Kd.int .i64) 3 wr w.heap.size (fun _ => True) v6 ((out.take j).map Z.E.truth)))
      case atStart => exact ⟨0, rfl, ⟨by simp⟩, HB2, HP2, ⟨Kd.R_nil _ _ _ _ _⟩⟩
      case round =>
        clear HB2 HP2
        obtain ⟨j, rfl, hg, HB, HP, HA⟩ := hrel
        by_cases hlt2 : j < out.length
        case neg =>
          have hd2 : decide ((j : Int) < (out.length : Int)) = false := zqu (by omega)
          have Q2 : (j < out.length) = False := eq_false hlt2
          have ha := HA.out
          rw [List.take_of_length_le (by omega), HRR.out] at ha
          have HA2 := K0 ha; clear ha HA
          go_wp2
          go_ret
          exact ⟨_, rfl, HA2.out, HB.out⟩
        obtain ⟨ad2, e2, x2⟩ := Kd.at_int (Kd.R_reads' HP.out).2.2 (j : Int) (by omega) (by omega)
        cases e2
        obtain ⟨y, hy⟩ : ∃ y, out[j] = y := ⟨_, rfl⟩
        have hrd : rd out (j : Int) = y := by simp [rd, hlt2, hy]
        rw [hrd] at x2
        simp only [Int.toNat_natCast] at x2
        have Q0 : ((0 : Int) ≤ (j : Int)) = True := eq_true (by omega)
        have Q1 : ((j : Int) < (out.length : Int)) = True := eq_true (by omega)
        have Q2 : (j < out.length) = True := eq_true hlt2
        have hd2 : decide ((j : Int) < (out.length : Int)) = true := zqt (by omega)
        have HTR := K0 (sol_truth.calls y (HS.out.below HB.out) (HSZ.out.2 y (by rw [← hy]; exact List.getElem_mem hlt2)))
        have HTK := K0 (show (out.take (j + 1)).map Z.E.truth = (out.take j).map Z.E.truth ++ [Z.E.truth y] by rw [List.take_add_one, List.getElem?_eq_getElem hlt2, hy]; simp)
        have HLN := K0 (show (((out.take j).map Z.E.truth).length + 1) * 8 ≤ 140737488355328 by have := HSZ.out.1; rw [List.length_map, zqr]; omega)
        clear hy hrd
        go_wp2_with fail
        refine HTR.out.mono ?_
        rintro e' w5 ⟨rfl, hb⟩
        have HB5 := K0 (zqo HB.out hb)
        have HP5 := K0 (Kd.R_below HP.out hb)
        have HA5 := K0 (Kd.R_below HA.out hb)
        clear hb HTR HB HP HA x2
        go_wp2_with (at_builtin; refine Kd.R_append (Kd.int .i64) (w0 := w) (W := w5) w.heap.size rfl (.tmp 32) (.tmp 36) 25 3 (.int .i64 0) 8 rfl Try.underlying25 (by kernel_rfl) rfl (by decide) (by decide) u6 ((out.take j).map Z.E.truth) (Z.E.truth y) [.int .i64 (Z.E.truth y)] (fun _ => True) (fun _ => False) rfl rfl rfl (fun _ h => h.elim) (fun _ _ => trivial) HA5.out HB5.out (zqp HB5.out) HLN.out ?_; intro v8 w8 r8 hb8 hg8 hat8)
        have HA8 := K0 r8; have HB8 := K0 hb8
        have HP8 := K0 (Kd.R_after HP5.out hg8 hat8)
        rw [← HTK.out] at HA8
        clear r8 hb8 hg8 hat8 HA5 HB5 HP5
        go_wp2
        go_roundg (out.length - (j + 1))
        case measure => have := hg.out; omega
        case rel => exact ⟨j + 1, by simp, ⟨by have := hg.out; omega⟩, HB8, HP8, HA8⟩
    cases hc
  cases hp
def Sol.stepped (Z : Sol) : Sol := { Z with steps := wrap64 (Z.steps + 1) }
theorem SolIn.set_steps {w0 w : World} {S B : Nat} {T : Tag} {U : Col} {Z : Sol} {p : EngP} {q : SolP} (h : SolIn w0 w S B T U Z p q) (n : Int) :
    SolIn w0 (w.setCell ⟨S, 5, none⟩ (.int .i64 n)) S B T U { Z with steps := n } p q ∧ MovedS T U T U w (w.setCell ⟨S, 5, none⟩ (.int .i64 n)) := by
  have hm : ∀ k, k ≠ S → (w.setCell ⟨S, 5, none⟩ (.int .i64 n)).heap[k]? = w.heap[k]? := fun k hk => Below.heap_setCell w _ _ k hk
  have hne : ∀ k, U k ≠ 3 → k ≠ S := fun k hk e => hk (by rw [e]; exact h.uS)
  have h0 : ∀ k, k < w0.heap.size → k ≠ S := fun k hk e => by have := (h.t0 k hk).2; rw [e, h.uS] at this; cases this
  have hS := h.tS
  refine ⟨{ e := h.e.aside (by simp) (fun k _ hn => hm k (fun e => hn (by rw [e]; exact hS))), blk := blk_put h.blk 5 (.int .i64 n) rfl, tS := h.tS, uS := h.uS, fresh := fun k hk => h.fresh k (by simpa using hk), all := Kd.R_step h.all (fun k hk _ => hm k (hne k (by rw [hk.2]; decide))), len := h.len, rows := fun i a c ha hc => ⟨(h.rows i a c ha hc).1, (h.rows i a c ha hc).2.1, Kd.F_step (h.rows i a c ha hc).2.2 (fun k hk _ => hm k (hk.2.elim (fun e => hne k (by rw [e]; decide)) (h0 k)))⟩, log := Kd.N_step h.log (fun k hk _ => hm k (hk.elim (fun e => hne k (by rw [e.2]; decide)) (fun e => hne k (by rw [e.2]; decide)))), uL := h.uL, asm := Kd.F_step h.asm (fun k hk _ => hm k (hk.2.elim (fun e => hne k (by rw [e]; decide)) (h0 k))), asmc := h.asmc, old := h.old.setCell (Nat.le_of_not_lt fun hlt => h0 S hlt rfl) _, t0 := h.t0, five := fun g hg => ⟨(h.five g hg).1, (hm g (hne g (by rw [hg]; decide))).trans (h.five g hg).2⟩ }, ⟨by simp, fun _ _ => rfl, fun _ _ => .inl rfl, fun k _ _ hu => hm k (hne k hu.2.2)⟩⟩
set_option maxRecDepth 100000 in
set_option maxHeartbeats 1000000 in
theorem sol_step.calls {w0 w : World} {S B : Nat} {T : Tag} {U : Col} {Z : Sol} {p : EngP} {q : SolP} (h : SolIn w0 w S B T U Z p q) :
    Calls Try.prog 41 #[.pointer (some ⟨S, 0, none⟩)] w fun e w' => e = .returned (.bool (decide ((Z.stepped).steps ≤ Z.fuel))) ∧ SolIn w0 w' S B T U Z.stepped p q ∧ MovedS T U T U w w' := by
  have HS := K0 h
  have c5 := h.cells.2.2.2.2.2.1
  have f5 := h.cells.2.2.2.2.2.2.2 5
  obtain ⟨n, hn⟩ : ∃ n, wrap64 (Z.steps + 1) = n := ⟨_, rfl⟩
  have HN := K0 hn
  clear h
  go_enter Try.func41, Try.ntmps41
  go_upto_region 2 with fail
  rw [hn]
  have h1 := HS.out.set_steps n
  obtain ⟨w1, hw1⟩ : ∃ w1, w.setCell ⟨S, 5, none⟩ (.int .i64 n) = w1 := ⟨_, rfl⟩
  rw [hw1] at h1 ⊢
  have HS1 := K0 h1
  have c51 := h1.1.cells.2.2.2.2.2.1
  have c61 := h1.1.cells.2.2.2.2.2.2.1
  clear h1 hn c5 f5 hw1
  go_still (by kernel_rfl)
  go_wp2
  go_ret
  rw [show Z.stepped = { Z with steps := n } from by unfold Sol.stepped; rw [HN.out]]
  have hb : Below w1.heap.size w1 w1.drew := below_drew (zqw _ _)
  exact ⟨rfl, HS1.out.1.below hb, HS1.out.2.trans (MovedS.of_below hb)⟩
def ixOf {α : Type} (p : α → Bool) : List α → Int → Int
  | [], _ => -1
  | x :: t, i => if p x = true then i else ixOf p t (i + 1)
theorem ixOf_nil {α : Type} (p : α → Bool) (i : Int) : ixOf p [] i = -1 := rfl
theorem ixOf_drop {α : Type} (p : α → Bool) (xs : List α) (j : Nat) (hj : j < xs.length) : ixOf p (xs.drop j) (j : Int) = if p xs[j] = true then (j : Int) else ixOf p (xs.drop (j + 1)) ((j + 1 : Nat) : Int) := by
  rw [List.drop_eq_getElem_cons hj, ixOf]; rfl
set_option maxRecDepth 100000 in
set_option maxHeartbeats 2000000 in
theorem slices_IndexFunc_int.calls (gf : Nat) (lb : Array Value) (eg : ∀ args w, (callFunc gf args).run Try.prog w = .ok (.enter gf args) w) (p : Int → Bool) (A : Option Addr) (c : Nat) (xs : List Int) (w : World)
    (hr : Kd.C (Kd.int .i64) w A xs.length xs) (hp : ∀ W, Below w.heap.size w W → ∀ x ∈ xs, Calls Try.prog gf (#[.int .i64 x] ++ lb) W fun e W' => e = .returned (.bool (p x)) ∧ Below W.heap.size W W') :
    Calls Try.prog 78 #[.slice A xs.length c, .func (.func gf) #[] lb] w fun e w' => e = .returned (.int .i64 (ixOf p xs 0)) ∧ Below w.heap.size w w' := by
  have HR := K0 hr
  have HP := K0 hp
  have hbig := hr.2.1
  clear hr hp
  go_enter Try.func78, Try.ntmps78
  go_wp2
  go_loopg [5, 8] xs.length (fun gg _ s8 wr => ∃ kk : Nat, s8 = .int .i64 (kk : Int) ∧ Aside0 (kk + gg = xs.length) ∧ Aside0 (Below w.heap.size w wr) ∧ Aside0 (ixOf p xs 0 = ixOf p (xs.drop kk) (kk : Int)))
  case atStart => exact ⟨0, rfl, ⟨by simp⟩, ⟨zqw _ _⟩, ⟨rfl⟩⟩
  case round =>
    obtain ⟨kk, rfl, hg, hb, hx⟩ := hrel
    by_cases hlt : kk < xs.length
    · obtain ⟨ad, e1, x1⟩ := Kd.at_int (Kd.C_below HR.out hb.out) (kk : Int) (by omega) (by omega)
      cases e1
      obtain ⟨y, hy⟩ : ∃ y, xs[kk] = y := ⟨_, rfl⟩
      have hrd : rd xs (kk : Int) = y := by simp [rd, hlt, hy]
      rw [hrd] at x1
      simp only [Int.toNat_natCast] at x1
      have hcall := HP.out _ hb.out y (by rw [← hy]; exact List.getElem_mem hlt)
      have hx2 := hx.out
      rw [ixOf_drop p xs kk hlt, hy] at hx2
      have HX2 := K0 hx2
      clear hx2 hx hrd hy
      have P0 : ((0 : Int) ≤ (kk : Int)) = True := eq_true (by omega)
      have P1 : ((kk : Int) < (xs.length : Int)) = True := eq_true (by omega)
      have P2 : (kk < xs.length) = True := eq_true hlt
      have hd : decide ((kk : Int) < (xs.length : Int)) = true := zqt (by omega)
      cases hq : p y with
      | true =>
        rw [hq] at hcall
        have hz := HX2.out
        rw [if_pos hq] at hz
        have HZ := K0 hz
        clear hz
        go_wp2_with fail
        refine hcall.mono ?_
        rintro e w' ⟨rfl, hb'⟩
        go_wp2
        go_ret
        exact ⟨by rw [HZ.out]; rfl, hb.out.trans (hb'.mono hb.out.size)⟩
      | false =>
        rw [hq] at hcall
        have hz := HX2.out
        rw [if_neg (by rw [hq]; decide)] at hz
        have HZ := K0 hz
        clear hz
        go_wp2_with fail
        refine hcall.mono ?_
        rintro e w' ⟨rfl, hb'⟩
        go_wp2
        go_roundg (xs.length - (kk + 1))
        case measure => have := hg.out; omega
        case rel => exact ⟨kk + 1, by simp, ⟨by omega⟩, ⟨hb.out.trans (hb'.mono hb.out.size)⟩, HZ⟩
    · have hd : decide ((kk : Int) < (xs.length : Int)) = false := zqu (by omega)
      have hz := hx.out
      rw [List.drop_of_length_le (by omega), ixOf_nil] at hz
      have HZ := K0 hz
      clear hz hx
      go_wp2
      go_ret
      exact ⟨by rw [HZ.out]; rfl, hb.out⟩
set_option maxRecDepth 100000 in
theorem slices_ContainsFunc_int.calls (gf : Nat) (lb : Array Value) (eg : ∀ args w, (callFunc gf args).run Try.prog w = .ok (.enter gf args) w) (p : Int → Bool) (A : Option Addr) (c : Nat) (xs : List Int) (w : World)
    (hr : Kd.C (Kd.int .i64) w A xs.length xs) (hp : ∀ W, Below w.heap.size w W → ∀ x ∈ xs, Calls Try.prog gf (#[.int .i64 x] ++ lb) W fun e W' => e = .returned (.bool (p x)) ∧ Below W.heap.size W W') :
    Calls Try.prog 57 #[.slice A xs.length c, .func (.func gf) #[] lb] w fun e w' => e = .returned (.bool (decide (0 ≤ ixOf p xs 0))) ∧ Below w.heap.size w w' := by
  have HC := K0 (slices_IndexFunc_int.calls gf lb eg p A c xs w hr hp)
  clear hr hp
  go_enter Try.func57, Try.ntmps57
  go_wp2_with fail
  refine HC.out.mono ?_
  rintro e w' ⟨rfl, hb'⟩
  go_wp2
  go_ret
  exact ⟨by simp, hb'⟩
def notIn (a : List Int) (x : Int) : Bool := !decide (x ∈ a)
def Sol.assumed (Z : Sol) (l : List Int) : Bool := !decide (0 ≤ ixOf (notIn Z.asm) l 0)
set_option maxRecDepth 100000 in
set_option maxHeartbeats 4000000 in
theorem sol_assumed_1.calls (k : Nat) {w0 w : World} {S B : Nat} {T : Tag} {U : Col} {Z : Sol} {p : EngP} {q : SolP} (h0 : SolIn w0 w S B T U Z p q) (g : Nat) (hg : w.cell? ⟨g, 0, none⟩ = some (.pointer (some ⟨S, 0, none⟩))) (x : Int) (hk : slices_Contains_int_int.f k Z.asm x = some (decide (x ∈ Z.asm))) :
    Calls Try.prog 58 #[.int .i64 x, .pointer (some ⟨g, 0, none⟩)] w fun e w' => e = .returned (.bool (notIn Z.asm x)) ∧ Below w.heap.size w w' := by
  have HC := K0 (slices_Contains_int_int.calls k q.aA q.cA Z.asm x (decide (x ∈ Z.asm)) w (Kd.F_now h0.asm) h0.asmc hk)
  have c3 := h0.cells.2.2.2.1
  clear h0 hk
  unfold notIn
  go_enter Try.func58, Try.ntmps58
  go_wp2_with fail
  refine HC.out.mono ?_
  rintro e' w1 ⟨rfl, ⟨nd, rfl⟩⟩
  clear HC
  go_wp2
  go_ret
  exact ⟨rfl, zqa (zqw _ _) nd⟩
set_option maxRecDepth 100000 in
set_option maxHeartbeats 4000000 in
theorem sol_assumed.calls (k : Nat) {w0 w : World} {S B : Nat} {T : Tag} {U : Col} {Z : Sol} {p : EngP} {q : SolP} (h0 : SolIn w0 w S B T U Z p q) (A : Option Addr) (c : Nat) (l : List Int) (hr : Kd.C (Kd.int .i64) w A l.length l) (hk : ∀ x ∈ l, slices_Contains_int_int.f k Z.asm x = some (decide (x ∈ Z.asm))) :
    Calls Try.prog 42 #[.pointer (some ⟨S, 0, none⟩), .slice A l.length c] w fun e w' => e = .returned (.bool (Z.assumed l)) ∧ Below w.heap.size w w' := by
  have hb1 : Below w.heap.size w (w.alloc (.cells #[.pointer (some ⟨S, 0, none⟩)] 54)) := zqb (zqw _ _) _
  have HB1 := K0 hb1
  have HC := K0 (slices_ContainsFunc_int.calls 58 #[.pointer (some ⟨w.heap.size, 0, none⟩)] (enters_of Try.func58 (by kernel_rfl) rfl) (notIn Z.asm) A c l _ (Kd.C_below hr hb1) (fun W hW x hx =>
    sol_assumed_1.calls k ((h0.below hb1).below hW) w.heap.size (pw_cell_below hW ((zql (blk_new w (.cells #[.pointer (some ⟨S, 0, none⟩)] 54)) 0).trans rfl)) x (hk x hx)))
  clear h0 hr hk hb1
  unfold Sol.assumed
  go_enter Try.func42, Try.ntmps42
  go_wp2_with fail
  refine HC.out.mono ?_
  rintro e' w1 ⟨rfl, hb⟩
  have HB2 := K0 (zqo HB1.out hb)
  clear hb HC
  go_wp2
  go_ret
  exact ⟨rfl, HB2.out⟩
set_option maxRecDepth 100000 in
theorem eng_Levels.calls (E : Eng) (B : Nat) (T : Tag) (p : EngP) (w : World) (h : EngIn w B T E p) :
    Calls Try.prog 63 #[.pointer (some ⟨B, 0, none⟩)] w fun e w' => e = .returned (.int .i64 (E.st.length : Int)) ∧ w' = w := by
  have c5 := h.cells.2.2.2.2.2.1
  obtain ⟨A5, n5, e5⟩ := Kd.R_slice h.st
  rw [e5] at c5
  clear h e5
  go_enter Try.func63, Try.ntmps63
  go_wp2
  go_ret
  exact ⟨rfl, rfl⟩
def Eng.del (E : Eng) (y : Int) : Eng := { E with ms := fun x => if x = y then none else E.ms x }
def Eng.dels (E : Eng) (l : List Int) : Eng := l.foldl Eng.del E
theorem Eng.dels_snoc (E : Eng) (l : List Int) (x : Int) : E.dels (l ++ [x]) = (E.dels l).del x := by
  unfold Eng.dels; rw [List.foldl_append]; rfl
theorem Eng.dels_same : ∀ (l : List Int) (E : Eng), (E.dels l).cls = E.cls ∧ (E.dels l).tr = E.tr ∧ (E.dels l).st = E.st ∧ (E.dels l).n = E.n ∧ (E.dels l).br = E.br ∧ (E.dels l).ws = E.ws ∧ (E.dels l).wt = E.wt ∧ ∀ x, (E.dels l).ms x = if x ∈ l then none else E.ms x
  | [], E => ⟨rfl, rfl, rfl, rfl, rfl, rfl, rfl, fun x => by rw [if_neg (by simp)]; rfl⟩
  | y :: l, E => by
    obtain ⟨h1, h2, h3, h4, h5, h6, h7, h8⟩ := Eng.dels_same l (E.del y)
    refine ⟨h1, h2, h3, h4, h5, h6, h7, fun x => ?_⟩
    have := h8 x
    show (Eng.dels (E.del y) l).ms x = _
    rw [this]
    by_cases hx : x ∈ l
    case pos =>
      rw [if_pos hx, if_pos (List.mem_cons_of_mem _ hx)]
    rw [if_neg hx]
    show (if x = y then none else E.ms x) = _
    by_cases e : x = y
    case neg =>
      rw [if_neg e, if_neg (by simp [e, hx])]
    rw [if_pos e, if_pos (by rw [e]; simp)]
def Eng.popped (E : Eng) (a : Nat) : Eng := { E.dels (E.tr.drop a) with tr := E.tr.take a, st := E.st.dropLast, br := -1 }
def Eng.pop (k : Nat) (E : Eng) : Option (Eng × Bool) :=
  match E.st.getLast? with
  | none => some (E, false)
  | some a => if 0 ≤ a ∧ a.toNat ≤ E.tr.length then (Eng.settle k (E.popped a.toNat)).bind fun E' => some (E', true) else none
theorem EngIn.turn_del {w w1 : World} {B : Nat} {T : Tag} {E : Eng} {p : EngP} (h : EngIn w B T E p) (y : Int) (hM : MapI Try.prog 3 w1 p.bm (setI (mkV E.ms) y none)) (hg : w.grownBy w1 (some p.bm)) : EngIn w1 B T (E.del y) p ∧ Moved T T w w1 :=
  h.turn_ms (g := fun x => if x = y then none else E.ms x) (hM.congr fun x => by
    unfold setI
    by_cases e : x = y
    case pos =>
      rw [if_pos e]
      show none = Option.map _ (if x = y then none else E.ms x)
      rw [if_pos e]; rfl
    rw [if_neg e]
    show Option.map _ (E.ms x) = Option.map _ (if x = y then none else E.ms x)
    rw [if_neg e]) hg (fun x hx => by
    have hx : (if x = y then none else E.ms x).isSome = true := hx
    by_cases e : x = y
    case pos =>
      rw [if_pos e] at hx; cases hx
    rw [if_neg e] at hx; exact h.mst x hx)
set_option maxRecDepth 100000 in
set_option maxHeartbeats 4000000 in
theorem eng_Pop.calls (k : Nat) (E : Eng) (B : Nat) (T : Tag) (p : EngP) (E2 : Eng) (r : Bool) (w : World) (h : EngIn w B T E p) (hlit : E.Lits) (htr : ∀ x ∈ E.tr, (Lit.int .i64 x).wf = true) (hf : Eng.pop k E = some (E2, r)) :
    Calls Try.prog 64 #[.pointer (some ⟨B, 0, none⟩)] w fun e w' => e = .returned (.bool r) ∧ EngPost B T p E2 w w' := by
  unfold Eng.pop at hf
  have c5 := h.cells.2.2.2.2.2.1
  have c3 := h.cells.2.2.2.1
  have c4 := h.cells.2.2.2.2.1
  obtain ⟨A5, k5, e5⟩ := Kd.R_slice h.st
  obtain ⟨A3, k3, e3⟩ := Kd.R_slice h.tr
  rw [e5] at c5
  rw [e3] at c3
  have HE := K0 h; have HL := K0 hlit; have HTR := K0 htr
  cases hst : E.st.getLast? with
  | none =>
    rw [hst] at hf
    simp only [Option.some.injEq, Prod.mk.injEq] at hf
    obtain ⟨h1, h2⟩ := hf
    subst h2; have H2 := K0 h1
    rw [List.getLast?_eq_none_iff.1 hst] at c5
    clear h1 h hlit htr e5 e3
    go_enter Try.func64, Try.ntmps64
    go_wp2
    go_ret
    rw [← H2.out]
    exact ⟨rfl, T, p, HE.out, Moved.refl _ _, rfl⟩
  | some a =>
    rw [hst] at hf
    obtain ⟨ss, hss⟩ : ∃ ss, E.st = ss ++ [a] := List.getLast?_eq_some_iff.1 hst
    replace hf : (if 0 ≤ a ∧ a.toNat ≤ E.tr.length then (Eng.settle k (E.popped a.toNat)).bind fun E' => some (E', true) else none) = some (E2, r) := hf
    by_cases ha : 0 ≤ a ∧ a.toNat ≤ E.tr.length
    case neg =>
      rw [if_neg ha] at hf; cases hf
    rw [if_pos ha] at hf
    obtain ⟨E3, hs, hf⟩ := Option.bind_eq_some_iff.mp hf
    simp only [Option.some.injEq, Prod.mk.injEq] at hf
    obtain ⟨rfl, rfl⟩ := hf
    have HS := K0 hs
    obtain ⟨ha0, ha1⟩ := ha
    obtain ⟨m, rfl⟩ : ∃ m : Nat, a = m := ⟨a.toNat, by omega⟩
    rw [Int.toNat_natCast] at ha1 HS
    obtain ⟨N5, hN5⟩ : ∃ N5, ss.length = N5 := ⟨_, rfl⟩
    have hl5 : E.st.length = N5 + 1 := by rw [hss, List.length_append, hN5]; rfl
    rw [hl5] at c5 e5
    obtain ⟨N3, hN3⟩ : ∃ N3, E.tr.length = N3 := ⟨_, rfl⟩
    rw [hN3] at c3 e3 ha1
    have hrs := h.st
    rw [e5] at hrs
    have hrt := h.tr
    rw [e3] at hrt
    have b5 := (Kd.R_reads' hrs).2.2.2.1
    have b3 : N3 ≤ 9223372036854775807 := by rw [← hN3]; exact (Kd.R_reads' hrt).2.2.2.1
    have bc3 : N3 ≤ k3 := (Kd.R_reads' hrt).2.1
    have bc5 := (Kd.R_reads' hrs).2.1
    obtain ⟨ad, e1, x1⟩ := Kd.at_int (Kd.R_reads' hrs).2.2 (N5 : Int) (by omega) (by rw [hl5]; omega)
    cases e1
    have hrd : rd E.st (N5 : Int) = m := by rw [hss]; simp [rd, ← hN5]
    rw [hrd] at x1
    simp only [Int.toNat_natCast] at x1
    obtain ⟨L5, hL5⟩ : ∃ L5, N5 + 1 = L5 := ⟨_, rfl⟩
    rw [hL5] at c5 e5
    have P0 : IntKind.i64.wrap ((L5 : Int) - 1) = (N5 : Int) := (Go.IntWalk.i64_left _).trans (by unfold wrap64; omega)
    have P1 : ((0 : Int) ≤ (N5 : Int)) = True := eq_true (by omega)
    have P2 : ((N5 : Int) < (L5 : Int)) = True := eq_true (by omega)
    have P2' : (N5 < L5) = True := eq_true (by omega)
    have P3 : ((L5 : Int) == 0) = false := beq_eq_false_iff_ne.2 (by omega)
    have P4 : (L5 == 0) = false := beq_eq_false_iff_ne.2 (by omega)
    have P5 : (N5 ≤ k5) = True := eq_true (by omega)
    have P6 : (m ≤ k3) = True := eq_true (by omega)
    clear hrs hrt hst hs h hlit htr
    have hb0 : Below w.heap.size w w.drew := below_drew (zqw _ _)
    have HD := K0 (HE.out.below hb0)
    have HM0 := K0 (Moved.of_below (T := T) hb0)
    have d5 := pw_cell_below hb0 c5
    have d3 := pw_cell_below hb0 c3
    have dx := pw_cell_below hb0 x1
    obtain ⟨ds, hds⟩ : ∃ ds, E.tr.drop m = ds := ⟨_, rfl⟩
    have hdl : ds.length = N3 - m := by rw [← hds, zqq, hN3]
    have HCUT : Aside0 (∀ (W : World) (E1 : Eng), EngIn W B T E1 p → E1.tr = E.tr → Kd.C (Kd.int .i64) W (if k3 = m then A3 else A3.map (·.add m)) ds.length ds) := ⟨fun W E1 h1 h2 => by
      have h3 := h1.tr
      rw [h2, e3] at h3
      have h4 := (Kd.R_reads' h3).2.2
      have h5 := Kd.C_drop h4 (m := m) (c := k3) (by omega) (by omega)
      rw [show (Kd.int .i64).sz = 1 from rfl, Nat.mul_one, hds] at h5
      exact h5⟩
    have HDM : Aside0 (∀ y ∈ ds, (Lit.int .i64 y).wf = true) := ⟨fun y hy => HTR.out y (List.mem_of_mem_drop (by rw [hds]; exact hy))⟩
    have HDS := K0 hds; have HE3 := K0 e3; have HE5 := K0 e5; have HN3 := K0 hN3; have HSS := K0 hss
    have hm3 : m ≤ N3 := ha1
    clear e3 e5 hds hN3 hss hf ha0 ha1 c4 x1 c3
    obtain ⟨L, hL⟩ : ∃ L, N3 - m = L := ⟨_, rfl⟩
    rw [hL] at hdl
    go_enter Try.func64, Try.ntmps64
    go_wp2
    go_still (by kernel_rfl)
    go_wp2
    all_goals
      obtain ⟨A6, hA6⟩ : ∃ A6, (if k3 = m then A3 else A3.map (·.add m)) = A6 := ⟨_, rfl⟩
      rw [hA6] at HCUT
      first
      | (rw [if_neg (by assumption)] at hA6; rw [hA6])
      | (have hkm : k3 = m := by assumption
         rw [if_pos hkm] at hA6
         rw [← hA6] at HCUT
         have HL0 := K0 (show L = 0 by omega)
         clear hkm h
         obtain rfl := hA6)
      have hLb : L ≤ 9223372036854775807 := by omega
      go_loopg [5, 35] L (fun gg _ v35 wr => ∃ (j : Nat), v35 = .int .i64 (j : Int) ∧ Aside0 (j + gg = L) ∧ Aside0 (EngIn wr B T (E.dels (ds.take j)) p) ∧ Aside0 (Moved T T w wr))
      case atStart => exact ⟨0, rfl, ⟨by simp⟩, HD, HM0⟩
      case round =>
        clear d3 d5 dx c5 HD HM0 HE
        obtain ⟨j, rfl, hg, HE1, HM1⟩ := hrel
        obtain ⟨E1, hE1⟩ : ∃ E1, E.dels (ds.take j) = E1 := ⟨_, rfl⟩
        obtain ⟨s1, s2, s3, s4, s5, s6, s7, s8⟩ := E.dels_same (ds.take j)
        rw [hE1] at HE1 s1 s2 s3 s4 s5 s6 s7
        have c4 := HE1.out.cells.2.2.2.2.1
        by_cases hlt : j < ds.length
        case pos =>
          first
          | (exfalso; have := HL0.out; omega)
          | (obtain ⟨ad', e1, x1⟩ := Kd.at_int (HCUT.out wr E1 HE1.out s2) (j : Int) (by omega) (by omega)
             obtain ⟨y, hy⟩ : ∃ y, ds[j] = y := ⟨_, rfl⟩
             have hrd' : rd ds (j : Int) = y := by simp [rd, hlt, hy]
             rw [hrd'] at x1
             simp only [Int.toNat_natCast] at x1
             have hyw := HDM.out y (by rw [← hy]; exact List.getElem_mem hlt)
             have HY := K0 (show ds.take (j + 1) = ds.take j ++ [y] by rw [List.take_add_one, List.getElem?_eq_getElem hlt, hy]; rfl)
             have Q0 : ((0 : Int) ≤ (j : Int)) = True := eq_true (by omega)
             have Q1 : ((j : Int) < (L : Int)) = True := eq_true (by omega)
             have Q2 : (j < L) = True := eq_true (by omega)
             have hd : decide ((j : Int) < (L : Int)) = true := zqt (by omega)
             have HE1' := K0 hE1
             obtain ⟨w2, hrun, hM2, hg2⟩ := HE1.out.ms.drop Try.underlying3 Try.underlying68 hyw 0
             obtain ⟨t1, t2⟩ := HE1.out.turn_del y hM2 hg2
             have T1 := K0 t1
             have T2 := K0 (HM1.out.trans t2)
             clear hE1 s1 s2 s3 s4 s5 s6 s7 s8 hy hrd' hyw t1 t2 hM2 hg2
             rw [e1]
             go_wp2
             rw [← e1]
             go_roundg (L - (j + 1))
             case measure => have := hg.out; omega
             case rel => exact ⟨j + 1, by simp, ⟨by have := hg.out; omega⟩, ⟨by rw [HY.out, Eng.dels_snoc, HE1'.out]; exact T1.out⟩, T2⟩)
        have hd : decide ((j : Int) < (L : Int)) = false := zqu (by omega)
        have Q2 : (j < L) = False := eq_false (by omega)
        rw [List.take_of_length_le (show ds.length ≤ j by omega)] at hE1 s8
        have HE1' := K0 hE1
        have S1 := K0 s1; have S2 := K0 s2; have S3 := K0 s3
        have hbw : Below wr.heap.size wr wr.drew := below_drew (zqw _ _)
        have HD1 := K0 (HE1.out.below hbw)
        have HMD := K0 (HM1.out.trans (Moved.of_below (T := T) hbw))
        have d3 : wr.drew.cell? ⟨B, 3, none⟩ = some (.slice A3 N3 k3) := by rw [HD1.out.cells.2.2.2.1, HE3.out]
        have d5 : wr.drew.cell? ⟨B, 5, none⟩ = some (.slice (some ad) L5 k5) := by rw [HD1.out.cells.2.2.2.2.2.1, HE5.out]
        have g0 := HD1.out.cells.2.2.2.2.2.2.2 3
        have g5 := HD1.out.cells.2.2.2.2.2.2.2 5
        have g6 := HD1.out.cells.2.2.2.2.2.2.2 6
        have r5 : wr.cell? ⟨B, 5, none⟩ = some (.slice (some ad) L5 k5) := by rw [HE1.out.cells.2.2.2.2.2.1, HE5.out]
        have r6 := HE1.out.cells.2.2.2.2.2.2.1
        have g35 := HE1.out.cells.2.2.2.2.2.2.2 5
        have g36 := HE1.out.cells.2.2.2.2.2.2.2 6
        have g33 := HE1.out.cells.2.2.2.2.2.2.2 3
        clear hE1 s1 s2 s3 s4 s5 s6 s7 hbw
        go_wp2
        refine start_ (n := 29) (S := fun w' => w'.cell? ⟨B, 3, none⟩ = some (.slice A3 N3 k3) ∧ w'.cell? ⟨B, 5, none⟩ = some (.slice (some ad) L5 k5)) (ds := [22, 25, 28]) #[false, false, false, false, false, false, false, false, false, false, false, false, false, false, false, false, false, false, false, false, false, false, false, false, false, false, false, false, false] (by kernel_rfl) rfl rfl ⟨d3, d5⟩ (fun hHeld => ?_)
        refine pure_ (i := 0) (N := some 45) (v := ?_) (a' := ?_) #[true, false, false, false, false, false, false, false, false, false, false, false, false, false, false, false, false, false, false, false, false, false, false, false, false, false, false, false, false] rfl rfl (by kernel_rfl) (fun _ _ _ h => h) (Or.inl ⟨by rfl, ?_⟩) ?_ ?_
        rotate_left
        · intro w'
          go_simp
          with_reducible rfl
        rotate_left
        · simp only [Act.put, zqf, zqg, zqh, i64_w, i32_w]
          rfl
        refine pure_ (i := 1) (N := some 46) (v := ?_) (a' := ?_) #[true, true, false, false, false, false, false, false, false, false, false, false, false, false, false, false, false, false, false, false, false, false, false, false, false, false, false, false, false] rfl rfl (by kernel_rfl) (fun _ _ _ h => h) (Or.inl ⟨by rfl, ?_⟩) ?_ ?_
        rotate_left
        · intro w'
          go_simp
          with_reducible rfl
        rotate_left
        · simp only [Act.put, zqf, zqg, zqh, i64_w, i32_w]
          rfl
        refine pure_ (i := 2) (N := some 47) (v := ?_) (a' := ?_) #[true, true, true, false, false, false, false, false, false, false, false, false, false, false, false, false, false, false, false, false, false, false, false, false, false, false, false, false, false] rfl rfl (by kernel_rfl) (fun _ _ _ h => h) (Or.inl ⟨by rfl, ?_⟩) ?_ ?_
        rotate_left
        · intro w'
          go_simp
          with_reducible rfl
        rotate_left
        · simp only [Act.put, zqf, zqg, zqh, i64_w, i32_w]
          rfl
        refine pure_ (i := 3) (N := some 48) (v := ?_) (a' := ?_) #[true, true, true, true, false, false, false, false, false, false, false, false, false, false, false, false, false, false, false, false, false, false, false, false, false, false, false, false, false] rfl rfl (by kernel_rfl) (fun _ _ _ h => h) (Or.inl ⟨by rfl, ?_⟩) ?_ ?_
        rotate_left
        · intro w'
          go_simp
          with_reducible rfl
        rotate_left
        · simp only [Act.put, zqf, zqg, zqh, i64_w, i32_w]
          rfl
        refine pure_ (i := 4) (N := some 49) (v := ?_) (a' := ?_) #[true, true, true, true, true, false, false, false, false, false, false, false, false, false, false, false, false, false, false, false, false, false, false, false, false, false, false, false, false] rfl rfl (by kernel_rfl) (fun _ _ _ h => h) (Or.inl ⟨by rfl, ?_⟩) ?_ ?_
        rotate_left
        · intro w'
          go_simp
          with_reducible rfl
        rotate_left
        · simp only [Act.put, zqf, zqg, zqh, i64_w, i32_w]
          rfl
        refine pure_ (i := 5) (N := some 50) (v := ?_) (a' := ?_) #[true, true, true, true, true, true, false, false, false, false, false, false, false, false, false, false, false, false, false, false, false, false, false, false, false, false, false, false, false] rfl rfl (by kernel_rfl) (fun _ _ _ h => h) (Or.inl ⟨by rfl, ?_⟩) ?_ ?_
        rotate_left
        · intro w'
          go_simp
          with_reducible rfl
        rotate_left
        · simp only [Act.put, zqf, zqg, zqh, i64_w, i32_w]
          rfl
        refine pure_ (i := 7) (N := some 52) (v := ?_) (a' := ?_) #[true, true, true, true, true, true, false, true, false, false, false, false, false, false, false, false, false, false, false, false, false, false, false, false, false, false, false, false, false] rfl rfl (by kernel_rfl) (fun _ _ _ h => h) (Or.inl ⟨by rfl, ?_⟩) ?_ ?_
        rotate_left
        · intro w'
          go_simp
          with_reducible rfl
        rotate_left
        · simp only [Act.put, zqf, zqg, zqh, i64_w, i32_w]
          rfl
        refine pure_ (i := 9) (N := some 54) (v := ?_) (a' := ?_) #[true, true, true, true, true, true, false, true, false, true, false, false, false, false, false, false, false, false, false, false, false, false, false, false, false, false, false, false, false] rfl rfl (by kernel_rfl) (fun _ _ _ h => h) (Or.inl ⟨by rfl, ?_⟩) ?_ ?_
        rotate_left
        · intro w'
          go_simp
          with_reducible rfl
        rotate_left
        · simp only [Act.put, zqf, zqg, zqh, i64_w, i32_w]
          rfl
        refine pure_ (i := 10) (N := some 55) (v := ?_) (a' := ?_) #[true, true, true, true, true, true, false, true, false, true, true, false, false, false, false, false, false, false, false, false, false, false, false, false, false, false, false, false, false] rfl rfl (by kernel_rfl) (fun _ _ _ h => h) (Or.inl ⟨by rfl, ?_⟩) ?_ ?_
        rotate_left
        · intro w'
          go_simp
          with_reducible rfl
        rotate_left
        · simp only [Act.put, zqf, zqg, zqh, i64_w, i32_w]
          rfl
        refine pure_ (i := 11) (N := some 56) (v := ?_) (a' := ?_) #[true, true, true, true, true, true, false, true, false, true, true, true, false, false, false, false, false, false, false, false, false, false, false, false, false, false, false, false, false] rfl rfl (by kernel_rfl) (fun _ _ _ h => h) (Or.inl ⟨by rfl, ?_⟩) ?_ ?_
        rotate_left
        · intro w'
          go_simp
          with_reducible rfl
        rotate_left
        · simp only [Act.put, zqf, zqg, zqh, i64_w, i32_w]
          rfl
        refine pure_ (i := 13) (N := some 58) (v := ?_) (a' := ?_) #[true, true, true, true, true, true, false, true, false, true, true, true, false, true, false, false, false, false, false, false, false, false, false, false, false, false, false, false, false] rfl rfl (by kernel_rfl) (fun _ _ _ h => h) (Or.inl ⟨by rfl, ?_⟩) ?_ ?_
        rotate_left
        · intro w'
          go_simp
          with_reducible rfl
        rotate_left
        · simp only [Act.put, zqf, zqg, zqh, i64_w, i32_w]
          rfl
        refine pure_ (i := 14) (N := some 59) (v := ?_) (a' := ?_) #[true, true, true, true, true, true, false, true, false, true, true, true, false, true, true, false, false, false, false, false, false, false, false, false, false, false, false, false, false] rfl rfl (by kernel_rfl) (fun _ _ _ h => h) (Or.inl ⟨by rfl, ?_⟩) ?_ ?_
        rotate_left
        · intro w'
          go_simp
          with_reducible rfl
        rotate_left
        · simp only [Act.put, zqf, zqg, zqh, i64_w, i32_w]
          rfl
        refine pure_ (i := 15) (N := some 60) (v := ?_) (a' := ?_) #[true, true, true, true, true, true, false, true, false, true, true, true, false, true, true, true, false, false, false, false, false, false, false, false, false, false, false, false, false] rfl rfl (by kernel_rfl) (fun _ _ _ h => h) (Or.inl ⟨by rfl, ?_⟩) ?_ ?_
        rotate_left
        · intro w'
          go_simp
          with_reducible rfl
        rotate_left
        · simp only [Act.put, zqf, zqg, zqh, i64_w, i32_w]
          rfl
        refine take_ (i := 6) (N := some 51) (v := ?_) (a' := ?_) #[true, true, true, true, true, true, true, true, false, true, true, true, false, true, true, true, false, false, false, false, false, false, false, false, false, false, false, false, false] rfl rfl (by kernel_rfl) (fun _ _ _ h => h) (Or.inl ⟨by rfl, ?_⟩) hHeld ?_ ?_
        rotate_left
        · rintro w' ⟨s0, s1⟩
          go_simp
          with_reducible rfl
        rotate_left
        · simp only [Act.put, zqf, zqg, zqh, i64_w, i32_w]
          rfl
        refine pure_ (i := 8) (N := some 53) (v := ?_) (a' := ?_) #[true, true, true, true, true, true, true, true, true, true, true, true, false, true, true, true, false, false, false, false, false, false, false, false, false, false, false, false, false] rfl rfl (by kernel_rfl) (fun _ _ _ h => h) (Or.inl ⟨by rfl, ?_⟩) ?_ ?_
        rotate_left
        · intro w'
          go_simp
          with_reducible rfl
        rotate_left
        · simp only [Act.put, zqf, zqg, zqh, i64_w, i32_w]
          rfl
        refine take_ (i := 12) (N := some 57) (v := ?_) (a' := ?_) #[true, true, true, true, true, true, true, true, true, true, true, true, true, true, true, true, false, false, false, false, false, false, false, false, false, false, false, false, false] rfl rfl (by kernel_rfl) (fun _ _ _ h => h) (Or.inl ⟨by rfl, ?_⟩) hHeld ?_ ?_
        rotate_left
        · rintro w' ⟨s0, s1⟩
          go_simp
          with_reducible rfl
        rotate_left
        · simp only [Act.put, zqf, zqg, zqh, i64_w, i32_w]
          rfl
        refine take_ (i := 16) (N := some 61) (v := ?_) (a' := ?_) #[true, true, true, true, true, true, true, true, true, true, true, true, true, true, true, true, true, false, false, false, false, false, false, false, false, false, false, false, false] rfl rfl (by kernel_rfl) (fun _ _ _ h => h) (Or.inl ⟨by rfl, ?_⟩) hHeld ?_ ?_
        rotate_left
        · rintro w' ⟨s0, s1⟩
          go_simp
          with_reducible rfl
        rotate_left
        · simp only [Act.put, zqf, zqg, zqh, i64_w, i32_w]
          rfl
        refine pure_ (i := 17) (N := some 62) (v := ?_) (a' := ?_) #[true, true, true, true, true, true, true, true, true, true, true, true, true, true, true, true, true, true, false, false, false, false, false, false, false, false, false, false, false] rfl rfl (by kernel_rfl) (fun _ _ _ h => h) (Or.inl ⟨by rfl, ?_⟩) ?_ ?_
        rotate_left
        · intro w'
          go_simp
          with_reducible rfl
        rotate_left
        · simp only [Act.put, zqf, zqg, zqh, i64_w, i32_w]
          rfl
        refine pure_ (i := 18) (N := some 63) (v := ?_) (a' := ?_) #[true, true, true, true, true, true, true, true, true, true, true, true, true, true, true, true, true, true, true, false, false, false, false, false, false, false, false, false, false] rfl rfl (by kernel_rfl) (fun _ _ _ h => h) (Or.inl ⟨by rfl, ?_⟩) ?_ ?_
        rotate_left
        · intro w'
          go_simp
          with_reducible rfl
        rotate_left
        · simp only [Act.put, zqf, zqg, zqh, i64_w, i32_w]
          rfl
        refine pure_ (i := 19) (N := some 64) (v := ?_) (a' := ?_) #[true, true, true, true, true, true, true, true, true, true, true, true, true, true, true, true, true, true, true, true, false, false, false, false, false, false, false, false, false] rfl rfl (by kernel_rfl) (fun _ _ _ h => h) (Or.inl ⟨by rfl, ?_⟩) ?_ ?_
        rotate_left
        · intro w'
          go_simp
          with_reducible rfl
        rotate_left
        · simp only [Act.put, zqf, zqg, zqh, i64_w, i32_w]
          rfl
        refine pure_ (i := 20) (N := some 65) (v := ?_) (a' := ?_) #[true, true, true, true, true, true, true, true, true, true, true, true, true, true, true, true, true, true, true, true, true, false, false, false, false, false, false, false, false] rfl rfl (by kernel_rfl) (fun _ _ _ h => h) (Or.inl ⟨by rfl, ?_⟩) ?_ ?_
        rotate_left
        · intro w'
          go_simp
          with_reducible rfl
        rotate_left
        · simp only [Act.put, zqf, zqg, zqh, i64_w, i32_w]
          rfl
        refine pure_ (i := 21) (N := some 66) (v := ?_) (a' := ?_) #[true, true, true, true, true, true, true, true, true, true, true, true, true, true, true, true, true, true, true, true, true, true, false, false, false, false, false, false, false] rfl rfl (by kernel_rfl) (fun _ _ _ h => h) (Or.inl ⟨by rfl, ?_⟩) ?_ ?_
        rotate_left
        · intro w'
          go_simp
          with_reducible rfl
        rotate_left
        · simp only [Act.put, zqf, zqg, zqh, i64_w, i32_w]
          rfl
        refine last_ (i := 22) (N := none) #[true, true, true, true, true, true, true, true, true, true, true, true, true, true, true, true, true, true, true, true, true, true, true, false, false, false, false, false, false] rfl rfl (by kernel_rfl) (by decide) (fun K hK => ?_)
        refine skip_ (w1 := ?_) (by rfl) rfl ?_ ?_
        rotate_left
        · go_simp
          rfl
        refine hK.out _ _ ?_
        clear hK K
        refine pure_ (i := 23) (N := some 67) (v := ?_) (a' := ?_) #[true, true, true, true, true, true, true, true, true, true, true, true, true, true, true, true, true, true, true, true, true, true, true, true, false, false, false, false, false] rfl rfl (by kernel_rfl) (fun _ _ _ h => h) (Or.inl ⟨by rfl, ?_⟩) ?_ ?_
        rotate_left
        · intro w'
          go_simp
          with_reducible rfl
        rotate_left
        · simp only [Act.put, zqf, zqg, zqh, i64_w, i32_w]
          rfl
        refine pure_ (i := 24) (N := some 68) (v := ?_) (a' := ?_) #[true, true, true, true, true, true, true, true, true, true, true, true, true, true, true, true, true, true, true, true, true, true, true, true, true, false, false, false, false] rfl rfl (by kernel_rfl) (fun _ _ _ h => h) (Or.inl ⟨by rfl, ?_⟩) ?_ ?_
        rotate_left
        · intro w'
          go_simp
          with_reducible rfl
        rotate_left
        · simp only [Act.put, zqf, zqg, zqh, i64_w, i32_w]
          rfl
        refine last_ (i := 25) (N := none) #[true, true, true, true, true, true, true, true, true, true, true, true, true, true, true, true, true, true, true, true, true, true, true, true, true, true, false, false, false] rfl rfl (by kernel_rfl) (by decide) (fun K hK => ?_)
        refine skip_ (w1 := ?_) (by rfl) rfl ?_ ?_
        rotate_left
        · go_simp
          rfl
        refine hK.out _ _ ?_
        clear hK K
        refine pure_ (i := 26) (N := some 69) (v := ?_) (a' := ?_) #[true, true, true, true, true, true, true, true, true, true, true, true, true, true, true, true, true, true, true, true, true, true, true, true, true, true, true, false, false] rfl rfl (by kernel_rfl) (fun _ _ _ h => h) (Or.inl ⟨by rfl, ?_⟩) ?_ ?_
        rotate_left
        · intro w'
          go_simp
          with_reducible rfl
        rotate_left
        · simp only [Act.put, zqf, zqg, zqh, i64_w, i32_w]
          rfl
        refine pure_ (i := 27) (N := some 70) (v := ?_) (a' := ?_) #[true, true, true, true, true, true, true, true, true, true, true, true, true, true, true, true, true, true, true, true, true, true, true, true, true, true, true, true, false] rfl rfl (by kernel_rfl) (fun _ _ _ h => h) (Or.inl ⟨by rfl, ?_⟩) ?_ ?_
        rotate_left
        · intro w'
          go_simp
          with_reducible rfl
        rotate_left
        · simp only [Act.put, zqf, zqg, zqh, i64_w, i32_w]
          rfl
        refine last_ (i := 28) (N := none) #[true, true, true, true, true, true, true, true, true, true, true, true, true, true, true, true, true, true, true, true, true, true, true, true, true, true, true, true, true] rfl rfl (by kernel_rfl) (by decide) (fun K hK => ?_)
        refine skip_ (w1 := ?_) (by rfl) rfl ?_ ?_
        rotate_left
        · go_simp
          rfl
        refine hK.out _ _ ?_
        clear hK K
        refine done_ (by kernel_rfl) ?_
        have hR3 : Kd.R (Kd.int .i64) 3 wr 0 (fun k => T k = (4, 0) ∨ wr.heap.size ≤ k) (.slice A3 m k3) (E.tr.take m) := by
          have h := HE1.out.tr
          rw [HE3.out, S2.out] at h
          exact Kd.R_take (Kd.R_mono h (fun _ hk => .inl hk)) (by rw [HN3.out]; exact hm3)
        have hgr : ∀ (W : World) (o : Option Nat), W.grownBy W o := fun W o => ⟨rfl, rfl, rfl, zqx _, fun _ _ _ => rfl⟩
        have hk3 : ∀ x, (E1.ms x).isSome = true → x ∈ E.tr.take m := fun x hx => by
          have h1 := HE1.out.mst x hx
          rw [S2.out, ← List.take_append_drop m E.tr] at h1
          rcases List.mem_append.1 h1 with h1 | h1
          · exact h1
          · rw [HDS.out] at h1
            rw [← HE1'.out, s8, if_pos h1] at hx
            cases hx
        obtain ⟨a1, b1⟩ := HE1.out.turn_tr hR3 (hgr _ _) hk3
        have hR5 : Kd.R (Kd.int .i64) 3 (wr.setCell ⟨B, 3, none⟩ (.slice A3 m k3)) 0 (fun k => retag T wr (.slice A3 m k3) (4, 0) k = (5, 0) ∨ (wr.setCell ⟨B, 3, none⟩ (.slice A3 m k3)).heap.size ≤ k) (.slice (some ad) N5 k5) ss := by
          have h := a1.st
          have h : Kd.R (Kd.int .i64) 3 (wr.setCell ⟨B, 3, none⟩ (.slice A3 m k3)) 0 (fun k => retag T wr (.slice A3 m k3) (4, 0) k = (5, 0)) p.vS E1.st := h
          rw [HE5.out, S3.out, HSS.out] at h
          have h2 := Kd.R_take (m := N5) (Kd.R_mono (ok' := fun k => retag T wr (.slice A3 m k3) (4, 0) k = (5, 0) ∨ (wr.setCell ⟨B, 3, none⟩ (.slice A3 m k3)).heap.size ≤ k) h (fun _ hk => Or.inl hk)) (by simp [hN5])
          rw [show (ss ++ [(m : Int)]).take N5 = ss by rw [← hN5]; simp] at h2
          exact h2
        obtain ⟨a2, b2⟩ := a1.turn_st hR5 (hgr _ _)
        obtain ⟨a3, b3'⟩ := a2.turn_br (-1)
        obtain ⟨W6, hW6⟩ : ∃ W6, ((wr.setCell ⟨B, 3, none⟩ (.slice A3 m k3)).setCell ⟨B, 5, none⟩ (.slice (some ad) N5 k5)).setCell ⟨B, 6, none⟩ (.int .i64 (-1)) = W6 := ⟨_, rfl⟩
        rw [hW6] at a3 b3'
        have hbw6 : Below W6.heap.size W6 W6.drew := below_drew (zqw _ _)
        obtain ⟨T6, p6, E6, h6, m6, f6, e6⟩ : ∃ T6 p6 E6, EngIn W6.drew B T6 E6 p6 ∧ Moved T T6 w W6.drew ∧ p6.fw = p.fw ∧ E6 = E.popped m := ⟨_, _, _, a3.below hbw6, HM1.out.trans (b1.trans (b2.trans (b3'.trans (Moved.of_below hbw6)))), rfl, by
          unfold Eng.popped
          rw [HDS.out, HE1'.out, HSS.out, List.dropLast_concat]⟩
        have hlit6 : E6.Lits := by
          unfold Eng.Lits
          rw [e6]
          show ∀ c ∈ (E.dels (E.tr.drop m)).cls, _
          rw [HDS.out, HE1'.out, S1.out]
          exact HL.out
        have HCALL := K0 (eng_settle.calls k E6 B T6 p6 E3 _ h6 hlit6 (by rw [e6]; exact HS.out))
        have HM6 := K0 m6; have HW6 := K0 hW6; have HF6 := K0 f6; clear hW6 a1 b1 a2 b2 a3 b3' h6 m6 f6 e6 hlit6 hR3 hR5 hk3 hgr hbw6 d3 d5 g0 g5 g6 r5 r6 g35 g36 g33
        go_wp2_with fail
        rw [HW6.out]
        refine HCALL.out.mono ?_
        rintro e' w8 ⟨rfl, T8, p8, h8, m8, f8⟩
        have H8 := K0 h8
        have M8 := K0 (HM6.out.trans m8)
        have F8 := K0 (f8.trans HF6.out)
        clear h8 m8 f8 HCALL
        go_wp2
        go_ret
        exact ⟨rfl, T8, p8, H8.out, M8.out, F8.out⟩
def Sol.value (Z : Sol) (i : Nat) : Bool := decide (0 < Z.E.val ((i : Int) + 1))
def Sol.values (Z : Sol) : List Bool := (List.range Z.n.toNat).map Z.value
set_option maxRecDepth 100000 in
set_option maxHeartbeats 4000000 in
theorem sol_values.calls {w0 w : World} {S B : Nat} {T : Tag} {U : Col} {Z : Sol} {p : EngP} {q : SolP} (h0 : SolIn w0 w S B T U Z p q) (hn : 0 ≤ Z.n ∧ Z.n ≤ 1024) :
    Calls Try.prog 47 #[.pointer (some ⟨S, 0, none⟩)] w fun e w' => ∃ v, e = .returned v ∧ Kd.R Kd.bool 4 w' w.heap.size (fun _ => True) v Z.values ∧ Below w.heap.size w w' := by
  have HS := K0 h0
  have c1 := h0.cells.2.1
  obtain ⟨L, hL⟩ : ∃ L : Nat, Z.n = (L : Int) := ⟨Z.n.toNat, by omega⟩
  have hLb : L ≤ 1024 := by omega
  rw [hL] at c1
  have HL := K0 hL
  obtain ⟨W1, hW1⟩ : ∃ W1, W1 = w.alloc (.cells (List.replicate L (.bool false)).toArray 4) := ⟨_, rfl⟩
  have hmk : (Instr.makeSlice 30 (.int .i64 (L : Int)) (.int .i64 (L : Int))).run Try.prog w = .ok (.slice (some ⟨w.heap.size, 0, none⟩) L L) W1 := by
    have hi0 : (Try.prog.info? 4).map (fun i => (i.zero, i.size, i.bytes)) = some (some (.bool false), 1, 1) := by kernel_rfl
    obtain ⟨i, hi, hi1⟩ := Option.map_eq_some_iff.1 hi0
    simp only [Prod.mk.injEq] at hi1
    obtain ⟨e1, e2, e3⟩ := hi1
    have := run_makeSlice (P := Try.prog) (w := w) 30 4 i (.bool false) Try.underlying30 hi e1 .i64 .i64 (L : Int) (L : Int) (by omega) (Int.le_refl _) (by rw [e2]; omega) (by rw [e3]; omega) (by omega)
    rw [this, hW1, e2, Int.toNat_natCast, Nat.mul_one]
    congr 3
    exact Array.toList_inj.1 (toList_madeCells_one _ _)
  have HB1 := K0 (show Below w.heap.size w W1 by rw [hW1]; exact zqb (zqw _ _) _)
  have h1 : Kd.R Kd.bool 4 W1 w.heap.size (fun _ => True) (.slice (some ⟨w.heap.size, 0, none⟩) L L) (List.replicate L false) := by
    rw [hW1]
    refine Kd.R_of_own (enc := Value.bool) ?_ (fun _ _ => trivial)
    have := own_lit_of (enc := Value.bool) w w.heap.size 4 (List.replicate L false) (zqx _) (by simp; omega)
    simpa [encs] using this
  have HR1 := K0 h1
  clear h0 hn hL hW1 h1
  go_enter Try.func47, Try.ntmps47
  go_wp2
  go_loopg [12] L (fun gg v12 wr => ∃ (j : Nat) (V : List Bool), v12 = .int .i64 (j : Int) ∧ Aside0 (j + gg = L) ∧ Aside0 (Below w.heap.size w wr) ∧ Aside0 (Kd.R Kd.bool 4 wr w.heap.size (fun _ => True) (.slice (some ⟨w.heap.size, 0, none⟩) L L) V) ∧ Aside0 (V.length = L ∧ V.take j = (List.range j).map Z.value))
  case atStart => exact ⟨0, _, rfl, ⟨by simp⟩, HB1, HR1, ⟨by simp, by simp⟩⟩
  case round =>
    clear HB1 HR1
    obtain ⟨j, V, rfl, hg, HB, HR, HV⟩ := hrel
    by_cases hlt : j < L
    · have hd2 : decide ((j : Int) < (L : Int)) = true := zqt (by omega)
      have Q0 : ((0 : Int) ≤ (j : Int)) = True := eq_true (by omega)
      have Q1 : ((j : Int) < (L : Int)) = True := eq_true (by omega)
      have Q2 : (j < L) = True := eq_true hlt
      have c0 := (HS.out.below HB.out).cells.1
      have PW : wrap64 ((j : Int) + 1) = (j : Int) + 1 := by unfold wrap64; omega
      have hwf : (Lit.int .i64 ((j : Int) + 1)).wf = true := by
        have a : IntKind.i64.min = -9223372036854775808 := by decide
        have b : IntKind.i64.max = 9223372036854775807 := by decide
        unfold Lit.wf
        rw [Bool.and_eq_true, decide_eq_true_eq, decide_eq_true_eq]
        omega
      have HVL := K0 (eng_Value.calls Z.E B T p ((j : Int) + 1) wr (HS.out.below HB.out).e hwf)
      clear hwf
      go_wp2_with fail
      refine HVL.out.mono ?_
      rintro e' w1 ⟨rfl, hb⟩
      have HB2 := K0 (zqo HB.out hb)
      have HR2 := K0 (Kd.R_below HR.out hb)
      clear hb HB HR HVL c0
      obtain ⟨b1, b2⟩ := Kd.R_celln false HR2.out (j : Int) (by omega) (by omega)
      simp only [Int.toNat_natCast] at b1 b2
      obtain ⟨r3, g3⟩ := Kd.R_putg HR2.out (j : Int) (Z.value j)
      simp only [Int.toNat_natCast] at r3 g3
      have HR3 := K0 r3
      have HB3 := K0 (HB2.out.grown g3 HB2.out.size (fun k e => by cases e; exact zqx _))
      have HV3 := K0 (show (V.set j (Z.value j)).length = L ∧ (V.set j (Z.value j)).take (j + 1) = (List.range (j + 1)).map Z.value from ⟨by rw [List.length_set]; exact HV.out.1, by
        rw [List.take_add_one, List.take_set_of_le (zqx _), HV.out.2, List.getElem?_set_self (by rw [HV.out.1]; exact hlt), List.range_succ, List.map_append]; rfl⟩)
      clear r3 g3 HV
      go_wp2
      go_roundg (L - (j + 1))
      case measure => have := hg.out; omega
      case rel => exact ⟨j + 1, V.set j (Z.value j), by simp, ⟨by have := hg.out; omega⟩, HB3, HR3, HV3⟩
    · have hd2 : decide ((j : Int) < (L : Int)) = false := zqu (by omega)
      have Q2 : (j < L) = False := eq_false hlt
      have hv : V = Z.values := by
        have := HV.out.2
        rw [List.take_of_length_le (by rw [HV.out.1]; omega)] at this
        rw [this, show j = L by have := hg.out; omega]
        unfold Sol.values
        rw [HL.out]; rfl
      subst hv
      go_wp2
      go_ret
      exact ⟨_, rfl, HR.out, HB.out⟩
def sequiturbase_Ints.l0 : Nat → List Int → List Int → Int → Option (Bool)
  | 0, _, _, _ => none
  | k + 1, x0, x1, x5 => if x5 < (x0.length : Int) then (if 0 ≤ x5 then (if x5 < (x1.length : Int) then (if (rd x0 x5) = (rd x1 x5) then (sequiturbase_Ints.l0 k x0 x1 (wrap64 (x5 + 1))) else (some false)) else (none)) else (none)) else (some true)
def sequiturbase_Ints.f (k : Nat) (l0 : List Int) (l1 : List Int) : Option (Bool) := if (l0.length : Int) = (l1.length : Int) then (sequiturbase_Ints.l0 k l0 l1 0) else (some false)
theorem sequiturbase_Ints.mono_l : ∀ k, (∀ y0 y1 y2, LeO (sequiturbase_Ints.l0 k y0 y1 y2) (sequiturbase_Ints.l0 (k + 1) y0 y1 y2))
  | 0 => fun _ _ _ r h => by simp [sequiturbase_Ints.l0] at h
  | k + 1 => by
    have ih0 := sequiturbase_Ints.mono_l k
    · intro y0 y1 y2
      unfold sequiturbase_Ints.l0
      repeat' first
      | (with_reducible exact ih0 _ _ _)
      | (with_reducible exact LeO.refl _)
      | (with_reducible exact LeO.none _)
      | (with_reducible refine LeO.ite ?_ ?_)
      | (with_reducible refine LeO.bind ?_ (fun _ => ?_))
      | exact ih0 _ _ _
      | exact LeO.none _
      | refine LeO.ite ?_ ?_
      | refine LeO.bind ?_ (fun _ => ?_)
theorem sequiturbase_Ints.mono : ∀ a0 a1 k, LeO (sequiturbase_Ints.f k a0 a1) (sequiturbase_Ints.f (k + 1) a0 a1) := by
  intro a0 a1 k
  have ih0 := sequiturbase_Ints.mono_l k
  unfold sequiturbase_Ints.f
  repeat' first
      | (with_reducible exact ih0 _ _ _)
      | (with_reducible exact LeO.refl _)
      | (with_reducible exact LeO.none _)
      | (with_reducible refine LeO.ite ?_ ?_)
      | (with_reducible refine LeO.bind ?_ (fun _ => ?_))
      | exact ih0 _ _ _
      | exact LeO.none _
      | refine LeO.ite ?_ ?_
      | refine LeO.bind ?_ (fun _ => ?_)
set_option maxHeartbeats 8000000 in
set_option maxRecDepth 100000 in
theorem sequiturbase_Ints.calls (k : Nat) (A0 : Option Addr) (c0 : Nat) (l0 : List Int) (A1 : Option Addr) (c1 : Nat) (l1 : List Int) (r : Bool) (w : World) (hr0 : Kd.C (Kd.int .i64) w A0 l0.length l0) (hc0 : l0.length ≤ c0) (hr1 : Kd.C (Kd.int .i64) w A1 l1.length l1) (hc1 : l1.length ≤ c1) (h : sequiturbase_Ints.f k l0 l1 = some r) :
    Calls Try.prog 22 #[.slice A0 l0.length c0, .slice A1 l1.length c1] w fun e w' => e = .returned (.bool r) ∧ Drawn0 w w' := by
  have HR0 := K0 hr0
  have HC0 := K0 hc0
  clear hr0 hc0
  have HR1 := K0 hr1
  have HC1 := K0 hc1
  clear hr1 hc1
  have H : (if (l0.length : Int) = (l1.length : Int) then (sequiturbase_Ints.l0 k l0 l1 0) else (some false)) = some r := h
  clear h
  by_cases c3 : (l0.length : Int) = (l1.length : Int)
  · rw [if_pos c3] at H
    have c3b0 : ((l0.length : Int) == (l1.length : Int)) = true := beq_iff_eq.mpr c3
    have c3b1 : ((l0.length : Int) != (l1.length : Int)) = false := bne_eq_false_iff_eq.mpr c3
    have c3b2 : (l0.length == l1.length) = true := by first | simpa using c3 | (simp at c3 ⊢; omega)
    clear c3
    have H' := K0 H
    clear H
    go_enter Try.func22, Try.ntmps22
    go_wp2
    repeat (go_quiet (fail); try go_wp2)
    go_loopg [5] k (fun kq v5 w' => ∃ (x5_1 : Int), v5 = .int .i64 x5_1 ∧ Aside0 (sequiturbase_Ints.l0 kq l0 l1 x5_1 = some r) ∧ Aside0 (kq ≤ k) ∧ Drawn0 w w')
    case atStart => exact ⟨(0), (by first | rfl | (simp; done) | (simp [*]; done)), H', ⟨zqx _⟩, by repeat (first | exact Drawn0.refl _ | apply Drawn0.step)⟩
    case round =>
      clear H'
      try clear c1
      try clear c2
      try clear p2
      try clear c3
      try clear c3b0
      try clear c3b1
      try clear c3b2
      obtain ⟨x5_1, rfl, HA, HK1, ⟨m1, rfl⟩⟩ := hrel
      cases gk with
      | zero => exact absurd HA.out (by simp [sequiturbase_Ints.l0])
      | succ k1 =>
        have H := HA.out
        clear HA
        simp only [sequiturbase_Ints.l0] at H
        by_cases c4 : x5_1 < (l0.length : Int)
        · rw [if_pos c4] at H
          have c4b0 : decide (x5_1 < (l0.length : Int)) = true := zqt c4
          clear c4
          by_cases c5 : 0 ≤ x5_1
          · rw [if_pos c5] at H
            have c5b0 : decide (0 ≤ x5_1) = true := zqt c5
            clear c5
            by_cases c6 : x5_1 < (l1.length : Int)
            · rw [if_pos c6] at H
              have c6b0 : decide (x5_1 < (l1.length : Int)) = true := zqt c6
              clear c6
              by_cases c7 : (rd l0 x5_1) = (rd l1 x5_1)
              · rw [if_pos c7] at H
                have c7b0 : ((rd l0 x5_1) == (rd l1 x5_1)) = true := beq_iff_eq.mpr c7
                have c7b1 : ((rd l0 x5_1) != (rd l1 x5_1)) = false := bne_eq_false_iff_eq.mpr c7
                clear c7
                as_aux_lemma =>
                  have H' := K0 H
                  clear H
                  have p139 : 0 ≤ (x5_1 : Int) := zqe (by first | (with_reducible assumption) | assumption)
                  have q139 : x5_1 < (l0.length : Int) := zqe (by first | (with_reducible assumption) | assumption)
                  obtain ⟨ad139, e139, hx139_0⟩ := Kd.at_int HR0.out x5_1 p139 q139
                  cases e139
                  replace p139 := eq_true p139
                  replace q139 := eq_true q139
                  have p140 : 0 ≤ (x5_1 : Int) := zqe (by first | (with_reducible assumption) | assumption)
                  have q140 : x5_1 < (l1.length : Int) := zqe (by first | (with_reducible assumption) | assumption)
                  obtain ⟨ad140, e140, hx140_0⟩ := Kd.at_int HR1.out x5_1 p140 q140
                  cases e140
                  replace p140 := eq_true p140
                  replace q140 := eq_true q140
                  go_wp2
                  repeat (go_quiet (fail); try go_wp2)
                  go_roundg k1
                  case measure => have := HK1.out; omega
                  case rel => exact ⟨(wrap64 (x5_1 + 1)), (by first | rfl | (simp; done) | (simp [*]; done)), H', ⟨by have := HK1.out; omega⟩, by repeat (first | exact Drawn0.refl _ | apply Drawn0.step)⟩
              · rw [if_neg c7] at H
                have c7b0 : ((rd l0 x5_1) == (rd l1 x5_1)) = false := beq_eq_false_iff_ne.mpr c7
                have c7b1 : ((rd l0 x5_1) != (rd l1 x5_1)) = true := bne_iff_ne.mpr c7
                as_aux_lemma =>
                  obtain rfl := zqv H
                  have p139 : 0 ≤ (x5_1 : Int) := zqe (by first | (with_reducible assumption) | assumption)
                  have q139 : x5_1 < (l0.length : Int) := zqe (by first | (with_reducible assumption) | assumption)
                  obtain ⟨ad139, e139, hx139_0⟩ := Kd.at_int HR0.out x5_1 p139 q139
                  cases e139
                  replace p139 := eq_true p139
                  replace q139 := eq_true q139
                  have p140 : 0 ≤ (x5_1 : Int) := zqe (by first | (with_reducible assumption) | assumption)
                  have q140 : x5_1 < (l1.length : Int) := zqe (by first | (with_reducible assumption) | assumption)
                  obtain ⟨ad140, e140, hx140_0⟩ := Kd.at_int HR1.out x5_1 p140 q140
                  cases e140
                  replace p140 := eq_true p140
                  replace q140 := eq_true q140
                  go_wp2
                  repeat (go_quiet (fail); try go_wp2)
                  go_ret
                  exact ⟨by first | rfl | (simp; done) | (simp [*]; done), by repeat (first | exact Drawn0.refl _ | apply Drawn0.step)⟩
            · rw [if_neg c6] at H
              exact absurd H (by simp)
          · rw [if_neg c5] at H
            exact absurd H (by simp)
        · rw [if_neg c4] at H
          have c4b0 : decide (x5_1 < (l0.length : Int)) = false := zqu c4
          clear c4
          as_aux_lemma =>
            obtain rfl := zqv H
            go_wp2
            repeat (go_quiet (fail); try go_wp2)
            go_ret
            exact ⟨by first | rfl | (simp; done) | (simp [*]; done), by repeat (first | exact Drawn0.refl _ | apply Drawn0.step)⟩
  · rw [if_neg c3] at H
    have c3b0 : ((l0.length : Int) == (l1.length : Int)) = false := beq_eq_false_iff_ne.mpr c3
    have c3b1 : ((l0.length : Int) != (l1.length : Int)) = true := bne_iff_ne.mpr c3
    have c3b2 : (l0.length == l1.length) = false := by first | simpa using c3 | (simp at c3 ⊢; omega)
    as_aux_lemma =>
      obtain rfl := zqv H
      go_enter Try.func22, Try.ntmps22
      go_wp2
      repeat (go_quiet (fail); try go_wp2)
      go_ret
      exact ⟨by first | rfl | (simp; done) | (simp [*]; done), by repeat (first | exact Drawn0.refl _ | apply Drawn0.step)⟩
def sequiturref19_True.f (a0 : Int) (l1 : List Bool) : Option (Bool) := if a0 < 0 then (if (wrap64 (-a0)) ≤ (l1.length : Int) then (if 0 ≤ (wrap64 ((wrap64 (-a0)) - 1)) then (if (wrap64 ((wrap64 (-a0)) - 1)) < (l1.length : Int) then (some (!(rdOf false l1 (wrap64 ((wrap64 (-a0)) - 1))))) else (none)) else (none)) else (some false)) else (if a0 > 0 then (if a0 ≤ (l1.length : Int) then (if 0 ≤ (wrap64 (a0 - 1)) then (if (wrap64 (a0 - 1)) < (l1.length : Int) then (some (rdOf false l1 (wrap64 (a0 - 1)))) else (none)) else (none)) else (some false)) else (some false))
set_option maxHeartbeats 8000000 in
set_option maxRecDepth 100000 in
theorem sequiturref19_True.calls (a0 : Int) (A1 : Option Addr) (c1 : Nat) (l1 : List Bool) (r : Bool) (w : World) (hr1 : Kd.C Kd.bool w A1 l1.length l1) (hc1 : l1.length ≤ c1) (h : sequiturref19_True.f a0 l1 = some r) :
    Calls Try.prog 67 #[.int .i64 a0, .slice A1 l1.length c1] w fun e w' => e = .returned (.bool r) ∧ Drawn0 w w' := by
  have HR1 := K0 hr1
  have HC1 := K0 hc1
  clear hr1 hc1
  have H : (if a0 < 0 then (if (wrap64 (-a0)) ≤ (l1.length : Int) then (if 0 ≤ (wrap64 ((wrap64 (-a0)) - 1)) then (if (wrap64 ((wrap64 (-a0)) - 1)) < (l1.length : Int) then (some (!(rdOf false l1 (wrap64 ((wrap64 (-a0)) - 1))))) else (none)) else (none)) else (some false)) else (if a0 > 0 then (if a0 ≤ (l1.length : Int) then (if 0 ≤ (wrap64 (a0 - 1)) then (if (wrap64 (a0 - 1)) < (l1.length : Int) then (some (rdOf false l1 (wrap64 (a0 - 1)))) else (none)) else (none)) else (some false)) else (some false))) = some r := h
  clear h
  by_cases c3 : a0 < 0
  · rw [if_pos c3] at H
    have c3b0 : decide (a0 < 0) = true := zqt c3
    clear c3
    by_cases c4 : (wrap64 (-a0)) ≤ (l1.length : Int)
    · rw [if_pos c4] at H
      have c4b0 : decide ((wrap64 (-a0)) ≤ (l1.length : Int)) = true := zqt c4
      clear c4
      obtain ⟨ji5, hji5⟩ : ∃ j_ : Int, (wrap64 ((wrap64 (-a0)) - 1)) = j_ := ⟨_, rfl⟩
      replace H : (if 0 ≤ (ji5) then (if (ji5) < (l1.length : Int) then (some (!(rdOf false l1 (ji5)))) else (none)) else (none)) = some r := by first | (rw [hji5] at H; exact H) | (simp only [hji5] at H ⊢; exact H)
      have hji5w : (IntKind.i64.wrap ((wrap64 (-a0)) - 1)) = ji5 := (i64_w _).trans hji5
      by_cases c6 : 0 ≤ (ji5)
      · rw [if_pos c6] at H
        have c6b0 : decide (0 ≤ (ji5)) = true := zqt c6
        clear c6
        by_cases c7 : (ji5) < (l1.length : Int)
        · rw [if_pos c7] at H
          have c7b0 : decide ((ji5) < (l1.length : Int)) = true := zqt c7
          clear c7
          as_aux_lemma =>
            obtain rfl := zqv H
            have p141 : 0 ≤ ((ji5) : Int) := zqe (by first | (with_reducible assumption) | assumption)
            have q141 : (ji5) < (l1.length : Int) := zqe (by first | (with_reducible assumption) | assumption)
            obtain ⟨ad141, e141, hx141_0⟩ := Kd.at_bool HR1.out (ji5) p141 q141
            cases e141
            replace p141 := eq_true p141
            replace q141 := eq_true q141
            go_enter Try.func67, Try.ntmps67
            go_wp2
            go_ret
            exact ⟨by first | rfl | (simp; done) | (simp only [← hji5] <;> (first | rfl | simp)) | (simp [*]; done), by repeat (first | exact Drawn0.refl _ | apply Drawn0.step)⟩
        · rw [if_neg c7] at H
          exact absurd H (by simp)
      · rw [if_neg c6] at H
        exact absurd H (by simp)
    · rw [if_neg c4] at H
      have c4b0 : decide ((wrap64 (-a0)) ≤ (l1.length : Int)) = false := zqu c4
      clear c4
      as_aux_lemma =>
        obtain rfl := zqv H
        go_enter Try.func67, Try.ntmps67
        go_wp2
        go_ret
        exact ⟨by first | rfl | (simp; done) | (simp [*]; done), by repeat (first | exact Drawn0.refl _ | apply Drawn0.step)⟩
  · rw [if_neg c3] at H
    have c3b0 : decide (a0 < 0) = false := zqu c3
    clear c3
    by_cases c8 : a0 > 0
    · rw [if_pos c8] at H
      have c8b0 : decide (0 < a0) = true := zqt c8
      clear c8
      by_cases c9 : a0 ≤ (l1.length : Int)
      · rw [if_pos c9] at H
        have c9b0 : decide (a0 ≤ (l1.length : Int)) = true := zqt c9
        clear c9
        obtain ⟨ji10, hji10⟩ : ∃ j_ : Int, (wrap64 (a0 - 1)) = j_ := ⟨_, rfl⟩
        replace H : (if 0 ≤ (ji10) then (if (ji10) < (l1.length : Int) then (some (rdOf false l1 (ji10))) else (none)) else (none)) = some r := by first | (rw [hji10] at H; exact H) | (simp only [hji10] at H ⊢; exact H)
        have hji10w : (IntKind.i64.wrap (a0 - 1)) = ji10 := (i64_w _).trans hji10
        by_cases c11 : 0 ≤ (ji10)
        · rw [if_pos c11] at H
          have c11b0 : decide (0 ≤ (ji10)) = true := zqt c11
          clear c11
          by_cases c12 : (ji10) < (l1.length : Int)
          · rw [if_pos c12] at H
            have c12b0 : decide ((ji10) < (l1.length : Int)) = true := zqt c12
            clear c12
            as_aux_lemma =>
              obtain rfl := zqv H
              have p142 : 0 ≤ ((ji10) : Int) := zqe (by first | (with_reducible assumption) | assumption)
              have q142 : (ji10) < (l1.length : Int) := zqe (by first | (with_reducible assumption) | assumption)
              obtain ⟨ad142, e142, hx142_0⟩ := Kd.at_bool HR1.out (ji10) p142 q142
              cases e142
              replace p142 := eq_true p142
              replace q142 := eq_true q142
              go_enter Try.func67, Try.ntmps67
              go_wp2
              go_ret
              exact ⟨by first | rfl | (simp; done) | (simp only [← hji10] <;> (first | rfl | simp)) | (simp [*]; done), by repeat (first | exact Drawn0.refl _ | apply Drawn0.step)⟩
          · rw [if_neg c12] at H
            exact absurd H (by simp)
        · rw [if_neg c11] at H
          exact absurd H (by simp)
      · rw [if_neg c9] at H
        have c9b0 : decide (a0 ≤ (l1.length : Int)) = false := zqu c9
        clear c9
        as_aux_lemma =>
          obtain rfl := zqv H
          go_enter Try.func67, Try.ntmps67
          go_wp2
          go_ret
          exact ⟨by first | rfl | (simp; done) | (simp [*]; done), by repeat (first | exact Drawn0.refl _ | apply Drawn0.step)⟩
    · rw [if_neg c8] at H
      have c8b0 : decide (0 < a0) = false := zqu c8
      clear c8
      as_aux_lemma =>
        obtain rfl := zqv H
        go_enter Try.func67, Try.ntmps67
        go_wp2
        go_ret
        exact ⟨by first | rfl | (simp; done) | (simp [*]; done), by repeat (first | exact Drawn0.refl _ | apply Drawn0.step)⟩
def sequiturref19_Holds.l0 : Nat → List Int → List Bool → Int → Option (Bool)
  | 0, _, _, _ => none
  | k + 1, x0, x1, x5 => if x5 < (x0.length : Int) then (if 0 ≤ x5 then ((sequiturref19_True.f (rd x0 x5) x1).bind fun t144 => (if t144 = true then (some true) else (sequiturref19_Holds.l0 k x0 x1 (wrap64 (x5 + 1))))) else (none)) else (some false)
def sequiturref19_Holds.f (k : Nat) (l0 : List Int) (l1 : List Bool) : Option (Bool) := sequiturref19_Holds.l0 k l0 l1 0
set_option maxHeartbeats 8000000 in
set_option maxRecDepth 100000 in
theorem sequiturref19_Holds.calls (k : Nat) (A0 : Option Addr) (c0 : Nat) (l0 : List Int) (A1 : Option Addr) (c1 : Nat) (l1 : List Bool) (r : Bool) (w : World) (hr0 : Kd.C (Kd.int .i64) w A0 l0.length l0) (hc0 : l0.length ≤ c0) (hr1 : Kd.C Kd.bool w A1 l1.length l1) (hc1 : l1.length ≤ c1) (h : sequiturref19_Holds.f k l0 l1 = some r) :
    Calls Try.prog 48 #[.slice A0 l0.length c0, .slice A1 l1.length c1] w fun e w' => e = .returned (.bool r) ∧ Drawn0 w w' := by
  have HR0 := K0 hr0
  have HC0 := K0 hc0
  clear hr0 hc0
  have HR1 := K0 hr1
  have HC1 := K0 hc1
  clear hr1 hc1
  have H : (sequiturref19_Holds.l0 k l0 l1 0) = some r := h
  clear h
  have H' := K0 H
  clear H
  go_enter Try.func48, Try.ntmps48
  go_wp2
  go_loopg [5] k (fun kq v5 w' => ∃ (x5_1 : Int), v5 = .int .i64 x5_1 ∧ Aside0 (sequiturref19_Holds.l0 kq l0 l1 x5_1 = some r) ∧ Aside0 (kq ≤ k) ∧ Drawn0 w w')
  case atStart => exact ⟨(0), (by first | rfl | (simp; done) | (simp [*]; done)), H', ⟨zqx _⟩, by repeat (first | exact Drawn0.refl _ | apply Drawn0.step)⟩
  case round =>
    clear H'
    try clear c1
    try clear p2
    obtain ⟨x5_1, rfl, HA, HK1, ⟨m1, rfl⟩⟩ := hrel
    cases gk with
    | zero => exact absurd HA.out (by simp [sequiturref19_Holds.l0])
    | succ k1 =>
      have H := HA.out
      clear HA
      simp only [sequiturref19_Holds.l0] at H
      by_cases c3 : x5_1 < (l0.length : Int)
      · rw [if_pos c3] at H
        have c3b0 : decide (x5_1 < (l0.length : Int)) = true := zqt c3
        clear c3
        by_cases c4 : 0 ≤ x5_1
        · rw [if_pos c4] at H
          have c4b0 : decide (0 ≤ x5_1) = true := zqt c4
          clear c4
          replace H := Option.bind_eq_some_iff.mp H
          obtain ⟨t144, A50, H⟩ := H
          replace H : (if t144 = true then (some true) else (sequiturref19_Holds.l0 k1 l0 l1 (wrap64 (x5_1 + 1)))) = some r := H
          have A5 := K0 A50
          clear A50
          by_cases c6 : t144 = true
          · subst c6
            have H1 : (some true) = some r := by rw [if_pos rfl] at H; exact H
            clear H
            have H := H1
            clear H1
            as_aux_lemma =>
              obtain rfl := zqv H
              have p143 : 0 ≤ (x5_1 : Int) := zqe (by first | (with_reducible assumption) | assumption)
              have q143 : x5_1 < (l0.length : Int) := zqe (by first | (with_reducible assumption) | assumption)
              obtain ⟨ad143, e143, hx143_0⟩ := Kd.at_int HR0.out x5_1 p143 q143
              cases e143
              replace p143 := eq_true p143
              replace q143 := eq_true q143
              go_wp2_with (first | ((with_reducible refine gate_callee (f := 67) rfl ?_); refine goesL_ (some 17) rfl rfl Try.func67 (by kernel_rfl) rfl #[.int .i64 (rd l0 x5_1), .slice A1 l1.length c1] rfl (by (try simp only [List.map_toArray, List.map_cons, List.map_nil]); first | done | rfl | (simp only [zqq, zqr]; rfl)) ?_; (with_reducible refine (sequiturref19_True.calls (rd l0 x5_1) _ _ l1 true _ ?side1 ?side2 A5.out).mono ?_); (case side1 => repeat (first | exact HR1.out | (with_reducible refine Kd.C_alloc ?_ _) | (with_reducible refine Kd.C_drewN ?_ _) | (with_reducible refine Kd.C_drew ?_))); (case side2 => exact HC1.out); rintro e w' ⟨rfl, ⟨nd, rfl⟩⟩; refine ⟨_, rfl, ?_⟩))
              go_ret
              exact ⟨by first | rfl | (simp; done) | (simp [*]; done), by repeat (first | exact Drawn0.refl _ | apply Drawn0.step)⟩
          · replace c6 := Bool.eq_false_iff.mpr c6
            subst c6
            have H1 : (sequiturref19_Holds.l0 k1 l0 l1 (wrap64 (x5_1 + 1))) = some r := by rw [if_neg (show ¬ (false = true) by decide)] at H; exact H
            clear H
            have H := H1
            clear H1
            as_aux_lemma =>
              have H' := K0 H
              clear H
              have p143 : 0 ≤ (x5_1 : Int) := zqe (by first | (with_reducible assumption) | assumption)
              have q143 : x5_1 < (l0.length : Int) := zqe (by first | (with_reducible assumption) | assumption)
              obtain ⟨ad143, e143, hx143_0⟩ := Kd.at_int HR0.out x5_1 p143 q143
              cases e143
              replace p143 := eq_true p143
              replace q143 := eq_true q143
              go_wp2_with (first | ((with_reducible refine gate_callee (f := 67) rfl ?_); refine goesL_ (some 17) rfl rfl Try.func67 (by kernel_rfl) rfl #[.int .i64 (rd l0 x5_1), .slice A1 l1.length c1] rfl (by (try simp only [List.map_toArray, List.map_cons, List.map_nil]); first | done | rfl | (simp only [zqq, zqr]; rfl)) ?_; (with_reducible refine (sequiturref19_True.calls (rd l0 x5_1) _ _ l1 false _ ?side1 ?side2 A5.out).mono ?_); (case side1 => repeat (first | exact HR1.out | (with_reducible refine Kd.C_alloc ?_ _) | (with_reducible refine Kd.C_drewN ?_ _) | (with_reducible refine Kd.C_drew ?_))); (case side2 => exact HC1.out); rintro e w' ⟨rfl, ⟨nd, rfl⟩⟩; refine ⟨_, rfl, ?_⟩))
              go_roundg k1
              case measure => have := HK1.out; omega
              case rel => exact ⟨(wrap64 (x5_1 + 1)), (by first | rfl | (simp; done) | (simp [*]; done)), H', ⟨by have := HK1.out; omega⟩, by repeat (first | exact Drawn0.refl _ | apply Drawn0.step)⟩
        · rw [if_neg c4] at H
          exact absurd H (by simp)
      · rw [if_neg c3] at H
        have c3b0 : decide (x5_1 < (l0.length : Int)) = false := zqu c3
        clear c3
        as_aux_lemma =>
          obtain rfl := zqv H
          go_wp2
          go_ret
          exact ⟨by first | rfl | (simp; done) | (simp [*]; done), by repeat (first | exact Drawn0.refl _ | apply Drawn0.step)⟩
def sequiturref19_Every.l0 : Nat → List (List Int) → List Bool → Int → Option (Bool)
  | 0, _, _, _ => none
  | k + 1, x0, x1, x5 => if x5 < (x0.length : Int) then (if 0 ≤ x5 then ((sequiturref19_Holds.f k (rd_L3 x0 x5) x1).bind fun t146 => (if t146 = true then (sequiturref19_Every.l0 k x0 x1 (wrap64 (x5 + 1))) else (some false))) else (none)) else (some true)
def sequiturref19_Every.f (k : Nat) (l0 : List (List Int)) (l1 : List Bool) : Option (Bool) := sequiturref19_Every.l0 k l0 l1 0
set_option maxHeartbeats 8000000 in
set_option maxRecDepth 100000 in
theorem sequiturref19_Every.calls (k : Nat) (A0 : Option Addr) (c0 : Nat) (l0 : List (List Int)) (A1 : Option Addr) (c1 : Nat) (l1 : List Bool) (r : Bool) (w : World) (hr0 : Kd.C (Kd.slice 3 (Kd.int .i64)) w A0 l0.length l0) (hc0 : l0.length ≤ c0) (hr1 : Kd.C Kd.bool w A1 l1.length l1) (hc1 : l1.length ≤ c1) (h : sequiturref19_Every.f k l0 l1 = some r) :
    Calls Try.prog 28 #[.slice A0 l0.length c0, .slice A1 l1.length c1] w fun e w' => e = .returned (.bool r) ∧ Drawn0 w w' := by
  have HR0 := K0 hr0
  have HC0 := K0 hc0
  clear hr0 hc0
  have HR1 := K0 hr1
  have HC1 := K0 hc1
  clear hr1 hc1
  have H : (sequiturref19_Every.l0 k l0 l1 0) = some r := h
  clear h
  have H' := K0 H
  clear H
  go_enter Try.func28, Try.ntmps28
  go_wp2
  go_loopg [5] k (fun kq v5 w' => ∃ (x5_1 : Int), v5 = .int .i64 x5_1 ∧ Aside0 (sequiturref19_Every.l0 kq l0 l1 x5_1 = some r) ∧ Aside0 (kq ≤ k) ∧ Drawn0 w w')
  case atStart => exact ⟨(0), (by first | rfl | (simp; done) | (simp [*]; done)), H', ⟨zqx _⟩, by repeat (first | exact Drawn0.refl _ | apply Drawn0.step)⟩
  case round =>
    clear H'
    try clear c1
    try clear c2
    try clear p2
    obtain ⟨x5_1, rfl, HA, HK1, ⟨m1, rfl⟩⟩ := hrel
    cases gk with
    | zero => exact absurd HA.out (by simp [sequiturref19_Every.l0])
    | succ k1 =>
      have H := HA.out
      clear HA
      simp only [sequiturref19_Every.l0] at H
      by_cases c3 : x5_1 < (l0.length : Int)
      · rw [if_pos c3] at H
        have c3b0 : decide (x5_1 < (l0.length : Int)) = true := zqt c3
        clear c3
        by_cases c4 : 0 ≤ x5_1
        · rw [if_pos c4] at H
          have c4b0 : decide (0 ≤ x5_1) = true := zqt c4
          clear c4
          replace H := Option.bind_eq_some_iff.mp H
          obtain ⟨t146, A50, H⟩ := H
          replace H : (if t146 = true then (sequiturref19_Every.l0 k1 l0 l1 (wrap64 (x5_1 + 1))) else (some false)) = some r := H
          have A5 := K0 A50
          clear A50
          by_cases c6 : t146 = true
          · subst c6
            have H1 : (sequiturref19_Every.l0 k1 l0 l1 (wrap64 (x5_1 + 1))) = some r := by rw [if_pos rfl] at H; exact H
            clear H
            have H := H1
            clear H1
            as_aux_lemma =>
              have H' := K0 H
              clear H
              have p145 : 0 ≤ (x5_1 : Int) := zqe (by first | (with_reducible assumption) | assumption)
              have q145 : x5_1 < (l0.length : Int) := zqe (by first | (with_reducible assumption) | assumption)
              obtain ⟨ad145, A145_0, c145_0, e145, hx145_0, hl145_0, hi145_0⟩ := at_L3 HR0.out x5_1 p145 q145
              cases e145
              have HR145_0 := K0 hi145_0
              have HC145_0 := K0 hl145_0
              clear hi145_0 hl145_0
              replace p145 := eq_true p145
              replace q145 := eq_true q145
              go_wp2_with (first | ((with_reducible refine gate_callee (f := 48) rfl ?_); refine goesL_ (some 17) rfl rfl Try.func48 (by kernel_rfl) rfl #[.slice A145_0 (rd_L3 l0 x5_1).length c145_0, .slice A1 l1.length c1] rfl (by (try simp only [List.map_toArray, List.map_cons, List.map_nil]); first | done | rfl | (simp only [zqq, zqr]; rfl)) ?_; (with_reducible refine (sequiturref19_Holds.calls k1 _ _ (rd_L3 l0 x5_1) _ _ l1 true _ ?side1 ?side2 ?side3 ?side4 A5.out).mono ?_); (case side1 => repeat (first | exact HR145_0.out | (with_reducible refine Kd.C_alloc ?_ _) | (with_reducible refine Kd.C_drewN ?_ _) | (with_reducible refine Kd.C_drew ?_))); (case side2 => exact HC145_0.out); (case side3 => repeat (first | exact HR1.out | (with_reducible refine Kd.C_alloc ?_ _) | (with_reducible refine Kd.C_drewN ?_ _) | (with_reducible refine Kd.C_drew ?_))); (case side4 => exact HC1.out); rintro e w' ⟨rfl, ⟨nd, rfl⟩⟩; refine ⟨_, rfl, ?_⟩))
              go_roundg k1
              case measure => have := HK1.out; omega
              case rel => exact ⟨(wrap64 (x5_1 + 1)), (by first | rfl | (simp; done) | (simp [*]; done)), H', ⟨by have := HK1.out; omega⟩, by repeat (first | exact Drawn0.refl _ | apply Drawn0.step)⟩
          · replace c6 := Bool.eq_false_iff.mpr c6
            subst c6
            have H1 : (some false) = some r := by rw [if_neg (show ¬ (false = true) by decide)] at H; exact H
            clear H
            have H := H1
            clear H1
            as_aux_lemma =>
              obtain rfl := zqv H
              have p145 : 0 ≤ (x5_1 : Int) := zqe (by first | (with_reducible assumption) | assumption)
              have q145 : x5_1 < (l0.length : Int) := zqe (by first | (with_reducible assumption) | assumption)
              obtain ⟨ad145, A145_0, c145_0, e145, hx145_0, hl145_0, hi145_0⟩ := at_L3 HR0.out x5_1 p145 q145
              cases e145
              have HR145_0 := K0 hi145_0
              have HC145_0 := K0 hl145_0
              clear hi145_0 hl145_0
              replace p145 := eq_true p145
              replace q145 := eq_true q145
              go_wp2_with (first | ((with_reducible refine gate_callee (f := 48) rfl ?_); refine goesL_ (some 17) rfl rfl Try.func48 (by kernel_rfl) rfl #[.slice A145_0 (rd_L3 l0 x5_1).length c145_0, .slice A1 l1.length c1] rfl (by (try simp only [List.map_toArray, List.map_cons, List.map_nil]); first | done | rfl | (simp only [zqq, zqr]; rfl)) ?_; (with_reducible refine (sequiturref19_Holds.calls k1 _ _ (rd_L3 l0 x5_1) _ _ l1 false _ ?side1 ?side2 ?side3 ?side4 A5.out).mono ?_); (case side1 => repeat (first | exact HR145_0.out | (with_reducible refine Kd.C_alloc ?_ _) | (with_reducible refine Kd.C_drewN ?_ _) | (with_reducible refine Kd.C_drew ?_))); (case side2 => exact HC145_0.out); (case side3 => repeat (first | exact HR1.out | (with_reducible refine Kd.C_alloc ?_ _) | (with_reducible refine Kd.C_drewN ?_ _) | (with_reducible refine Kd.C_drew ?_))); (case side4 => exact HC1.out); rintro e w' ⟨rfl, ⟨nd, rfl⟩⟩; refine ⟨_, rfl, ?_⟩))
              go_ret
              exact ⟨by first | rfl | (simp; done) | (simp [*]; done), by repeat (first | exact Drawn0.refl _ | apply Drawn0.step)⟩
        · rw [if_neg c4] at H
          exact absurd H (by simp)
      · rw [if_neg c3] at H
        have c3b0 : decide (x5_1 < (l0.length : Int)) = false := zqu c3
        clear c3
        as_aux_lemma =>
          obtain rfl := zqv H
          go_wp2
          go_ret
          exact ⟨by first | rfl | (simp; done) | (simp [*]; done), by repeat (first | exact Drawn0.refl _ | apply Drawn0.step)⟩
end Go.Proofs.Ytaibnbhgjnddnaa.P
