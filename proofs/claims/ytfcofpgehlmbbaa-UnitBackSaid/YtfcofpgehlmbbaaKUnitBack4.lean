import Derived.Test.YtfcofpgehlmbbaaKUnitBack1
import Derived.Test.YtfcofpgehlmbbaaKUnitBack3
-- Printed by wip/tools/pp.py of this claim's session (over the kit's print.py); Lean checks it.
namespace Go.Proofs.Ytfcofpgehlmbbaa.P
open Go.RowKit Go.Proofs.YtfcofpgehlmbbaaW.PrintWords Go.Proofs.YtfcofpgehlmbbaaW.PrintLast Go.Proofs.YtfcofpgehlmbbaaW.PrintMore
attribute [local go_sem] max2_int min2_int max_two min_two max_three min_three max_four min_four   -- for this text's walks alone
set_option linter.unusedVariables false
set_option linter.unusedSimpArgs false

-- SOLO
-- IMPORTS Derived.Test.YtfcofpgehlmbbaaPxAunitEng
/-! ### unit_Engine_Pop: function 33 -/
set_option maxRecDepth 100000 in
theorem eng_Pop.nobody (w : World) : Calls Try.prog 33 #[.pointer none] w fun e w' => e = .returned (.bool false) ∧ w' = w := by
  go_enter Try.func33, Try.ntmps33
  go_wp2
  go_ret
  exact ⟨rfl, rfl⟩
/-- A literal is not on the trail any more. -/
def Eng.del (E : Eng) (y : Int) : Eng := { E with ms := fun x => if x = y then none else E.ms x }
def Eng.dels (E : Eng) (l : List Int) : Eng := l.foldl Eng.del E
theorem Eng.dels_snoc (E : Eng) (l : List Int) (x : Int) : E.dels (l ++ [x]) = (E.dels l).del x := by
  unfold Eng.dels; rw [List.foldl_append]; rfl
theorem Eng.dels_same : ∀ (l : List Int) (E : Eng), (E.dels l).cls = E.cls ∧ (E.dels l).tr = E.tr ∧ (E.dels l).st = E.st ∧ (E.dels l).n = E.n ∧ (E.dels l).br = E.br ∧ (E.dels l).ws = E.ws ∧ (E.dels l).wt = E.wt ∧ ∀ x, (E.dels l).ms x = if x ∈ l then none else E.ms x
  | [], E => ⟨rfl, rfl, rfl, rfl, rfl, rfl, rfl, fun x => by rw [if_neg (by simp)]; rfl⟩
  | y :: l, E => by
    obtain ⟨h1, h2, h3, h4, h5, h6, h7, h8⟩ := Eng.dels_same l (E.del y)
    refine ⟨h1, h2, h3, h4, h5, h6, h7, fun x => ?_⟩
    have := h8 x
    show (Eng.dels (E.del y) l).ms x = _
    rw [this]
    by_cases hx : x ∈ l
    · rw [if_pos hx, if_pos (List.mem_cons_of_mem _ hx)]
    · rw [if_neg hx]
      show (if x = y then none else E.ms x) = _
      by_cases e : x = y
      · rw [if_pos e, if_pos (by rw [e]; simp)]
      · rw [if_neg e, if_neg (by simp [e, hx])]
/-- The last level's literals are taken back. -/
def Eng.popped (E : Eng) (a : Nat) : Eng := { E.dels (E.tr.drop a) with tr := E.tr.take a, st := E.st.dropLast, br := -1 }
def Eng.pop (k : Nat) (E : Eng) : Option (Eng × Bool) :=
  match E.st.getLast? with
  | none => some (E, false)
  | some a => if 0 ≤ a ∧ a.toNat ≤ E.tr.length then (Eng.settle k (E.popped a.toNat)).bind fun E' => some (E', true) else none
theorem EngIn.turn_del {w w1 : World} {B : Nat} {T : Tag} {E : Eng} {p : EngP} (h : EngIn w B T E p) (y : Int) (hM : MapI Try.prog 3 w1 p.bm (setI (mkV E.ms) y none)) (hg : w.grownBy w1 (some p.bm)) : EngIn w1 B T (E.del y) p ∧ Moved T T w w1 :=
  h.turn_ms (g := fun x => if x = y then none else E.ms x) (hM.congr fun x => by
    unfold setI
    by_cases e : x = y
    · rw [if_pos e]
      show none = Option.map _ (if x = y then none else E.ms x)
      rw [if_pos e]; rfl
    · rw [if_neg e]
      show Option.map _ (E.ms x) = Option.map _ (if x = y then none else E.ms x)
      rw [if_neg e]) hg (fun x hx => by
    have hx : (if x = y then none else E.ms x).isSome = true := hx
    by_cases e : x = y
    · rw [if_pos e] at hx; cases hx
    · rw [if_neg e] at hx; exact h.mst x hx)
set_option maxRecDepth 100000 in
set_option maxHeartbeats 4000000 in
theorem eng_Pop.calls (k : Nat) (E : Eng) (B : Nat) (T : Tag) (p : EngP) (E2 : Eng) (r : Bool) (w : World) (h : EngIn w B T E p) (hlit : E.Lits) (htr : ∀ x ∈ E.tr, (Lit.int .i64 x).wf = true) (hf : Eng.pop k E = some (E2, r)) :
    Calls Try.prog 33 #[.pointer (some ⟨B, 0, none⟩)] w fun e w' => e = .returned (.bool r) ∧ EngPost B T p E2 w w' := by
  unfold Eng.pop at hf
  have c5 := h.cells.2.2.2.2.2.1
  have c3 := h.cells.2.2.2.1
  have c4 := h.cells.2.2.2.2.1
  obtain ⟨A5, k5, e5⟩ := Kd.R_slice h.st
  obtain ⟨A3, k3, e3⟩ := Kd.R_slice h.tr
  rw [e5] at c5
  rw [e3] at c3
  have HE := Aside0.mk h
  have HL := Aside0.mk hlit
  have HTR := Aside0.mk htr
  cases hst : E.st.getLast? with
  | none =>
    rw [hst] at hf
    simp only [Option.some.injEq, Prod.mk.injEq] at hf
    obtain ⟨h1, h2⟩ := hf
    subst h2
    have H2 := Aside0.mk h1
    rw [List.getLast?_eq_none_iff.1 hst] at c5
    clear h1 h hlit htr e5 e3
    go_enter Try.func33, Try.ntmps33
    go_wp2
    go_ret
    rw [← H2.out]
    exact ⟨rfl, T, p, HE.out, Moved.refl _ _, rfl⟩
  | some a =>
    rw [hst] at hf
    obtain ⟨ss, hss⟩ : ∃ ss, E.st = ss ++ [a] := List.getLast?_eq_some_iff.1 hst
    replace hf : (if 0 ≤ a ∧ a.toNat ≤ E.tr.length then (Eng.settle k (E.popped a.toNat)).bind fun E' => some (E', true) else none) = some (E2, r) := hf
    by_cases ha : 0 ≤ a ∧ a.toNat ≤ E.tr.length
    · rw [if_pos ha] at hf
      obtain ⟨E3, hs, hf⟩ := Option.bind_eq_some_iff.mp hf
      simp only [Option.some.injEq, Prod.mk.injEq] at hf
      obtain ⟨rfl, rfl⟩ := hf
      have HS := Aside0.mk hs
      obtain ⟨ha0, ha1⟩ := ha
      obtain ⟨m, rfl⟩ : ∃ m : Nat, a = m := ⟨a.toNat, by omega⟩
      rw [Int.toNat_natCast] at ha1 HS
      obtain ⟨N5, hN5⟩ : ∃ N5, ss.length = N5 := ⟨_, rfl⟩
      have hl5 : E.st.length = N5 + 1 := by rw [hss, List.length_append, hN5]; rfl
      rw [hl5] at c5 e5
      obtain ⟨N3, hN3⟩ : ∃ N3, E.tr.length = N3 := ⟨_, rfl⟩
      rw [hN3] at c3 e3 ha1
      have hrs := h.st
      rw [e5] at hrs
      have hrt := h.tr
      rw [e3] at hrt
      have b5 := (Kd.R_reads' hrs).2.2.2.1
      have b3 : N3 ≤ 9223372036854775807 := by rw [← hN3]; exact (Kd.R_reads' hrt).2.2.2.1
      have bc3 : N3 ≤ k3 := (Kd.R_reads' hrt).2.1
      have bc5 := (Kd.R_reads' hrs).2.1
      obtain ⟨ad, e1, x1⟩ := Kd.at_int (Kd.R_reads' hrs).2.2 (N5 : Int) (by omega) (by rw [hl5]; omega)
      cases e1
      have hrd : rd E.st (N5 : Int) = m := by rw [hss]; simp [rd, ← hN5]
      rw [hrd] at x1
      simp only [Int.toNat_natCast] at x1
      obtain ⟨L5, hL5⟩ : ∃ L5, N5 + 1 = L5 := ⟨_, rfl⟩
      rw [hL5] at c5 e5
      have P0 : IntKind.i64.wrap ((L5 : Int) - 1) = (N5 : Int) := (Go.IntWalk.i64_left _).trans (by unfold wrap64; omega)
      have P1 : ((0 : Int) ≤ (N5 : Int)) = True := eq_true (by omega)
      have P2 : ((N5 : Int) < (L5 : Int)) = True := eq_true (by omega)
      have P2' : (N5 < L5) = True := eq_true (by omega)
      have P3 : ((L5 : Int) == 0) = false := beq_eq_false_iff_ne.2 (by omega)
      have P4 : (L5 == 0) = false := beq_eq_false_iff_ne.2 (by omega)
      have P5 : (N5 ≤ k5) = True := eq_true (by omega)
      have P6 : (m ≤ k3) = True := eq_true (by omega)
      clear hrs hrt hst hs h hlit htr
      have hb0 : Below w.heap.size w w.drew := below_drew (Below.refl _ _)
      have HD := Aside0.mk (HE.out.below hb0)
      have HM0 := Aside0.mk (Moved.of_below (T := T) hb0)
      have d5 := pw_cell_below hb0 c5
      have d3 := pw_cell_below hb0 c3
      have dx := pw_cell_below hb0 x1
      obtain ⟨ds, hds⟩ : ∃ ds, E.tr.drop m = ds := ⟨_, rfl⟩
      have hdl : ds.length = N3 - m := by rw [← hds, List.length_drop, hN3]
      have HCUT : Aside0 (∀ (W : World) (E1 : Eng), EngIn W B T E1 p → E1.tr = E.tr → Kd.C (Kd.int .i64) W (if k3 = m then A3 else A3.map (·.add m)) ds.length ds) := ⟨fun W E1 h1 h2 => by
        have h3 := h1.tr
        rw [h2, e3] at h3
        have h4 := (Kd.R_reads' h3).2.2
        have h5 := Kd.C_drop h4 (m := m) (c := k3) (by omega) (by omega)
        rw [show (Kd.int .i64).sz = 1 from rfl, Nat.mul_one, hds] at h5
        exact h5⟩
      have HDM : Aside0 (∀ y ∈ ds, (Lit.int .i64 y).wf = true) := ⟨fun y hy => HTR.out y (List.mem_of_mem_drop (by rw [hds]; exact hy))⟩
      have HDS := Aside0.mk hds
      have HE3 := Aside0.mk e3
      have HE5 := Aside0.mk e5
      have HN3 := Aside0.mk hN3
      have HSS := Aside0.mk hss
      have hm3 : m ≤ N3 := ha1
      clear e3 e5 hds hN3 hss hf ha0 ha1 c4 x1 c3
      obtain ⟨L, hL⟩ : ∃ L, N3 - m = L := ⟨_, rfl⟩
      rw [hL] at hdl
      go_enter Try.func33, Try.ntmps33
      go_wp2
      go_still (by kernel_rfl)
      go_wp2
      all_goals
        obtain ⟨A6, hA6⟩ : ∃ A6, (if k3 = m then A3 else A3.map (·.add m)) = A6 := ⟨_, rfl⟩
        rw [hA6] at HCUT
        first
        | (rw [if_neg (by assumption)] at hA6; rw [hA6])
        | (have hkm : k3 = m := by assumption
           rw [if_pos hkm] at hA6
           rw [← hA6] at HCUT
           have HL0 := Aside0.mk (show L = 0 by omega)
           clear hkm h
           obtain rfl := hA6)
        have hLb : L ≤ 9223372036854775807 := by omega
        go_loopg [5, 35] L (fun gg _ v35 wr => ∃ (j : Nat), v35 = .int .i64 (j : Int) ∧ Aside0 (j + gg = L) ∧ Aside0 (EngIn wr B T (E.dels (ds.take j)) p) ∧ Aside0 (Moved T T w wr))
        case atStart => exact ⟨0, rfl, ⟨by simp⟩, HD, HM0⟩
        case round =>
          clear d3 d5 dx c5 HD HM0 HE
          obtain ⟨j, rfl, hg, HE1, HM1⟩ := hrel
          obtain ⟨E1, hE1⟩ : ∃ E1, E.dels (ds.take j) = E1 := ⟨_, rfl⟩
          obtain ⟨s1, s2, s3, s4, s5, s6, s7, s8⟩ := E.dels_same (ds.take j)
          rw [hE1] at HE1 s1 s2 s3 s4 s5 s6 s7
          have c4 := HE1.out.cells.2.2.2.2.1
          by_cases hlt : j < ds.length
          · first
            | (exfalso; have := HL0.out; omega)
            | (obtain ⟨ad', e1, x1⟩ := Kd.at_int (HCUT.out wr E1 HE1.out s2) (j : Int) (by omega) (by omega)
               obtain ⟨y, hy⟩ : ∃ y, ds[j] = y := ⟨_, rfl⟩
               have hrd' : rd ds (j : Int) = y := by simp [rd, hlt, hy]
               rw [hrd'] at x1
               simp only [Int.toNat_natCast] at x1
               have hyw := HDM.out y (by rw [← hy]; exact List.getElem_mem hlt)
               have HY := Aside0.mk (show ds.take (j + 1) = ds.take j ++ [y] by rw [List.take_add_one, List.getElem?_eq_getElem hlt, hy]; rfl)
               have Q0 : ((0 : Int) ≤ (j : Int)) = True := eq_true (by omega)
               have Q1 : ((j : Int) < (L : Int)) = True := eq_true (by omega)
               have Q2 : (j < L) = True := eq_true (by omega)
               have hd : decide ((j : Int) < (L : Int)) = true := decide_eq_true (by omega)
               have HE1' := Aside0.mk hE1
               obtain ⟨w2, hrun, hM2, hg2⟩ := HE1.out.ms.drop Try.underlying3 Try.underlying91 hyw 0
               obtain ⟨t1, t2⟩ := HE1.out.turn_del y hM2 hg2
               have T1 := Aside0.mk t1
               have T2 := Aside0.mk (HM1.out.trans t2)
               clear hE1 s1 s2 s3 s4 s5 s6 s7 s8 hy hrd' hyw t1 t2 hM2 hg2
               rw [e1]
               go_wp2
               rw [← e1]
               go_roundg (L - (j + 1))
               case measure => have := hg.out; omega
               case rel => exact ⟨j + 1, by simp, ⟨by have := hg.out; omega⟩, ⟨by rw [HY.out, Eng.dels_snoc, HE1'.out]; exact T1.out⟩, T2⟩)
          · have hd : decide ((j : Int) < (L : Int)) = false := decide_eq_false (by omega)
            have Q2 : (j < L) = False := eq_false (by omega)
            rw [List.take_of_length_le (show ds.length ≤ j by omega)] at hE1 s8
            have HE1' := Aside0.mk hE1
            have S1 := Aside0.mk s1
            have S2 := Aside0.mk s2
            have S3 := Aside0.mk s3
            have hbw : Below wr.heap.size wr wr.drew := below_drew (Below.refl _ _)
            have HD1 := Aside0.mk (HE1.out.below hbw)
            have HMD := Aside0.mk (HM1.out.trans (Moved.of_below (T := T) hbw))
            have d3 : wr.drew.cell? ⟨B, 3, none⟩ = some (.slice A3 N3 k3) := by rw [HD1.out.cells.2.2.2.1, HE3.out]
            have d5 : wr.drew.cell? ⟨B, 5, none⟩ = some (.slice (some ad) L5 k5) := by rw [HD1.out.cells.2.2.2.2.2.1, HE5.out]
            have g0 := HD1.out.cells.2.2.2.2.2.2.2 3
            have g5 := HD1.out.cells.2.2.2.2.2.2.2 5
            have g6 := HD1.out.cells.2.2.2.2.2.2.2 6
            have r5 : wr.cell? ⟨B, 5, none⟩ = some (.slice (some ad) L5 k5) := by rw [HE1.out.cells.2.2.2.2.2.1, HE5.out]
            have r6 := HE1.out.cells.2.2.2.2.2.2.1
            have g35 := HE1.out.cells.2.2.2.2.2.2.2 5
            have g36 := HE1.out.cells.2.2.2.2.2.2.2 6
            have g33 := HE1.out.cells.2.2.2.2.2.2.2 3
            clear hE1 s1 s2 s3 s4 s5 s6 s7 hbw
            go_wp2
            refine start_ (n := 29) (S := fun w' => w'.cell? ⟨B, 3, none⟩ = some (.slice A3 N3 k3) ∧ w'.cell? ⟨B, 5, none⟩ = some (.slice (some ad) L5 k5)) (ds := [22, 25, 28]) #[false, false, false, false, false, false, false, false, false, false, false, false, false, false, false, false, false, false, false, false, false, false, false, false, false, false, false, false, false] (by kernel_rfl) rfl rfl ⟨d3, d5⟩ (fun hHeld => ?_)
            refine pure_ (i := 0) (N := some 45) (v := ?_) (a' := ?_) #[true, false, false, false, false, false, false, false, false, false, false, false, false, false, false, false, false, false, false, false, false, false, false, false, false, false, false, false, false] rfl rfl (by kernel_rfl) (fun _ _ _ h => h) (Or.inl ⟨by rfl, ?_⟩) ?_ ?_
            rotate_left
            · intro w'
              go_simp
              with_reducible rfl
            rotate_left
            · simp only [Act.put, List.setIfInBounds_toArray, List.set_cons_zero, List.set_cons_succ, i64_w, i32_w]
              rfl
            refine pure_ (i := 1) (N := some 46) (v := ?_) (a' := ?_) #[true, true, false, false, false, false, false, false, false, false, false, false, false, false, false, false, false, false, false, false, false, false, false, false, false, false, false, false, false] rfl rfl (by kernel_rfl) (fun _ _ _ h => h) (Or.inl ⟨by rfl, ?_⟩) ?_ ?_
            rotate_left
            · intro w'
              go_simp
              with_reducible rfl
            rotate_left
            · simp only [Act.put, List.setIfInBounds_toArray, List.set_cons_zero, List.set_cons_succ, i64_w, i32_w]
              rfl
            refine pure_ (i := 2) (N := some 47) (v := ?_) (a' := ?_) #[true, true, true, false, false, false, false, false, false, false, false, false, false, false, false, false, false, false, false, false, false, false, false, false, false, false, false, false, false] rfl rfl (by kernel_rfl) (fun _ _ _ h => h) (Or.inl ⟨by rfl, ?_⟩) ?_ ?_
            rotate_left
            · intro w'
              go_simp
              with_reducible rfl
            rotate_left
            · simp only [Act.put, List.setIfInBounds_toArray, List.set_cons_zero, List.set_cons_succ, i64_w, i32_w]
              rfl
            refine pure_ (i := 3) (N := some 48) (v := ?_) (a' := ?_) #[true, true, true, true, false, false, false, false, false, false, false, false, false, false, false, false, false, false, false, false, false, false, false, false, false, false, false, false, false] rfl rfl (by kernel_rfl) (fun _ _ _ h => h) (Or.inl ⟨by rfl, ?_⟩) ?_ ?_
            rotate_left
            · intro w'
              go_simp
              with_reducible rfl
            rotate_left
            · simp only [Act.put, List.setIfInBounds_toArray, List.set_cons_zero, List.set_cons_succ, i64_w, i32_w]
              rfl
            refine pure_ (i := 4) (N := some 49) (v := ?_) (a' := ?_) #[true, true, true, true, true, false, false, false, false, false, false, false, false, false, false, false, false, false, false, false, false, false, false, false, false, false, false, false, false] rfl rfl (by kernel_rfl) (fun _ _ _ h => h) (Or.inl ⟨by rfl, ?_⟩) ?_ ?_
            rotate_left
            · intro w'
              go_simp
              with_reducible rfl
            rotate_left
            · simp only [Act.put, List.setIfInBounds_toArray, List.set_cons_zero, List.set_cons_succ, i64_w, i32_w]
              rfl
            refine pure_ (i := 5) (N := some 50) (v := ?_) (a' := ?_) #[true, true, true, true, true, true, false, false, false, false, false, false, false, false, false, false, false, false, false, false, false, false, false, false, false, false, false, false, false] rfl rfl (by kernel_rfl) (fun _ _ _ h => h) (Or.inl ⟨by rfl, ?_⟩) ?_ ?_
            rotate_left
            · intro w'
              go_simp
              with_reducible rfl
            rotate_left
            · simp only [Act.put, List.setIfInBounds_toArray, List.set_cons_zero, List.set_cons_succ, i64_w, i32_w]
              rfl
            refine pure_ (i := 7) (N := some 52) (v := ?_) (a' := ?_) #[true, true, true, true, true, true, false, true, false, false, false, false, false, false, false, false, false, false, false, false, false, false, false, false, false, false, false, false, false] rfl rfl (by kernel_rfl) (fun _ _ _ h => h) (Or.inl ⟨by rfl, ?_⟩) ?_ ?_
            rotate_left
            · intro w'
              go_simp
              with_reducible rfl
            rotate_left
            · simp only [Act.put, List.setIfInBounds_toArray, List.set_cons_zero, List.set_cons_succ, i64_w, i32_w]
              rfl
            refine pure_ (i := 9) (N := some 54) (v := ?_) (a' := ?_) #[true, true, true, true, true, true, false, true, false, true, false, false, false, false, false, false, false, false, false, false, false, false, false, false, false, false, false, false, false] rfl rfl (by kernel_rfl) (fun _ _ _ h => h) (Or.inl ⟨by rfl, ?_⟩) ?_ ?_
            rotate_left
            · intro w'
              go_simp
              with_reducible rfl
            rotate_left
            · simp only [Act.put, List.setIfInBounds_toArray, List.set_cons_zero, List.set_cons_succ, i64_w, i32_w]
              rfl
            refine pure_ (i := 10) (N := some 55) (v := ?_) (a' := ?_) #[true, true, true, true, true, true, false, true, false, true, true, false, false, false, false, false, false, false, false, false, false, false, false, false, false, false, false, false, false] rfl rfl (by kernel_rfl) (fun _ _ _ h => h) (Or.inl ⟨by rfl, ?_⟩) ?_ ?_
            rotate_left
            · intro w'
              go_simp
              with_reducible rfl
            rotate_left
            · simp only [Act.put, List.setIfInBounds_toArray, List.set_cons_zero, List.set_cons_succ, i64_w, i32_w]
              rfl
            refine pure_ (i := 11) (N := some 56) (v := ?_) (a' := ?_) #[true, true, true, true, true, true, false, true, false, true, true, true, false, false, false, false, false, false, false, false, false, false, false, false, false, false, false, false, false] rfl rfl (by kernel_rfl) (fun _ _ _ h => h) (Or.inl ⟨by rfl, ?_⟩) ?_ ?_
            rotate_left
            · intro w'
              go_simp
              with_reducible rfl
            rotate_left
            · simp only [Act.put, List.setIfInBounds_toArray, List.set_cons_zero, List.set_cons_succ, i64_w, i32_w]
              rfl
            refine pure_ (i := 13) (N := some 58) (v := ?_) (a' := ?_) #[true, true, true, true, true, true, false, true, false, true, true, true, false, true, false, false, false, false, false, false, false, false, false, false, false, false, false, false, false] rfl rfl (by kernel_rfl) (fun _ _ _ h => h) (Or.inl ⟨by rfl, ?_⟩) ?_ ?_
            rotate_left
            · intro w'
              go_simp
              with_reducible rfl
            rotate_left
            · simp only [Act.put, List.setIfInBounds_toArray, List.set_cons_zero, List.set_cons_succ, i64_w, i32_w]
              rfl
            refine pure_ (i := 14) (N := some 59) (v := ?_) (a' := ?_) #[true, true, true, true, true, true, false, true, false, true, true, true, false, true, true, false, false, false, false, false, false, false, false, false, false, false, false, false, false] rfl rfl (by kernel_rfl) (fun _ _ _ h => h) (Or.inl ⟨by rfl, ?_⟩) ?_ ?_
            rotate_left
            · intro w'
              go_simp
              with_reducible rfl
            rotate_left
            · simp only [Act.put, List.setIfInBounds_toArray, List.set_cons_zero, List.set_cons_succ, i64_w, i32_w]
              rfl
            refine pure_ (i := 15) (N := some 60) (v := ?_) (a' := ?_) #[true, true, true, true, true, true, false, true, false, true, true, true, false, true, true, true, false, false, false, false, false, false, false, false, false, false, false, false, false] rfl rfl (by kernel_rfl) (fun _ _ _ h => h) (Or.inl ⟨by rfl, ?_⟩) ?_ ?_
            rotate_left
            · intro w'
              go_simp
              with_reducible rfl
            rotate_left
            · simp only [Act.put, List.setIfInBounds_toArray, List.set_cons_zero, List.set_cons_succ, i64_w, i32_w]
              rfl
            refine take_ (i := 6) (N := some 51) (v := ?_) (a' := ?_) #[true, true, true, true, true, true, true, true, false, true, true, true, false, true, true, true, false, false, false, false, false, false, false, false, false, false, false, false, false] rfl rfl (by kernel_rfl) (fun _ _ _ h => h) (Or.inl ⟨by rfl, ?_⟩) hHeld ?_ ?_
            rotate_left
            · rintro w' ⟨s0, s1⟩
              go_simp
              with_reducible rfl
            rotate_left
            · simp only [Act.put, List.setIfInBounds_toArray, List.set_cons_zero, List.set_cons_succ, i64_w, i32_w]
              rfl
            refine pure_ (i := 8) (N := some 53) (v := ?_) (a' := ?_) #[true, true, true, true, true, true, true, true, true, true, true, true, false, true, true, true, false, false, false, false, false, false, false, false, false, false, false, false, false] rfl rfl (by kernel_rfl) (fun _ _ _ h => h) (Or.inl ⟨by rfl, ?_⟩) ?_ ?_
            rotate_left
            · intro w'
              go_simp
              with_reducible rfl
            rotate_left
            · simp only [Act.put, List.setIfInBounds_toArray, List.set_cons_zero, List.set_cons_succ, i64_w, i32_w]
              rfl
            refine take_ (i := 12) (N := some 57) (v := ?_) (a' := ?_) #[true, true, true, true, true, true, true, true, true, true, true, true, true, true, true, true, false, false, false, false, false, false, false, false, false, false, false, false, false] rfl rfl (by kernel_rfl) (fun _ _ _ h => h) (Or.inl ⟨by rfl, ?_⟩) hHeld ?_ ?_
            rotate_left
            · rintro w' ⟨s0, s1⟩
              go_simp
              with_reducible rfl
            rotate_left
            · simp only [Act.put, List.setIfInBounds_toArray, List.set_cons_zero, List.set_cons_succ, i64_w, i32_w]
              rfl
            refine take_ (i := 16) (N := some 61) (v := ?_) (a' := ?_) #[true, true, true, true, true, true, true, true, true, true, true, true, true, true, true, true, true, false, false, false, false, false, false, false, false, false, false, false, false] rfl rfl (by kernel_rfl) (fun _ _ _ h => h) (Or.inl ⟨by rfl, ?_⟩) hHeld ?_ ?_
            rotate_left
            · rintro w' ⟨s0, s1⟩
              go_simp
              with_reducible rfl
            rotate_left
            · simp only [Act.put, List.setIfInBounds_toArray, List.set_cons_zero, List.set_cons_succ, i64_w, i32_w]
              rfl
            refine pure_ (i := 17) (N := some 62) (v := ?_) (a' := ?_) #[true, true, true, true, true, true, true, true, true, true, true, true, true, true, true, true, true, true, false, false, false, false, false, false, false, false, false, false, false] rfl rfl (by kernel_rfl) (fun _ _ _ h => h) (Or.inl ⟨by rfl, ?_⟩) ?_ ?_
            rotate_left
            · intro w'
              go_simp
              with_reducible rfl
            rotate_left
            · simp only [Act.put, List.setIfInBounds_toArray, List.set_cons_zero, List.set_cons_succ, i64_w, i32_w]
              rfl
            refine pure_ (i := 18) (N := some 63) (v := ?_) (a' := ?_) #[true, true, true, true, true, true, true, true, true, true, true, true, true, true, true, true, true, true, true, false, false, false, false, false, false, false, false, false, false] rfl rfl (by kernel_rfl) (fun _ _ _ h => h) (Or.inl ⟨by rfl, ?_⟩) ?_ ?_
            rotate_left
            · intro w'
              go_simp
              with_reducible rfl
            rotate_left
            · simp only [Act.put, List.setIfInBounds_toArray, List.set_cons_zero, List.set_cons_succ, i64_w, i32_w]
              rfl
            refine pure_ (i := 19) (N := some 64) (v := ?_) (a' := ?_) #[true, true, true, true, true, true, true, true, true, true, true, true, true, true, true, true, true, true, true, true, false, false, false, false, false, false, false, false, false] rfl rfl (by kernel_rfl) (fun _ _ _ h => h) (Or.inl ⟨by rfl, ?_⟩) ?_ ?_
            rotate_left
            · intro w'
              go_simp
              with_reducible rfl
            rotate_left
            · simp only [Act.put, List.setIfInBounds_toArray, List.set_cons_zero, List.set_cons_succ, i64_w, i32_w]
              rfl
            refine pure_ (i := 20) (N := some 65) (v := ?_) (a' := ?_) #[true, true, true, true, true, true, true, true, true, true, true, true, true, true, true, true, true, true, true, true, true, false, false, false, false, false, false, false, false] rfl rfl (by kernel_rfl) (fun _ _ _ h => h) (Or.inl ⟨by rfl, ?_⟩) ?_ ?_
            rotate_left
            · intro w'
              go_simp
              with_reducible rfl
            rotate_left
            · simp only [Act.put, List.setIfInBounds_toArray, List.set_cons_zero, List.set_cons_succ, i64_w, i32_w]
              rfl
            refine pure_ (i := 21) (N := some 66) (v := ?_) (a' := ?_) #[true, true, true, true, true, true, true, true, true, true, true, true, true, true, true, true, true, true, true, true, true, true, false, false, false, false, false, false, false] rfl rfl (by kernel_rfl) (fun _ _ _ h => h) (Or.inl ⟨by rfl, ?_⟩) ?_ ?_
            rotate_left
            · intro w'
              go_simp
              with_reducible rfl
            rotate_left
            · simp only [Act.put, List.setIfInBounds_toArray, List.set_cons_zero, List.set_cons_succ, i64_w, i32_w]
              rfl
            refine last_ (i := 22) (N := none) #[true, true, true, true, true, true, true, true, true, true, true, true, true, true, true, true, true, true, true, true, true, true, true, false, false, false, false, false, false] rfl rfl (by kernel_rfl) (by decide) (fun K hK => ?_)
            refine skip_ (w1 := ?_) (by rfl) rfl ?_ ?_
            rotate_left
            · go_simp
              rfl
            refine hK.out _ _ ?_
            clear hK K
            refine pure_ (i := 23) (N := some 67) (v := ?_) (a' := ?_) #[true, true, true, true, true, true, true, true, true, true, true, true, true, true, true, true, true, true, true, true, true, true, true, true, false, false, false, false, false] rfl rfl (by kernel_rfl) (fun _ _ _ h => h) (Or.inl ⟨by rfl, ?_⟩) ?_ ?_
            rotate_left
            · intro w'
              go_simp
              with_reducible rfl
            rotate_left
            · simp only [Act.put, List.setIfInBounds_toArray, List.set_cons_zero, List.set_cons_succ, i64_w, i32_w]
              rfl
            refine pure_ (i := 24) (N := some 68) (v := ?_) (a' := ?_) #[true, true, true, true, true, true, true, true, true, true, true, true, true, true, true, true, true, true, true, true, true, true, true, true, true, false, false, false, false] rfl rfl (by kernel_rfl) (fun _ _ _ h => h) (Or.inl ⟨by rfl, ?_⟩) ?_ ?_
            rotate_left
            · intro w'
              go_simp
              with_reducible rfl
            rotate_left
            · simp only [Act.put, List.setIfInBounds_toArray, List.set_cons_zero, List.set_cons_succ, i64_w, i32_w]
              rfl
            refine last_ (i := 25) (N := none) #[true, true, true, true, true, true, true, true, true, true, true, true, true, true, true, true, true, true, true, true, true, true, true, true, true, true, false, false, false] rfl rfl (by kernel_rfl) (by decide) (fun K hK => ?_)
            refine skip_ (w1 := ?_) (by rfl) rfl ?_ ?_
            rotate_left
            · go_simp
              rfl
            refine hK.out _ _ ?_
            clear hK K
            refine pure_ (i := 26) (N := some 69) (v := ?_) (a' := ?_) #[true, true, true, true, true, true, true, true, true, true, true, true, true, true, true, true, true, true, true, true, true, true, true, true, true, true, true, false, false] rfl rfl (by kernel_rfl) (fun _ _ _ h => h) (Or.inl ⟨by rfl, ?_⟩) ?_ ?_
            rotate_left
            · intro w'
              go_simp
              with_reducible rfl
            rotate_left
            · simp only [Act.put, List.setIfInBounds_toArray, List.set_cons_zero, List.set_cons_succ, i64_w, i32_w]
              rfl
            refine pure_ (i := 27) (N := some 70) (v := ?_) (a' := ?_) #[true, true, true, true, true, true, true, true, true, true, true, true, true, true, true, true, true, true, true, true, true, true, true, true, true, true, true, true, false] rfl rfl (by kernel_rfl) (fun _ _ _ h => h) (Or.inl ⟨by rfl, ?_⟩) ?_ ?_
            rotate_left
            · intro w'
              go_simp
              with_reducible rfl
            rotate_left
            · simp only [Act.put, List.setIfInBounds_toArray, List.set_cons_zero, List.set_cons_succ, i64_w, i32_w]
              rfl
            refine last_ (i := 28) (N := none) #[true, true, true, true, true, true, true, true, true, true, true, true, true, true, true, true, true, true, true, true, true, true, true, true, true, true, true, true, true] rfl rfl (by kernel_rfl) (by decide) (fun K hK => ?_)
            refine skip_ (w1 := ?_) (by rfl) rfl ?_ ?_
            rotate_left
            · go_simp
              rfl
            refine hK.out _ _ ?_
            clear hK K
            refine done_ (by kernel_rfl) ?_
            have hR3 : Kd.R (Kd.int .i64) 3 wr 0 (fun k => T k = (4, 0) ∨ wr.heap.size ≤ k) (.slice A3 m k3) (E.tr.take m) := by
              have h := HE1.out.tr
              rw [HE3.out, S2.out] at h
              exact Kd.R_take (Kd.R_mono h (fun _ hk => .inl hk)) (by rw [HN3.out]; exact hm3)
            have hgr : ∀ (W : World) (o : Option Nat), W.grownBy W o := fun W o => ⟨rfl, rfl, rfl, Nat.le_refl _, fun _ _ _ => rfl⟩
            have hk3 : ∀ x, (E1.ms x).isSome = true → x ∈ E.tr.take m := fun x hx => by
              have h1 := HE1.out.mst x hx
              rw [S2.out, ← List.take_append_drop m E.tr] at h1
              rcases List.mem_append.1 h1 with h1 | h1
              · exact h1
              · rw [HDS.out] at h1
                rw [← HE1'.out, s8, if_pos h1] at hx
                cases hx
            obtain ⟨a1, b1⟩ := HE1.out.turn_tr hR3 (hgr _ _) hk3
            have hR5 : Kd.R (Kd.int .i64) 3 (wr.setCell ⟨B, 3, none⟩ (.slice A3 m k3)) 0 (fun k => retag T wr (.slice A3 m k3) (4, 0) k = (5, 0) ∨ (wr.setCell ⟨B, 3, none⟩ (.slice A3 m k3)).heap.size ≤ k) (.slice (some ad) N5 k5) ss := by
              have h := a1.st
              have h : Kd.R (Kd.int .i64) 3 (wr.setCell ⟨B, 3, none⟩ (.slice A3 m k3)) 0 (fun k => retag T wr (.slice A3 m k3) (4, 0) k = (5, 0)) p.vS E1.st := h
              rw [HE5.out, S3.out, HSS.out] at h
              have h2 := Kd.R_take (m := N5) (Kd.R_mono (ok' := fun k => retag T wr (.slice A3 m k3) (4, 0) k = (5, 0) ∨ (wr.setCell ⟨B, 3, none⟩ (.slice A3 m k3)).heap.size ≤ k) h (fun _ hk => Or.inl hk)) (by simp [hN5])
              rw [show (ss ++ [(m : Int)]).take N5 = ss by rw [← hN5]; simp] at h2
              exact h2
            obtain ⟨a2, b2⟩ := a1.turn_st hR5 (hgr _ _)
            obtain ⟨a3, b3'⟩ := a2.turn_br (-1)
            obtain ⟨W6, hW6⟩ : ∃ W6, ((wr.setCell ⟨B, 3, none⟩ (.slice A3 m k3)).setCell ⟨B, 5, none⟩ (.slice (some ad) N5 k5)).setCell ⟨B, 6, none⟩ (.int .i64 (-1)) = W6 := ⟨_, rfl⟩
            rw [hW6] at a3 b3'
            have hbw6 : Below W6.heap.size W6 W6.drew := below_drew (Below.refl _ _)
            obtain ⟨T6, p6, E6, h6, m6, f6, e6⟩ : ∃ T6 p6 E6, EngIn W6.drew B T6 E6 p6 ∧ Moved T T6 w W6.drew ∧ p6.fw = p.fw ∧ E6 = E.popped m := ⟨_, _, _, a3.below hbw6, HM1.out.trans (b1.trans (b2.trans (b3'.trans (Moved.of_below hbw6)))), rfl, by
              unfold Eng.popped
              rw [HDS.out, HE1'.out, HSS.out, List.dropLast_concat]⟩
            have hlit6 : E6.Lits := by
              unfold Eng.Lits
              rw [e6]
              show ∀ c ∈ (E.dels (E.tr.drop m)).cls, _
              rw [HDS.out, HE1'.out, S1.out]
              exact HL.out
            have HCALL := Aside0.mk (eng_settle.calls k E6 B T6 p6 E3 _ h6 hlit6 (by rw [e6]; exact HS.out))
            have HM6 := Aside0.mk m6
            have HW6 := Aside0.mk hW6
            have HF6 := Aside0.mk f6
            clear hW6 a1 b1 a2 b2 a3 b3' h6 m6 f6 e6 hlit6 hR3 hR5 hk3 hgr hbw6 d3 d5 g0 g5 g6 r5 r6 g35 g36 g33
            go_wp2_with fail
            rw [HW6.out]
            refine HCALL.out.mono ?_
            rintro e' w8 ⟨rfl, T8, p8, h8, m8, f8⟩
            have H8 := Aside0.mk h8
            have M8 := Aside0.mk (HM6.out.trans m8)
            have F8 := Aside0.mk (f8.trans HF6.out)
            clear h8 m8 f8 HCALL
            go_wp2
            go_ret
            exact ⟨rfl, T8, p8, H8.out, M8.out, F8.out⟩
    · rw [if_neg ha] at hf; cases hf


end Go.Proofs.Ytfcofpgehlmbbaa.P

-- Printed by wip/tools/pp.py of this claim's session (over the kit's print.py); Lean checks it.
namespace Go.Proofs.Ytfcofpgehlmbbaa.P
open Go.RowKit Go.Proofs.YtfcofpgehlmbbaaW.PrintWords Go.Proofs.YtfcofpgehlmbbaaW.PrintLast Go.Proofs.YtfcofpgehlmbbaaW.PrintMore
attribute [local go_sem] max2_int min2_int max_two min_two max_three min_three max_four min_four   -- for this text's walks alone
set_option linter.unusedVariables false
set_option linter.unusedSimpArgs false

-- SOLO
-- IMPORTS Derived.Test.YtfcofpgehlmbbaaPxAunitEng
/-! ### unit_Engine_Add: function 35 -/
/-- A clause more, and it goes on. -/
def Eng.add (k : Nat) (E : Eng) (c : List Int) : Option (Eng × Int) :=
  (lit_Right.f k c E.n).bind fun e => if e ≠ 0 then some (E, e) else if E.cls.length ≥ 4096 then some (E, 2) else (lit_Clean.f c).bind fun r =>
    if E.ws + r.1.length < 4398046511104 ∧ E.tr.length < 4398046511104 then (if E.br < 0 then (Eng.follow k ((E.laid r.1).look E.cls.length) E.tr.length).bind fun E' => some (E', 0) else some (E.laid r.1, 0)) else none
set_option maxRecDepth 100000 in
set_option maxHeartbeats 4000000 in
theorem eng_Add.calls (k : Nat) (E : Eng) (B : Nat) (T : Tag) (p : EngP) (A0 : Option Addr) (c0 : Nat) (l0 : List Int) (E2 : Eng) (r : Int) (w : World) (h : EngIn w B T E p) (hr0 : Kd.C (Kd.int .i64) w A0 l0.length l0) (hc0 : l0.length ≤ c0) (hlit : E.Lits) (hwf : ∀ r, lit_Clean.f l0 = some r → ∀ x ∈ r.1, (Lit.int .i64 x).wf = true) (hf : Eng.add k E l0 = some (E2, r)) :
    Calls Try.prog 35 #[.pointer (some ⟨B, 0, none⟩), .slice A0 l0.length c0] w fun e w' => e = .returned (.int .i64 r) ∧ ∃ T' p', EngIn w' B T' E2 p' ∧ Moved T T' w w' := by
  unfold Eng.add at hf
  obtain ⟨e, he, hf⟩ := Option.bind_eq_some_iff.mp hf
  have c0' := h.cells.1
  have HE := Aside0.mk h
  have HR := Aside0.mk (lit_Right.calls k A0 c0 l0 E.n e w hr0 hc0 he)
  clear he
  by_cases h0 : e = 0
  · subst h0
    rw [if_neg (by decide)] at hf
    obtain ⟨A1, k1, e1⟩ := Kd.R_slice h.cls
    obtain ⟨N, hN⟩ : ∃ N, E.cls.length = N := ⟨_, rfl⟩
    have hcc : ∀ {W : World}, Below w.heap.size w W → W.cell? ⟨B, 1, none⟩ = some (.slice A1 N k1) := fun hb => by
      rw [(h.below hb).cells.2.1, e1, h.len, hN]
    have HCC := Aside0.mk @hcc
    rw [hN] at hf
    by_cases h4 : N ≥ 4096
    · rw [if_pos h4] at hf
      simp only [Option.some.injEq, Prod.mk.injEq] at hf
      obtain ⟨h1, h2⟩ := hf
      subst h2
      have H2 := Aside0.mk h1
      have d1 : decide ((4096 : Int) ≤ (N : Int)) = true := decide_eq_true (by omega)
      have d2 : (4096 ≤ N) = True := eq_true h4
      clear h1 h hlit hwf hr0 hN hcc e1
      go_enter Try.func35, Try.ntmps35
      go_wp2_with fail
      refine HR.out.mono ?_
      rintro e' w1 ⟨rfl, ⟨⟨n1, rfl⟩⟩⟩
      have hb1 := pw_below_drewN (Below.refl w.heap.size w) n1
      have c1 := HCC.out hb1
      have HB1 := Aside0.mk hb1
      clear hb1
      go_wp2
      go_ret
      rw [← H2.out]
      exact ⟨rfl, T, p, HE.out.below HB1.out, Moved.of_below HB1.out⟩
    · rw [if_neg h4] at hf
      obtain ⟨⟨r1, r2⟩, hcl, hf⟩ := Option.bind_eq_some_iff.mp hf
      dsimp only at hf
      by_cases hbd : E.ws + r1.length < 4398046511104 ∧ E.tr.length < 4398046511104
      · rw [if_pos hbd] at hf
        have d1 : decide ((4096 : Int) ≤ (N : Int)) = false := decide_eq_false (by omega)
        have d2 : (4096 ≤ N) = False := eq_false h4
        have hw1 := hwf _ hcl
        have HCALL := Aside0.mk (fun W (hW : Below w.heap.size w W) => eng_lay.calls E B T p A0 c0 l0 r1 r2 W (h.below hW) (Kd.C_below hr0 hW) hc0 hcl hw1 hbd.1 (by rw [hN]; omega))
        obtain ⟨s1, s2, s3, s4, s5, s6, s7⟩ := E.laid_same r1
        have HS1 := Aside0.mk s1
        have HS2 := Aside0.mk s2
        have HS3 := Aside0.mk (show (E.laid r1).cls.length = N + 1 by rw [s3, List.length_append, hN]; rfl)
        have HLL := Aside0.mk (Eng.laid_lits hlit hw1)
        have HBD := Aside0.mk hbd
        have HF := Aside0.mk hf
        have hNb : N < 4096 := by omega
        clear h hlit hwf hr0 hN hcc e1 hcl hw1 s1 s2 s3 s4 s5 s6 s7 hbd hf h4
        go_enter Try.func35, Try.ntmps35
        go_wp2_with fail
        refine HR.out.mono ?_
        rintro e' w1 ⟨rfl, ⟨⟨n1, rfl⟩⟩⟩
        have hb1 := pw_below_drewN (Below.refl w.heap.size w) n1
        have c1 := HCC.out hb1
        have HB1 := Aside0.mk hb1
        clear hb1
        go_wp2_with fail
        refine (HCALL.out _ HB1.out).mono ?_
        rintro e' w2 ⟨rfl, T2, p2, h2, m2⟩
        have c6 := h2.cells.2.2.2.2.2.2.1
        rw [HS1.out] at c6
        have HM2 := Aside0.mk ((Moved.of_below HB1.out).trans m2)
        by_cases hbr : E.br < 0
        · have hf := HF.out
          rw [if_pos hbr] at hf
          obtain ⟨E5, hf5, hr⟩ := Option.bind_eq_some_iff.mp hf
          simp only [Option.some.injEq, Prod.mk.injEq] at hr
          obtain ⟨h1, h3⟩ := hr
          subst h3
          have H2 := Aside0.mk h1
          have d3 : decide (E.br < 0) = true := decide_eq_true hbr
          have c3 := h2.cells.2.2.2.1
          obtain ⟨A3, k3, e3⟩ := Kd.R_slice h2.tr
          obtain ⟨n3, hn3⟩ : ∃ n3, E.tr.length = n3 := ⟨_, rfl⟩
          rw [e3, HS2.out, hn3] at c3
          have c1' := h2.cells.2.1
          obtain ⟨A1', k1', e1'⟩ := Kd.R_slice h2.cls
          rw [e1', h2.len, HS3.out] at c1'
          have HLK := Aside0.mk (eng_look.calls (E.laid r1) B T2 p2 N w2 h2 (by rw [HS3.out]; omega) (HLL.out _ (List.getElem_mem _)) (by rw [HS2.out]; exact HBD.out.2))
          have HF5 := Aside0.mk hf5
          have HN3 := Aside0.mk hn3
          clear hf hf5 h1 hbr e3 hn3 e1' h2 m2 HCALL
          go_wp2_with fail
          refine HLK.out.mono ?_
          rintro e' w4 ⟨rfl, T4, p4, h4, m4, f4⟩
          have HM4 := Aside0.mk (HM2.out.trans m4)
          obtain ⟨l1, l2, _⟩ := (E.laid r1).look_cls N
          have HFO := Aside0.mk (eng_follow.calls k _ B T4 p4 n3 E5 w4 h4 (by unfold Eng.Lits; rw [l1]; exact HLL.out) (by rw [← HN3.out]; exact HF5.out))
          clear h4 m4 f4 l1 l2 HLK
          go_wp2_with fail
          refine HFO.out.mono ?_
          rintro e' w5 ⟨rfl, T5, p5, h5, m5, f5⟩
          have H5 := Aside0.mk h5
          have M5 := Aside0.mk (HM4.out.trans m5)
          clear h5 m5 f5 HFO
          go_wp2
          go_ret
          rw [← H2.out]
          exact ⟨rfl, T5, p5, H5.out, M5.out⟩
        · have hf := HF.out
          rw [if_neg hbr] at hf
          simp only [Option.some.injEq, Prod.mk.injEq] at hf
          obtain ⟨h1, h3⟩ := hf
          subst h3
          have H2 := Aside0.mk h1
          have d3 : decide (E.br < 0) = false := decide_eq_false hbr
          have H3 := Aside0.mk h2
          clear h1 hbr h2 m2 HCALL
          go_wp2
          go_ret
          rw [← H2.out]
          exact ⟨rfl, T2, p2, H3.out, HM2.out⟩
      · rw [if_neg hbd] at hf; cases hf
  · rw [if_pos h0] at hf
    simp only [Option.some.injEq, Prod.mk.injEq] at hf
    obtain ⟨h1, h2⟩ := hf
    subst h2
    have H2 := Aside0.mk h1
    have q1 : (e != 0) = true := by simpa using h0
    have q2 : (e == 0) = false := by simpa using h0
    clear h1 h hlit hwf hr0 h0
    go_enter Try.func35, Try.ntmps35
    go_wp2_with fail
    refine HR.out.mono ?_
    rintro e' w1 ⟨rfl, ⟨⟨n1, rfl⟩⟩⟩
    have HB1 := Aside0.mk (pw_below_drewN (Below.refl w.heap.size w) n1)
    go_wp2
    go_ret
    rw [← H2.out]
    exact ⟨rfl, T, p, HE.out.below HB1.out, Moved.of_below HB1.out⟩
set_option maxRecDepth 100000 in
theorem eng_Add.nobody (A0 : Option Addr) (n0 c0 : Nat) (w : World) : Calls Try.prog 35 #[.pointer none, .slice A0 n0 c0] w fun e w' => e = .returned (.int .i64 1) ∧ w' = w := by
  go_enter Try.func35, Try.ntmps35
  go_wp2
  go_ret
  exact ⟨rfl, rfl⟩


end Go.Proofs.Ytfcofpgehlmbbaa.P

-- Printed by wip/tools/pp.py of this claim's session (over the kit's print.py); Lean checks it.
namespace Go.Proofs.Ytfcofpgehlmbbaa.P
open Go.RowKit Go.Proofs.YtfcofpgehlmbbaaW.PrintWords Go.Proofs.YtfcofpgehlmbbaaW.PrintLast Go.Proofs.YtfcofpgehlmbbaaW.PrintMore
attribute [local go_sem] max2_int min2_int max_two min_two max_three min_three max_four min_four   -- for this text's walks alone
set_option linter.unusedVariables false
set_option linter.unusedSimpArgs false

-- SOLO
-- IMPORTS Derived.Test.YtfcofpgehlmbbaaPxAunitEng
/-! ### sequiturlaw20_act: function 17 -/
/-- An act. -/
def Eng.act (k : Nat) (E : Eng) (kind x : Int) (l : List Int) : Option (Eng × Bool × Int) :=
  if kind = 1 then (Eng.pop k E).map fun r => (r.1, r.2, 0) else if kind = 2 then (Eng.add k E l).map fun r => (r.1, decide (r.2 = 0), r.2) else (Eng.push k E x).map fun r => (r.1, r.2, 0)
/-- What a call leaves that goes on with the engine and lays clauses. -/
def ActPost (B : Nat) (T : Tag) (E' : Eng) (W W' : World) : Prop := ∃ T' p', EngIn W' B T' E' p' ∧ Moved T T' W W'
set_option maxRecDepth 100000 in
set_option maxHeartbeats 4000000 in
theorem sequiturlaw20_act.calls (k : Nat) (E : Eng) (B : Nat) (T : Tag) (p : EngP) (kind x : Int) (A0 : Option Addr) (c0 : Nat) (l0 : List Int) (E2 : Eng) (r : Bool) (f : Int) (w : World) (h : EngIn w B T E p) (hr0 : Kd.C (Kd.int .i64) w A0 l0.length l0) (hc0 : l0.length ≤ c0) (hlit : E.Lits) (htr : ∀ x ∈ E.tr, (Lit.int .i64 x).wf = true) (hx : (Lit.int .i64 x).wf = true)
    (hwf : ∀ r, lit_Clean.f l0 = some r → ∀ x ∈ r.1, (Lit.int .i64 x).wf = true) (hf : Eng.act k E kind x l0 = some (E2, r, f)) :
    Calls Try.prog 17 #[.pointer (some ⟨B, 0, none⟩), .agg #[.int .i64 kind, .int .i64 x, .slice A0 l0.length c0]] w fun e w' => e = .returned (.tuple #[.bool r, .int .i64 f]) ∧ ActPost B T E2 w w' := by
  have hu35 := Try.underlying35
  have HE := Aside0.mk h
  have HR := Aside0.mk hr0
  have HC := Aside0.mk hc0
  have HL := Aside0.mk hlit
  have HTR := Aside0.mk htr
  have HX := Aside0.mk hx
  have HWF := Aside0.mk hwf
  clear h hr0 hc0 hlit htr hx hwf
  have HB := Aside0.mk (Below.refl w.heap.size w)
  unfold Eng.act at hf
  by_cases h1 : kind = 1
  · rw [if_pos h1] at hf
    obtain ⟨⟨E3, b⟩, hp, hq⟩ := Option.map_eq_some_iff.1 hf
    simp only [Prod.mk.injEq] at hq
    obtain ⟨rfl, rfl, rfl⟩ := hq
    have HP := Aside0.mk hp
    subst h1
    clear hf hp
    go_enter Try.func17, Try.ntmps17
    go_upto_region 1 with (first | ((with_reducible refine gate_dst (N := 3) rfl ?_); refine box_event ?hg (N := 3) ?hd (cs := #[.int .i64 1, .int .i64 x, .slice A0 l0.length c0]) (t := 35) ?hr ?_; (case hd => rfl); (case hg => rfl); (case hr => first | (go_simp; done) | (go_simp; rfl)); intro gb hg w3 hbox hb; have n0_ := Aside0.mk (below_step HB.out hb); have BK := Aside0.mk hbox; clear HB; have HB := n0_; clear n0_; clear hb hbox hg))
    (try simp only [Act.put, List.setIfInBounds_toArray, List.set_cons_zero, List.set_cons_succ])
    have cb0 : w3.cell? ⟨gb, 0, none⟩ = some (.int .i64 1) := (blk_cell BK.out 0).trans rfl
    have cb1 : w3.cell? ⟨gb, 1, none⟩ = some (.int .i64 x) := (blk_cell BK.out 1).trans rfl
    have cb2 : w3.cell? ⟨gb, 2, none⟩ = some (.slice A0 l0.length c0) := (blk_cell BK.out 2).trans rfl
    have HCALL := Aside0.mk (eng_Pop.calls k E B T p E3 b w3 (HE.out.below HB.out) HL.out HTR.out HP.out)
    go_wp2_with fail
    refine HCALL.out.mono ?_
    rintro e' w1 ⟨rfl, T1, p1, h1, m1, f1⟩
    have H1 := Aside0.mk h1
    have M1 := Aside0.mk ((Moved.of_below (T := T) HB.out).trans m1)
    clear h1 m1 f1 HCALL
    go_wp2
    go_ret2
    exact ⟨rfl, T1, p1, H1.out, M1.out⟩
  · rw [if_neg h1] at hf
    have d1 : (kind == 1) = false := beq_eq_false_iff_ne.2 h1
    by_cases h2 : kind = 2
    · rw [if_pos h2] at hf
      obtain ⟨⟨E3, b⟩, hp, hq⟩ := Option.map_eq_some_iff.1 hf
      simp only [Prod.mk.injEq] at hq
      obtain ⟨rfl, rfl, rfl⟩ := hq
      have HP := Aside0.mk hp
      subst h2
      have hbq : (b == 0) = decide (b = 0) := by by_cases hb : b = 0 <;> simp [hb]
      clear hf hp h1 d1
      go_enter Try.func17, Try.ntmps17
      go_upto_region 1 with (first | ((with_reducible refine gate_dst (N := 3) rfl ?_); refine box_event ?hg (N := 3) ?hd (cs := #[.int .i64 2, .int .i64 x, .slice A0 l0.length c0]) (t := 35) ?hr ?_; (case hd => rfl); (case hg => rfl); (case hr => first | (go_simp; done) | (go_simp; rfl)); intro gb hg w3 hbox hb; have n0_ := Aside0.mk (below_step HB.out hb); have BK := Aside0.mk hbox; clear HB; have HB := n0_; clear n0_; clear hb hbox hg))
      (try simp only [Act.put, List.setIfInBounds_toArray, List.set_cons_zero, List.set_cons_succ])
      have cb0 : w3.cell? ⟨gb, 0, none⟩ = some (.int .i64 2) := (blk_cell BK.out 0).trans rfl
      have cb1 : w3.cell? ⟨gb, 1, none⟩ = some (.int .i64 x) := (blk_cell BK.out 1).trans rfl
      have cb2 : w3.cell? ⟨gb, 2, none⟩ = some (.slice A0 l0.length c0) := (blk_cell BK.out 2).trans rfl
      have HCALL := Aside0.mk (eng_Add.calls k E B T p A0 c0 l0 E3 b w3 (HE.out.below HB.out) (Kd.C_below HR.out HB.out) HC.out HL.out HWF.out HP.out)
      go_wp2_with fail
      refine HCALL.out.mono ?_
      rintro e' w1 ⟨rfl, T1, p1, h1, m1⟩
      have H1 := Aside0.mk h1
      have M1 := Aside0.mk ((Moved.of_below (T := T) HB.out).trans m1)
      clear h1 m1 HCALL
      go_wp2
      go_ret2
      exact ⟨by simp [hbq], T1, p1, H1.out, M1.out⟩
    · rw [if_neg h2] at hf
      have d2 : (kind == 2) = false := beq_eq_false_iff_ne.2 h2
      obtain ⟨⟨E3, b⟩, hp, hq⟩ := Option.map_eq_some_iff.1 hf
      simp only [Prod.mk.injEq] at hq
      obtain ⟨rfl, rfl, rfl⟩ := hq
      have HP := Aside0.mk hp
      clear hf hp h1 h2
      go_enter Try.func17, Try.ntmps17
      go_upto_region 1 with (first | ((with_reducible refine gate_dst (N := 3) rfl ?_); refine box_event ?hg (N := 3) ?hd (cs := #[.int .i64 kind, .int .i64 x, .slice A0 l0.length c0]) (t := 35) ?hr ?_; (case hd => rfl); (case hg => rfl); (case hr => first | (go_simp; done) | (go_simp; rfl)); intro gb hg w3 hbox hb; have n0_ := Aside0.mk (below_step HB.out hb); have BK := Aside0.mk hbox; clear HB; have HB := n0_; clear n0_; clear hb hbox hg))
      (try simp only [Act.put, List.setIfInBounds_toArray, List.set_cons_zero, List.set_cons_succ])
      have cb0 : w3.cell? ⟨gb, 0, none⟩ = some (.int .i64 kind) := (blk_cell BK.out 0).trans rfl
      have cb1 : w3.cell? ⟨gb, 1, none⟩ = some (.int .i64 x) := (blk_cell BK.out 1).trans rfl
      have cb2 : w3.cell? ⟨gb, 2, none⟩ = some (.slice A0 l0.length c0) := (blk_cell BK.out 2).trans rfl
      have HCALL := Aside0.mk (eng_Push.calls k E B T p x E3 b w3 (HE.out.below HB.out) HX.out HL.out HP.out)
      go_wp2_with fail
      refine HCALL.out.mono ?_
      rintro e' w1 ⟨rfl, T1, p1, h1, m1, f1⟩
      have H1 := Aside0.mk h1
      have M1 := Aside0.mk ((Moved.of_below (T := T) HB.out).trans m1)
      clear h1 m1 f1 HCALL
      go_wp2
      go_ret2
      exact ⟨rfl, T1, p1, H1.out, M1.out⟩


end Go.Proofs.Ytfcofpgehlmbbaa.P

-- Printed by wip/tools/pp.py of this claim's session (over the kit's print.py); Lean checks it.
namespace Go.Proofs.Ytfcofpgehlmbbaa.P
open Go.RowKit Go.Proofs.YtfcofpgehlmbbaaW.PrintWords Go.Proofs.YtfcofpgehlmbbaaW.PrintLast Go.Proofs.YtfcofpgehlmbbaaW.PrintMore
attribute [local go_sem] max2_int min2_int max_two min_two max_three min_three max_four min_four   -- for this text's walks alone
set_option linter.unusedVariables false
set_option linter.unusedSimpArgs false

-- SOLO
-- IMPORTS Derived.Test.YtfcofpgehlmbbaaPxAunitEng
/-! ### unit_Engine_Levels: function 18 -/
set_option maxRecDepth 100000 in
theorem eng_Levels.calls (E : Eng) (B : Nat) (T : Tag) (p : EngP) (w : World) (h : EngIn w B T E p) :
    Calls Try.prog 18 #[.pointer (some ⟨B, 0, none⟩)] w fun e w' => e = .returned (.int .i64 (E.st.length : Int)) ∧ w' = w := by
  have c5 := h.cells.2.2.2.2.2.1
  obtain ⟨A5, n5, e5⟩ := Kd.R_slice h.st
  rw [e5] at c5
  clear h e5
  go_enter Try.func18, Try.ntmps18
  go_wp2
  go_ret
  exact ⟨rfl, rfl⟩
set_option maxRecDepth 100000 in
theorem eng_Levels.nobody (w : World) : Calls Try.prog 18 #[.pointer none] w fun e w' => e = .returned (.int .i64 0) ∧ w' = w := by
  go_enter Try.func18, Try.ntmps18
  go_wp2
  go_ret
  exact ⟨rfl, rfl⟩


end Go.Proofs.Ytfcofpgehlmbbaa.P

-- Printed by wip/tools/pp.py of this claim's session (over the kit's print.py); Lean checks it.
namespace Go.Proofs.Ytfcofpgehlmbbaa.P
open Go.RowKit Go.Proofs.YtfcofpgehlmbbaaW.PrintWords Go.Proofs.YtfcofpgehlmbbaaW.PrintLast Go.Proofs.YtfcofpgehlmbbaaW.PrintMore
attribute [local go_sem] max2_int min2_int max_two min_two max_three min_three max_four min_four   -- for this text's walks alone
set_option linter.unusedVariables false
set_option linter.unusedSimpArgs false

/-! ### sequiturref17_Of: function 31 -/
def sequiturref17_Of.f (a0 : Int) : Option (Int) := if a0 < 0 then (some (wrap64 (-a0))) else (some a0)
set_option maxHeartbeats 8000000 in
set_option maxRecDepth 100000 in
theorem sequiturref17_Of.calls (a0 : Int) (r : Int) (w : World) (h : sequiturref17_Of.f a0 = some r) :
    Calls Try.prog 31 #[.int .i64 a0] w fun e w' => e = .returned (.int .i64 r) ∧ Drawn0 w w' := by
  have H : (if a0 < 0 then (some (wrap64 (-a0))) else (some a0)) = some r := h
  clear h
  by_cases c2 : a0 < 0
  · rw [if_pos c2] at H
    have c2b0 : decide (a0 < 0) = true := decide_eq_true c2
    clear c2
    as_aux_lemma =>
      obtain rfl := Option.some.inj H
      go_enter Try.func31, Try.ntmps31
      go_wp2
      go_ret
      exact ⟨by first | rfl | (simp; done) | (simp [*]; done), by repeat (first | exact Drawn0.refl _ | apply Drawn0.step)⟩
  · rw [if_neg c2] at H
    have c2b0 : decide (a0 < 0) = false := decide_eq_false c2
    clear c2
    as_aux_lemma =>
      obtain rfl := Option.some.inj H
      go_enter Try.func31, Try.ntmps31
      go_wp2
      go_ret
      exact ⟨by first | rfl | (simp; done) | (simp [*]; done), by repeat (first | exact Drawn0.refl _ | apply Drawn0.step)⟩

end Go.Proofs.Ytfcofpgehlmbbaa.P

-- Printed by wip/tools/pp.py of this claim's session (over the kit's print.py); Lean checks it.
namespace Go.Proofs.Ytfcofpgehlmbbaa.P
open Go.RowKit Go.Proofs.YtfcofpgehlmbbaaW.PrintWords Go.Proofs.YtfcofpgehlmbbaaW.PrintLast Go.Proofs.YtfcofpgehlmbbaaW.PrintMore
attribute [local go_sem] max2_int min2_int max_two min_two max_three min_three max_four min_four   -- for this text's walks alone
set_option linter.unusedVariables false
set_option linter.unusedSimpArgs false

-- SOLO
-- IMPORTS Derived.Test.YtfcofpgehlmbbaaPxAunitEng
/-! ### unit_Engine_mark: function 78 -/
set_option maxRecDepth 100000 in
theorem eng_mark.nobody (v : Int) (w : World) : Calls Try.prog 78 #[.pointer none, .int .i64 v] w fun e w' => e = .returned (.tuple #[.agg #[.int .i64 0, .int .i64 0], .bool false]) ∧ Below w.heap.size w w' := by
  have hu := Try.underlying111
  go_enter Try.func78, Try.ntmps78
  go_wp2
  try simp only [Exit.inBlock, Exit.then]
  refine bodyPost_ret (v := .tuple #[.agg #[.int .i64 0, .int .i64 0], .bool false]) (by simp [results, Try.results78, go_sem]) rfl ⟨rfl, ?_⟩
  exact below_alloc (Below.refl _ _) _
/-- What is known of a variable. -/
def Eng.markV (E : Eng) (v : Int) : Option (Int × Int) := if v ≤ 0 then none else if (E.ms v).isSome = true then E.ms v else E.ms (wrap64 (-v))
set_option maxRecDepth 100000 in
set_option maxHeartbeats 2000000 in
theorem eng_mark.calls (E : Eng) (B : Nat) (T : Tag) (p : EngP) (v : Int) (w : World) (h : EngIn w B T E p) (hl : (Lit.int .i64 v).wf = true) :
    Calls Try.prog 78 #[.pointer (some ⟨B, 0, none⟩), .int .i64 v] w fun e w' => e = .returned (.tuple #[.agg #[.int .i64 ((E.markV v).getD (0, 0)).1, .int .i64 ((E.markV v).getD (0, 0)).2], .bool (E.markV v).isSome]) ∧ Below w.heap.size w w' := by
  have hu := Try.underlying111
  have P6 : IntKind.i64.wrap (-v) = wrap64 (-v) := Go.IntWalk.i64_left _
  by_cases hv : v ≤ 0
  · have e1 : E.markV v = none := if_pos hv
    rw [e1]
    have d1 : decide (v ≤ 0) = true := decide_eq_true hv
    clear h e1 P6
    go_enter Try.func78, Try.ntmps78
    go_wp2
    try simp only [Exit.inBlock, Exit.then]
    refine bodyPost_ret (v := .tuple #[.agg #[.int .i64 0, .int .i64 0], .bool false]) (by simp [results, Try.results78, go_sem]) rfl ⟨rfl, ?_⟩
    repeat (first | exact Below.refl _ _ | apply below_alloc | refine below_set ?_ (Nat.le_refl _))
  · have d1 : decide (v ≤ 0) = false := decide_eq_false hv
    have HE := Aside0.mk h
    obtain ⟨m1, hm1⟩ : ∃ m, (E.ms v).getD (0, 0) = m := ⟨_, rfl⟩
    obtain ⟨m2, hm2⟩ : ∃ m, (E.ms (wrap64 (-v))).getD (0, 0) = m := ⟨_, rfl⟩
    have q1 : ∀ W, Below w.heap.size w W → (Instr.lookup 91 (.map (some p.bm)) (.int .i64 v) true).run Try.prog W = .ok (.tuple #[.agg #[.int .i64 m1.1, .int .i64 m1.2], .bool (E.ms v).isSome]) W := fun W hW => by
      have := h.look hW hl
      rw [hm1] at this
      exact this
    have q2 : ∀ W, Below w.heap.size w W → (Instr.lookup 91 (.map (some p.bm)) (.int .i64 (wrap64 (-v))) true).run Try.prog W = .ok (.tuple #[.agg #[.int .i64 m2.1, .int .i64 m2.2], .bool (E.ms (wrap64 (-v))).isSome]) W := fun W hW => by
      have := h.look hW (wf_wrap v)
      rw [hm2] at this
      exact this
    have c4 := h.cells.2.2.2.2.1
    have HQ1 := Aside0.mk q1
    have HQ2 := Aside0.mk q2
    clear q1 q2
    have hb1 : Below w.heap.size w (w.alloc (.cells #[.int .i64 0, .int .i64 0] 111)) := below_alloc (Below.refl _ _) _
    have c41 := pw_cell_below hb1 c4
    have r1 := HQ1.out _ hb1
    have hb2 : Below w.heap.size w ((w.alloc (.cells #[.int .i64 0, .int .i64 0] 111)).alloc (.cells #[.int .i64 m1.1, .int .i64 m1.2] 111)) := below_alloc hb1 _
    have c42 := pw_cell_below hb2 c4
    have r2 := HQ2.out _ hb2
    cases hs1 : (E.ms v).isSome with
    | true =>
      have e1 : E.markV v = E.ms v := by unfold Eng.markV; rw [if_neg hv, if_pos hs1]
      rw [e1, hm1, hs1]
      rw [hs1] at r1
      clear h e1 hm1 hm2 hs1
      go_enter Try.func78, Try.ntmps78
      go_wp2
      try simp only [Exit.inBlock, Exit.then]
      refine bodyPost_ret (v := .tuple #[.agg #[.int .i64 m1.1, .int .i64 m1.2], .bool true]) (by simp [results, Try.results78, go_sem]) rfl ⟨rfl, ?_⟩
      repeat (first | exact Below.refl _ _ | apply below_alloc | refine below_set ?_ (Nat.le_refl _))
    | false =>
      have e1 : E.markV v = E.ms (wrap64 (-v)) := by unfold Eng.markV; rw [if_neg hv, if_neg (by rw [hs1]; decide)]
      rw [e1, hm2]
      rw [hs1] at r1
      clear h e1 hm1 hm2 hs1
      go_enter Try.func78, Try.ntmps78
      go_wp2
      try simp only [Exit.inBlock, Exit.then]
      refine bodyPost_ret (v := .tuple #[.agg #[.int .i64 m2.1, .int .i64 m2.2], .bool (E.ms (wrap64 (-v))).isSome]) (by simp [results, Try.results78, go_sem]) rfl ⟨rfl, ?_⟩
      repeat (first | exact Below.refl _ _ | apply below_alloc | refine below_set ?_ (Nat.le_refl _))


end Go.Proofs.Ytfcofpgehlmbbaa.P

-- Printed by wip/tools/pp.py of this claim's session (over the kit's print.py); Lean checks it.
namespace Go.Proofs.Ytfcofpgehlmbbaa.P
open Go.RowKit Go.Proofs.YtfcofpgehlmbbaaW.PrintWords Go.Proofs.YtfcofpgehlmbbaaW.PrintLast Go.Proofs.YtfcofpgehlmbbaaW.PrintMore
attribute [local go_sem] max2_int min2_int max_two min_two max_three min_three max_four min_four   -- for this text's walks alone
set_option linter.unusedVariables false
set_option linter.unusedSimpArgs false

-- SOLO
-- IMPORTS Derived.Test.YtfcofpgehlmbbaaPxAunitEng
/-! ### unit_Engine_Why: function 30 -/
set_option maxRecDepth 100000 in
theorem eng_Why.nobody (v : Int) (w : World) : Calls Try.prog 30 #[.pointer none, .int .i64 v] w fun e w' => e = .returned (.int .i64 (-1)) ∧ Below w.heap.size w w' := by
  have HM := Aside0.mk (eng_mark.nobody v w)
  have hu := Try.underlying111
  go_enter Try.func30, Try.ntmps30
  go_wp2_with fail
  refine HM.out.mono ?_
  rintro e' w1 ⟨rfl, hb⟩
  have HB := Aside0.mk hb
  clear hb
  go_wp2
  go_ret
  exact ⟨rfl, by repeat (first | exact HB.out | apply below_alloc | apply pw_below_drewN | apply below_drew1)⟩
/-- A variable's why. -/
def Eng.why (E : Eng) (v : Int) : Int := match E.markV v with | some q => q.2 | none => -1
set_option maxRecDepth 100000 in
theorem eng_Why.calls (E : Eng) (B : Nat) (T : Tag) (p : EngP) (v : Int) (w : World) (h : EngIn w B T E p) (hl : (Lit.int .i64 v).wf = true) :
    Calls Try.prog 30 #[.pointer (some ⟨B, 0, none⟩), .int .i64 v] w fun e w' => e = .returned (.int .i64 (E.why v)) ∧ Below w.heap.size w w' := by
  have HM := Aside0.mk (eng_mark.calls E B T p v w h hl)
  have hu := Try.underlying111
  clear h
  unfold Eng.why
  cases hq : E.markV v with
  | none =>
    rw [hq] at HM
    clear hq
    go_enter Try.func30, Try.ntmps30
    go_wp2_with fail
    refine HM.out.mono ?_
    rintro e' w1 ⟨rfl, hb⟩
    have HB := Aside0.mk hb
    clear hb
    go_wp2
    go_ret
    exact ⟨rfl, by repeat (first | exact HB.out | apply below_alloc | apply pw_below_drewN | apply below_drew1)⟩
  | some q =>
    rw [hq] at HM
    clear hq
    go_enter Try.func30, Try.ntmps30
    go_wp2_with fail
    refine HM.out.mono ?_
    rintro e' w1 ⟨rfl, hb⟩
    have HB := Aside0.mk hb
    clear hb
    go_wp2
    go_ret
    exact ⟨rfl, by repeat (first | exact HB.out | apply below_alloc | apply pw_below_drewN | apply below_drew1)⟩


end Go.Proofs.Ytfcofpgehlmbbaa.P

-- Printed by wip/tools/pp.py of this claim's session (over the kit's print.py); Lean checks it.
namespace Go.Proofs.Ytfcofpgehlmbbaa.P
open Go.RowKit Go.Proofs.YtfcofpgehlmbbaaW.PrintWords Go.Proofs.YtfcofpgehlmbbaaW.PrintLast Go.Proofs.YtfcofpgehlmbbaaW.PrintMore
attribute [local go_sem] max2_int min2_int max_two min_two max_three min_three max_four min_four   -- for this text's walks alone
set_option linter.unusedVariables false
set_option linter.unusedSimpArgs false

-- SOLO
-- IMPORTS Derived.Test.YtfcofpgehlmbbaaPxAunitEng
/-! ### unit_Engine_Level: function 32 -/
set_option maxRecDepth 100000 in
theorem eng_Level.nobody (v : Int) (w : World) : Calls Try.prog 32 #[.pointer none, .int .i64 v] w fun e w' => e = .returned (.int .i64 (-1)) ∧ Below w.heap.size w w' := by
  have HM := Aside0.mk (eng_mark.nobody v w)
  have hu := Try.underlying111
  go_enter Try.func32, Try.ntmps32
  go_wp2_with fail
  refine HM.out.mono ?_
  rintro e' w1 ⟨rfl, hb⟩
  have HB := Aside0.mk hb
  clear hb
  go_wp2
  go_ret
  exact ⟨rfl, by repeat (first | exact HB.out | apply below_alloc | apply pw_below_drewN | apply below_drew1)⟩
/-- A variable's level. -/
def Eng.level (E : Eng) (v : Int) : Int := match E.markV v with | some q => q.1 | none => -1
set_option maxRecDepth 100000 in
theorem eng_Level.calls (E : Eng) (B : Nat) (T : Tag) (p : EngP) (v : Int) (w : World) (h : EngIn w B T E p) (hl : (Lit.int .i64 v).wf = true) :
    Calls Try.prog 32 #[.pointer (some ⟨B, 0, none⟩), .int .i64 v] w fun e w' => e = .returned (.int .i64 (E.level v)) ∧ Below w.heap.size w w' := by
  have HM := Aside0.mk (eng_mark.calls E B T p v w h hl)
  have hu := Try.underlying111
  clear h
  unfold Eng.level
  cases hq : E.markV v with
  | none =>
    rw [hq] at HM
    clear hq
    go_enter Try.func32, Try.ntmps32
    go_wp2_with fail
    refine HM.out.mono ?_
    rintro e' w1 ⟨rfl, hb⟩
    have HB := Aside0.mk hb
    clear hb
    go_wp2
    go_ret
    exact ⟨rfl, by repeat (first | exact HB.out | apply below_alloc | apply pw_below_drewN | apply below_drew1)⟩
  | some q =>
    rw [hq] at HM
    clear hq
    go_enter Try.func32, Try.ntmps32
    go_wp2_with fail
    refine HM.out.mono ?_
    rintro e' w1 ⟨rfl, hb⟩
    have HB := Aside0.mk hb
    clear hb
    go_wp2
    go_ret
    exact ⟨rfl, by repeat (first | exact HB.out | apply below_alloc | apply pw_below_drewN | apply below_drew1)⟩


end Go.Proofs.Ytfcofpgehlmbbaa.P

-- Printed by wip/tools/pp.py of this claim's session (over the kit's print.py); Lean checks it.
namespace Go.Proofs.Ytfcofpgehlmbbaa.P
open Go.RowKit Go.Proofs.YtfcofpgehlmbbaaW.PrintWords Go.Proofs.YtfcofpgehlmbbaaW.PrintLast Go.Proofs.YtfcofpgehlmbbaaW.PrintMore
attribute [local go_sem] max2_int min2_int max_two min_two max_three min_three max_four min_four   -- for this text's walks alone
set_option linter.unusedVariables false
set_option linter.unusedSimpArgs false

/-! ### sequiturref17_is: function 65 -/
def sequiturref17_is.f (a0 : Int) : Option (Bool) := if a0 = 0 then (some false) else (some (a0 != (-9223372036854775808)))
set_option maxHeartbeats 8000000 in
set_option maxRecDepth 100000 in
theorem sequiturref17_is.calls (a0 : Int) (r : Bool) (w : World) (h : sequiturref17_is.f a0 = some r) :
    Calls Try.prog 65 #[.int .i64 a0] w fun e w' => e = .returned (.bool r) ∧ Drawn0 w w' := by
  have H : (if a0 = 0 then (some false) else (some (a0 != (-9223372036854775808)))) = some r := h
  clear h
  by_cases c2 : a0 = 0
  · rw [if_pos c2] at H
    have c2b0 : (a0 == 0) = true := beq_iff_eq.mpr c2
    have c2b1 : (a0 != 0) = false := bne_eq_false_iff_eq.mpr c2
    clear c2
    as_aux_lemma =>
      obtain rfl := Option.some.inj H
      go_enter Try.func65, Try.ntmps65
      go_wp2
      go_ret
      exact ⟨by first | rfl | (simp; done) | (simp [*]; done), by repeat (first | exact Drawn0.refl _ | apply Drawn0.step)⟩
  · rw [if_neg c2] at H
    have c2b0 : (a0 == 0) = false := beq_eq_false_iff_ne.mpr c2
    have c2b1 : (a0 != 0) = true := bne_iff_ne.mpr c2
    as_aux_lemma =>
      obtain rfl := Option.some.inj H
      go_enter Try.func65, Try.ntmps65
      go_wp2
      go_ret
      exact ⟨by first | rfl | (simp; done) | (simp [*]; done), by repeat (first | exact Drawn0.refl _ | apply Drawn0.step)⟩

end Go.Proofs.Ytfcofpgehlmbbaa.P

-- Printed by wip/tools/pp.py of this claim's session (over the kit's print.py); Lean checks it.
namespace Go.Proofs.Ytfcofpgehlmbbaa.P
open Go.RowKit Go.Proofs.YtfcofpgehlmbbaaW.PrintWords Go.Proofs.YtfcofpgehlmbbaaW.PrintLast Go.Proofs.YtfcofpgehlmbbaaW.PrintMore
attribute [local go_sem] max2_int min2_int max_two min_two max_three min_three max_four min_four   -- for this text's walks alone
set_option linter.unusedVariables false
set_option linter.unusedSimpArgs false

/-! ### sequiturref17_Has: function 69 -/
def sequiturref17_Has.l0 : Nat → List Int → Int → Int → Option (Bool)
  | 0, _, _, _ => none
  | k + 1, x0, x1, x5 => if x5 < (x0.length : Int) then ((sequiturref17_is.f x1).bind fun t146 => (if t146 = true then (if 0 ≤ x5 then (if (rd x0 x5) = x1 then (some true) else (sequiturref17_Has.l0 k x0 x1 (wrap64 (x5 + 1)))) else (none)) else (sequiturref17_Has.l0 k x0 x1 (wrap64 (x5 + 1))))) else (some false)
def sequiturref17_Has.f (k : Nat) (l0 : List Int) (a1 : Int) : Option (Bool) := sequiturref17_Has.l0 k l0 a1 0
theorem sequiturref17_Has.mono_l : ∀ k, (∀ y0 y1 y2, LeO (sequiturref17_Has.l0 k y0 y1 y2) (sequiturref17_Has.l0 (k + 1) y0 y1 y2))
  | 0 => fun _ _ _ r h => by simp [sequiturref17_Has.l0] at h
  | k + 1 => by
    have ih0 := sequiturref17_Has.mono_l k
    · intro y0 y1 y2
      unfold sequiturref17_Has.l0
      repeat' first
      | (with_reducible exact ih0 _ _ _)
      | (with_reducible exact LeO.refl _)
      | (with_reducible exact LeO.none _)
      | (with_reducible refine LeO.ite ?_ ?_)
      | (with_reducible refine LeO.bind ?_ (fun _ => ?_))
      | exact ih0 _ _ _
      | exact LeO.none _
      | refine LeO.ite ?_ ?_
      | refine LeO.bind ?_ (fun _ => ?_)
theorem sequiturref17_Has.mono : ∀ a0 a1 k, LeO (sequiturref17_Has.f k a0 a1) (sequiturref17_Has.f (k + 1) a0 a1) := by
  intro a0 a1 k
  have ih0 := sequiturref17_Has.mono_l k
  unfold sequiturref17_Has.f
  repeat' first
      | (with_reducible exact ih0 _ _ _)
      | (with_reducible exact LeO.refl _)
      | (with_reducible exact LeO.none _)
      | (with_reducible refine LeO.ite ?_ ?_)
      | (with_reducible refine LeO.bind ?_ (fun _ => ?_))
      | exact ih0 _ _ _
      | exact LeO.none _
      | refine LeO.ite ?_ ?_
      | refine LeO.bind ?_ (fun _ => ?_)
set_option maxHeartbeats 8000000 in
set_option maxRecDepth 100000 in
theorem sequiturref17_Has.calls (k : Nat) (A0 : Option Addr) (c0 : Nat) (l0 : List Int) (a1 : Int) (r : Bool) (w : World) (hr0 : Kd.C (Kd.int .i64) w A0 l0.length l0) (hc0 : l0.length ≤ c0) (h : sequiturref17_Has.f k l0 a1 = some r) :
    Calls Try.prog 69 #[.slice A0 l0.length c0, .int .i64 a1] w fun e w' => e = .returned (.bool r) ∧ Drawn0 w w' := by
  have HR0 := Aside0.mk hr0
  have HC0 := Aside0.mk hc0
  clear hr0 hc0
  have H : (sequiturref17_Has.l0 k l0 a1 0) = some r := h
  clear h
  have H' := Aside0.mk H
  clear H
  go_enter Try.func69, Try.ntmps69
  go_wp2
  go_loopg [5] k (fun kq v5 w' => ∃ (x5_1 : Int), v5 = .int .i64 x5_1 ∧ Aside0 (sequiturref17_Has.l0 kq l0 a1 x5_1 = some r) ∧ Aside0 (kq ≤ k) ∧ Drawn0 w w')
  case atStart => exact ⟨(0), (by first | rfl | (simp; done) | (simp [*]; done)), H', ⟨Nat.le_refl _⟩, by repeat (first | exact Drawn0.refl _ | apply Drawn0.step)⟩
  case round =>
    clear H'
    try clear p2
    obtain ⟨x5_1, rfl, HA, HK1, ⟨m1, rfl⟩⟩ := hrel
    cases gk with
    | zero => exact absurd HA.out (by simp [sequiturref17_Has.l0])
    | succ k1 =>
      have H := HA.out
      clear HA
      simp only [sequiturref17_Has.l0] at H
      by_cases c3 : x5_1 < (l0.length : Int)
      · rw [if_pos c3] at H
        have c3b0 : decide (x5_1 < (l0.length : Int)) = true := decide_eq_true c3
        clear c3
        replace H := Option.bind_eq_some_iff.mp H
        obtain ⟨t146, A40, H⟩ := H
        replace H : (if t146 = true then (if 0 ≤ x5_1 then (if (rd l0 x5_1) = a1 then (some true) else (sequiturref17_Has.l0 k1 l0 a1 (wrap64 (x5_1 + 1)))) else (none)) else (sequiturref17_Has.l0 k1 l0 a1 (wrap64 (x5_1 + 1)))) = some r := H
        have A4 := Aside0.mk A40
        clear A40
        by_cases c5 : t146 = true
        · subst c5
          have H1 : (if 0 ≤ x5_1 then (if (rd l0 x5_1) = a1 then (some true) else (sequiturref17_Has.l0 k1 l0 a1 (wrap64 (x5_1 + 1)))) else (none)) = some r := by rw [if_pos rfl] at H; exact H
          clear H
          have H := H1
          clear H1
          by_cases c6 : 0 ≤ x5_1
          · rw [if_pos c6] at H
            have c6b0 : decide (0 ≤ x5_1) = true := decide_eq_true c6
            clear c6
            by_cases c7 : (rd l0 x5_1) = a1
            · rw [if_pos c7] at H
              have c7b0 : ((rd l0 x5_1) == a1) = true := beq_iff_eq.mpr c7
              have c7b1 : ((rd l0 x5_1) != a1) = false := bne_eq_false_iff_eq.mpr c7
              clear c7
              as_aux_lemma =>
                obtain rfl := Option.some.inj H
                go_wp2_with (first | ((with_reducible refine gate_callee (f := 65) rfl ?_); refine goesL_ (some 13) rfl rfl Try.func65 (by kernel_rfl) rfl #[.int .i64 a1] rfl (by (try simp only [List.map_toArray, List.map_cons, List.map_nil]); first | done | rfl | (simp only [List.length_drop, List.length_take]; rfl)) ?_; (with_reducible refine (sequiturref17_is.calls a1 true _ A4.out).mono ?_); rintro e w' ⟨rfl, ⟨nd, rfl⟩⟩; refine ⟨_, rfl, ?_⟩; have p147 : 0 ≤ (x5_1 : Int) := of_decide_eq_true (by first | (with_reducible assumption) | assumption); have q147 : x5_1 < (l0.length : Int) := of_decide_eq_true (by first | (with_reducible assumption) | assumption); obtain ⟨ad147, e147, hx147_0⟩ := Kd.at_int HR0.out x5_1 p147 q147; cases e147; replace p147 := eq_true p147; replace q147 := eq_true q147))
                go_ret
                exact ⟨by first | rfl | (simp; done) | (simp [*]; done), by repeat (first | exact Drawn0.refl _ | apply Drawn0.step)⟩
            · rw [if_neg c7] at H
              have c7b0 : ((rd l0 x5_1) == a1) = false := beq_eq_false_iff_ne.mpr c7
              have c7b1 : ((rd l0 x5_1) != a1) = true := bne_iff_ne.mpr c7
              as_aux_lemma =>
                have H' := Aside0.mk H
                clear H
                go_wp2_with (first | ((with_reducible refine gate_callee (f := 65) rfl ?_); refine goesL_ (some 13) rfl rfl Try.func65 (by kernel_rfl) rfl #[.int .i64 a1] rfl (by (try simp only [List.map_toArray, List.map_cons, List.map_nil]); first | done | rfl | (simp only [List.length_drop, List.length_take]; rfl)) ?_; (with_reducible refine (sequiturref17_is.calls a1 true _ A4.out).mono ?_); rintro e w' ⟨rfl, ⟨nd, rfl⟩⟩; refine ⟨_, rfl, ?_⟩; have p147 : 0 ≤ (x5_1 : Int) := of_decide_eq_true (by first | (with_reducible assumption) | assumption); have q147 : x5_1 < (l0.length : Int) := of_decide_eq_true (by first | (with_reducible assumption) | assumption); obtain ⟨ad147, e147, hx147_0⟩ := Kd.at_int HR0.out x5_1 p147 q147; cases e147; replace p147 := eq_true p147; replace q147 := eq_true q147))
                go_roundg k1
                case measure => have := HK1.out; omega
                case rel => exact ⟨(wrap64 (x5_1 + 1)), (by first | rfl | (simp; done) | (simp [*]; done)), H', ⟨by have := HK1.out; omega⟩, by repeat (first | exact Drawn0.refl _ | apply Drawn0.step)⟩
          · rw [if_neg c6] at H
            exact absurd H (by simp)
        · replace c5 := Bool.eq_false_iff.mpr c5
          subst c5
          have H1 : (sequiturref17_Has.l0 k1 l0 a1 (wrap64 (x5_1 + 1))) = some r := by rw [if_neg (show ¬ (false = true) by decide)] at H; exact H
          clear H
          have H := H1
          clear H1
          as_aux_lemma =>
            have H' := Aside0.mk H
            clear H
            go_wp2_with (first | ((with_reducible refine gate_callee (f := 65) rfl ?_); refine goesL_ (some 13) rfl rfl Try.func65 (by kernel_rfl) rfl #[.int .i64 a1] rfl (by (try simp only [List.map_toArray, List.map_cons, List.map_nil]); first | done | rfl | (simp only [List.length_drop, List.length_take]; rfl)) ?_; (with_reducible refine (sequiturref17_is.calls a1 false _ A4.out).mono ?_); rintro e w' ⟨rfl, ⟨nd, rfl⟩⟩; refine ⟨_, rfl, ?_⟩))
            go_roundg k1
            case measure => have := HK1.out; omega
            case rel => exact ⟨(wrap64 (x5_1 + 1)), (by first | rfl | (simp; done) | (simp [*]; done)), H', ⟨by have := HK1.out; omega⟩, by repeat (first | exact Drawn0.refl _ | apply Drawn0.step)⟩
      · rw [if_neg c3] at H
        have c3b0 : decide (x5_1 < (l0.length : Int)) = false := decide_eq_false c3
        clear c3
        as_aux_lemma =>
          obtain rfl := Option.some.inj H
          go_wp2
          go_ret
          exact ⟨by first | rfl | (simp; done) | (simp [*]; done), by repeat (first | exact Drawn0.refl _ | apply Drawn0.step)⟩

end Go.Proofs.Ytfcofpgehlmbbaa.P

-- Printed by wip/tools/pp.py of this claim's session (over the kit's print.py); Lean checks it.
namespace Go.Proofs.Ytfcofpgehlmbbaa.P
open Go.RowKit Go.Proofs.YtfcofpgehlmbbaaW.PrintWords Go.Proofs.YtfcofpgehlmbbaaW.PrintLast Go.Proofs.YtfcofpgehlmbbaaW.PrintMore
attribute [local go_sem] max2_int min2_int max_two min_two max_three min_three max_four min_four   -- for this text's walks alone
set_option linter.unusedVariables false
set_option linter.unusedSimpArgs false

/-! ### sequiturref17_Within: function 79 -/
def sequiturref17_Within.l0 : Nat → List Int → List Int → Int → Option (Bool)
  | 0, _, _, _ => none
  | k + 1, x0, x1, x5 => if x5 < (x0.length : Int) then (if 0 ≤ x5 then ((sequiturref17_is.f (rd x0 x5)).bind fun t353 => (if t353 = true then ((sequiturref17_Has.f k x1 (rd x0 x5)).bind fun t355 => (if t355 = true then (sequiturref17_Within.l0 k x0 x1 (wrap64 (x5 + 1))) else (some false))) else (sequiturref17_Within.l0 k x0 x1 (wrap64 (x5 + 1))))) else (none)) else (some true)
def sequiturref17_Within.f (k : Nat) (l0 : List Int) (l1 : List Int) : Option (Bool) := sequiturref17_Within.l0 k l0 l1 0
theorem sequiturref17_Within.mono_l : ∀ k, (∀ y0 y1 y2, LeO (sequiturref17_Within.l0 k y0 y1 y2) (sequiturref17_Within.l0 (k + 1) y0 y1 y2))
  | 0 => fun _ _ _ r h => by simp [sequiturref17_Within.l0] at h
  | k + 1 => by
    have ih0 := sequiturref17_Within.mono_l k
    · intro y0 y1 y2
      unfold sequiturref17_Within.l0
      repeat' first
      | (with_reducible exact ih0 _ _ _)
      | (with_reducible exact sequiturref17_Has.mono _ _ _)
      | (with_reducible exact LeO.refl _)
      | (with_reducible exact LeO.none _)
      | (with_reducible refine LeO.ite ?_ ?_)
      | (with_reducible refine LeO.bind ?_ (fun _ => ?_))
      | exact ih0 _ _ _
      | exact sequiturref17_Has.mono _ _ _
      | exact LeO.none _
      | refine LeO.ite ?_ ?_
      | refine LeO.bind ?_ (fun _ => ?_)
theorem sequiturref17_Within.mono : ∀ a0 a1 k, LeO (sequiturref17_Within.f k a0 a1) (sequiturref17_Within.f (k + 1) a0 a1) := by
  intro a0 a1 k
  have ih0 := sequiturref17_Within.mono_l k
  unfold sequiturref17_Within.f
  repeat' first
      | (with_reducible exact ih0 _ _ _)
      | (with_reducible exact sequiturref17_Has.mono _ _ _)
      | (with_reducible exact LeO.refl _)
      | (with_reducible exact LeO.none _)
      | (with_reducible refine LeO.ite ?_ ?_)
      | (with_reducible refine LeO.bind ?_ (fun _ => ?_))
      | exact ih0 _ _ _
      | exact sequiturref17_Has.mono _ _ _
      | exact LeO.none _
      | refine LeO.ite ?_ ?_
      | refine LeO.bind ?_ (fun _ => ?_)
set_option maxHeartbeats 8000000 in
set_option maxRecDepth 100000 in
theorem sequiturref17_Within.calls (k : Nat) (A0 : Option Addr) (c0 : Nat) (l0 : List Int) (A1 : Option Addr) (c1 : Nat) (l1 : List Int) (r : Bool) (w : World) (hr0 : Kd.C (Kd.int .i64) w A0 l0.length l0) (hc0 : l0.length ≤ c0) (hr1 : Kd.C (Kd.int .i64) w A1 l1.length l1) (hc1 : l1.length ≤ c1) (h : sequiturref17_Within.f k l0 l1 = some r) :
    Calls Try.prog 79 #[.slice A0 l0.length c0, .slice A1 l1.length c1] w fun e w' => e = .returned (.bool r) ∧ Drawn0 w w' := by
  have HR0 := Aside0.mk hr0
  have HC0 := Aside0.mk hc0
  clear hr0 hc0
  have HR1 := Aside0.mk hr1
  have HC1 := Aside0.mk hc1
  clear hr1 hc1
  have H : (sequiturref17_Within.l0 k l0 l1 0) = some r := h
  clear h
  have H' := Aside0.mk H
  clear H
  go_enter Try.func79, Try.ntmps79
  go_wp2
  go_loopg [5] k (fun kq v5 w' => ∃ (x5_1 : Int), v5 = .int .i64 x5_1 ∧ Aside0 (sequiturref17_Within.l0 kq l0 l1 x5_1 = some r) ∧ Aside0 (kq ≤ k) ∧ Drawn0 w w')
  case atStart => exact ⟨(0), (by first | rfl | (simp; done) | (simp [*]; done)), H', ⟨Nat.le_refl _⟩, by repeat (first | exact Drawn0.refl _ | apply Drawn0.step)⟩
  case round =>
    clear H'
    try clear c1
    try clear p2
    obtain ⟨x5_1, rfl, HA, HK1, ⟨m1, rfl⟩⟩ := hrel
    cases gk with
    | zero => exact absurd HA.out (by simp [sequiturref17_Within.l0])
    | succ k1 =>
      have H := HA.out
      clear HA
      simp only [sequiturref17_Within.l0] at H
      by_cases c3 : x5_1 < (l0.length : Int)
      · rw [if_pos c3] at H
        have c3b0 : decide (x5_1 < (l0.length : Int)) = true := decide_eq_true c3
        clear c3
        by_cases c4 : 0 ≤ x5_1
        · rw [if_pos c4] at H
          have c4b0 : decide (0 ≤ x5_1) = true := decide_eq_true c4
          clear c4
          replace H := Option.bind_eq_some_iff.mp H
          obtain ⟨t353, A50, H⟩ := H
          replace H : (if t353 = true then ((sequiturref17_Has.f k1 l1 (rd l0 x5_1)).bind fun t355 => (if t355 = true then (sequiturref17_Within.l0 k1 l0 l1 (wrap64 (x5_1 + 1))) else (some false))) else (sequiturref17_Within.l0 k1 l0 l1 (wrap64 (x5_1 + 1)))) = some r := H
          have A5 := Aside0.mk A50
          clear A50
          by_cases c6 : t353 = true
          · subst c6
            have H1 : ((sequiturref17_Has.f k1 l1 (rd l0 x5_1)).bind fun t355 => (if t355 = true then (sequiturref17_Within.l0 k1 l0 l1 (wrap64 (x5_1 + 1))) else (some false))) = some r := by rw [if_pos rfl] at H; exact H
            clear H
            have H := H1
            clear H1
            replace H := Option.bind_eq_some_iff.mp H
            obtain ⟨t355, A70, H⟩ := H
            replace H : (if t355 = true then (sequiturref17_Within.l0 k1 l0 l1 (wrap64 (x5_1 + 1))) else (some false)) = some r := H
            have A7 := Aside0.mk A70
            clear A70
            by_cases c8 : t355 = true
            · subst c8
              have H1 : (sequiturref17_Within.l0 k1 l0 l1 (wrap64 (x5_1 + 1))) = some r := by rw [if_pos rfl] at H; exact H
              clear H
              have H := H1
              clear H1
              as_aux_lemma =>
                have H' := Aside0.mk H
                clear H
                have p352 : 0 ≤ (x5_1 : Int) := of_decide_eq_true (by first | (with_reducible assumption) | assumption)
                have q352 : x5_1 < (l0.length : Int) := of_decide_eq_true (by first | (with_reducible assumption) | assumption)
                obtain ⟨ad352, e352, hx352_0⟩ := Kd.at_int HR0.out x5_1 p352 q352
                cases e352
                replace p352 := eq_true p352
                replace q352 := eq_true q352
                go_wp2_with (first | ((with_reducible refine gate_callee (f := 65) rfl ?_); refine goesL_ (some 16) rfl rfl Try.func65 (by kernel_rfl) rfl #[.int .i64 (rd l0 x5_1)] rfl (by (try simp only [List.map_toArray, List.map_cons, List.map_nil]); first | done | rfl | (simp only [List.length_drop, List.length_take]; rfl)) ?_; (with_reducible refine (sequiturref17_is.calls (rd l0 x5_1) true _ A5.out).mono ?_); rintro e w' ⟨rfl, ⟨nd, rfl⟩⟩; refine ⟨_, rfl, ?_⟩; have p354 : 0 ≤ (x5_1 : Int) := of_decide_eq_true (by first | (with_reducible assumption) | assumption); have q354 : x5_1 < (l0.length : Int) := of_decide_eq_true (by first | (with_reducible assumption) | assumption); obtain ⟨ad354, e354, hx354_0⟩ := Kd.at_int HR0.out x5_1 p354 q354; obtain rfl : ad352 = ad354 := (by injection e354); replace p354 := eq_true p354; replace q354 := eq_true q354) | (go_at_call 69; (with_reducible refine (sequiturref17_Has.calls k1 _ _ l1 (rd l0 x5_1) true _ ?side1 ?side2 A7.out).mono ?_); (case side1 => repeat (first | exact HR1.out | (with_reducible refine Kd.C_alloc ?_ _) | (with_reducible refine Kd.C_drewN ?_ _) | (with_reducible refine Kd.C_drew ?_))); (case side2 => exact HC1.out); rintro e w' ⟨rfl, ⟨nd, rfl⟩⟩))
                go_roundg k1
                case measure => have := HK1.out; omega
                case rel => exact ⟨(wrap64 (x5_1 + 1)), (by first | rfl | (simp; done) | (simp [*]; done)), H', ⟨by have := HK1.out; omega⟩, by repeat (first | exact Drawn0.refl _ | apply Drawn0.step)⟩
            · replace c8 := Bool.eq_false_iff.mpr c8
              subst c8
              have H1 : (some false) = some r := by rw [if_neg (show ¬ (false = true) by decide)] at H; exact H
              clear H
              have H := H1
              clear H1
              as_aux_lemma =>
                obtain rfl := Option.some.inj H
                have p352 : 0 ≤ (x5_1 : Int) := of_decide_eq_true (by first | (with_reducible assumption) | assumption)
                have q352 : x5_1 < (l0.length : Int) := of_decide_eq_true (by first | (with_reducible assumption) | assumption)
                obtain ⟨ad352, e352, hx352_0⟩ := Kd.at_int HR0.out x5_1 p352 q352
                cases e352
                replace p352 := eq_true p352
                replace q352 := eq_true q352
                go_wp2_with (first | ((with_reducible refine gate_callee (f := 65) rfl ?_); refine goesL_ (some 16) rfl rfl Try.func65 (by kernel_rfl) rfl #[.int .i64 (rd l0 x5_1)] rfl (by (try simp only [List.map_toArray, List.map_cons, List.map_nil]); first | done | rfl | (simp only [List.length_drop, List.length_take]; rfl)) ?_; (with_reducible refine (sequiturref17_is.calls (rd l0 x5_1) true _ A5.out).mono ?_); rintro e w' ⟨rfl, ⟨nd, rfl⟩⟩; refine ⟨_, rfl, ?_⟩; have p354 : 0 ≤ (x5_1 : Int) := of_decide_eq_true (by first | (with_reducible assumption) | assumption); have q354 : x5_1 < (l0.length : Int) := of_decide_eq_true (by first | (with_reducible assumption) | assumption); obtain ⟨ad354, e354, hx354_0⟩ := Kd.at_int HR0.out x5_1 p354 q354; obtain rfl : ad352 = ad354 := (by injection e354); replace p354 := eq_true p354; replace q354 := eq_true q354) | (go_at_call 69; (with_reducible refine (sequiturref17_Has.calls k1 _ _ l1 (rd l0 x5_1) false _ ?side1 ?side2 A7.out).mono ?_); (case side1 => repeat (first | exact HR1.out | (with_reducible refine Kd.C_alloc ?_ _) | (with_reducible refine Kd.C_drewN ?_ _) | (with_reducible refine Kd.C_drew ?_))); (case side2 => exact HC1.out); rintro e w' ⟨rfl, ⟨nd, rfl⟩⟩))
                go_ret
                exact ⟨by first | rfl | (simp; done) | (simp [*]; done), by repeat (first | exact Drawn0.refl _ | apply Drawn0.step)⟩
          · replace c6 := Bool.eq_false_iff.mpr c6
            subst c6
            have H1 : (sequiturref17_Within.l0 k1 l0 l1 (wrap64 (x5_1 + 1))) = some r := by rw [if_neg (show ¬ (false = true) by decide)] at H; exact H
            clear H
            have H := H1
            clear H1
            as_aux_lemma =>
              have H' := Aside0.mk H
              clear H
              have p352 : 0 ≤ (x5_1 : Int) := of_decide_eq_true (by first | (with_reducible assumption) | assumption)
              have q352 : x5_1 < (l0.length : Int) := of_decide_eq_true (by first | (with_reducible assumption) | assumption)
              obtain ⟨ad352, e352, hx352_0⟩ := Kd.at_int HR0.out x5_1 p352 q352
              cases e352
              replace p352 := eq_true p352
              replace q352 := eq_true q352
              go_wp2_with (first | ((with_reducible refine gate_callee (f := 65) rfl ?_); refine goesL_ (some 16) rfl rfl Try.func65 (by kernel_rfl) rfl #[.int .i64 (rd l0 x5_1)] rfl (by (try simp only [List.map_toArray, List.map_cons, List.map_nil]); first | done | rfl | (simp only [List.length_drop, List.length_take]; rfl)) ?_; (with_reducible refine (sequiturref17_is.calls (rd l0 x5_1) false _ A5.out).mono ?_); rintro e w' ⟨rfl, ⟨nd, rfl⟩⟩; refine ⟨_, rfl, ?_⟩))
              go_roundg k1
              case measure => have := HK1.out; omega
              case rel => exact ⟨(wrap64 (x5_1 + 1)), (by first | rfl | (simp; done) | (simp [*]; done)), H', ⟨by have := HK1.out; omega⟩, by repeat (first | exact Drawn0.refl _ | apply Drawn0.step)⟩
        · rw [if_neg c4] at H
          exact absurd H (by simp)
      · rw [if_neg c3] at H
        have c3b0 : decide (x5_1 < (l0.length : Int)) = false := decide_eq_false c3
        clear c3
        as_aux_lemma =>
          obtain rfl := Option.some.inj H
          go_wp2
          go_ret
          exact ⟨by first | rfl | (simp; done) | (simp [*]; done), by repeat (first | exact Drawn0.refl _ | apply Drawn0.step)⟩

end Go.Proofs.Ytfcofpgehlmbbaa.P

-- Printed by wip/tools/pp.py of this claim's session (over the kit's print.py); Lean checks it.
namespace Go.Proofs.Ytfcofpgehlmbbaa.P
open Go.RowKit Go.Proofs.YtfcofpgehlmbbaaW.PrintWords Go.Proofs.YtfcofpgehlmbbaaW.PrintLast Go.Proofs.YtfcofpgehlmbbaaW.PrintMore
attribute [local go_sem] max2_int min2_int max_two min_two max_three min_three max_four min_four   -- for this text's walks alone
set_option linter.unusedVariables false
set_option linter.unusedSimpArgs false

/-! ### sequiturref17_Same: function 34 -/
def sequiturref17_Same.f (k : Nat) (l0 : List Int) (l1 : List Int) : Option (Bool) := (sequiturref17_Within.f k l0 l1).bind fun t356 => (if t356 = true then ((sequiturref17_Within.f k l1 l0).bind fun t357 => (some t357)) else (some false))
theorem sequiturref17_Same.mono : ∀ a0 a1 k, LeO (sequiturref17_Same.f k a0 a1) (sequiturref17_Same.f (k + 1) a0 a1) := by
  intro a0 a1 k
  unfold sequiturref17_Same.f
  repeat' first
      | (with_reducible exact sequiturref17_Within.mono _ _ _)
      | (with_reducible exact LeO.refl _)
      | (with_reducible exact LeO.none _)
      | (with_reducible refine LeO.ite ?_ ?_)
      | (with_reducible refine LeO.bind ?_ (fun _ => ?_))
      | exact sequiturref17_Within.mono _ _ _
      | exact LeO.none _
      | refine LeO.ite ?_ ?_
      | refine LeO.bind ?_ (fun _ => ?_)
set_option maxHeartbeats 8000000 in
set_option maxRecDepth 100000 in
theorem sequiturref17_Same.calls (k : Nat) (A0 : Option Addr) (c0 : Nat) (l0 : List Int) (A1 : Option Addr) (c1 : Nat) (l1 : List Int) (r : Bool) (w : World) (hr0 : Kd.C (Kd.int .i64) w A0 l0.length l0) (hc0 : l0.length ≤ c0) (hr1 : Kd.C (Kd.int .i64) w A1 l1.length l1) (hc1 : l1.length ≤ c1) (h : sequiturref17_Same.f k l0 l1 = some r) :
    Calls Try.prog 34 #[.slice A0 l0.length c0, .slice A1 l1.length c1] w fun e w' => e = .returned (.bool r) ∧ Drawn0 w w' := by
  have HR0 := Aside0.mk hr0
  have HC0 := Aside0.mk hc0
  clear hr0 hc0
  have HR1 := Aside0.mk hr1
  have HC1 := Aside0.mk hc1
  clear hr1 hc1
  have H : ((sequiturref17_Within.f k l0 l1).bind fun t356 => (if t356 = true then ((sequiturref17_Within.f k l1 l0).bind fun t357 => (some t357)) else (some false))) = some r := h
  clear h
  replace H := Option.bind_eq_some_iff.mp H
  obtain ⟨t356, A30, H⟩ := H
  replace H : (if t356 = true then ((sequiturref17_Within.f k l1 l0).bind fun t357 => (some t357)) else (some false)) = some r := H
  have A3 := Aside0.mk A30
  clear A30
  by_cases c4 : t356 = true
  · subst c4
    have H1 : ((sequiturref17_Within.f k l1 l0).bind fun t357 => (some t357)) = some r := by rw [if_pos rfl] at H; exact H
    clear H
    have H := H1
    clear H1
    replace H := Option.bind_eq_some_iff.mp H
    obtain ⟨t357, A50, H⟩ := H
    replace H : (some t357) = some r := H
    have A5 := Aside0.mk A50
    clear A50
    as_aux_lemma =>
      obtain rfl := Option.some.inj H
      go_enter Try.func34, Try.ntmps34
      go_wp2_with (first | ((with_reducible refine gate_callee (f := 79) rfl ?_); refine goesL_ (some 7) rfl rfl Try.func79 (by kernel_rfl) rfl #[.slice A0 l0.length c0, .slice A1 l1.length c1] rfl (by (try simp only [List.map_toArray, List.map_cons, List.map_nil]); first | done | rfl | (simp only [List.length_drop, List.length_take]; rfl)) ?_; (with_reducible refine (sequiturref17_Within.calls k _ _ l0 _ _ l1 true _ ?side1 ?side2 ?side3 ?side4 A3.out).mono ?_); (case side1 => repeat (first | exact HR0.out | (with_reducible refine Kd.C_alloc ?_ _) | (with_reducible refine Kd.C_drewN ?_ _) | (with_reducible refine Kd.C_drew ?_))); (case side2 => exact HC0.out); (case side3 => repeat (first | exact HR1.out | (with_reducible refine Kd.C_alloc ?_ _) | (with_reducible refine Kd.C_drewN ?_ _) | (with_reducible refine Kd.C_drew ?_))); (case side4 => exact HC1.out); rintro e w' ⟨rfl, ⟨nd, rfl⟩⟩; refine ⟨_, rfl, ?_⟩) | (go_at_call 79; (with_reducible refine (sequiturref17_Within.calls k _ _ l1 _ _ l0 t357 _ ?side1 ?side2 ?side3 ?side4 A5.out).mono ?_); (case side1 => repeat (first | exact HR1.out | (with_reducible refine Kd.C_alloc ?_ _) | (with_reducible refine Kd.C_drewN ?_ _) | (with_reducible refine Kd.C_drew ?_))); (case side2 => exact HC1.out); (case side3 => repeat (first | exact HR0.out | (with_reducible refine Kd.C_alloc ?_ _) | (with_reducible refine Kd.C_drewN ?_ _) | (with_reducible refine Kd.C_drew ?_))); (case side4 => exact HC0.out); rintro e w' ⟨rfl, ⟨nd, rfl⟩⟩))
      go_ret
      exact ⟨by first | rfl | (simp; done) | (simp [*]; done), by repeat (first | exact Drawn0.refl _ | apply Drawn0.step)⟩
  · replace c4 := Bool.eq_false_iff.mpr c4
    subst c4
    have H1 : (some false) = some r := by rw [if_neg (show ¬ (false = true) by decide)] at H; exact H
    clear H
    have H := H1
    clear H1
    as_aux_lemma =>
      obtain rfl := Option.some.inj H
      go_enter Try.func34, Try.ntmps34
      go_wp2_with (first | ((with_reducible refine gate_callee (f := 79) rfl ?_); refine goesL_ (some 7) rfl rfl Try.func79 (by kernel_rfl) rfl #[.slice A0 l0.length c0, .slice A1 l1.length c1] rfl (by (try simp only [List.map_toArray, List.map_cons, List.map_nil]); first | done | rfl | (simp only [List.length_drop, List.length_take]; rfl)) ?_; (with_reducible refine (sequiturref17_Within.calls k _ _ l0 _ _ l1 false _ ?side1 ?side2 ?side3 ?side4 A3.out).mono ?_); (case side1 => repeat (first | exact HR0.out | (with_reducible refine Kd.C_alloc ?_ _) | (with_reducible refine Kd.C_drewN ?_ _) | (with_reducible refine Kd.C_drew ?_))); (case side2 => exact HC0.out); (case side3 => repeat (first | exact HR1.out | (with_reducible refine Kd.C_alloc ?_ _) | (with_reducible refine Kd.C_drewN ?_ _) | (with_reducible refine Kd.C_drew ?_))); (case side4 => exact HC1.out); rintro e w' ⟨rfl, ⟨nd, rfl⟩⟩; refine ⟨_, rfl, ?_⟩))
      go_ret
      exact ⟨by first | rfl | (simp; done) | (simp [*]; done), by repeat (first | exact Drawn0.refl _ | apply Drawn0.step)⟩

end Go.Proofs.Ytfcofpgehlmbbaa.P

-- Printed by wip/tools/pp.py of this claim's session (over the kit's print.py); Lean checks it.
namespace Go.Proofs.Ytfcofpgehlmbbaa.P
open Go.RowKit Go.Proofs.YtfcofpgehlmbbaaW.PrintWords Go.Proofs.YtfcofpgehlmbbaaW.PrintLast Go.Proofs.YtfcofpgehlmbbaaW.PrintMore
attribute [local go_sem] max2_int min2_int max_two min_two max_three min_three max_four min_four   -- for this text's walks alone
set_option linter.unusedVariables false
set_option linter.unusedSimpArgs false

-- SOLO
-- IMPORTS Derived.Test.YtfcofpgehlmbbaaPxAunitEng Derived.Test.YtfcofpgehlmbbaaPxAunitMore Derived.Test.YtfcofpgehlmbbaaPxAslicesHd
/-! ### sequiturlaw20_UnitBack: function 5 -/
/-- The acts go, one behind the other. -/
def us20Acts (k : Nat) (Q : Eng → Prop) : List S35 → Eng → Prop
  | [], E => Q E
  | x :: l, E => E.Lits ∧ (∀ y ∈ E.tr, (Lit.int .i64 y).wf = true) ∧ (Lit.int .i64 x.f1).wf = true ∧ (∀ r, lit_Clean.f x.f2 = some r → ∀ y ∈ r.1, (Lit.int .i64 y).wf = true) ∧ ∃ E2 r f, Eng.act k E x.f0 x.f1 x.f2 = some (E2, r, f) ∧ us20Acts k Q l E2
/-- What the law's last calls tell. -/
def ub20End (k : Nat) (n x : Int) (F : Eng) : Prop :=
  F.Lits ∧ F.tr.length < 4398046511104 ∧ F.st.length < 4398046511104 ∧ sequiturbase_Ints.f k F.tr F.tr = some true ∧ sequiturref17_Same.f k F.tr F.tr = some true ∧ ∃ E2 r, Eng.push k F x = some (E2, r) ∧
    (r = false → E2 = F ∧ (F.br ≥ 0 ∨ F.br < 0 ∧ F.val x ≠ 0 ∨ F.br < 0 ∧ F.val x = 0 ∧ x = 0 ∨ F.br < 0 ∧ F.val x = 0 ∧ x ≠ 0 ∧ n < x ∨ F.br < 0 ∧ F.val x = 0 ∧ x ≠ 0 ∧ ¬ n < x ∧ x < -n)) ∧
    (r = true → F.br < 0 ∧ E2.st.length = F.st.length + 1 ∧ E2.val x = 1 ∧ (∃ m, sequiturref17_Of.f x = some m ∧ (Lit.int .i64 m).wf = true ∧ E2.why m = -1 ∧ E2.level m = (F.st.length : Int) + 1) ∧ E2.Lits ∧ (∀ y ∈ E2.tr, (Lit.int .i64 y).wf = true) ∧
      ∃ E3, Eng.pop k E2 = some (E3, true) ∧ E3.st.length = F.st.length ∧ E3.br < 0 ∧ E3.tr = F.tr)
/-- What the law's calls tell. -/
def sequiturlaw20_UnitBack.Fact (k : Nat) (n : Int) (l : List (List Int)) (acts : List S35) (x : Int) : Prop :=
  sequiturlaw20_alive.P k ∧ (Lit.int .i64 x).wf = true ∧ ∃ fw, sequiturlaw20_Few.f k n l acts = some fw ∧ (fw = true → ∃ ra re, cnf_Right.f k n l = some (ra, re) ∧ (re = 0 → (0 ≤ n ∧ n ≤ 1024) ∧ ∃ E, Eng.new k n l = some (E, 0) ∧ (∀ c ∈ l, ∀ r, lit_Clean.f c = some r → ∀ x ∈ r.1, (Lit.int .i64 x).wf = true) ∧
    us20Acts k (ub20End k n x) acts E))
/-- What stays beside the engine: the law's own box, a row, and all that was there. -/
structure Ub20 (w : World) (gb : Nat) (cs : Array Value) (ty : Nat) (B : Nat) (cur : World) (T : Tag) (E : Eng) (p : EngP) (v : Value) (tr : List Int) : Prop where
  e : EngIn cur B T E p
  b : Below w.heap.size w cur
  t : ∀ k, k < w.heap.size → T k = (0, 0)
  r : Kd.R (Kd.int .i64) 3 cur w.heap.size (fun k => T k = (0, 0) ∧ True) v tr
  g : cur.heap[gb]? = some (.cells cs ty (0, 0))
  tg : T gb = (0, 0)
section
variable {w : World} {gb : Nat} {cs : Array Value} {ty B : Nat} {cur nxt : World} {T T' : Tag} {E E' : Eng} {p p' : EngP} {v : Value} {tr : List Int}
theorem Ub20.below (h : Ub20 w gb cs ty B cur T E p v tr) (hb : Below cur.heap.size cur nxt) : Ub20 w gb cs ty B nxt T E p v tr :=
  ⟨h.e.below hb, below_step h.b hb, h.t, Kd.R_below h.r hb, blk_below h.g hb, h.tg⟩
theorem Ub20.moved (h : Ub20 w gb cs ty B cur T E p v tr) (he : EngIn nxt B T' E' p') (m : Moved T T' cur nxt) : Ub20 w gb cs ty B nxt T' E' p' v tr :=
  ⟨he, Below.trans h.b (m.below _ h.b.size h.t), fun k hk => (m.old k (Nat.lt_of_lt_of_le hk h.b.size)).1.trans (h.t k hk), R_moved h.r m, ((m.old gb (blk_lt h.g)).2 h.tg).trans h.g, (m.old gb (blk_lt h.g)).1.trans h.tg⟩
end
set_option maxRecDepth 100000 in
set_option maxHeartbeats 8000000 in
theorem sequiturlaw20_UnitBack.walk (k : Nat) (n : Int) (A0 : Option Addr) (c0 : Nat) (l0 : List (List Int)) (A1 : Option Addr) (c1 : Nat) (l1 : List S35) (x : Int) (w : World)
    (hr0 : Kd.C (Kd.slice 3 (Kd.int .i64)) w A0 l0.length l0) (hc0 : l0.length ≤ c0) (hr1 : Kd.C k35 w A1 l1.length l1) (hc1 : l1.length ≤ c1) (h : sequiturlaw20_UnitBack.Fact k n l0 l1 x) :
    Calls Try.prog 5 #[.agg #[.int .i64 n, .slice A0 l0.length c0], .slice A1 l1.length c1, .int .i64 x] w fun e w' => e = .returned (.bool true) ∧ Below w.heap.size w w' := by
  obtain ⟨hal, hx, fw, hfw, hh⟩ := h
  have HAL := Aside0.mk hal
  have HX := Aside0.mk hx
  have HFW := Aside0.mk hfw
  have HH := Aside0.mk hh
  have HR0 := Aside0.mk hr0
  have HC0 := Aside0.mk hc0
  have HR1 := Aside0.mk hr1
  have HC1 := Aside0.mk hc1
  have hu24 := Try.underlying24
  have hu35 := Try.underlying35
  clear hal hx hfw hh hr0 hc0 hr1 hc1
  have HB := Aside0.mk (Below.refl w.heap.size w)
  go_enter Try.func5, Try.ntmps5
  go_upto_region 1 with (first | ((with_reducible refine gate_dst (N := 3) rfl ?_); refine box_event ?hg (N := 3) ?hd (cs := #[.int .i64 n, .slice A0 l0.length c0]) (t := 24) ?hr ?_; (case hd => rfl); (case hg => rfl); (case hr => first | (go_simp; done) | (go_simp; rfl)); intro gb hg w3 hbox hb; have n0_ := Aside0.mk (below_step HB.out hb); have BK := Aside0.mk hbox; clear HB; have HB := n0_; clear n0_; clear hb hbox hg))
  (try simp only [Act.put, List.setIfInBounds_toArray, List.set_cons_zero, List.set_cons_succ])
  have cb0 : w3.cell? ⟨gb, 0, none⟩ = some (.int .i64 n) := (blk_cell BK.out 0).trans rfl
  have cb1 : w3.cell? ⟨gb, 1, none⟩ = some (.slice A0 l0.length c0) := (blk_cell BK.out 1).trans rfl
  have HCF := Aside0.mk (sequiturlaw20_Few.calls k n A0 c0 l0 A1 c1 l1 fw w3 (Kd.C_below HR0.out HB.out) HC0.out (Kd.C_below HR1.out HB.out) HC1.out HFW.out)
  cases fw with
  | false =>
    clear HH
    go_wp2_with fail
    refine HCF.out.mono ?_
    rintro e' w4 ⟨rfl, hb4⟩
    have n_ := Aside0.mk (below_step HB.out hb4)
    clear HB HCF hb4
    have HB := n_
    clear n_
    go_wp2_with fail
    refine (sequiturlaw20_alive.calls k _ HAL.out).mono ?_
    rintro e' w6 ⟨rfl, hb6⟩
    have n_ := Aside0.mk (below_step HB.out hb6)
    clear hb6
    go_wp2
    go_ret
    exact ⟨rfl, n_.out⟩
  | true =>
    obtain ⟨ra, re, hcr, hh⟩ := HH.out rfl
    have HCR := Aside0.mk hcr
    clear HH hcr
    go_wp2_with fail
    refine HCF.out.mono ?_
    rintro e' w4 ⟨rfl, hb4⟩
    have n_ := Aside0.mk (below_step HB.out hb4)
    have BK4 := Aside0.mk (blk_below BK.out hb4)
    clear HB BK HCF hb4 cb0 cb1
    have HB := n_
    clear n_
    have cb0 : w4.cell? ⟨gb, 0, none⟩ = some (.int .i64 n) := (blk_cell BK4.out 0).trans rfl
    have cb1 : w4.cell? ⟨gb, 1, none⟩ = some (.slice A0 l0.length c0) := (blk_cell BK4.out 1).trans rfl
    by_cases hre : re = 0
    · subst hre
      obtain ⟨hn, E, hnew, hwf, hh⟩ := hh rfl
      have HN := Aside0.mk hn
      have HCN := Aside0.mk (eng_New.calls k n A0 c0 l0 E w4 (Kd.C_below HR0.out HB.out) HC0.out hwf hnew)
      have HGO := Aside0.mk hh
      clear hnew hwf hh hn
      go_wp2_with fail
      refine HCN.out.mono ?_
      rintro e' w5 ⟨B, rfl, T, p, h5, hb5, hT5⟩
      have n_ := Aside0.mk (below_step HB.out hb5)
      have BK5 := Aside0.mk (blk_below BK4.out hb5)
      have HE := Aside0.mk h5
      have HT := Aside0.mk (show ∀ k, k < w.heap.size → T k = (0, 0) from fun k hk => hT5 k (Nat.lt_of_lt_of_le hk (below_size HB.out)))
      have HG := Aside0.mk (show T gb = (0, 0) from hT5 gb (blk_lt BK4.out))
      clear HB BK4 HCN h5 hb5 hT5 cb0 cb1
      have HB := n_
      clear n_
      have HS5 := Aside0.mk (show Ub20 w gb #[.int .i64 n, .slice A0 l0.length c0] 24 B w5 T E p (.slice none 0 0) [] from ⟨HE.out, HB.out, HT.out, Kd.R_nil _ _ _ _ _, BK5.out, HG.out⟩)
      have hlb : l1.length ≤ 9223372036854775807 := HR1.out.2.1
      clear HB HE HT BK5 HG
      go_wp2
      go_loopg [30] l1.length (fun gg v30 wr => ∃ (j : Nat) (E1 : Eng) (T1 : Tag) (p1 : EngP), v30 = .int .i64 (j : Int) ∧ Aside0 (j + gg = l1.length) ∧ Aside0 (Ub20 w gb #[.int .i64 n, .slice A0 l0.length c0] 24 B wr T1 E1 p1 (.slice none 0 0) []) ∧ Aside0 (us20Acts k (ub20End k n x) (l1.drop j) E1))
      case atStart => exact ⟨0, E, T, p, rfl, ⟨by simp⟩, HS5, HGO⟩
      case round =>
        clear HS5 HGO
        obtain ⟨j, E1, T1, p1, rfl, hg, HS, HGO⟩ := hrel
        by_cases hlt : j < l1.length
        · obtain ⟨a, hx⟩ : ∃ a, l1[j] = a := ⟨_, rfl⟩
          have hrd : rd_T35 l1 (j : Int) = a := by unfold rd_T35; rw [Int.toNat_natCast, List.getD_eq_getElem?_getD, List.getElem?_eq_getElem hlt, hx]; rfl
          have hgo := HGO.out
          rw [List.drop_eq_getElem_cons hlt, hx] at hgo
          obtain ⟨g1, g2, g3, g4, E2, r, f, hact, hgo2⟩ := hgo
          obtain ⟨ad, A3, c3, e1, x1, x2, x3, l3, iw⟩ := at_T35 HR1.out (j : Int) (by omega) (by omega)
          cases e1
          rw [hrd] at x1 x2 x3 l3 iw
          simp only [Int.toNat_natCast] at x1 x2 x3
          replace x1 := (HS.out.b.cell (World.block_lt_of_cell? w _ x1)).trans x1
          replace x2 := (HS.out.b.cell (World.block_lt_of_cell? w _ x2)).trans x2
          replace x3 := (HS.out.b.cell (World.block_lt_of_cell? w _ x3)).trans x3
          have i3 := Kd.C_below iw HS.out.b
          clear iw
          have P0 : ((0 : Int) ≤ (j : Int)) = True := eq_true (by omega)
          have P1 : ((j : Int) < (l1.length : Int)) = True := eq_true (by omega)
          have P2 : (j < l1.length) = True := eq_true hlt
          have hd : decide ((j : Int) < (l1.length : Int)) = true := decide_eq_true (by omega)
          have HG2 := Aside0.mk hgo2
          have hba : Below wr.heap.size wr (wr.alloc (.cells #[.int .i64 a.f0, .int .i64 a.f1, .slice A3 a.f2.length c3] 35)) := below_alloc (Below.refl _ _) _
          have HSA := Aside0.mk (HS.out.below hba)
          have HCALL := Aside0.mk (sequiturlaw20_act.calls k E1 B T1 p1 a.f0 a.f1 A3 c3 a.f2 E2 r f _ HSA.out.e (Kd.C_below i3 hba) l3 g1 g2 g3 g4 hact)
          clear hgo2 g1 g2 g3 g4 hact hba i3 l3 HGO hrd hx HS
          go_wp2_with fail
          refine HCALL.out.mono ?_
          rintro e' w7 ⟨rfl, T7, p7, h7, m7⟩
          have HS7 := Aside0.mk (HSA.out.moved h7 m7)
          clear h7 m7 HCALL HSA
          go_wp2
          go_roundg (l1.length - (j + 1))
          case measure => have := hg.out; omega
          case rel => exact ⟨j + 1, E2, T7, p7, by simp, ⟨by have := hg.out; omega⟩, HS7, HG2⟩
        · have hd : decide ((j : Int) < (l1.length : Int)) = false := decide_eq_false (by omega)
          have P2 : (j < l1.length) = False := eq_false hlt
          have hj : j = l1.length := by have := hg.out; omega
          subst hj
          have hgo := HGO.out
          rw [List.drop_of_length_le (Nat.le_refl _)] at hgo
          obtain ⟨g1, g2, g3, g4, g5, E2, r, hpush, hf, ht⟩ := hgo
          obtain ⟨tr, htr⟩ : ∃ tr, E1.tr = tr := ⟨_, rfl⟩
          obtain ⟨m, hm⟩ : ∃ m, E1.st.length = m := ⟨_, rfl⟩
          have HTL := Aside0.mk g2
          have HI := Aside0.mk g4
          have HSM := Aside0.mk g5
          have HM := Aside0.mk hm
          have HTR := Aside0.mk htr
          have HF := Aside0.mk hf
          have HT := Aside0.mk ht
          have HPU := Aside0.mk (fun (W : World) (T : Tag) (p : EngP) (h : EngIn W B T E1 p) => eng_Push.calls k E1 B T p x E2 r W h HX.out g1 hpush)
          rw [htr] at HI HSM
          rw [hm] at g3
          clear HGO g1 g2 g4 g5 hpush hf ht htr hm hg
          go_wp2_with fail
          refine (eng_Trail.calls E1 B T1 p1 _ HS.out.e HTL.out).mono ?_
          rintro e' w8 ⟨v8, rfl, r8, hb8⟩
          rw [HTR.out] at r8
          have HS8 := Aside0.mk (show Ub20 w gb #[.int .i64 n, .slice A0 l0.length c0] 24 B w8 T1 E1 p1 v8 tr from by
            obtain ⟨s1, s2, s3, s4, s5, s6⟩ := HS.out.below hb8
            refine ⟨s1, s2, s3, ?_, s5, s6⟩
            exact Kd.R_of_own (Kd.own_of_R (Kd.R_lower r8 HS.out.b.size)) (fun k hk => ⟨HS.out.e.fresh k (Kd.R_base r8 k hk), trivial⟩))
          obtain ⟨A8, k8, e8⟩ := Kd.R_slice HS8.out.r
          subst e8
          clear r8 hb8 HS
          go_wp2_with fail
          refine (eng_Levels.calls E1 B T1 p1 _ HS8.out.e).mono ?_
          rintro e' w9 ⟨rfl, rfl⟩
          rw [HM.out]
          obtain ⟨bad, hbad⟩ : ∃ b, decide ((0 : Int) ≤ E1.br) = b := ⟨_, rfl⟩
          go_wp2_with fail
          refine (eng_Broken.calls E1 B T1 p1 _ HS8.out.e).mono ?_
          rintro e' w10 ⟨rfl, rfl⟩
          go_wp2_with fail
          refine (HPU.out _ _ _ HS8.out.e).mono ?_
          rintro e' w11 ⟨rfl, T11, p11, h11, m11, f11⟩
          have HS11 := Aside0.mk (HS8.out.moved h11 m11)
          clear h11 m11 f11 HS8 HPU
          have cb0 : w11.cell? ⟨gb, 0, none⟩ = some (.int .i64 n) := (blk_cell HS11.out.g 0).trans rfl
          cases r with
          | false =>
            obtain ⟨e2, hcase⟩ := HF.out rfl
            subst e2
            clear HF HT
            have PN : wrap64 (-n) = -n := by have := HN.out; unfold wrap64; omega
            rcases hcase with hb | ⟨hb, hv⟩ | ⟨hb, hv, hz⟩ | ⟨hb, hv, hz, hgt⟩ | ⟨hb, hv, hz, hgt, hl⟩
            · have hbd : decide ((0 : Int) ≤ E2.br) = true := decide_eq_true (by omega)
              rw [hbad] at hbd
              subst hbd
              clear hb
              go_wp2_with fail
              refine (eng_Levels.calls E2 B T11 p11 _ HS11.out.e).mono ?_
              rintro e' w13 ⟨rfl, rfl⟩
              rw [HM.out]
              go_wp2_with fail
              refine (eng_Trail.calls E2 B T11 p11 _ HS11.out.e HTL.out).mono ?_
              rintro e' w14 ⟨v14, rfl, r14, hb14⟩
              rw [HTR.out] at r14
              obtain ⟨A14, k14, e14⟩ := Kd.R_slice r14
              subst e14
              have HS14 := Aside0.mk (HS11.out.below hb14)
              have HC14 := Aside0.mk (Kd.R_reads' r14)
              have HC8 := Aside0.mk (Kd.R_reads' HS14.out.r)
              clear r14 hb14 HS11
              go_wp2_with fail
              refine (sequiturbase_Ints.calls k A14 k14 tr A8 k8 tr true _ HC14.out.2.2 HC14.out.2.1 HC8.out.2.2 HC8.out.2.1 HI.out).mono ?_
              rintro e' w15 ⟨rfl, ⟨nd, rfl⟩⟩
              have HB15 := Aside0.mk (pw_below_drewN HS14.out.b nd)
              clear HS14 HC14 HC8
              go_wp2_with fail
              refine (sequiturlaw20_alive.calls k _ HAL.out).mono ?_
              rintro e' w16 ⟨rfl, hb16⟩
              have n_ := Aside0.mk (below_step HB15.out hb16)
              clear hb16
              go_wp2
              go_ret
              exact ⟨rfl, n_.out⟩
            · have hbd : decide ((0 : Int) ≤ E2.br) = false := decide_eq_false (by omega)
              rw [hbad] at hbd
              subst hbd
              have hv2 : (E2.val x != 0) = true := by simpa using hv
              clear hb hv
              go_wp2_with fail
              refine (eng_Value.calls E2 B T11 p11 x _ HS11.out.e HX.out).mono ?_
              rintro e' w12 ⟨rfl, hb12⟩
              have HS12 := Aside0.mk (HS11.out.below hb12)
              have cb0 : w12.cell? ⟨gb, 0, none⟩ = some (.int .i64 n) := (blk_cell HS12.out.g 0).trans rfl
              clear hb12 HS11
              go_wp2_with fail
              refine (eng_Levels.calls E2 B T11 p11 _ HS12.out.e).mono ?_
              rintro e' w13 ⟨rfl, rfl⟩
              rw [HM.out]
              go_wp2_with fail
              refine (eng_Trail.calls E2 B T11 p11 _ HS12.out.e HTL.out).mono ?_
              rintro e' w14 ⟨v14, rfl, r14, hb14⟩
              rw [HTR.out] at r14
              obtain ⟨A14, k14, e14⟩ := Kd.R_slice r14
              subst e14
              have HS14 := Aside0.mk (HS12.out.below hb14)
              have HC14 := Aside0.mk (Kd.R_reads' r14)
              have HC8 := Aside0.mk (Kd.R_reads' HS14.out.r)
              clear r14 hb14 HS12
              go_wp2_with fail
              refine (sequiturbase_Ints.calls k A14 k14 tr A8 k8 tr true _ HC14.out.2.2 HC14.out.2.1 HC8.out.2.2 HC8.out.2.1 HI.out).mono ?_
              rintro e' w15 ⟨rfl, ⟨nd, rfl⟩⟩
              have HB15 := Aside0.mk (pw_below_drewN HS14.out.b nd)
              clear HS14 HC14 HC8
              go_wp2_with fail
              refine (sequiturlaw20_alive.calls k _ HAL.out).mono ?_
              rintro e' w16 ⟨rfl, hb16⟩
              have n_ := Aside0.mk (below_step HB15.out hb16)
              clear hb16
              go_wp2
              go_ret
              exact ⟨rfl, n_.out⟩
            · have hbd : decide ((0 : Int) ≤ E2.br) = false := decide_eq_false (by omega)
              rw [hbad] at hbd
              subst hbd
              have hz2 : (x == 0) = true := by simpa using hz
              have HV := Aside0.mk hv
              clear hb hv hz
              go_wp2_with fail
              refine (eng_Value.calls E2 B T11 p11 x _ HS11.out.e HX.out).mono ?_
              rintro e' w12 ⟨rfl, hb12⟩
              have HS12 := Aside0.mk (HS11.out.below hb12)
              have cb0 : w12.cell? ⟨gb, 0, none⟩ = some (.int .i64 n) := (blk_cell HS12.out.g 0).trans rfl
              clear hb12 HS11
              rw [HV.out]
              go_wp2_with fail
              refine (eng_Levels.calls E2 B T11 p11 _ HS12.out.e).mono ?_
              rintro e' w13 ⟨rfl, rfl⟩
              rw [HM.out]
              go_wp2_with fail
              refine (eng_Trail.calls E2 B T11 p11 _ HS12.out.e HTL.out).mono ?_
              rintro e' w14 ⟨v14, rfl, r14, hb14⟩
              rw [HTR.out] at r14
              obtain ⟨A14, k14, e14⟩ := Kd.R_slice r14
              subst e14
              have HS14 := Aside0.mk (HS12.out.below hb14)
              have HC14 := Aside0.mk (Kd.R_reads' r14)
              have HC8 := Aside0.mk (Kd.R_reads' HS14.out.r)
              clear r14 hb14 HS12
              go_wp2_with fail
              refine (sequiturbase_Ints.calls k A14 k14 tr A8 k8 tr true _ HC14.out.2.2 HC14.out.2.1 HC8.out.2.2 HC8.out.2.1 HI.out).mono ?_
              rintro e' w15 ⟨rfl, ⟨nd, rfl⟩⟩
              have HB15 := Aside0.mk (pw_below_drewN HS14.out.b nd)
              clear HS14 HC14 HC8
              go_wp2_with fail
              refine (sequiturlaw20_alive.calls k _ HAL.out).mono ?_
              rintro e' w16 ⟨rfl, hb16⟩
              have n_ := Aside0.mk (below_step HB15.out hb16)
              clear hb16
              go_wp2
              go_ret
              exact ⟨rfl, n_.out⟩
            · have hbd : decide ((0 : Int) ≤ E2.br) = false := decide_eq_false (by omega)
              rw [hbad] at hbd
              subst hbd
              have hz2 : (x == 0) = false := by simpa using hz
              have hgt2 : decide (n < x) = true := decide_eq_true hgt
              have HV := Aside0.mk hv
              clear hb hv hz hgt
              go_wp2_with fail
              refine (eng_Value.calls E2 B T11 p11 x _ HS11.out.e HX.out).mono ?_
              rintro e' w12 ⟨rfl, hb12⟩
              have HS12 := Aside0.mk (HS11.out.below hb12)
              have cb0 : w12.cell? ⟨gb, 0, none⟩ = some (.int .i64 n) := (blk_cell HS12.out.g 0).trans rfl
              clear hb12 HS11
              rw [HV.out]
              go_wp2_with fail
              refine (eng_Levels.calls E2 B T11 p11 _ HS12.out.e).mono ?_
              rintro e' w13 ⟨rfl, rfl⟩
              rw [HM.out]
              go_wp2_with fail
              refine (eng_Trail.calls E2 B T11 p11 _ HS12.out.e HTL.out).mono ?_
              rintro e' w14 ⟨v14, rfl, r14, hb14⟩
              rw [HTR.out] at r14
              obtain ⟨A14, k14, e14⟩ := Kd.R_slice r14
              subst e14
              have HS14 := Aside0.mk (HS12.out.below hb14)
              have HC14 := Aside0.mk (Kd.R_reads' r14)
              have HC8 := Aside0.mk (Kd.R_reads' HS14.out.r)
              clear r14 hb14 HS12
              go_wp2_with fail
              refine (sequiturbase_Ints.calls k A14 k14 tr A8 k8 tr true _ HC14.out.2.2 HC14.out.2.1 HC8.out.2.2 HC8.out.2.1 HI.out).mono ?_
              rintro e' w15 ⟨rfl, ⟨nd, rfl⟩⟩
              have HB15 := Aside0.mk (pw_below_drewN HS14.out.b nd)
              clear HS14 HC14 HC8
              go_wp2_with fail
              refine (sequiturlaw20_alive.calls k _ HAL.out).mono ?_
              rintro e' w16 ⟨rfl, hb16⟩
              have n_ := Aside0.mk (below_step HB15.out hb16)
              clear hb16
              go_wp2
              go_ret
              exact ⟨rfl, n_.out⟩
            · have hbd : decide ((0 : Int) ≤ E2.br) = false := decide_eq_false (by omega)
              rw [hbad] at hbd
              subst hbd
              have hz2 : (x == 0) = false := by simpa using hz
              have hgt2 : decide (n < x) = false := decide_eq_false (by omega)
              have hl2 : decide (x < -n) = true := decide_eq_true hl
              have HV := Aside0.mk hv
              clear hb hv hz hgt hl
              go_wp2_with fail
              refine (eng_Value.calls E2 B T11 p11 x _ HS11.out.e HX.out).mono ?_
              rintro e' w12 ⟨rfl, hb12⟩
              have HS12 := Aside0.mk (HS11.out.below hb12)
              have cb0 : w12.cell? ⟨gb, 0, none⟩ = some (.int .i64 n) := (blk_cell HS12.out.g 0).trans rfl
              clear hb12 HS11
              rw [HV.out]
              go_wp2_with fail
              refine (eng_Levels.calls E2 B T11 p11 _ HS12.out.e).mono ?_
              rintro e' w13 ⟨rfl, rfl⟩
              rw [HM.out]
              go_wp2_with fail
              refine (eng_Trail.calls E2 B T11 p11 _ HS12.out.e HTL.out).mono ?_
              rintro e' w14 ⟨v14, rfl, r14, hb14⟩
              rw [HTR.out] at r14
              obtain ⟨A14, k14, e14⟩ := Kd.R_slice r14
              subst e14
              have HS14 := Aside0.mk (HS12.out.below hb14)
              have HC14 := Aside0.mk (Kd.R_reads' r14)
              have HC8 := Aside0.mk (Kd.R_reads' HS14.out.r)
              clear r14 hb14 HS12
              go_wp2_with fail
              refine (sequiturbase_Ints.calls k A14 k14 tr A8 k8 tr true _ HC14.out.2.2 HC14.out.2.1 HC8.out.2.2 HC8.out.2.1 HI.out).mono ?_
              rintro e' w15 ⟨rfl, ⟨nd, rfl⟩⟩
              have HB15 := Aside0.mk (pw_below_drewN HS14.out.b nd)
              clear HS14 HC14 HC8
              go_wp2_with fail
              refine (sequiturlaw20_alive.calls k _ HAL.out).mono ?_
              rintro e' w16 ⟨rfl, hb16⟩
              have n_ := Aside0.mk (below_step HB15.out hb16)
              clear hb16
              go_wp2
              go_ret
              exact ⟨rfl, n_.out⟩
          | true =>
            obtain ⟨t1, t2, t3, ⟨mm, t4, t5, t6, t7⟩, t8, t9, E3, t10, t11, t12, t13⟩ := HT.out rfl
            have hbd : decide ((0 : Int) ≤ E1.br) = false := decide_eq_false (by omega)
            rw [hbad] at hbd
            subst hbd
            clear HF HT t1
            rw [HM.out] at t2 t7 t11
            rw [HTR.out] at t13
            have PW : wrap64 ((m : Int) + 1) = (m : Int) + 1 := by unfold wrap64; omega
            have hb3 : decide ((0 : Int) ≤ E3.br) = false := decide_eq_false (by omega)
            have H2 := Aside0.mk (show (E2.st.length : Int) = (m : Int) + 1 by omega)
            have H3 := Aside0.mk t3
            have H4 := Aside0.mk t4
            have H5 := Aside0.mk t5
            have H6 := Aside0.mk t6
            have H7 := Aside0.mk t7
            have H11 := Aside0.mk t11
            have H13 := Aside0.mk t13
            have HPO := Aside0.mk (fun (W : World) (T : Tag) (p : EngP) (h : EngIn W B T E2 p) => eng_Pop.calls k E2 B T p E3 true W h t8 t9 t10)
            have HTL3 := Aside0.mk (show E3.tr.length < 4398046511104 by rw [t13, ← HTR.out]; exact HTL.out)
            clear t2 t3 t4 t5 t6 t7 t8 t9 t10 t11 t12 t13 g3
            go_wp2_with fail
            refine (eng_Levels.calls E2 B T11 p11 _ HS11.out.e).mono ?_
            rintro e' w12 ⟨rfl, rfl⟩
            rw [H2.out]
            go_wp2_with fail
            refine (eng_Value.calls E2 B T11 p11 x _ HS11.out.e HX.out).mono ?_
            rintro e' w13 ⟨rfl, hb⟩
            rw [H3.out]
            have HS13 := Aside0.mk (HS11.out.below hb)
            clear hb HS11 cb0
            go_wp2_with fail
            refine (sequiturref17_Of.calls x mm _ H4.out).mono ?_
            rintro e' w14 ⟨rfl, ⟨nd, rfl⟩⟩
            have HS14 := Aside0.mk (HS13.out.below (pw_below_drewN (Below.refl _ _) nd))
            clear HS13
            go_wp2_with fail
            refine (eng_Why.calls E2 B T11 p11 mm _ HS14.out.e H5.out).mono ?_
            rintro e' w15 ⟨rfl, hb⟩
            rw [H6.out]
            have HS15 := Aside0.mk (HS14.out.below hb)
            clear hb HS14
            go_wp2_with fail
            refine (sequiturref17_Of.calls x mm _ H4.out).mono ?_
            rintro e' w16 ⟨rfl, ⟨nd2, rfl⟩⟩
            have HS16 := Aside0.mk (HS15.out.below (pw_below_drewN (Below.refl _ _) nd2))
            clear HS15
            go_wp2_with fail
            refine (eng_Level.calls E2 B T11 p11 mm _ HS16.out.e H5.out).mono ?_
            rintro e' w17 ⟨rfl, hb⟩
            rw [H7.out]
            have HS17 := Aside0.mk (HS16.out.below hb)
            clear hb HS16
            go_wp2_with fail
            refine (HPO.out _ _ _ HS17.out.e).mono ?_
            rintro e' w18 ⟨rfl, T18, p18, h18, m18, f18⟩
            have HS18 := Aside0.mk (HS17.out.moved h18 m18)
            clear h18 m18 f18 HS17 HPO
            go_wp2_with fail
            refine (eng_Levels.calls E3 B T18 p18 _ HS18.out.e).mono ?_
            rintro e' w19 ⟨rfl, rfl⟩
            rw [H11.out]
            go_wp2_with fail
            refine (eng_Broken.calls E3 B T18 p18 _ HS18.out.e).mono ?_
            rintro e' w20 ⟨rfl, rfl⟩
            go_wp2_with fail
            refine (eng_Trail.calls E3 B T18 p18 _ HS18.out.e HTL3.out).mono ?_
            rintro e' w21 ⟨v21, rfl, r21, hb21⟩
            rw [H13.out] at r21
            obtain ⟨A21, k21, e21⟩ := Kd.R_slice r21
            subst e21
            have HS21 := Aside0.mk (HS18.out.below hb21)
            have HC21 := Aside0.mk (Kd.R_reads' r21)
            have HC8 := Aside0.mk (Kd.R_reads' HS21.out.r)
            clear r21 hb21 HS18
            go_wp2_with fail
            refine (sequiturref17_Same.calls k A21 k21 tr A8 k8 tr true _ HC21.out.2.2 HC21.out.2.1 HC8.out.2.2 HC8.out.2.1 HSM.out).mono ?_
            rintro e' w22 ⟨rfl, ⟨nd3, rfl⟩⟩
            have HB22 := Aside0.mk (pw_below_drewN HS21.out.b nd3)
            clear HS21 HC21 HC8
            go_wp2_with fail
            refine (sequiturlaw20_alive.calls k _ HAL.out).mono ?_
            rintro e' w23 ⟨rfl, hb23⟩
            have n_ := Aside0.mk (below_step HB22.out hb23)
            clear hb23
            go_wp2
            go_ret
            exact ⟨rfl, n_.out⟩
    · have q1 : (re != 0) = true := by simpa using hre
      have q2 : (re == 0) = false := by simpa using hre
      have HCN := Aside0.mk (eng_New.fails k n A0 c0 l0 ra re w4 (Kd.C_below HR0.out HB.out) HC0.out HCR.out hre)
      clear hh hre
      go_wp2_with fail
      refine HCN.out.mono ?_
      rintro e' w5 ⟨rfl, hb5⟩
      have n_ := Aside0.mk (below_step HB.out hb5)
      clear HB HCN hb5
      have HB := n_
      clear n_
      go_wp2_with fail
      refine (sequiturlaw20_alive.calls k _ HAL.out).mono ?_
      rintro e' w6 ⟨rfl, hb6⟩
      have n_ := Aside0.mk (below_step HB.out hb6)
      clear hb6
      go_wp2
      go_ret
      exact ⟨rfl, n_.out⟩
theorem sequiturlaw20_UnitBack.calls (k : Nat) (a0_0 : Int) (A0_1 : Option Addr) (c0_1 : Nat) (l0_1 : List (List Int)) (A1 : Option Addr) (c1 : Nat) (l1 : List S35) (a2 : Int) (w : World)
    (hr0_1 : Kd.C (Kd.slice 3 (Kd.int .i64)) w A0_1 l0_1.length l0_1) (hc0_1 : l0_1.length ≤ c0_1) (hr1 : Kd.C k35 w A1 l1.length l1) (hc1 : l1.length ≤ c1) (h : sequiturlaw20_UnitBack.Fact k a0_0 l0_1 l1 a2) :
    Calls Try.prog 5 #[.agg #[.int .i64 a0_0, .slice A0_1 l0_1.length c0_1], .slice A1 l1.length c1, .int .i64 a2] w fun e w' => e = .returned (.bool true) ∧ Below w.heap.size w w' := by
  exact sequiturlaw20_UnitBack.walk k a0_0 A0_1 c0_1 l0_1 A1 c1 l1 a2 w hr0_1 hc0_1 hr1 hc1 h


end Go.Proofs.Ytfcofpgehlmbbaa.P

-- Printed by wip/tools/pp.py of this claim's session (over the kit's print.py); Lean checks it.
namespace Go.Proofs.Ytfcofpgehlmbbaa.P
open Go.RowKit Go.Proofs.YtfcofpgehlmbbaaW.PrintWords Go.Proofs.YtfcofpgehlmbbaaW.PrintLast Go.Proofs.YtfcofpgehlmbbaaW.PrintMore
attribute [local go_sem] max2_int min2_int max_two min_two max_three min_three max_four min_four   -- for this text's walks alone
set_option linter.unusedVariables false
set_option linter.unusedSimpArgs false

/-! ### sequiturref17_Right: function 66 -/
def sequiturref17_Right.l0 : Nat → List Int → Int → Int → Option (Int)
  | 0, _, _, _ => none
  | k + 1, x0, x1, x5 => if x5 < (x0.length : Int) then (if 0 ≤ x5 then ((sequiturref17_is.f (rd x0 x5)).bind fun t140 => (if t140 = true then ((sequiturref17_Of.f (rd x0 x5)).bind fun t142 => (if t142 > x1 then (some 1) else (sequiturref17_Right.l0 k x0 x1 (wrap64 (x5 + 1))))) else (some 1))) else (none)) else (some 0)
def sequiturref17_Right.f (k : Nat) (l0 : List Int) (a1 : Int) : Option (Int) := if (l0.length : Int) > 64 then (some 2) else (sequiturref17_Right.l0 k l0 a1 0)
theorem sequiturref17_Right.mono_l : ∀ k, (∀ y0 y1 y2, LeO (sequiturref17_Right.l0 k y0 y1 y2) (sequiturref17_Right.l0 (k + 1) y0 y1 y2))
  | 0 => fun _ _ _ r h => by simp [sequiturref17_Right.l0] at h
  | k + 1 => by
    have ih0 := sequiturref17_Right.mono_l k
    · intro y0 y1 y2
      unfold sequiturref17_Right.l0
      repeat' first
      | (with_reducible exact ih0 _ _ _)
      | (with_reducible exact LeO.refl _)
      | (with_reducible exact LeO.none _)
      | (with_reducible refine LeO.ite ?_ ?_)
      | (with_reducible refine LeO.bind ?_ (fun _ => ?_))
      | exact ih0 _ _ _
      | exact LeO.none _
      | refine LeO.ite ?_ ?_
      | refine LeO.bind ?_ (fun _ => ?_)
theorem sequiturref17_Right.mono : ∀ a0 a1 k, LeO (sequiturref17_Right.f k a0 a1) (sequiturref17_Right.f (k + 1) a0 a1) := by
  intro a0 a1 k
  have ih0 := sequiturref17_Right.mono_l k
  unfold sequiturref17_Right.f
  repeat' first
      | (with_reducible exact ih0 _ _ _)
      | (with_reducible exact LeO.refl _)
      | (with_reducible exact LeO.none _)
      | (with_reducible refine LeO.ite ?_ ?_)
      | (with_reducible refine LeO.bind ?_ (fun _ => ?_))
      | exact ih0 _ _ _
      | exact LeO.none _
      | refine LeO.ite ?_ ?_
      | refine LeO.bind ?_ (fun _ => ?_)
set_option maxHeartbeats 8000000 in
set_option maxRecDepth 100000 in
theorem sequiturref17_Right.calls (k : Nat) (A0 : Option Addr) (c0 : Nat) (l0 : List Int) (a1 : Int) (r : Int) (w : World) (hr0 : Kd.C (Kd.int .i64) w A0 l0.length l0) (hc0 : l0.length ≤ c0) (h : sequiturref17_Right.f k l0 a1 = some r) :
    Calls Try.prog 66 #[.slice A0 l0.length c0, .int .i64 a1] w fun e w' => e = .returned (.int .i64 r) ∧ Drawn0 w w' := by
  have HR0 := Aside0.mk hr0
  have HC0 := Aside0.mk hc0
  clear hr0 hc0
  have H : (if (l0.length : Int) > 64 then (some 2) else (sequiturref17_Right.l0 k l0 a1 0)) = some r := h
  clear h
  by_cases c3 : (l0.length : Int) > 64
  · rw [if_pos c3] at H
    have c3b0 : decide (64 < (l0.length : Int)) = true := decide_eq_true c3
    have c3b1 : decide (64 < l0.length) = true := decide_eq_true (by omega)
    clear c3
    as_aux_lemma =>
      obtain rfl := Option.some.inj H
      go_enter Try.func66, Try.ntmps66
      go_wp2
      go_ret
      exact ⟨by first | rfl | (simp; done) | (simp [*]; done), by repeat (first | exact Drawn0.refl _ | apply Drawn0.step)⟩
  · rw [if_neg c3] at H
    have c3b0 : decide (64 < (l0.length : Int)) = false := decide_eq_false c3
    have c3b1 : decide (64 < l0.length) = false := decide_eq_false (by omega)
    clear c3
    have H' := Aside0.mk H
    clear H
    go_enter Try.func66, Try.ntmps66
    go_wp2
    go_loopg [5] k (fun kq v5 w' => ∃ (x5_1 : Int), v5 = .int .i64 x5_1 ∧ Aside0 (sequiturref17_Right.l0 kq l0 a1 x5_1 = some r) ∧ Aside0 (kq ≤ k) ∧ Drawn0 w w')
    case atStart => exact ⟨(0), (by first | rfl | (simp; done) | (simp [*]; done)), H', ⟨Nat.le_refl _⟩, by repeat (first | exact Drawn0.refl _ | apply Drawn0.step)⟩
    case round =>
      clear H'
      try clear p2
      try clear c3
      try clear c3b0
      try clear c3b1
      obtain ⟨x5_1, rfl, HA, HK1, ⟨m1, rfl⟩⟩ := hrel
      cases gk with
      | zero => exact absurd HA.out (by simp [sequiturref17_Right.l0])
      | succ k1 =>
        have H := HA.out
        clear HA
        simp only [sequiturref17_Right.l0] at H
        by_cases c4 : x5_1 < (l0.length : Int)
        · rw [if_pos c4] at H
          have c4b0 : decide (x5_1 < (l0.length : Int)) = true := decide_eq_true c4
          clear c4
          by_cases c5 : 0 ≤ x5_1
          · rw [if_pos c5] at H
            have c5b0 : decide (0 ≤ x5_1) = true := decide_eq_true c5
            clear c5
            replace H := Option.bind_eq_some_iff.mp H
            obtain ⟨t140, A60, H⟩ := H
            replace H : (if t140 = true then ((sequiturref17_Of.f (rd l0 x5_1)).bind fun t142 => (if t142 > a1 then (some 1) else (sequiturref17_Right.l0 k1 l0 a1 (wrap64 (x5_1 + 1))))) else (some 1)) = some r := H
            have A6 := Aside0.mk A60
            clear A60
            by_cases c7 : t140 = true
            · subst c7
              have H1 : ((sequiturref17_Of.f (rd l0 x5_1)).bind fun t142 => (if t142 > a1 then (some 1) else (sequiturref17_Right.l0 k1 l0 a1 (wrap64 (x5_1 + 1))))) = some r := by rw [if_pos rfl] at H; exact H
              clear H
              have H := H1
              clear H1
              replace H := Option.bind_eq_some_iff.mp H
              obtain ⟨t142, A80, H⟩ := H
              replace H : (if t142 > a1 then (some 1) else (sequiturref17_Right.l0 k1 l0 a1 (wrap64 (x5_1 + 1)))) = some r := H
              have A8 := Aside0.mk A80
              clear A80
              by_cases c9 : t142 > a1
              · rw [if_pos c9] at H
                have c9b0 : decide (a1 < t142) = true := decide_eq_true c9
                clear c9
                as_aux_lemma =>
                  obtain rfl := Option.some.inj H
                  have p139 : 0 ≤ (x5_1 : Int) := of_decide_eq_true (by first | (with_reducible assumption) | assumption)
                  have q139 : x5_1 < (l0.length : Int) := of_decide_eq_true (by first | (with_reducible assumption) | assumption)
                  obtain ⟨ad139, e139, hx139_0⟩ := Kd.at_int HR0.out x5_1 p139 q139
                  cases e139
                  replace p139 := eq_true p139
                  replace q139 := eq_true q139
                  go_wp2_with (first | ((with_reducible refine gate_callee (f := 65) rfl ?_); refine goesL_ (some 19) rfl rfl Try.func65 (by kernel_rfl) rfl #[.int .i64 (rd l0 x5_1)] rfl (by (try simp only [List.map_toArray, List.map_cons, List.map_nil]); first | done | rfl | (simp only [List.length_drop, List.length_take]; rfl)) ?_; (with_reducible refine (sequiturref17_is.calls (rd l0 x5_1) true _ A6.out).mono ?_); rintro e w' ⟨rfl, ⟨nd, rfl⟩⟩; refine ⟨_, rfl, ?_⟩; have p141 : 0 ≤ (x5_1 : Int) := of_decide_eq_true (by first | (with_reducible assumption) | assumption); have q141 : x5_1 < (l0.length : Int) := of_decide_eq_true (by first | (with_reducible assumption) | assumption); obtain ⟨ad141, e141, hx141_0⟩ := Kd.at_int HR0.out x5_1 p141 q141; obtain rfl : ad139 = ad141 := (by injection e141); replace p141 := eq_true p141; replace q141 := eq_true q141) | (go_at_call 31; (with_reducible refine (sequiturref17_Of.calls (rd l0 x5_1) t142 _ A8.out).mono ?_); rintro e w' ⟨rfl, ⟨nd, rfl⟩⟩))
                  go_ret
                  exact ⟨by first | rfl | (simp; done) | (simp [*]; done), by repeat (first | exact Drawn0.refl _ | apply Drawn0.step)⟩
              · rw [if_neg c9] at H
                have c9b0 : decide (a1 < t142) = false := decide_eq_false c9
                clear c9
                as_aux_lemma =>
                  have H' := Aside0.mk H
                  clear H
                  have p139 : 0 ≤ (x5_1 : Int) := of_decide_eq_true (by first | (with_reducible assumption) | assumption)
                  have q139 : x5_1 < (l0.length : Int) := of_decide_eq_true (by first | (with_reducible assumption) | assumption)
                  obtain ⟨ad139, e139, hx139_0⟩ := Kd.at_int HR0.out x5_1 p139 q139
                  cases e139
                  replace p139 := eq_true p139
                  replace q139 := eq_true q139
                  go_wp2_with (first | ((with_reducible refine gate_callee (f := 65) rfl ?_); refine goesL_ (some 19) rfl rfl Try.func65 (by kernel_rfl) rfl #[.int .i64 (rd l0 x5_1)] rfl (by (try simp only [List.map_toArray, List.map_cons, List.map_nil]); first | done | rfl | (simp only [List.length_drop, List.length_take]; rfl)) ?_; (with_reducible refine (sequiturref17_is.calls (rd l0 x5_1) true _ A6.out).mono ?_); rintro e w' ⟨rfl, ⟨nd, rfl⟩⟩; refine ⟨_, rfl, ?_⟩; have p141 : 0 ≤ (x5_1 : Int) := of_decide_eq_true (by first | (with_reducible assumption) | assumption); have q141 : x5_1 < (l0.length : Int) := of_decide_eq_true (by first | (with_reducible assumption) | assumption); obtain ⟨ad141, e141, hx141_0⟩ := Kd.at_int HR0.out x5_1 p141 q141; obtain rfl : ad139 = ad141 := (by injection e141); replace p141 := eq_true p141; replace q141 := eq_true q141) | (go_at_call 31; (with_reducible refine (sequiturref17_Of.calls (rd l0 x5_1) t142 _ A8.out).mono ?_); rintro e w' ⟨rfl, ⟨nd, rfl⟩⟩))
                  go_roundg k1
                  case measure => have := HK1.out; omega
                  case rel => exact ⟨(wrap64 (x5_1 + 1)), (by first | rfl | (simp; done) | (simp [*]; done)), H', ⟨by have := HK1.out; omega⟩, by repeat (first | exact Drawn0.refl _ | apply Drawn0.step)⟩
            · replace c7 := Bool.eq_false_iff.mpr c7
              subst c7
              have H1 : (some 1) = some r := by rw [if_neg (show ¬ (false = true) by decide)] at H; exact H
              clear H
              have H := H1
              clear H1
              as_aux_lemma =>
                obtain rfl := Option.some.inj H
                have p139 : 0 ≤ (x5_1 : Int) := of_decide_eq_true (by first | (with_reducible assumption) | assumption)
                have q139 : x5_1 < (l0.length : Int) := of_decide_eq_true (by first | (with_reducible assumption) | assumption)
                obtain ⟨ad139, e139, hx139_0⟩ := Kd.at_int HR0.out x5_1 p139 q139
                cases e139
                replace p139 := eq_true p139
                replace q139 := eq_true q139
                go_wp2_with (first | ((with_reducible refine gate_callee (f := 65) rfl ?_); refine goesL_ (some 19) rfl rfl Try.func65 (by kernel_rfl) rfl #[.int .i64 (rd l0 x5_1)] rfl (by (try simp only [List.map_toArray, List.map_cons, List.map_nil]); first | done | rfl | (simp only [List.length_drop, List.length_take]; rfl)) ?_; (with_reducible refine (sequiturref17_is.calls (rd l0 x5_1) false _ A6.out).mono ?_); rintro e w' ⟨rfl, ⟨nd, rfl⟩⟩; refine ⟨_, rfl, ?_⟩))
                go_ret
                exact ⟨by first | rfl | (simp; done) | (simp [*]; done), by repeat (first | exact Drawn0.refl _ | apply Drawn0.step)⟩
          · rw [if_neg c5] at H
            exact absurd H (by simp)
        · rw [if_neg c4] at H
          have c4b0 : decide (x5_1 < (l0.length : Int)) = false := decide_eq_false c4
          clear c4
          as_aux_lemma =>
            obtain rfl := Option.some.inj H
            go_wp2
            go_ret
            exact ⟨by first | rfl | (simp; done) | (simp [*]; done), by repeat (first | exact Drawn0.refl _ | apply Drawn0.step)⟩

end Go.Proofs.Ytfcofpgehlmbbaa.P

-- Printed by wip/tools/pp.py of this claim's session (over the kit's print.py); Lean checks it.
namespace Go.Proofs.Ytfcofpgehlmbbaa.P
open Go.RowKit Go.Proofs.YtfcofpgehlmbbaaW.PrintWords Go.Proofs.YtfcofpgehlmbbaaW.PrintLast Go.Proofs.YtfcofpgehlmbbaaW.PrintMore
attribute [local go_sem] max2_int min2_int max_two min_two max_three min_three max_four min_four   -- for this text's walks alone
set_option linter.unusedVariables false
set_option linter.unusedSimpArgs false

/-! ### sequiturref17_ahead: function 115 -/
def sequiturref17_ahead.f (a0 : Int) (a1 : Int) : Option (Bool) := (sequiturref17_Of.f a0).bind fun t148 => ((sequiturref17_Of.f a1).bind fun t149 => (if t148 < t149 then (some true) else ((sequiturref17_Of.f a0).bind fun t150 => ((sequiturref17_Of.f a1).bind fun t151 => (if t150 = t151 then (some (decide (a0 < a1))) else (some false))))))
set_option maxHeartbeats 8000000 in
set_option maxRecDepth 100000 in
theorem sequiturref17_ahead.calls (a0 : Int) (a1 : Int) (r : Bool) (w : World) (h : sequiturref17_ahead.f a0 a1 = some r) :
    Calls Try.prog 115 #[.int .i64 a0, .int .i64 a1] w fun e w' => e = .returned (.bool r) ∧ Drawn0 w w' := by
  have H : ((sequiturref17_Of.f a0).bind fun t148 => ((sequiturref17_Of.f a1).bind fun t149 => (if t148 < t149 then (some true) else ((sequiturref17_Of.f a0).bind fun t150 => ((sequiturref17_Of.f a1).bind fun t151 => (if t150 = t151 then (some (decide (a0 < a1))) else (some false))))))) = some r := h
  clear h
  replace H := Option.bind_eq_some_iff.mp H
  obtain ⟨t148, A30, H⟩ := H
  replace H : ((sequiturref17_Of.f a1).bind fun t149 => (if t148 < t149 then (some true) else ((sequiturref17_Of.f a0).bind fun t150 => ((sequiturref17_Of.f a1).bind fun t151 => (if t150 = t151 then (some (decide (a0 < a1))) else (some false)))))) = some r := H
  have A3 := Aside0.mk A30
  clear A30
  replace H := Option.bind_eq_some_iff.mp H
  obtain ⟨t149, A40, H⟩ := H
  replace H : (if t148 < t149 then (some true) else ((sequiturref17_Of.f a0).bind fun t150 => ((sequiturref17_Of.f a1).bind fun t151 => (if t150 = t151 then (some (decide (a0 < a1))) else (some false))))) = some r := H
  have A4 := Aside0.mk A40
  clear A40
  by_cases c5 : t148 < t149
  · rw [if_pos c5] at H
    have c5b0 : decide (t148 < t149) = true := decide_eq_true c5
    clear c5
    as_aux_lemma =>
      obtain rfl := Option.some.inj H
      go_enter Try.func115, Try.ntmps115
      go_wp2_with (first | ((with_reducible refine gate_callee (f := 31) rfl ?_); refine goesL_ (some 6) rfl rfl Try.func31 (by kernel_rfl) rfl #[.int .i64 a0] rfl (by (try simp only [List.map_toArray, List.map_cons, List.map_nil]); first | done | rfl | (simp only [List.length_drop, List.length_take]; rfl)) ?_; (with_reducible refine (sequiturref17_Of.calls a0 t148 _ A3.out).mono ?_); rintro e w' ⟨rfl, ⟨nd, rfl⟩⟩; refine ⟨_, rfl, ?_⟩) | ((with_reducible refine gate_callee (f := 31) rfl ?_); refine goesL_ (some 8) rfl rfl Try.func31 (by kernel_rfl) rfl #[.int .i64 a1] rfl (by (try simp only [List.map_toArray, List.map_cons, List.map_nil]); first | done | rfl | (simp only [List.length_drop, List.length_take]; rfl)) ?_; (with_reducible refine (sequiturref17_Of.calls a1 t149 _ A4.out).mono ?_); rintro e w' ⟨rfl, ⟨nd, rfl⟩⟩; refine ⟨_, rfl, ?_⟩))
      go_ret
      exact ⟨by first | rfl | (simp; done) | (simp [*]; done), by repeat (first | exact Drawn0.refl _ | apply Drawn0.step)⟩
  · rw [if_neg c5] at H
    have c5b0 : decide (t148 < t149) = false := decide_eq_false c5
    clear c5
    replace H := Option.bind_eq_some_iff.mp H
    obtain ⟨t150, A60, H⟩ := H
    replace H : ((sequiturref17_Of.f a1).bind fun t151 => (if t150 = t151 then (some (decide (a0 < a1))) else (some false))) = some r := H
    have A6 := Aside0.mk A60
    clear A60
    replace H := Option.bind_eq_some_iff.mp H
    obtain ⟨t151, A70, H⟩ := H
    replace H : (if t150 = t151 then (some (decide (a0 < a1))) else (some false)) = some r := H
    have A7 := Aside0.mk A70
    clear A70
    by_cases c8 : t150 = t151
    · rw [if_pos c8] at H
      have c8b0 : (t150 == t151) = true := beq_iff_eq.mpr c8
      have c8b1 : (t150 != t151) = false := bne_eq_false_iff_eq.mpr c8
      clear c8
      as_aux_lemma =>
        obtain rfl := Option.some.inj H
        go_enter Try.func115, Try.ntmps115
        go_wp2_with (first | ((with_reducible refine gate_callee (f := 31) rfl ?_); refine goesL_ (some 6) rfl rfl Try.func31 (by kernel_rfl) rfl #[.int .i64 a0] rfl (by (try simp only [List.map_toArray, List.map_cons, List.map_nil]); first | done | rfl | (simp only [List.length_drop, List.length_take]; rfl)) ?_; (with_reducible refine (sequiturref17_Of.calls a0 t148 _ A3.out).mono ?_); rintro e w' ⟨rfl, ⟨nd, rfl⟩⟩; refine ⟨_, rfl, ?_⟩) | ((with_reducible refine gate_callee (f := 31) rfl ?_); refine goesL_ (some 8) rfl rfl Try.func31 (by kernel_rfl) rfl #[.int .i64 a1] rfl (by (try simp only [List.map_toArray, List.map_cons, List.map_nil]); first | done | rfl | (simp only [List.length_drop, List.length_take]; rfl)) ?_; (with_reducible refine (sequiturref17_Of.calls a1 t149 _ A4.out).mono ?_); rintro e w' ⟨rfl, ⟨nd, rfl⟩⟩; refine ⟨_, rfl, ?_⟩) | (go_at_call 31; (with_reducible refine (sequiturref17_Of.calls a0 t150 _ A6.out).mono ?_); rintro e w' ⟨rfl, ⟨nd, rfl⟩⟩) | (go_at_call 31; (with_reducible refine (sequiturref17_Of.calls a1 t151 _ A7.out).mono ?_); rintro e w' ⟨rfl, ⟨nd, rfl⟩⟩))
        go_ret
        exact ⟨by first | rfl | (simp; done) | (simp [*]; done), by repeat (first | exact Drawn0.refl _ | apply Drawn0.step)⟩
    · rw [if_neg c8] at H
      have c8b0 : (t150 == t151) = false := beq_eq_false_iff_ne.mpr c8
      have c8b1 : (t150 != t151) = true := bne_iff_ne.mpr c8
      as_aux_lemma =>
        obtain rfl := Option.some.inj H
        go_enter Try.func115, Try.ntmps115
        go_wp2_with (first | ((with_reducible refine gate_callee (f := 31) rfl ?_); refine goesL_ (some 6) rfl rfl Try.func31 (by kernel_rfl) rfl #[.int .i64 a0] rfl (by (try simp only [List.map_toArray, List.map_cons, List.map_nil]); first | done | rfl | (simp only [List.length_drop, List.length_take]; rfl)) ?_; (with_reducible refine (sequiturref17_Of.calls a0 t148 _ A3.out).mono ?_); rintro e w' ⟨rfl, ⟨nd, rfl⟩⟩; refine ⟨_, rfl, ?_⟩) | ((with_reducible refine gate_callee (f := 31) rfl ?_); refine goesL_ (some 8) rfl rfl Try.func31 (by kernel_rfl) rfl #[.int .i64 a1] rfl (by (try simp only [List.map_toArray, List.map_cons, List.map_nil]); first | done | rfl | (simp only [List.length_drop, List.length_take]; rfl)) ?_; (with_reducible refine (sequiturref17_Of.calls a1 t149 _ A4.out).mono ?_); rintro e w' ⟨rfl, ⟨nd, rfl⟩⟩; refine ⟨_, rfl, ?_⟩) | (go_at_call 31; (with_reducible refine (sequiturref17_Of.calls a0 t150 _ A6.out).mono ?_); rintro e w' ⟨rfl, ⟨nd, rfl⟩⟩) | (go_at_call 31; (with_reducible refine (sequiturref17_Of.calls a1 t151 _ A7.out).mono ?_); rintro e w' ⟨rfl, ⟨nd, rfl⟩⟩))
        go_ret
        exact ⟨by first | rfl | (simp; done) | (simp [*]; done), by repeat (first | exact Drawn0.refl _ | apply Drawn0.step)⟩

end Go.Proofs.Ytfcofpgehlmbbaa.P
