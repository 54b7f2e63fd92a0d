import Derived.Test.YtfcofpgehlmbbaaKUnitSound1
import Derived.Test.YtfcofpgehlmbbaaKUnitSound3
-- Printed by wip/tools/pp.py of this claim's session (over the kit's print.py); Lean checks it.
namespace Go.Proofs.Ytfcofpgehlmbbaa.P
open Go.RowKit Go.Proofs.YtfcofpgehlmbbaaW.PrintWords Go.Proofs.YtfcofpgehlmbbaaW.PrintLast Go.Proofs.YtfcofpgehlmbbaaW.PrintMore
attribute [local go_sem] max2_int min2_int max_two min_two max_three min_three max_four min_four   -- for this text's walks alone
set_option linter.unusedVariables false
set_option linter.unusedSimpArgs false

-- SOLO
-- IMPORTS Derived.Test.YtfcofpgehlmbbaaPxAunitEng
/-! ### unit_Engine_Pop: function 33 -/
set_option maxRecDepth 100000 in
theorem eng_Pop.nobody (w : World) : Calls Try.prog 33 #[.pointer none] w fun e w' => e = .returned (.bool false) ∧ w' = w := by
  go_enter Try.func33, Try.ntmps33
  go_wp2
  go_ret
  exact ⟨rfl, rfl⟩
/-- A literal is not on the trail any more. -/
def Eng.del (E : Eng) (y : Int) : Eng := { E with ms := fun x => if x = y then none else E.ms x }
def Eng.dels (E : Eng) (l : List Int) : Eng := l.foldl Eng.del E
theorem Eng.dels_snoc (E : Eng) (l : List Int) (x : Int) : E.dels (l ++ [x]) = (E.dels l).del x := by
  unfold Eng.dels; rw [List.foldl_append]; rfl
theorem Eng.dels_same : ∀ (l : List Int) (E : Eng), (E.dels l).cls = E.cls ∧ (E.dels l).tr = E.tr ∧ (E.dels l).st = E.st ∧ (E.dels l).n = E.n ∧ (E.dels l).br = E.br ∧ (E.dels l).ws = E.ws ∧ (E.dels l).wt = E.wt ∧ ∀ x, (E.dels l).ms x = if x ∈ l then none else E.ms x
  | [], E => ⟨rfl, rfl, rfl, rfl, rfl, rfl, rfl, fun x => by rw [if_neg (by simp)]; rfl⟩
  | y :: l, E => by
    obtain ⟨h1, h2, h3, h4, h5, h6, h7, h8⟩ := Eng.dels_same l (E.del y)
    refine ⟨h1, h2, h3, h4, h5, h6, h7, fun x => ?_⟩
    have := h8 x
    show (Eng.dels (E.del y) l).ms x = _
    rw [this]
    by_cases hx : x ∈ l
    · rw [if_pos hx, if_pos (List.mem_cons_of_mem _ hx)]
    · rw [if_neg hx]
      show (if x = y then none else E.ms x) = _
      by_cases e : x = y
      · rw [if_pos e, if_pos (by rw [e]; simp)]
      · rw [if_neg e, if_neg (by simp [e, hx])]
/-- The last level's literals are taken back. -/
def Eng.popped (E : Eng) (a : Nat) : Eng := { E.dels (E.tr.drop a) with tr := E.tr.take a, st := E.st.dropLast, br := -1 }
def Eng.pop (k : Nat) (E : Eng) : Option (Eng × Bool) :=
  match E.st.getLast? with
  | none => some (E, false)
  | some a => if 0 ≤ a ∧ a.toNat ≤ E.tr.length then (Eng.settle k (E.popped a.toNat)).bind fun E' => some (E', true) else none
theorem EngIn.turn_del {w w1 : World} {B : Nat} {T : Tag} {E : Eng} {p : EngP} (h : EngIn w B T E p) (y : Int) (hM : MapI Try.prog 3 w1 p.bm (setI (mkV E.ms) y none)) (hg : w.grownBy w1 (some p.bm)) : EngIn w1 B T (E.del y) p ∧ Moved T T w w1 :=
  h.turn_ms (g := fun x => if x = y then none else E.ms x) (hM.congr fun x => by
    unfold setI
    by_cases e : x = y
    · rw [if_pos e]
      show none = Option.map _ (if x = y then none else E.ms x)
      rw [if_pos e]; rfl
    · rw [if_neg e]
      show Option.map _ (E.ms x) = Option.map _ (if x = y then none else E.ms x)
      rw [if_neg e]) hg (fun x hx => by
    have hx : (if x = y then none else E.ms x).isSome = true := hx
    by_cases e : x = y
    · rw [if_pos e] at hx; cases hx
    · rw [if_neg e] at hx; exact h.mst x hx)
set_option maxRecDepth 100000 in
set_option maxHeartbeats 4000000 in
theorem eng_Pop.calls (k : Nat) (E : Eng) (B : Nat) (T : Tag) (p : EngP) (E2 : Eng) (r : Bool) (w : World) (h : EngIn w B T E p) (hlit : E.Lits) (htr : ∀ x ∈ E.tr, (Lit.int .i64 x).wf = true) (hf : Eng.pop k E = some (E2, r)) :
    Calls Try.prog 33 #[.pointer (some ⟨B, 0, none⟩)] w fun e w' => e = .returned (.bool r) ∧ EngPost B T p E2 w w' := by
  unfold Eng.pop at hf
  have c5 := h.cells.2.2.2.2.2.1
  have c3 := h.cells.2.2.2.1
  have c4 := h.cells.2.2.2.2.1
  obtain ⟨A5, k5, e5⟩ := Kd.R_slice h.st
  obtain ⟨A3, k3, e3⟩ := Kd.R_slice h.tr
  rw [e5] at c5
  rw [e3] at c3
  have HE := Aside0.mk h
  have HL := Aside0.mk hlit
  have HTR := Aside0.mk htr
  cases hst : E.st.getLast? with
  | none =>
    rw [hst] at hf
    simp only [Option.some.injEq, Prod.mk.injEq] at hf
    obtain ⟨h1, h2⟩ := hf
    subst h2
    have H2 := Aside0.mk h1
    rw [List.getLast?_eq_none_iff.1 hst] at c5
    clear h1 h hlit htr e5 e3
    go_enter Try.func33, Try.ntmps33
    go_wp2
    go_ret
    rw [← H2.out]
    exact ⟨rfl, T, p, HE.out, Moved.refl _ _, rfl⟩
  | some a =>
    rw [hst] at hf
    obtain ⟨ss, hss⟩ : ∃ ss, E.st = ss ++ [a] := List.getLast?_eq_some_iff.1 hst
    replace hf : (if 0 ≤ a ∧ a.toNat ≤ E.tr.length then (Eng.settle k (E.popped a.toNat)).bind fun E' => some (E', true) else none) = some (E2, r) := hf
    by_cases ha : 0 ≤ a ∧ a.toNat ≤ E.tr.length
    · rw [if_pos ha] at hf
      obtain ⟨E3, hs, hf⟩ := Option.bind_eq_some_iff.mp hf
      simp only [Option.some.injEq, Prod.mk.injEq] at hf
      obtain ⟨rfl, rfl⟩ := hf
      have HS := Aside0.mk hs
      obtain ⟨ha0, ha1⟩ := ha
      obtain ⟨m, rfl⟩ : ∃ m : Nat, a = m := ⟨a.toNat, by omega⟩
      rw [Int.toNat_natCast] at ha1 HS
      obtain ⟨N5, hN5⟩ : ∃ N5, ss.length = N5 := ⟨_, rfl⟩
      have hl5 : E.st.length = N5 + 1 := by rw [hss, List.length_append, hN5]; rfl
      rw [hl5] at c5 e5
      obtain ⟨N3, hN3⟩ : ∃ N3, E.tr.length = N3 := ⟨_, rfl⟩
      rw [hN3] at c3 e3 ha1
      have hrs := h.st
      rw [e5] at hrs
      have hrt := h.tr
      rw [e3] at hrt
      have b5 := (Kd.R_reads' hrs).2.2.2.1
      have b3 : N3 ≤ 9223372036854775807 := by rw [← hN3]; exact (Kd.R_reads' hrt).2.2.2.1
      have bc3 : N3 ≤ k3 := (Kd.R_reads' hrt).2.1
      have bc5 := (Kd.R_reads' hrs).2.1
      obtain ⟨ad, e1, x1⟩ := Kd.at_int (Kd.R_reads' hrs).2.2 (N5 : Int) (by omega) (by rw [hl5]; omega)
      cases e1
      have hrd : rd E.st (N5 : Int) = m := by rw [hss]; simp [rd, ← hN5]
      rw [hrd] at x1
      simp only [Int.toNat_natCast] at x1
      obtain ⟨L5, hL5⟩ : ∃ L5, N5 + 1 = L5 := ⟨_, rfl⟩
      rw [hL5] at c5 e5
      have P0 : IntKind.i64.wrap ((L5 : Int) - 1) = (N5 : Int) := (Go.IntWalk.i64_left _).trans (by unfold wrap64; omega)
      have P1 : ((0 : Int) ≤ (N5 : Int)) = True := eq_true (by omega)
      have P2 : ((N5 : Int) < (L5 : Int)) = True := eq_true (by omega)
      have P2' : (N5 < L5) = True := eq_true (by omega)
      have P3 : ((L5 : Int) == 0) = false := beq_eq_false_iff_ne.2 (by omega)
      have P4 : (L5 == 0) = false := beq_eq_false_iff_ne.2 (by omega)
      have P5 : (N5 ≤ k5) = True := eq_true (by omega)
      have P6 : (m ≤ k3) = True := eq_true (by omega)
      clear hrs hrt hst hs h hlit htr
      have hb0 : Below w.heap.size w w.drew := below_drew (Below.refl _ _)
      have HD := Aside0.mk (HE.out.below hb0)
      have HM0 := Aside0.mk (Moved.of_below (T := T) hb0)
      have d5 := pw_cell_below hb0 c5
      have d3 := pw_cell_below hb0 c3
      have dx := pw_cell_below hb0 x1
      obtain ⟨ds, hds⟩ : ∃ ds, E.tr.drop m = ds := ⟨_, rfl⟩
      have hdl : ds.length = N3 - m := by rw [← hds, List.length_drop, hN3]
      have HCUT : Aside0 (∀ (W : World) (E1 : Eng), EngIn W B T E1 p → E1.tr = E.tr → Kd.C (Kd.int .i64) W (if k3 = m then A3 else A3.map (·.add m)) ds.length ds) := ⟨fun W E1 h1 h2 => by
        have h3 := h1.tr
        rw [h2, e3] at h3
        have h4 := (Kd.R_reads' h3).2.2
        have h5 := Kd.C_drop h4 (m := m) (c := k3) (by omega) (by omega)
        rw [show (Kd.int .i64).sz = 1 from rfl, Nat.mul_one, hds] at h5
        exact h5⟩
      have HDM : Aside0 (∀ y ∈ ds, (Lit.int .i64 y).wf = true) := ⟨fun y hy => HTR.out y (List.mem_of_mem_drop (by rw [hds]; exact hy))⟩
      have HDS := Aside0.mk hds
      have HE3 := Aside0.mk e3
      have HE5 := Aside0.mk e5
      have HN3 := Aside0.mk hN3
      have HSS := Aside0.mk hss
      have hm3 : m ≤ N3 := ha1
      clear e3 e5 hds hN3 hss hf ha0 ha1 c4 x1 c3
      obtain ⟨L, hL⟩ : ∃ L, N3 - m = L := ⟨_, rfl⟩
      rw [hL] at hdl
      go_enter Try.func33, Try.ntmps33
      go_wp2
      go_still (by kernel_rfl)
      go_wp2
      all_goals
        obtain ⟨A6, hA6⟩ : ∃ A6, (if k3 = m then A3 else A3.map (·.add m)) = A6 := ⟨_, rfl⟩
        rw [hA6] at HCUT
        first
        | (rw [if_neg (by assumption)] at hA6; rw [hA6])
        | (have hkm : k3 = m := by assumption
           rw [if_pos hkm] at hA6
           rw [← hA6] at HCUT
           have HL0 := Aside0.mk (show L = 0 by omega)
           clear hkm h
           obtain rfl := hA6)
        have hLb : L ≤ 9223372036854775807 := by omega
        go_loopg [5, 35] L (fun gg _ v35 wr => ∃ (j : Nat), v35 = .int .i64 (j : Int) ∧ Aside0 (j + gg = L) ∧ Aside0 (EngIn wr B T (E.dels (ds.take j)) p) ∧ Aside0 (Moved T T w wr))
        case atStart => exact ⟨0, rfl, ⟨by simp⟩, HD, HM0⟩
        case round =>
          clear d3 d5 dx c5 HD HM0 HE
          obtain ⟨j, rfl, hg, HE1, HM1⟩ := hrel
          obtain ⟨E1, hE1⟩ : ∃ E1, E.dels (ds.take j) = E1 := ⟨_, rfl⟩
          obtain ⟨s1, s2, s3, s4, s5, s6, s7, s8⟩ := E.dels_same (ds.take j)
          rw [hE1] at HE1 s1 s2 s3 s4 s5 s6 s7
          have c4 := HE1.out.cells.2.2.2.2.1
          by_cases hlt : j < ds.length
          · first
            | (exfalso; have := HL0.out; omega)
            | (obtain ⟨ad', e1, x1⟩ := Kd.at_int (HCUT.out wr E1 HE1.out s2) (j : Int) (by omega) (by omega)
               obtain ⟨y, hy⟩ : ∃ y, ds[j] = y := ⟨_, rfl⟩
               have hrd' : rd ds (j : Int) = y := by simp [rd, hlt, hy]
               rw [hrd'] at x1
               simp only [Int.toNat_natCast] at x1
               have hyw := HDM.out y (by rw [← hy]; exact List.getElem_mem hlt)
               have HY := Aside0.mk (show ds.take (j + 1) = ds.take j ++ [y] by rw [List.take_add_one, List.getElem?_eq_getElem hlt, hy]; rfl)
               have Q0 : ((0 : Int) ≤ (j : Int)) = True := eq_true (by omega)
               have Q1 : ((j : Int) < (L : Int)) = True := eq_true (by omega)
               have Q2 : (j < L) = True := eq_true (by omega)
               have hd : decide ((j : Int) < (L : Int)) = true := decide_eq_true (by omega)
               have HE1' := Aside0.mk hE1
               obtain ⟨w2, hrun, hM2, hg2⟩ := HE1.out.ms.drop Try.underlying3 Try.underlying91 hyw 0
               obtain ⟨t1, t2⟩ := HE1.out.turn_del y hM2 hg2
               have T1 := Aside0.mk t1
               have T2 := Aside0.mk (HM1.out.trans t2)
               clear hE1 s1 s2 s3 s4 s5 s6 s7 s8 hy hrd' hyw t1 t2 hM2 hg2
               rw [e1]
               go_wp2
               rw [← e1]
               go_roundg (L - (j + 1))
               case measure => have := hg.out; omega
               case rel => exact ⟨j + 1, by simp, ⟨by have := hg.out; omega⟩, ⟨by rw [HY.out, Eng.dels_snoc, HE1'.out]; exact T1.out⟩, T2⟩)
          · have hd : decide ((j : Int) < (L : Int)) = false := decide_eq_false (by omega)
            have Q2 : (j < L) = False := eq_false (by omega)
            rw [List.take_of_length_le (show ds.length ≤ j by omega)] at hE1 s8
            have HE1' := Aside0.mk hE1
            have S1 := Aside0.mk s1
            have S2 := Aside0.mk s2
            have S3 := Aside0.mk s3
            have hbw : Below wr.heap.size wr wr.drew := below_drew (Below.refl _ _)
            have HD1 := Aside0.mk (HE1.out.below hbw)
            have HMD := Aside0.mk (HM1.out.trans (Moved.of_below (T := T) hbw))
            have d3 : wr.drew.cell? ⟨B, 3, none⟩ = some (.slice A3 N3 k3) := by rw [HD1.out.cells.2.2.2.1, HE3.out]
            have d5 : wr.drew.cell? ⟨B, 5, none⟩ = some (.slice (some ad) L5 k5) := by rw [HD1.out.cells.2.2.2.2.2.1, HE5.out]
            have g0 := HD1.out.cells.2.2.2.2.2.2.2 3
            have g5 := HD1.out.cells.2.2.2.2.2.2.2 5
            have g6 := HD1.out.cells.2.2.2.2.2.2.2 6
            have r5 : wr.cell? ⟨B, 5, none⟩ = some (.slice (some ad) L5 k5) := by rw [HE1.out.cells.2.2.2.2.2.1, HE5.out]
            have r6 := HE1.out.cells.2.2.2.2.2.2.1
            have g35 := HE1.out.cells.2.2.2.2.2.2.2 5
            have g36 := HE1.out.cells.2.2.2.2.2.2.2 6
            have g33 := HE1.out.cells.2.2.2.2.2.2.2 3
            clear hE1 s1 s2 s3 s4 s5 s6 s7 hbw
            go_wp2
            refine start_ (n := 29) (S := fun w' => w'.cell? ⟨B, 3, none⟩ = some (.slice A3 N3 k3) ∧ w'.cell? ⟨B, 5, none⟩ = some (.slice (some ad) L5 k5)) (ds := [22, 25, 28]) #[false, false, false, false, false, false, false, false, false, false, false, false, false, false, false, false, false, false, false, false, false, false, false, false, false, false, false, false, false] (by kernel_rfl) rfl rfl ⟨d3, d5⟩ (fun hHeld => ?_)
            refine pure_ (i := 0) (N := some 45) (v := ?_) (a' := ?_) #[true, false, false, false, false, false, false, false, false, false, false, false, false, false, false, false, false, false, false, false, false, false, false, false, false, false, false, false, false] rfl rfl (by kernel_rfl) (fun _ _ _ h => h) (Or.inl ⟨by rfl, ?_⟩) ?_ ?_
            rotate_left
            · intro w'
              go_simp
              with_reducible rfl
            rotate_left
            · simp only [Act.put, List.setIfInBounds_toArray, List.set_cons_zero, List.set_cons_succ, i64_w, i32_w]
              rfl
            refine pure_ (i := 1) (N := some 46) (v := ?_) (a' := ?_) #[true, true, false, false, false, false, false, false, false, false, false, false, false, false, false, false, false, false, false, false, false, false, false, false, false, false, false, false, false] rfl rfl (by kernel_rfl) (fun _ _ _ h => h) (Or.inl ⟨by rfl, ?_⟩) ?_ ?_
            rotate_left
            · intro w'
              go_simp
              with_reducible rfl
            rotate_left
            · simp only [Act.put, List.setIfInBounds_toArray, List.set_cons_zero, List.set_cons_succ, i64_w, i32_w]
              rfl
            refine pure_ (i := 2) (N := some 47) (v := ?_) (a' := ?_) #[true, true, true, false, false, false, false, false, false, false, false, false, false, false, false, false, false, false, false, false, false, false, false, false, false, false, false, false, false] rfl rfl (by kernel_rfl) (fun _ _ _ h => h) (Or.inl ⟨by rfl, ?_⟩) ?_ ?_
            rotate_left
            · intro w'
              go_simp
              with_reducible rfl
            rotate_left
            · simp only [Act.put, List.setIfInBounds_toArray, List.set_cons_zero, List.set_cons_succ, i64_w, i32_w]
              rfl
            refine pure_ (i := 3) (N := some 48) (v := ?_) (a' := ?_) #[true, true, true, true, false, false, false, false, false, false, false, false, false, false, false, false, false, false, false, false, false, false, false, false, false, false, false, false, false] rfl rfl (by kernel_rfl) (fun _ _ _ h => h) (Or.inl ⟨by rfl, ?_⟩) ?_ ?_
            rotate_left
            · intro w'
              go_simp
              with_reducible rfl
            rotate_left
            · simp only [Act.put, List.setIfInBounds_toArray, List.set_cons_zero, List.set_cons_succ, i64_w, i32_w]
              rfl
            refine pure_ (i := 4) (N := some 49) (v := ?_) (a' := ?_) #[true, true, true, true, true, false, false, false, false, false, false, false, false, false, false, false, false, false, false, false, false, false, false, false, false, false, false, false, false] rfl rfl (by kernel_rfl) (fun _ _ _ h => h) (Or.inl ⟨by rfl, ?_⟩) ?_ ?_
            rotate_left
            · intro w'
              go_simp
              with_reducible rfl
            rotate_left
            · simp only [Act.put, List.setIfInBounds_toArray, List.set_cons_zero, List.set_cons_succ, i64_w, i32_w]
              rfl
            refine pure_ (i := 5) (N := some 50) (v := ?_) (a' := ?_) #[true, true, true, true, true, true, false, false, false, false, false, false, false, false, false, false, false, false, false, false, false, false, false, false, false, false, false, false, false] rfl rfl (by kernel_rfl) (fun _ _ _ h => h) (Or.inl ⟨by rfl, ?_⟩) ?_ ?_
            rotate_left
            · intro w'
              go_simp
              with_reducible rfl
            rotate_left
            · simp only [Act.put, List.setIfInBounds_toArray, List.set_cons_zero, List.set_cons_succ, i64_w, i32_w]
              rfl
            refine pure_ (i := 7) (N := some 52) (v := ?_) (a' := ?_) #[true, true, true, true, true, true, false, true, false, false, false, false, false, false, false, false, false, false, false, false, false, false, false, false, false, false, false, false, false] rfl rfl (by kernel_rfl) (fun _ _ _ h => h) (Or.inl ⟨by rfl, ?_⟩) ?_ ?_
            rotate_left
            · intro w'
              go_simp
              with_reducible rfl
            rotate_left
            · simp only [Act.put, List.setIfInBounds_toArray, List.set_cons_zero, List.set_cons_succ, i64_w, i32_w]
              rfl
            refine pure_ (i := 9) (N := some 54) (v := ?_) (a' := ?_) #[true, true, true, true, true, true, false, true, false, true, false, false, false, false, false, false, false, false, false, false, false, false, false, false, false, false, false, false, false] rfl rfl (by kernel_rfl) (fun _ _ _ h => h) (Or.inl ⟨by rfl, ?_⟩) ?_ ?_
            rotate_left
            · intro w'
              go_simp
              with_reducible rfl
            rotate_left
            · simp only [Act.put, List.setIfInBounds_toArray, List.set_cons_zero, List.set_cons_succ, i64_w, i32_w]
              rfl
            refine pure_ (i := 10) (N := some 55) (v := ?_) (a' := ?_) #[true, true, true, true, true, true, false, true, false, true, true, false, false, false, false, false, false, false, false, false, false, false, false, false, false, false, false, false, false] rfl rfl (by kernel_rfl) (fun _ _ _ h => h) (Or.inl ⟨by rfl, ?_⟩) ?_ ?_
            rotate_left
            · intro w'
              go_simp
              with_reducible rfl
            rotate_left
            · simp only [Act.put, List.setIfInBounds_toArray, List.set_cons_zero, List.set_cons_succ, i64_w, i32_w]
              rfl
            refine pure_ (i := 11) (N := some 56) (v := ?_) (a' := ?_) #[true, true, true, true, true, true, false, true, false, true, true, true, false, false, false, false, false, false, false, false, false, false, false, false, false, false, false, false, false] rfl rfl (by kernel_rfl) (fun _ _ _ h => h) (Or.inl ⟨by rfl, ?_⟩) ?_ ?_
            rotate_left
            · intro w'
              go_simp
              with_reducible rfl
            rotate_left
            · simp only [Act.put, List.setIfInBounds_toArray, List.set_cons_zero, List.set_cons_succ, i64_w, i32_w]
              rfl
            refine pure_ (i := 13) (N := some 58) (v := ?_) (a' := ?_) #[true, true, true, true, true, true, false, true, false, true, true, true, false, true, false, false, false, false, false, false, false, false, false, false, false, false, false, false, false] rfl rfl (by kernel_rfl) (fun _ _ _ h => h) (Or.inl ⟨by rfl, ?_⟩) ?_ ?_
            rotate_left
            · intro w'
              go_simp
              with_reducible rfl
            rotate_left
            · simp only [Act.put, List.setIfInBounds_toArray, List.set_cons_zero, List.set_cons_succ, i64_w, i32_w]
              rfl
            refine pure_ (i := 14) (N := some 59) (v := ?_) (a' := ?_) #[true, true, true, true, true, true, false, true, false, true, true, true, false, true, true, false, false, false, false, false, false, false, false, false, false, false, false, false, false] rfl rfl (by kernel_rfl) (fun _ _ _ h => h) (Or.inl ⟨by rfl, ?_⟩) ?_ ?_
            rotate_left
            · intro w'
              go_simp
              with_reducible rfl
            rotate_left
            · simp only [Act.put, List.setIfInBounds_toArray, List.set_cons_zero, List.set_cons_succ, i64_w, i32_w]
              rfl
            refine pure_ (i := 15) (N := some 60) (v := ?_) (a' := ?_) #[true, true, true, true, true, true, false, true, false, true, true, true, false, true, true, true, false, false, false, false, false, false, false, false, false, false, false, false, false] rfl rfl (by kernel_rfl) (fun _ _ _ h => h) (Or.inl ⟨by rfl, ?_⟩) ?_ ?_
            rotate_left
            · intro w'
              go_simp
              with_reducible rfl
            rotate_left
            · simp only [Act.put, List.setIfInBounds_toArray, List.set_cons_zero, List.set_cons_succ, i64_w, i32_w]
              rfl
            refine take_ (i := 6) (N := some 51) (v := ?_) (a' := ?_) #[true, true, true, true, true, true, true, true, false, true, true, true, false, true, true, true, false, false, false, false, false, false, false, false, false, false, false, false, false] rfl rfl (by kernel_rfl) (fun _ _ _ h => h) (Or.inl ⟨by rfl, ?_⟩) hHeld ?_ ?_
            rotate_left
            · rintro w' ⟨s0, s1⟩
              go_simp
              with_reducible rfl
            rotate_left
            · simp only [Act.put, List.setIfInBounds_toArray, List.set_cons_zero, List.set_cons_succ, i64_w, i32_w]
              rfl
            refine pure_ (i := 8) (N := some 53) (v := ?_) (a' := ?_) #[true, true, true, true, true, true, true, true, true, true, true, true, false, true, true, true, false, false, false, false, false, false, false, false, false, false, false, false, false] rfl rfl (by kernel_rfl) (fun _ _ _ h => h) (Or.inl ⟨by rfl, ?_⟩) ?_ ?_
            rotate_left
            · intro w'
              go_simp
              with_reducible rfl
            rotate_left
            · simp only [Act.put, List.setIfInBounds_toArray, List.set_cons_zero, List.set_cons_succ, i64_w, i32_w]
              rfl
            refine take_ (i := 12) (N := some 57) (v := ?_) (a' := ?_) #[true, true, true, true, true, true, true, true, true, true, true, true, true, true, true, true, false, false, false, false, false, false, false, false, false, false, false, false, false] rfl rfl (by kernel_rfl) (fun _ _ _ h => h) (Or.inl ⟨by rfl, ?_⟩) hHeld ?_ ?_
            rotate_left
            · rintro w' ⟨s0, s1⟩
              go_simp
              with_reducible rfl
            rotate_left
            · simp only [Act.put, List.setIfInBounds_toArray, List.set_cons_zero, List.set_cons_succ, i64_w, i32_w]
              rfl
            refine take_ (i := 16) (N := some 61) (v := ?_) (a' := ?_) #[true, true, true, true, true, true, true, true, true, true, true, true, true, true, true, true, true, false, false, false, false, false, false, false, false, false, false, false, false] rfl rfl (by kernel_rfl) (fun _ _ _ h => h) (Or.inl ⟨by rfl, ?_⟩) hHeld ?_ ?_
            rotate_left
            · rintro w' ⟨s0, s1⟩
              go_simp
              with_reducible rfl
            rotate_left
            · simp only [Act.put, List.setIfInBounds_toArray, List.set_cons_zero, List.set_cons_succ, i64_w, i32_w]
              rfl
            refine pure_ (i := 17) (N := some 62) (v := ?_) (a' := ?_) #[true, true, true, true, true, true, true, true, true, true, true, true, true, true, true, true, true, true, false, false, false, false, false, false, false, false, false, false, false] rfl rfl (by kernel_rfl) (fun _ _ _ h => h) (Or.inl ⟨by rfl, ?_⟩) ?_ ?_
            rotate_left
            · intro w'
              go_simp
              with_reducible rfl
            rotate_left
            · simp only [Act.put, List.setIfInBounds_toArray, List.set_cons_zero, List.set_cons_succ, i64_w, i32_w]
              rfl
            refine pure_ (i := 18) (N := some 63) (v := ?_) (a' := ?_) #[true, true, true, true, true, true, true, true, true, true, true, true, true, true, true, true, true, true, true, false, false, false, false, false, false, false, false, false, false] rfl rfl (by kernel_rfl) (fun _ _ _ h => h) (Or.inl ⟨by rfl, ?_⟩) ?_ ?_
            rotate_left
            · intro w'
              go_simp
              with_reducible rfl
            rotate_left
            · simp only [Act.put, List.setIfInBounds_toArray, List.set_cons_zero, List.set_cons_succ, i64_w, i32_w]
              rfl
            refine pure_ (i := 19) (N := some 64) (v := ?_) (a' := ?_) #[true, true, true, true, true, true, true, true, true, true, true, true, true, true, true, true, true, true, true, true, false, false, false, false, false, false, false, false, false] rfl rfl (by kernel_rfl) (fun _ _ _ h => h) (Or.inl ⟨by rfl, ?_⟩) ?_ ?_
            rotate_left
            · intro w'
              go_simp
              with_reducible rfl
            rotate_left
            · simp only [Act.put, List.setIfInBounds_toArray, List.set_cons_zero, List.set_cons_succ, i64_w, i32_w]
              rfl
            refine pure_ (i := 20) (N := some 65) (v := ?_) (a' := ?_) #[true, true, true, true, true, true, true, true, true, true, true, true, true, true, true, true, true, true, true, true, true, false, false, false, false, false, false, false, false] rfl rfl (by kernel_rfl) (fun _ _ _ h => h) (Or.inl ⟨by rfl, ?_⟩) ?_ ?_
            rotate_left
            · intro w'
              go_simp
              with_reducible rfl
            rotate_left
            · simp only [Act.put, List.setIfInBounds_toArray, List.set_cons_zero, List.set_cons_succ, i64_w, i32_w]
              rfl
            refine pure_ (i := 21) (N := some 66) (v := ?_) (a' := ?_) #[true, true, true, true, true, true, true, true, true, true, true, true, true, true, true, true, true, true, true, true, true, true, false, false, false, false, false, false, false] rfl rfl (by kernel_rfl) (fun _ _ _ h => h) (Or.inl ⟨by rfl, ?_⟩) ?_ ?_
            rotate_left
            · intro w'
              go_simp
              with_reducible rfl
            rotate_left
            · simp only [Act.put, List.setIfInBounds_toArray, List.set_cons_zero, List.set_cons_succ, i64_w, i32_w]
              rfl
            refine last_ (i := 22) (N := none) #[true, true, true, true, true, true, true, true, true, true, true, true, true, true, true, true, true, true, true, true, true, true, true, false, false, false, false, false, false] rfl rfl (by kernel_rfl) (by decide) (fun K hK => ?_)
            refine skip_ (w1 := ?_) (by rfl) rfl ?_ ?_
            rotate_left
            · go_simp
              rfl
            refine hK.out _ _ ?_
            clear hK K
            refine pure_ (i := 23) (N := some 67) (v := ?_) (a' := ?_) #[true, true, true, true, true, true, true, true, true, true, true, true, true, true, true, true, true, true, true, true, true, true, true, true, false, false, false, false, false] rfl rfl (by kernel_rfl) (fun _ _ _ h => h) (Or.inl ⟨by rfl, ?_⟩) ?_ ?_
            rotate_left
            · intro w'
              go_simp
              with_reducible rfl
            rotate_left
            · simp only [Act.put, List.setIfInBounds_toArray, List.set_cons_zero, List.set_cons_succ, i64_w, i32_w]
              rfl
            refine pure_ (i := 24) (N := some 68) (v := ?_) (a' := ?_) #[true, true, true, true, true, true, true, true, true, true, true, true, true, true, true, true, true, true, true, true, true, true, true, true, true, false, false, false, false] rfl rfl (by kernel_rfl) (fun _ _ _ h => h) (Or.inl ⟨by rfl, ?_⟩) ?_ ?_
            rotate_left
            · intro w'
              go_simp
              with_reducible rfl
            rotate_left
            · simp only [Act.put, List.setIfInBounds_toArray, List.set_cons_zero, List.set_cons_succ, i64_w, i32_w]
              rfl
            refine last_ (i := 25) (N := none) #[true, true, true, true, true, true, true, true, true, true, true, true, true, true, true, true, true, true, true, true, true, true, true, true, true, true, false, false, false] rfl rfl (by kernel_rfl) (by decide) (fun K hK => ?_)
            refine skip_ (w1 := ?_) (by rfl) rfl ?_ ?_
            rotate_left
            · go_simp
              rfl
            refine hK.out _ _ ?_
            clear hK K
            refine pure_ (i := 26) (N := some 69) (v := ?_) (a' := ?_) #[true, true, true, true, true, true, true, true, true, true, true, true, true, true, true, true, true, true, true, true, true, true, true, true, true, true, true, false, false] rfl rfl (by kernel_rfl) (fun _ _ _ h => h) (Or.inl ⟨by rfl, ?_⟩) ?_ ?_
            rotate_left
            · intro w'
              go_simp
              with_reducible rfl
            rotate_left
            · simp only [Act.put, List.setIfInBounds_toArray, List.set_cons_zero, List.set_cons_succ, i64_w, i32_w]
              rfl
            refine pure_ (i := 27) (N := some 70) (v := ?_) (a' := ?_) #[true, true, true, true, true, true, true, true, true, true, true, true, true, true, true, true, true, true, true, true, true, true, true, true, true, true, true, true, false] rfl rfl (by kernel_rfl) (fun _ _ _ h => h) (Or.inl ⟨by rfl, ?_⟩) ?_ ?_
            rotate_left
            · intro w'
              go_simp
              with_reducible rfl
            rotate_left
            · simp only [Act.put, List.setIfInBounds_toArray, List.set_cons_zero, List.set_cons_succ, i64_w, i32_w]
              rfl
            refine last_ (i := 28) (N := none) #[true, true, true, true, true, true, true, true, true, true, true, true, true, true, true, true, true, true, true, true, true, true, true, true, true, true, true, true, true] rfl rfl (by kernel_rfl) (by decide) (fun K hK => ?_)
            refine skip_ (w1 := ?_) (by rfl) rfl ?_ ?_
            rotate_left
            · go_simp
              rfl
            refine hK.out _ _ ?_
            clear hK K
            refine done_ (by kernel_rfl) ?_
            have hR3 : Kd.R (Kd.int .i64) 3 wr 0 (fun k => T k = (4, 0) ∨ wr.heap.size ≤ k) (.slice A3 m k3) (E.tr.take m) := by
              have h := HE1.out.tr
              rw [HE3.out, S2.out] at h
              exact Kd.R_take (Kd.R_mono h (fun _ hk => .inl hk)) (by rw [HN3.out]; exact hm3)
            have hgr : ∀ (W : World) (o : Option Nat), W.grownBy W o := fun W o => ⟨rfl, rfl, rfl, Nat.le_refl _, fun _ _ _ => rfl⟩
            have hk3 : ∀ x, (E1.ms x).isSome = true → x ∈ E.tr.take m := fun x hx => by
              have h1 := HE1.out.mst x hx
              rw [S2.out, ← List.take_append_drop m E.tr] at h1
              rcases List.mem_append.1 h1 with h1 | h1
              · exact h1
              · rw [HDS.out] at h1
                rw [← HE1'.out, s8, if_pos h1] at hx
                cases hx
            obtain ⟨a1, b1⟩ := HE1.out.turn_tr hR3 (hgr _ _) hk3
            have hR5 : Kd.R (Kd.int .i64) 3 (wr.setCell ⟨B, 3, none⟩ (.slice A3 m k3)) 0 (fun k => retag T wr (.slice A3 m k3) (4, 0) k = (5, 0) ∨ (wr.setCell ⟨B, 3, none⟩ (.slice A3 m k3)).heap.size ≤ k) (.slice (some ad) N5 k5) ss := by
              have h := a1.st
              have h : Kd.R (Kd.int .i64) 3 (wr.setCell ⟨B, 3, none⟩ (.slice A3 m k3)) 0 (fun k => retag T wr (.slice A3 m k3) (4, 0) k = (5, 0)) p.vS E1.st := h
              rw [HE5.out, S3.out, HSS.out] at h
              have h2 := Kd.R_take (m := N5) (Kd.R_mono (ok' := fun k => retag T wr (.slice A3 m k3) (4, 0) k = (5, 0) ∨ (wr.setCell ⟨B, 3, none⟩ (.slice A3 m k3)).heap.size ≤ k) h (fun _ hk => Or.inl hk)) (by simp [hN5])
              rw [show (ss ++ [(m : Int)]).take N5 = ss by rw [← hN5]; simp] at h2
              exact h2
            obtain ⟨a2, b2⟩ := a1.turn_st hR5 (hgr _ _)
            obtain ⟨a3, b3'⟩ := a2.turn_br (-1)
            obtain ⟨W6, hW6⟩ : ∃ W6, ((wr.setCell ⟨B, 3, none⟩ (.slice A3 m k3)).setCell ⟨B, 5, none⟩ (.slice (some ad) N5 k5)).setCell ⟨B, 6, none⟩ (.int .i64 (-1)) = W6 := ⟨_, rfl⟩
            rw [hW6] at a3 b3'
            have hbw6 : Below W6.heap.size W6 W6.drew := below_drew (Below.refl _ _)
            obtain ⟨T6, p6, E6, h6, m6, f6, e6⟩ : ∃ T6 p6 E6, EngIn W6.drew B T6 E6 p6 ∧ Moved T T6 w W6.drew ∧ p6.fw = p.fw ∧ E6 = E.popped m := ⟨_, _, _, a3.below hbw6, HM1.out.trans (b1.trans (b2.trans (b3'.trans (Moved.of_below hbw6)))), rfl, by
              unfold Eng.popped
              rw [HDS.out, HE1'.out, HSS.out, List.dropLast_concat]⟩
            have hlit6 : E6.Lits := by
              unfold Eng.Lits
              rw [e6]
              show ∀ c ∈ (E.dels (E.tr.drop m)).cls, _
              rw [HDS.out, HE1'.out, S1.out]
              exact HL.out
            have HCALL := Aside0.mk (eng_settle.calls k E6 B T6 p6 E3 _ h6 hlit6 (by rw [e6]; exact HS.out))
            have HM6 := Aside0.mk m6
            have HW6 := Aside0.mk hW6
            have HF6 := Aside0.mk f6
            clear hW6 a1 b1 a2 b2 a3 b3' h6 m6 f6 e6 hlit6 hR3 hR5 hk3 hgr hbw6 d3 d5 g0 g5 g6 r5 r6 g35 g36 g33
            go_wp2_with fail
            rw [HW6.out]
            refine HCALL.out.mono ?_
            rintro e' w8 ⟨rfl, T8, p8, h8, m8, f8⟩
            have H8 := Aside0.mk h8
            have M8 := Aside0.mk (HM6.out.trans m8)
            have F8 := Aside0.mk (f8.trans HF6.out)
            clear h8 m8 f8 HCALL
            go_wp2
            go_ret
            exact ⟨rfl, T8, p8, H8.out, M8.out, F8.out⟩
    · rw [if_neg ha] at hf; cases hf


end Go.Proofs.Ytfcofpgehlmbbaa.P

-- Printed by wip/tools/pp.py of this claim's session (over the kit's print.py); Lean checks it.
namespace Go.Proofs.Ytfcofpgehlmbbaa.P
open Go.RowKit Go.Proofs.YtfcofpgehlmbbaaW.PrintWords Go.Proofs.YtfcofpgehlmbbaaW.PrintLast Go.Proofs.YtfcofpgehlmbbaaW.PrintMore
attribute [local go_sem] max2_int min2_int max_two min_two max_three min_three max_four min_four   -- for this text's walks alone
set_option linter.unusedVariables false
set_option linter.unusedSimpArgs false

-- SOLO
-- IMPORTS Derived.Test.YtfcofpgehlmbbaaPxAunitEng
/-! ### unit_Engine_Add: function 35 -/
/-- A clause more, and it goes on. -/
def Eng.add (k : Nat) (E : Eng) (c : List Int) : Option (Eng × Int) :=
  (lit_Right.f k c E.n).bind fun e => if e ≠ 0 then some (E, e) else if E.cls.length ≥ 4096 then some (E, 2) else (lit_Clean.f c).bind fun r =>
    if E.ws + r.1.length < 4398046511104 ∧ E.tr.length < 4398046511104 then (if E.br < 0 then (Eng.follow k ((E.laid r.1).look E.cls.length) E.tr.length).bind fun E' => some (E', 0) else some (E.laid r.1, 0)) else none
set_option maxRecDepth 100000 in
set_option maxHeartbeats 4000000 in
theorem eng_Add.calls (k : Nat) (E : Eng) (B : Nat) (T : Tag) (p : EngP) (A0 : Option Addr) (c0 : Nat) (l0 : List Int) (E2 : Eng) (r : Int) (w : World) (h : EngIn w B T E p) (hr0 : Kd.C (Kd.int .i64) w A0 l0.length l0) (hc0 : l0.length ≤ c0) (hlit : E.Lits) (hwf : ∀ r, lit_Clean.f l0 = some r → ∀ x ∈ r.1, (Lit.int .i64 x).wf = true) (hf : Eng.add k E l0 = some (E2, r)) :
    Calls Try.prog 35 #[.pointer (some ⟨B, 0, none⟩), .slice A0 l0.length c0] w fun e w' => e = .returned (.int .i64 r) ∧ ∃ T' p', EngIn w' B T' E2 p' ∧ Moved T T' w w' := by
  unfold Eng.add at hf
  obtain ⟨e, he, hf⟩ := Option.bind_eq_some_iff.mp hf
  have c0' := h.cells.1
  have HE := Aside0.mk h
  have HR := Aside0.mk (lit_Right.calls k A0 c0 l0 E.n e w hr0 hc0 he)
  clear he
  by_cases h0 : e = 0
  · subst h0
    rw [if_neg (by decide)] at hf
    obtain ⟨A1, k1, e1⟩ := Kd.R_slice h.cls
    obtain ⟨N, hN⟩ : ∃ N, E.cls.length = N := ⟨_, rfl⟩
    have hcc : ∀ {W : World}, Below w.heap.size w W → W.cell? ⟨B, 1, none⟩ = some (.slice A1 N k1) := fun hb => by
      rw [(h.below hb).cells.2.1, e1, h.len, hN]
    have HCC := Aside0.mk @hcc
    rw [hN] at hf
    by_cases h4 : N ≥ 4096
    · rw [if_pos h4] at hf
      simp only [Option.some.injEq, Prod.mk.injEq] at hf
      obtain ⟨h1, h2⟩ := hf
      subst h2
      have H2 := Aside0.mk h1
      have d1 : decide ((4096 : Int) ≤ (N : Int)) = true := decide_eq_true (by omega)
      have d2 : (4096 ≤ N) = True := eq_true h4
      clear h1 h hlit hwf hr0 hN hcc e1
      go_enter Try.func35, Try.ntmps35
      go_wp2_with fail
      refine HR.out.mono ?_
      rintro e' w1 ⟨rfl, ⟨⟨n1, rfl⟩⟩⟩
      have hb1 := pw_below_drewN (Below.refl w.heap.size w) n1
      have c1 := HCC.out hb1
      have HB1 := Aside0.mk hb1
      clear hb1
      go_wp2
      go_ret
      rw [← H2.out]
      exact ⟨rfl, T, p, HE.out.below HB1.out, Moved.of_below HB1.out⟩
    · rw [if_neg h4] at hf
      obtain ⟨⟨r1, r2⟩, hcl, hf⟩ := Option.bind_eq_some_iff.mp hf
      dsimp only at hf
      by_cases hbd : E.ws + r1.length < 4398046511104 ∧ E.tr.length < 4398046511104
      · rw [if_pos hbd] at hf
        have d1 : decide ((4096 : Int) ≤ (N : Int)) = false := decide_eq_false (by omega)
        have d2 : (4096 ≤ N) = False := eq_false h4
        have hw1 := hwf _ hcl
        have HCALL := Aside0.mk (fun W (hW : Below w.heap.size w W) => eng_lay.calls E B T p A0 c0 l0 r1 r2 W (h.below hW) (Kd.C_below hr0 hW) hc0 hcl hw1 hbd.1 (by rw [hN]; omega))
        obtain ⟨s1, s2, s3, s4, s5, s6, s7⟩ := E.laid_same r1
        have HS1 := Aside0.mk s1
        have HS2 := Aside0.mk s2
        have HS3 := Aside0.mk (show (E.laid r1).cls.length = N + 1 by rw [s3, List.length_append, hN]; rfl)
        have HLL := Aside0.mk (Eng.laid_lits hlit hw1)
        have HBD := Aside0.mk hbd
        have HF := Aside0.mk hf
        have hNb : N < 4096 := by omega
        clear h hlit hwf hr0 hN hcc e1 hcl hw1 s1 s2 s3 s4 s5 s6 s7 hbd hf h4
        go_enter Try.func35, Try.ntmps35
        go_wp2_with fail
        refine HR.out.mono ?_
        rintro e' w1 ⟨rfl, ⟨⟨n1, rfl⟩⟩⟩
        have hb1 := pw_below_drewN (Below.refl w.heap.size w) n1
        have c1 := HCC.out hb1
        have HB1 := Aside0.mk hb1
        clear hb1
        go_wp2_with fail
        refine (HCALL.out _ HB1.out).mono ?_
        rintro e' w2 ⟨rfl, T2, p2, h2, m2⟩
        have c6 := h2.cells.2.2.2.2.2.2.1
        rw [HS1.out] at c6
        have HM2 := Aside0.mk ((Moved.of_below HB1.out).trans m2)
        by_cases hbr : E.br < 0
        · have hf := HF.out
          rw [if_pos hbr] at hf
          obtain ⟨E5, hf5, hr⟩ := Option.bind_eq_some_iff.mp hf
          simp only [Option.some.injEq, Prod.mk.injEq] at hr
          obtain ⟨h1, h3⟩ := hr
          subst h3
          have H2 := Aside0.mk h1
          have d3 : decide (E.br < 0) = true := decide_eq_true hbr
          have c3 := h2.cells.2.2.2.1
          obtain ⟨A3, k3, e3⟩ := Kd.R_slice h2.tr
          obtain ⟨n3, hn3⟩ : ∃ n3, E.tr.length = n3 := ⟨_, rfl⟩
          rw [e3, HS2.out, hn3] at c3
          have c1' := h2.cells.2.1
          obtain ⟨A1', k1', e1'⟩ := Kd.R_slice h2.cls
          rw [e1', h2.len, HS3.out] at c1'
          have HLK := Aside0.mk (eng_look.calls (E.laid r1) B T2 p2 N w2 h2 (by rw [HS3.out]; omega) (HLL.out _ (List.getElem_mem _)) (by rw [HS2.out]; exact HBD.out.2))
          have HF5 := Aside0.mk hf5
          have HN3 := Aside0.mk hn3
          clear hf hf5 h1 hbr e3 hn3 e1' h2 m2 HCALL
          go_wp2_with fail
          refine HLK.out.mono ?_
          rintro e' w4 ⟨rfl, T4, p4, h4, m4, f4⟩
          have HM4 := Aside0.mk (HM2.out.trans m4)
          obtain ⟨l1, l2, _⟩ := (E.laid r1).look_cls N
          have HFO := Aside0.mk (eng_follow.calls k _ B T4 p4 n3 E5 w4 h4 (by unfold Eng.Lits; rw [l1]; exact HLL.out) (by rw [← HN3.out]; exact HF5.out))
          clear h4 m4 f4 l1 l2 HLK
          go_wp2_with fail
          refine HFO.out.mono ?_
          rintro e' w5 ⟨rfl, T5, p5, h5, m5, f5⟩
          have H5 := Aside0.mk h5
          have M5 := Aside0.mk (HM4.out.trans m5)
          clear h5 m5 f5 HFO
          go_wp2
          go_ret
          rw [← H2.out]
          exact ⟨rfl, T5, p5, H5.out, M5.out⟩
        · have hf := HF.out
          rw [if_neg hbr] at hf
          simp only [Option.some.injEq, Prod.mk.injEq] at hf
          obtain ⟨h1, h3⟩ := hf
          subst h3
          have H2 := Aside0.mk h1
          have d3 : decide (E.br < 0) = false := decide_eq_false hbr
          have H3 := Aside0.mk h2
          clear h1 hbr h2 m2 HCALL
          go_wp2
          go_ret
          rw [← H2.out]
          exact ⟨rfl, T2, p2, H3.out, HM2.out⟩
      · rw [if_neg hbd] at hf; cases hf
  · rw [if_pos h0] at hf
    simp only [Option.some.injEq, Prod.mk.injEq] at hf
    obtain ⟨h1, h2⟩ := hf
    subst h2
    have H2 := Aside0.mk h1
    have q1 : (e != 0) = true := by simpa using h0
    have q2 : (e == 0) = false := by simpa using h0
    clear h1 h hlit hwf hr0 h0
    go_enter Try.func35, Try.ntmps35
    go_wp2_with fail
    refine HR.out.mono ?_
    rintro e' w1 ⟨rfl, ⟨⟨n1, rfl⟩⟩⟩
    have HB1 := Aside0.mk (pw_below_drewN (Below.refl w.heap.size w) n1)
    go_wp2
    go_ret
    rw [← H2.out]
    exact ⟨rfl, T, p, HE.out.below HB1.out, Moved.of_below HB1.out⟩
set_option maxRecDepth 100000 in
theorem eng_Add.nobody (A0 : Option Addr) (n0 c0 : Nat) (w : World) : Calls Try.prog 35 #[.pointer none, .slice A0 n0 c0] w fun e w' => e = .returned (.int .i64 1) ∧ w' = w := by
  go_enter Try.func35, Try.ntmps35
  go_wp2
  go_ret
  exact ⟨rfl, rfl⟩


end Go.Proofs.Ytfcofpgehlmbbaa.P

-- Printed by wip/tools/pp.py of this claim's session (over the kit's print.py); Lean checks it.
namespace Go.Proofs.Ytfcofpgehlmbbaa.P
open Go.RowKit Go.Proofs.YtfcofpgehlmbbaaW.PrintWords Go.Proofs.YtfcofpgehlmbbaaW.PrintLast Go.Proofs.YtfcofpgehlmbbaaW.PrintMore
attribute [local go_sem] max2_int min2_int max_two min_two max_three min_three max_four min_four   -- for this text's walks alone
set_option linter.unusedVariables false
set_option linter.unusedSimpArgs false

-- SOLO
-- IMPORTS Derived.Test.YtfcofpgehlmbbaaPxAunitEng
/-! ### sequiturlaw20_act: function 17 -/
/-- An act. -/
def Eng.act (k : Nat) (E : Eng) (kind x : Int) (l : List Int) : Option (Eng × Bool × Int) :=
  if kind = 1 then (Eng.pop k E).map fun r => (r.1, r.2, 0) else if kind = 2 then (Eng.add k E l).map fun r => (r.1, decide (r.2 = 0), r.2) else (Eng.push k E x).map fun r => (r.1, r.2, 0)
/-- What a call leaves that goes on with the engine and lays clauses. -/
def ActPost (B : Nat) (T : Tag) (E' : Eng) (W W' : World) : Prop := ∃ T' p', EngIn W' B T' E' p' ∧ Moved T T' W W'
set_option maxRecDepth 100000 in
set_option maxHeartbeats 4000000 in
theorem sequiturlaw20_act.calls (k : Nat) (E : Eng) (B : Nat) (T : Tag) (p : EngP) (kind x : Int) (A0 : Option Addr) (c0 : Nat) (l0 : List Int) (E2 : Eng) (r : Bool) (f : Int) (w : World) (h : EngIn w B T E p) (hr0 : Kd.C (Kd.int .i64) w A0 l0.length l0) (hc0 : l0.length ≤ c0) (hlit : E.Lits) (htr : ∀ x ∈ E.tr, (Lit.int .i64 x).wf = true) (hx : (Lit.int .i64 x).wf = true)
    (hwf : ∀ r, lit_Clean.f l0 = some r → ∀ x ∈ r.1, (Lit.int .i64 x).wf = true) (hf : Eng.act k E kind x l0 = some (E2, r, f)) :
    Calls Try.prog 17 #[.pointer (some ⟨B, 0, none⟩), .agg #[.int .i64 kind, .int .i64 x, .slice A0 l0.length c0]] w fun e w' => e = .returned (.tuple #[.bool r, .int .i64 f]) ∧ ActPost B T E2 w w' := by
  have hu35 := Try.underlying35
  have HE := Aside0.mk h
  have HR := Aside0.mk hr0
  have HC := Aside0.mk hc0
  have HL := Aside0.mk hlit
  have HTR := Aside0.mk htr
  have HX := Aside0.mk hx
  have HWF := Aside0.mk hwf
  clear h hr0 hc0 hlit htr hx hwf
  have HB := Aside0.mk (Below.refl w.heap.size w)
  unfold Eng.act at hf
  by_cases h1 : kind = 1
  · rw [if_pos h1] at hf
    obtain ⟨⟨E3, b⟩, hp, hq⟩ := Option.map_eq_some_iff.1 hf
    simp only [Prod.mk.injEq] at hq
    obtain ⟨rfl, rfl, rfl⟩ := hq
    have HP := Aside0.mk hp
    subst h1
    clear hf hp
    go_enter Try.func17, Try.ntmps17
    go_upto_region 1 with (first | ((with_reducible refine gate_dst (N := 3) rfl ?_); refine box_event ?hg (N := 3) ?hd (cs := #[.int .i64 1, .int .i64 x, .slice A0 l0.length c0]) (t := 35) ?hr ?_; (case hd => rfl); (case hg => rfl); (case hr => first | (go_simp; done) | (go_simp; rfl)); intro gb hg w3 hbox hb; have n0_ := Aside0.mk (below_step HB.out hb); have BK := Aside0.mk hbox; clear HB; have HB := n0_; clear n0_; clear hb hbox hg))
    (try simp only [Act.put, List.setIfInBounds_toArray, List.set_cons_zero, List.set_cons_succ])
    have cb0 : w3.cell? ⟨gb, 0, none⟩ = some (.int .i64 1) := (blk_cell BK.out 0).trans rfl
    have cb1 : w3.cell? ⟨gb, 1, none⟩ = some (.int .i64 x) := (blk_cell BK.out 1).trans rfl
    have cb2 : w3.cell? ⟨gb, 2, none⟩ = some (.slice A0 l0.length c0) := (blk_cell BK.out 2).trans rfl
    have HCALL := Aside0.mk (eng_Pop.calls k E B T p E3 b w3 (HE.out.below HB.out) HL.out HTR.out HP.out)
    go_wp2_with fail
    refine HCALL.out.mono ?_
    rintro e' w1 ⟨rfl, T1, p1, h1, m1, f1⟩
    have H1 := Aside0.mk h1
    have M1 := Aside0.mk ((Moved.of_below (T := T) HB.out).trans m1)
    clear h1 m1 f1 HCALL
    go_wp2
    go_ret2
    exact ⟨rfl, T1, p1, H1.out, M1.out⟩
  · rw [if_neg h1] at hf
    have d1 : (kind == 1) = false := beq_eq_false_iff_ne.2 h1
    by_cases h2 : kind = 2
    · rw [if_pos h2] at hf
      obtain ⟨⟨E3, b⟩, hp, hq⟩ := Option.map_eq_some_iff.1 hf
      simp only [Prod.mk.injEq] at hq
      obtain ⟨rfl, rfl, rfl⟩ := hq
      have HP := Aside0.mk hp
      subst h2
      have hbq : (b == 0) = decide (b = 0) := by by_cases hb : b = 0 <;> simp [hb]
      clear hf hp h1 d1
      go_enter Try.func17, Try.ntmps17
      go_upto_region 1 with (first | ((with_reducible refine gate_dst (N := 3) rfl ?_); refine box_event ?hg (N := 3) ?hd (cs := #[.int .i64 2, .int .i64 x, .slice A0 l0.length c0]) (t := 35) ?hr ?_; (case hd => rfl); (case hg => rfl); (case hr => first | (go_simp; done) | (go_simp; rfl)); intro gb hg w3 hbox hb; have n0_ := Aside0.mk (below_step HB.out hb); have BK := Aside0.mk hbox; clear HB; have HB := n0_; clear n0_; clear hb hbox hg))
      (try simp only [Act.put, List.setIfInBounds_toArray, List.set_cons_zero, List.set_cons_succ])
      have cb0 : w3.cell? ⟨gb, 0, none⟩ = some (.int .i64 2) := (blk_cell BK.out 0).trans rfl
      have cb1 : w3.cell? ⟨gb, 1, none⟩ = some (.int .i64 x) := (blk_cell BK.out 1).trans rfl
      have cb2 : w3.cell? ⟨gb, 2, none⟩ = some (.slice A0 l0.length c0) := (blk_cell BK.out 2).trans rfl
      have HCALL := Aside0.mk (eng_Add.calls k E B T p A0 c0 l0 E3 b w3 (HE.out.below HB.out) (Kd.C_below HR.out HB.out) HC.out HL.out HWF.out HP.out)
      go_wp2_with fail
      refine HCALL.out.mono ?_
      rintro e' w1 ⟨rfl, T1, p1, h1, m1⟩
      have H1 := Aside0.mk h1
      have M1 := Aside0.mk ((Moved.of_below (T := T) HB.out).trans m1)
      clear h1 m1 HCALL
      go_wp2
      go_ret2
      exact ⟨by simp [hbq], T1, p1, H1.out, M1.out⟩
    · rw [if_neg h2] at hf
      have d2 : (kind == 2) = false := beq_eq_false_iff_ne.2 h2
      obtain ⟨⟨E3, b⟩, hp, hq⟩ := Option.map_eq_some_iff.1 hf
      simp only [Prod.mk.injEq] at hq
      obtain ⟨rfl, rfl, rfl⟩ := hq
      have HP := Aside0.mk hp
      clear hf hp h1 h2
      go_enter Try.func17, Try.ntmps17
      go_upto_region 1 with (first | ((with_reducible refine gate_dst (N := 3) rfl ?_); refine box_event ?hg (N := 3) ?hd (cs := #[.int .i64 kind, .int .i64 x, .slice A0 l0.length c0]) (t := 35) ?hr ?_; (case hd => rfl); (case hg => rfl); (case hr => first | (go_simp; done) | (go_simp; rfl)); intro gb hg w3 hbox hb; have n0_ := Aside0.mk (below_step HB.out hb); have BK := Aside0.mk hbox; clear HB; have HB := n0_; clear n0_; clear hb hbox hg))
      (try simp only [Act.put, List.setIfInBounds_toArray, List.set_cons_zero, List.set_cons_succ])
      have cb0 : w3.cell? ⟨gb, 0, none⟩ = some (.int .i64 kind) := (blk_cell BK.out 0).trans rfl
      have cb1 : w3.cell? ⟨gb, 1, none⟩ = some (.int .i64 x) := (blk_cell BK.out 1).trans rfl
      have cb2 : w3.cell? ⟨gb, 2, none⟩ = some (.slice A0 l0.length c0) := (blk_cell BK.out 2).trans rfl
      have HCALL := Aside0.mk (eng_Push.calls k E B T p x E3 b w3 (HE.out.below HB.out) HX.out HL.out HP.out)
      go_wp2_with fail
      refine HCALL.out.mono ?_
      rintro e' w1 ⟨rfl, T1, p1, h1, m1, f1⟩
      have H1 := Aside0.mk h1
      have M1 := Aside0.mk ((Moved.of_below (T := T) HB.out).trans m1)
      clear h1 m1 f1 HCALL
      go_wp2
      go_ret2
      exact ⟨rfl, T1, p1, H1.out, M1.out⟩


end Go.Proofs.Ytfcofpgehlmbbaa.P

-- Printed by wip/tools/pp.py of this claim's session (over the kit's print.py); Lean checks it.
namespace Go.Proofs.Ytfcofpgehlmbbaa.P
open Go.RowKit Go.Proofs.YtfcofpgehlmbbaaW.PrintWords Go.Proofs.YtfcofpgehlmbbaaW.PrintLast Go.Proofs.YtfcofpgehlmbbaaW.PrintMore
attribute [local go_sem] max2_int min2_int max_two min_two max_three min_three max_four min_four   -- for this text's walks alone
set_option linter.unusedVariables false
set_option linter.unusedSimpArgs false

-- SOLO
-- IMPORTS Derived.Test.YtfcofpgehlmbbaaPxAunitEng
/-! ### unit_Engine_Levels: function 18 -/
set_option maxRecDepth 100000 in
theorem eng_Levels.calls (E : Eng) (B : Nat) (T : Tag) (p : EngP) (w : World) (h : EngIn w B T E p) :
    Calls Try.prog 18 #[.pointer (some ⟨B, 0, none⟩)] w fun e w' => e = .returned (.int .i64 (E.st.length : Int)) ∧ w' = w := by
  have c5 := h.cells.2.2.2.2.2.1
  obtain ⟨A5, n5, e5⟩ := Kd.R_slice h.st
  rw [e5] at c5
  clear h e5
  go_enter Try.func18, Try.ntmps18
  go_wp2
  go_ret
  exact ⟨rfl, rfl⟩
set_option maxRecDepth 100000 in
theorem eng_Levels.nobody (w : World) : Calls Try.prog 18 #[.pointer none] w fun e w' => e = .returned (.int .i64 0) ∧ w' = w := by
  go_enter Try.func18, Try.ntmps18
  go_wp2
  go_ret
  exact ⟨rfl, rfl⟩


end Go.Proofs.Ytfcofpgehlmbbaa.P

-- Printed by wip/tools/pp.py of this claim's session (over the kit's print.py); Lean checks it.
namespace Go.Proofs.Ytfcofpgehlmbbaa.P
open Go.RowKit Go.Proofs.YtfcofpgehlmbbaaW.PrintWords Go.Proofs.YtfcofpgehlmbbaaW.PrintLast Go.Proofs.YtfcofpgehlmbbaaW.PrintMore
attribute [local go_sem] max2_int min2_int max_two min_two max_three min_three max_four min_four   -- for this text's walks alone
set_option linter.unusedVariables false
set_option linter.unusedSimpArgs false

/-! ### sequiturref17_Of: function 31 -/
def sequiturref17_Of.f (a0 : Int) : Option (Int) := if a0 < 0 then (some (wrap64 (-a0))) else (some a0)
set_option maxHeartbeats 8000000 in
set_option maxRecDepth 100000 in
theorem sequiturref17_Of.calls (a0 : Int) (r : Int) (w : World) (h : sequiturref17_Of.f a0 = some r) :
    Calls Try.prog 31 #[.int .i64 a0] w fun e w' => e = .returned (.int .i64 r) ∧ Drawn0 w w' := by
  have H : (if a0 < 0 then (some (wrap64 (-a0))) else (some a0)) = some r := h
  clear h
  by_cases c2 : a0 < 0
  · rw [if_pos c2] at H
    have c2b0 : decide (a0 < 0) = true := decide_eq_true c2
    clear c2
    as_aux_lemma =>
      obtain rfl := Option.some.inj H
      go_enter Try.func31, Try.ntmps31
      go_wp2
      go_ret
      exact ⟨by first | rfl | (simp; done) | (simp [*]; done), by repeat (first | exact Drawn0.refl _ | apply Drawn0.step)⟩
  · rw [if_neg c2] at H
    have c2b0 : decide (a0 < 0) = false := decide_eq_false c2
    clear c2
    as_aux_lemma =>
      obtain rfl := Option.some.inj H
      go_enter Try.func31, Try.ntmps31
      go_wp2
      go_ret
      exact ⟨by first | rfl | (simp; done) | (simp [*]; done), by repeat (first | exact Drawn0.refl _ | apply Drawn0.step)⟩

end Go.Proofs.Ytfcofpgehlmbbaa.P

-- Printed by wip/tools/pp.py of this claim's session (over the kit's print.py); Lean checks it.
namespace Go.Proofs.Ytfcofpgehlmbbaa.P
open Go.RowKit Go.Proofs.YtfcofpgehlmbbaaW.PrintWords Go.Proofs.YtfcofpgehlmbbaaW.PrintLast Go.Proofs.YtfcofpgehlmbbaaW.PrintMore
attribute [local go_sem] max2_int min2_int max_two min_two max_three min_three max_four min_four   -- for this text's walks alone
set_option linter.unusedVariables false
set_option linter.unusedSimpArgs false

/-! ### sequiturref17_is: function 65 -/
def sequiturref17_is.f (a0 : Int) : Option (Bool) := if a0 = 0 then (some false) else (some (a0 != (-9223372036854775808)))
set_option maxHeartbeats 8000000 in
set_option maxRecDepth 100000 in
theorem sequiturref17_is.calls (a0 : Int) (r : Bool) (w : World) (h : sequiturref17_is.f a0 = some r) :
    Calls Try.prog 65 #[.int .i64 a0] w fun e w' => e = .returned (.bool r) ∧ Drawn0 w w' := by
  have H : (if a0 = 0 then (some false) else (some (a0 != (-9223372036854775808)))) = some r := h
  clear h
  by_cases c2 : a0 = 0
  · rw [if_pos c2] at H
    have c2b0 : (a0 == 0) = true := beq_iff_eq.mpr c2
    have c2b1 : (a0 != 0) = false := bne_eq_false_iff_eq.mpr c2
    clear c2
    as_aux_lemma =>
      obtain rfl := Option.some.inj H
      go_enter Try.func65, Try.ntmps65
      go_wp2
      go_ret
      exact ⟨by first | rfl | (simp; done) | (simp [*]; done), by repeat (first | exact Drawn0.refl _ | apply Drawn0.step)⟩
  · rw [if_neg c2] at H
    have c2b0 : (a0 == 0) = false := beq_eq_false_iff_ne.mpr c2
    have c2b1 : (a0 != 0) = true := bne_iff_ne.mpr c2
    as_aux_lemma =>
      obtain rfl := Option.some.inj H
      go_enter Try.func65, Try.ntmps65
      go_wp2
      go_ret
      exact ⟨by first | rfl | (simp; done) | (simp [*]; done), by repeat (first | exact Drawn0.refl _ | apply Drawn0.step)⟩

end Go.Proofs.Ytfcofpgehlmbbaa.P

-- Printed by wip/tools/pp.py of this claim's session (over the kit's print.py); Lean checks it.
namespace Go.Proofs.Ytfcofpgehlmbbaa.P
open Go.RowKit Go.Proofs.YtfcofpgehlmbbaaW.PrintWords Go.Proofs.YtfcofpgehlmbbaaW.PrintLast Go.Proofs.YtfcofpgehlmbbaaW.PrintMore
attribute [local go_sem] max2_int min2_int max_two min_two max_three min_three max_four min_four   -- for this text's walks alone
set_option linter.unusedVariables false
set_option linter.unusedSimpArgs false

/-! ### sequiturref17_True: function 22 -/
def sequiturref17_True.f (a0 : Int) (l1 : List Bool) : Option (Bool) := (sequiturref17_is.f a0).bind fun t129 => (if t129 = true then ((sequiturref17_Of.f a0).bind fun t130 => (if t130 ≤ (l1.length : Int) then (if 0 ≤ (wrap64 (t130 - 1)) then (if (wrap64 (t130 - 1)) < (l1.length : Int) then (some ((rdOf false l1 (wrap64 (t130 - 1))) == (decide (a0 > 0)))) else (none)) else (none)) else (some false))) else (some false))
set_option maxHeartbeats 8000000 in
set_option maxRecDepth 100000 in
theorem sequiturref17_True.calls (a0 : Int) (A1 : Option Addr) (c1 : Nat) (l1 : List Bool) (r : Bool) (w : World) (hr1 : Kd.C Kd.bool w A1 l1.length l1) (hc1 : l1.length ≤ c1) (h : sequiturref17_True.f a0 l1 = some r) :
    Calls Try.prog 22 #[.int .i64 a0, .slice A1 l1.length c1] w fun e w' => e = .returned (.bool r) ∧ Drawn0 w w' := by
  have HR1 := Aside0.mk hr1
  have HC1 := Aside0.mk hc1
  clear hr1 hc1
  have H : ((sequiturref17_is.f a0).bind fun t129 => (if t129 = true then ((sequiturref17_Of.f a0).bind fun t130 => (if t130 ≤ (l1.length : Int) then (if 0 ≤ (wrap64 (t130 - 1)) then (if (wrap64 (t130 - 1)) < (l1.length : Int) then (some ((rdOf false l1 (wrap64 (t130 - 1))) == (decide (a0 > 0)))) else (none)) else (none)) else (some false))) else (some false))) = some r := h
  clear h
  replace H := Option.bind_eq_some_iff.mp H
  obtain ⟨t129, A30, H⟩ := H
  replace H : (if t129 = true then ((sequiturref17_Of.f a0).bind fun t130 => (if t130 ≤ (l1.length : Int) then (if 0 ≤ (wrap64 (t130 - 1)) then (if (wrap64 (t130 - 1)) < (l1.length : Int) then (some ((rdOf false l1 (wrap64 (t130 - 1))) == (decide (a0 > 0)))) else (none)) else (none)) else (some false))) else (some false)) = some r := H
  have A3 := Aside0.mk A30
  clear A30
  by_cases c4 : t129 = true
  · subst c4
    have H1 : ((sequiturref17_Of.f a0).bind fun t130 => (if t130 ≤ (l1.length : Int) then (if 0 ≤ (wrap64 (t130 - 1)) then (if (wrap64 (t130 - 1)) < (l1.length : Int) then (some ((rdOf false l1 (wrap64 (t130 - 1))) == (decide (a0 > 0)))) else (none)) else (none)) else (some false))) = some r := by rw [if_pos rfl] at H; exact H
    clear H
    have H := H1
    clear H1
    replace H := Option.bind_eq_some_iff.mp H
    obtain ⟨t130, A50, H⟩ := H
    replace H : (if t130 ≤ (l1.length : Int) then (if 0 ≤ (wrap64 (t130 - 1)) then (if (wrap64 (t130 - 1)) < (l1.length : Int) then (some ((rdOf false l1 (wrap64 (t130 - 1))) == (decide (a0 > 0)))) else (none)) else (none)) else (some false)) = some r := H
    have A5 := Aside0.mk A50
    clear A50
    by_cases c6 : t130 ≤ (l1.length : Int)
    · rw [if_pos c6] at H
      have c6b0 : decide (t130 ≤ (l1.length : Int)) = true := decide_eq_true c6
      clear c6
      obtain ⟨ji7, hji7⟩ : ∃ j_ : Int, (wrap64 (t130 - 1)) = j_ := ⟨_, rfl⟩
      replace H : (if 0 ≤ (ji7) then (if (ji7) < (l1.length : Int) then (some ((rdOf false l1 (ji7)) == (decide (a0 > 0)))) else (none)) else (none)) = some r := by first | (rw [hji7] at H; exact H) | (simp only [hji7] at H ⊢; exact H)
      (try rw [hji7] at A3)
      (try rw [hji7] at A5)
      have hji7w : (IntKind.i64.wrap (t130 - 1)) = ji7 := (i64_w _).trans hji7
      by_cases c8 : 0 ≤ (ji7)
      · rw [if_pos c8] at H
        have c8b0 : decide (0 ≤ (ji7)) = true := decide_eq_true c8
        clear c8
        by_cases c9 : (ji7) < (l1.length : Int)
        · rw [if_pos c9] at H
          have c9b0 : decide ((ji7) < (l1.length : Int)) = true := decide_eq_true c9
          clear c9
          as_aux_lemma =>
            obtain rfl := Option.some.inj H
            go_enter Try.func22, Try.ntmps22
            go_wp2_with (first | ((with_reducible refine gate_callee (f := 65) rfl ?_); refine goesL_ (some 6) rfl rfl Try.func65 (by kernel_rfl) rfl #[.int .i64 a0] rfl (by (try simp only [List.map_toArray, List.map_cons, List.map_nil]); first | done | rfl | (simp only [List.length_drop, List.length_take]; rfl)) ?_; (with_reducible refine (sequiturref17_is.calls a0 true _ A3.out).mono ?_); rintro e w' ⟨rfl, ⟨nd, rfl⟩⟩; refine ⟨_, rfl, ?_⟩) | (go_at_call 31; (with_reducible refine (sequiturref17_Of.calls a0 t130 _ A5.out).mono ?_); rintro e w' ⟨rfl, ⟨nd, rfl⟩⟩; have p131 : 0 ≤ ((ji7) : Int) := of_decide_eq_true (by first | (with_reducible assumption) | assumption); have q131 : (ji7) < (l1.length : Int) := of_decide_eq_true (by first | (with_reducible assumption) | assumption); obtain ⟨ad131, e131, hx131_0⟩ := Kd.at_bool HR1.out (ji7) p131 q131; cases e131; replace p131 := eq_true p131; replace q131 := eq_true q131))
            go_ret
            exact ⟨by first | rfl | (simp; done) | (simp only [← hji7] <;> (first | rfl | simp)) | (simp [*]; done), by repeat (first | exact Drawn0.refl _ | apply Drawn0.step)⟩
        · rw [if_neg c9] at H
          exact absurd H (by simp)
      · rw [if_neg c8] at H
        exact absurd H (by simp)
    · rw [if_neg c6] at H
      have c6b0 : decide (t130 ≤ (l1.length : Int)) = false := decide_eq_false c6
      clear c6
      as_aux_lemma =>
        obtain rfl := Option.some.inj H
        go_enter Try.func22, Try.ntmps22
        go_wp2_with (first | ((with_reducible refine gate_callee (f := 65) rfl ?_); refine goesL_ (some 6) rfl rfl Try.func65 (by kernel_rfl) rfl #[.int .i64 a0] rfl (by (try simp only [List.map_toArray, List.map_cons, List.map_nil]); first | done | rfl | (simp only [List.length_drop, List.length_take]; rfl)) ?_; (with_reducible refine (sequiturref17_is.calls a0 true _ A3.out).mono ?_); rintro e w' ⟨rfl, ⟨nd, rfl⟩⟩; refine ⟨_, rfl, ?_⟩) | (go_at_call 31; (with_reducible refine (sequiturref17_Of.calls a0 t130 _ A5.out).mono ?_); rintro e w' ⟨rfl, ⟨nd, rfl⟩⟩))
        go_ret
        exact ⟨by first | rfl | (simp; done) | (simp [*]; done), by repeat (first | exact Drawn0.refl _ | apply Drawn0.step)⟩
  · replace c4 := Bool.eq_false_iff.mpr c4
    subst c4
    have H1 : (some false) = some r := by rw [if_neg (show ¬ (false = true) by decide)] at H; exact H
    clear H
    have H := H1
    clear H1
    as_aux_lemma =>
      obtain rfl := Option.some.inj H
      go_enter Try.func22, Try.ntmps22
      go_wp2_with (first | ((with_reducible refine gate_callee (f := 65) rfl ?_); refine goesL_ (some 6) rfl rfl Try.func65 (by kernel_rfl) rfl #[.int .i64 a0] rfl (by (try simp only [List.map_toArray, List.map_cons, List.map_nil]); first | done | rfl | (simp only [List.length_drop, List.length_take]; rfl)) ?_; (with_reducible refine (sequiturref17_is.calls a0 false _ A3.out).mono ?_); rintro e w' ⟨rfl, ⟨nd, rfl⟩⟩; refine ⟨_, rfl, ?_⟩))
      go_ret
      exact ⟨by first | rfl | (simp; done) | (simp [*]; done), by repeat (first | exact Drawn0.refl _ | apply Drawn0.step)⟩

end Go.Proofs.Ytfcofpgehlmbbaa.P

-- Printed by wip/tools/pp.py of this claim's session (over the kit's print.py); Lean checks it.
namespace Go.Proofs.Ytfcofpgehlmbbaa.P
open Go.RowKit Go.Proofs.YtfcofpgehlmbbaaW.PrintWords Go.Proofs.YtfcofpgehlmbbaaW.PrintLast Go.Proofs.YtfcofpgehlmbbaaW.PrintMore
attribute [local go_sem] max2_int min2_int max_two min_two max_three min_three max_four min_four   -- for this text's walks alone
set_option linter.unusedVariables false
set_option linter.unusedSimpArgs false

/-! ### sequiturref17_Count: function 114 -/
def sequiturref17_Count.l0 : Nat → List Int → List Bool → Int → Int → Option (Int)
  | 0, _, _, _, _ => none
  | k + 1, x0, x1, x5, x6 => if x6 < (x0.length : Int) then (if 0 ≤ x6 then ((sequiturref17_True.f (rd x0 x6) x1).bind fun t133 => (if t133 = true then (sequiturref17_Count.l0 k x0 x1 (wrap64 (x5 + 1)) (wrap64 (x6 + 1))) else (sequiturref17_Count.l0 k x0 x1 x5 (wrap64 (x6 + 1))))) else (none)) else (some x5)
def sequiturref17_Count.f (k : Nat) (l0 : List Int) (l1 : List Bool) : Option (Int) := sequiturref17_Count.l0 k l0 l1 0 0
theorem sequiturref17_Count.mono_l : ∀ k, (∀ y0 y1 y2 y3, LeO (sequiturref17_Count.l0 k y0 y1 y2 y3) (sequiturref17_Count.l0 (k + 1) y0 y1 y2 y3))
  | 0 => fun _ _ _ _ r h => by simp [sequiturref17_Count.l0] at h
  | k + 1 => by
    have ih0 := sequiturref17_Count.mono_l k
    · intro y0 y1 y2 y3
      unfold sequiturref17_Count.l0
      repeat' first
      | (with_reducible exact ih0 _ _ _ _)
      | (with_reducible exact LeO.refl _)
      | (with_reducible exact LeO.none _)
      | (with_reducible refine LeO.ite ?_ ?_)
      | (with_reducible refine LeO.bind ?_ (fun _ => ?_))
      | exact ih0 _ _ _ _
      | exact LeO.none _
      | refine LeO.ite ?_ ?_
      | refine LeO.bind ?_ (fun _ => ?_)
theorem sequiturref17_Count.mono : ∀ a0 a1 k, LeO (sequiturref17_Count.f k a0 a1) (sequiturref17_Count.f (k + 1) a0 a1) := by
  intro a0 a1 k
  have ih0 := sequiturref17_Count.mono_l k
  unfold sequiturref17_Count.f
  repeat' first
      | (with_reducible exact ih0 _ _ _ _)
      | (with_reducible exact LeO.refl _)
      | (with_reducible exact LeO.none _)
      | (with_reducible refine LeO.ite ?_ ?_)
      | (with_reducible refine LeO.bind ?_ (fun _ => ?_))
      | exact ih0 _ _ _ _
      | exact LeO.none _
      | refine LeO.ite ?_ ?_
      | refine LeO.bind ?_ (fun _ => ?_)
set_option maxHeartbeats 8000000 in
set_option maxRecDepth 100000 in
theorem sequiturref17_Count.calls (k : Nat) (A0 : Option Addr) (c0 : Nat) (l0 : List Int) (A1 : Option Addr) (c1 : Nat) (l1 : List Bool) (r : Int) (w : World) (hr0 : Kd.C (Kd.int .i64) w A0 l0.length l0) (hc0 : l0.length ≤ c0) (hr1 : Kd.C Kd.bool w A1 l1.length l1) (hc1 : l1.length ≤ c1) (h : sequiturref17_Count.f k l0 l1 = some r) :
    Calls Try.prog 114 #[.slice A0 l0.length c0, .slice A1 l1.length c1] w fun e w' => e = .returned (.int .i64 r) ∧ Drawn0 w w' := by
  have HR0 := Aside0.mk hr0
  have HC0 := Aside0.mk hc0
  clear hr0 hc0
  have HR1 := Aside0.mk hr1
  have HC1 := Aside0.mk hc1
  clear hr1 hc1
  have H : (sequiturref17_Count.l0 k l0 l1 0 0) = some r := h
  clear h
  have H' := Aside0.mk H
  clear H
  go_enter Try.func114, Try.ntmps114
  go_wp2
  go_loopg [5, 6] k (fun kq v5 v6 w' => ∃ (x5_1 : Int) (x6_1 : Int), v5 = .int .i64 x5_1 ∧ v6 = .int .i64 x6_1 ∧ Aside0 (sequiturref17_Count.l0 kq l0 l1 x5_1 x6_1 = some r) ∧ Aside0 (kq ≤ k) ∧ Drawn0 w w')
  case atStart => exact ⟨(0), (0), (by first | rfl | (simp; done) | (simp [*]; done)), (by first | rfl | (simp; done) | (simp [*]; done)), H', ⟨Nat.le_refl _⟩, by repeat (first | exact Drawn0.refl _ | apply Drawn0.step)⟩
  case round =>
    clear H'
    try clear c1
    try clear p2
    obtain ⟨x5_1, x6_1, rfl, rfl, HA, HK1, ⟨m1, rfl⟩⟩ := hrel
    cases gk with
    | zero => exact absurd HA.out (by simp [sequiturref17_Count.l0])
    | succ k1 =>
      have H := HA.out
      clear HA
      simp only [sequiturref17_Count.l0] at H
      by_cases c3 : x6_1 < (l0.length : Int)
      · rw [if_pos c3] at H
        have c3b0 : decide (x6_1 < (l0.length : Int)) = true := decide_eq_true c3
        clear c3
        by_cases c4 : 0 ≤ x6_1
        · rw [if_pos c4] at H
          have c4b0 : decide (0 ≤ x6_1) = true := decide_eq_true c4
          clear c4
          replace H := Option.bind_eq_some_iff.mp H
          obtain ⟨t133, A50, H⟩ := H
          replace H : (if t133 = true then (sequiturref17_Count.l0 k1 l0 l1 (wrap64 (x5_1 + 1)) (wrap64 (x6_1 + 1))) else (sequiturref17_Count.l0 k1 l0 l1 x5_1 (wrap64 (x6_1 + 1)))) = some r := H
          have A5 := Aside0.mk A50
          clear A50
          by_cases c6 : t133 = true
          · subst c6
            have H1 : (sequiturref17_Count.l0 k1 l0 l1 (wrap64 (x5_1 + 1)) (wrap64 (x6_1 + 1))) = some r := by rw [if_pos rfl] at H; exact H
            clear H
            have H := H1
            clear H1
            as_aux_lemma =>
              have H' := Aside0.mk H
              clear H
              have p132 : 0 ≤ (x6_1 : Int) := of_decide_eq_true (by first | (with_reducible assumption) | assumption)
              have q132 : x6_1 < (l0.length : Int) := of_decide_eq_true (by first | (with_reducible assumption) | assumption)
              obtain ⟨ad132, e132, hx132_0⟩ := Kd.at_int HR0.out x6_1 p132 q132
              cases e132
              replace p132 := eq_true p132
              replace q132 := eq_true q132
              go_wp2_with (first | ((with_reducible refine gate_callee (f := 22) rfl ?_); refine goesL_ (some 18) rfl rfl Try.func22 (by kernel_rfl) rfl #[.int .i64 (rd l0 x6_1), .slice A1 l1.length c1] rfl (by (try simp only [List.map_toArray, List.map_cons, List.map_nil]); first | done | rfl | (simp only [List.length_drop, List.length_take]; rfl)) ?_; (with_reducible refine (sequiturref17_True.calls (rd l0 x6_1) _ _ l1 true _ ?side1 ?side2 A5.out).mono ?_); (case side1 => repeat (first | exact HR1.out | (with_reducible refine Kd.C_alloc ?_ _) | (with_reducible refine Kd.C_drewN ?_ _) | (with_reducible refine Kd.C_drew ?_))); (case side2 => exact HC1.out); rintro e w' ⟨rfl, ⟨nd, rfl⟩⟩; refine ⟨_, rfl, ?_⟩))
              go_roundg k1
              case measure => have := HK1.out; omega
              case rel => exact ⟨(wrap64 (x5_1 + 1)), (wrap64 (x6_1 + 1)), (by first | rfl | (simp; done) | (simp [*]; done)), (by first | rfl | (simp; done) | (simp [*]; done)), H', ⟨by have := HK1.out; omega⟩, by repeat (first | exact Drawn0.refl _ | apply Drawn0.step)⟩
          · replace c6 := Bool.eq_false_iff.mpr c6
            subst c6
            have H1 : (sequiturref17_Count.l0 k1 l0 l1 x5_1 (wrap64 (x6_1 + 1))) = some r := by rw [if_neg (show ¬ (false = true) by decide)] at H; exact H
            clear H
            have H := H1
            clear H1
            as_aux_lemma =>
              have H' := Aside0.mk H
              clear H
              have p132 : 0 ≤ (x6_1 : Int) := of_decide_eq_true (by first | (with_reducible assumption) | assumption)
              have q132 : x6_1 < (l0.length : Int) := of_decide_eq_true (by first | (with_reducible assumption) | assumption)
              obtain ⟨ad132, e132, hx132_0⟩ := Kd.at_int HR0.out x6_1 p132 q132
              cases e132
              replace p132 := eq_true p132
              replace q132 := eq_true q132
              go_wp2_with (first | ((with_reducible refine gate_callee (f := 22) rfl ?_); refine goesL_ (some 18) rfl rfl Try.func22 (by kernel_rfl) rfl #[.int .i64 (rd l0 x6_1), .slice A1 l1.length c1] rfl (by (try simp only [List.map_toArray, List.map_cons, List.map_nil]); first | done | rfl | (simp only [List.length_drop, List.length_take]; rfl)) ?_; (with_reducible refine (sequiturref17_True.calls (rd l0 x6_1) _ _ l1 false _ ?side1 ?side2 A5.out).mono ?_); (case side1 => repeat (first | exact HR1.out | (with_reducible refine Kd.C_alloc ?_ _) | (with_reducible refine Kd.C_drewN ?_ _) | (with_reducible refine Kd.C_drew ?_))); (case side2 => exact HC1.out); rintro e w' ⟨rfl, ⟨nd, rfl⟩⟩; refine ⟨_, rfl, ?_⟩))
              go_roundg k1
              case measure => have := HK1.out; omega
              case rel => exact ⟨(x5_1), (wrap64 (x6_1 + 1)), (by first | rfl | (simp; done) | (simp [*]; done)), (by first | rfl | (simp; done) | (simp [*]; done)), H', ⟨by have := HK1.out; omega⟩, by repeat (first | exact Drawn0.refl _ | apply Drawn0.step)⟩
        · rw [if_neg c4] at H
          exact absurd H (by simp)
      · rw [if_neg c3] at H
        have c3b0 : decide (x6_1 < (l0.length : Int)) = false := decide_eq_false c3
        clear c3
        as_aux_lemma =>
          obtain rfl := Option.some.inj H
          go_wp2
          go_ret
          exact ⟨by first | rfl | (simp; done) | (simp [*]; done), by repeat (first | exact Drawn0.refl _ | apply Drawn0.step)⟩

end Go.Proofs.Ytfcofpgehlmbbaa.P

-- Printed by wip/tools/pp.py of this claim's session (over the kit's print.py); Lean checks it.
namespace Go.Proofs.Ytfcofpgehlmbbaa.P
open Go.RowKit Go.Proofs.YtfcofpgehlmbbaaW.PrintWords Go.Proofs.YtfcofpgehlmbbaaW.PrintLast Go.Proofs.YtfcofpgehlmbbaaW.PrintMore
attribute [local go_sem] max2_int min2_int max_two min_two max_three min_three max_four min_four   -- for this text's walks alone
set_option linter.unusedVariables false
set_option linter.unusedSimpArgs false

/-! ### sequiturref17_Holds: function 63 -/
def sequiturref17_Holds.f (k : Nat) (l0 : List Int) (l1 : List Bool) : Option (Bool) := (sequiturref17_Count.f k l0 l1).bind fun t134 => (some (decide (t134 > 0)))
theorem sequiturref17_Holds.mono : ∀ a0 a1 k, LeO (sequiturref17_Holds.f k a0 a1) (sequiturref17_Holds.f (k + 1) a0 a1) := by
  intro a0 a1 k
  unfold sequiturref17_Holds.f
  repeat' first
      | (with_reducible exact sequiturref17_Count.mono _ _ _)
      | (with_reducible exact LeO.refl _)
      | (with_reducible exact LeO.none _)
      | (with_reducible refine LeO.ite ?_ ?_)
      | (with_reducible refine LeO.bind ?_ (fun _ => ?_))
      | exact sequiturref17_Count.mono _ _ _
      | exact LeO.none _
      | refine LeO.ite ?_ ?_
      | refine LeO.bind ?_ (fun _ => ?_)
set_option maxHeartbeats 8000000 in
set_option maxRecDepth 100000 in
theorem sequiturref17_Holds.calls (k : Nat) (A0 : Option Addr) (c0 : Nat) (l0 : List Int) (A1 : Option Addr) (c1 : Nat) (l1 : List Bool) (r : Bool) (w : World) (hr0 : Kd.C (Kd.int .i64) w A0 l0.length l0) (hc0 : l0.length ≤ c0) (hr1 : Kd.C Kd.bool w A1 l1.length l1) (hc1 : l1.length ≤ c1) (h : sequiturref17_Holds.f k l0 l1 = some r) :
    Calls Try.prog 63 #[.slice A0 l0.length c0, .slice A1 l1.length c1] w fun e w' => e = .returned (.bool r) ∧ Drawn0 w w' := by
  have HR0 := Aside0.mk hr0
  have HC0 := Aside0.mk hc0
  clear hr0 hc0
  have HR1 := Aside0.mk hr1
  have HC1 := Aside0.mk hc1
  clear hr1 hc1
  have H : ((sequiturref17_Count.f k l0 l1).bind fun t134 => (some (decide (t134 > 0)))) = some r := h
  clear h
  replace H := Option.bind_eq_some_iff.mp H
  obtain ⟨t134, A30, H⟩ := H
  replace H : (some (decide (t134 > 0))) = some r := H
  have A3 := Aside0.mk A30
  clear A30
  as_aux_lemma =>
    obtain rfl := Option.some.inj H
    go_enter Try.func63, Try.ntmps63
    go_wp2_with (first | ((with_reducible refine gate_callee (f := 114) rfl ?_); refine goesL_ (some 7) rfl rfl Try.func114 (by kernel_rfl) rfl #[.slice A0 l0.length c0, .slice A1 l1.length c1] rfl (by (try simp only [List.map_toArray, List.map_cons, List.map_nil]); first | done | rfl | (simp only [List.length_drop, List.length_take]; rfl)) ?_; (with_reducible refine (sequiturref17_Count.calls k _ _ l0 _ _ l1 t134 _ ?side1 ?side2 ?side3 ?side4 A3.out).mono ?_); (case side1 => repeat (first | exact HR0.out | (with_reducible refine Kd.C_alloc ?_ _) | (with_reducible refine Kd.C_drewN ?_ _) | (with_reducible refine Kd.C_drew ?_))); (case side2 => exact HC0.out); (case side3 => repeat (first | exact HR1.out | (with_reducible refine Kd.C_alloc ?_ _) | (with_reducible refine Kd.C_drewN ?_ _) | (with_reducible refine Kd.C_drew ?_))); (case side4 => exact HC1.out); rintro e w' ⟨rfl, ⟨nd, rfl⟩⟩; refine ⟨_, rfl, ?_⟩))
    go_ret
    exact ⟨by first | rfl | (simp; done) | (simp [*]; done), by repeat (first | exact Drawn0.refl _ | apply Drawn0.step)⟩

end Go.Proofs.Ytfcofpgehlmbbaa.P

-- Printed by wip/tools/pp.py of this claim's session (over the kit's print.py); Lean checks it.
namespace Go.Proofs.Ytfcofpgehlmbbaa.P
open Go.RowKit Go.Proofs.YtfcofpgehlmbbaaW.PrintWords Go.Proofs.YtfcofpgehlmbbaaW.PrintLast Go.Proofs.YtfcofpgehlmbbaaW.PrintMore
attribute [local go_sem] max2_int min2_int max_two min_two max_three min_three max_four min_four   -- for this text's walks alone
set_option linter.unusedVariables false
set_option linter.unusedSimpArgs false

/-! ### sequiturlaw20_under: function 19 -/
mutual
def sequiturlaw20_under.l0 : Nat → List Int → List Bool → List (List Int) → Int → Int → Option (Bool)
  | 0, _, _, _, _, _ => none
  | k + 1, x1, x2, x11, x12, x13 => if x13 < x12 then (if 0 ≤ x13 then (if x13 < (x11.length : Int) then ((sequiturref17_Holds.f k (rd_L3 x11 x13) x2).bind fun t136 => (if t136 = true then (sequiturlaw20_under.l0 k x1 x2 x11 x12 (wrap64 (x13 + 1))) else (some false))) else (none)) else (none)) else (sequiturlaw20_under.l1 k x2 x1 (x1.length : Int) 0)
def sequiturlaw20_under.l1 : Nat → List Bool → List Int → Int → Int → Option (Bool)
  | 0, _, _, _, _ => none
  | k + 1, x2, x22, x23, x24 => if x24 < x23 then (if 0 ≤ x24 then (if x24 < (x22.length : Int) then ((sequiturref17_True.f (rd x22 x24) x2).bind fun t138 => (if t138 = true then (sequiturlaw20_under.l1 k x2 x22 x23 (wrap64 (x24 + 1))) else (some false))) else (none)) else (none)) else (some true)
end
def sequiturlaw20_under.f (k : Nat) (l0 : List (List Int)) (l1 : List Int) (l2 : List Bool) : Option (Bool) := sequiturlaw20_under.l0 k l1 l2 l0 (l0.length : Int) 0
theorem sequiturlaw20_under.mono_l : ∀ k, (∀ y0 y1 y2 y3 y4, LeO (sequiturlaw20_under.l0 k y0 y1 y2 y3 y4) (sequiturlaw20_under.l0 (k + 1) y0 y1 y2 y3 y4)) ∧ (∀ y0 y1 y2 y3, LeO (sequiturlaw20_under.l1 k y0 y1 y2 y3) (sequiturlaw20_under.l1 (k + 1) y0 y1 y2 y3))
  | 0 => ⟨fun _ _ _ _ _ r h => by simp [sequiturlaw20_under.l0] at h, fun _ _ _ _ r h => by simp [sequiturlaw20_under.l1] at h⟩
  | k + 1 => by
    obtain ⟨ih0, ih1⟩ := sequiturlaw20_under.mono_l k
    refine ⟨?_, ?_⟩
    · intro y0 y1 y2 y3 y4
      unfold sequiturlaw20_under.l0
      repeat' first
      | (with_reducible exact ih0 _ _ _ _ _)
      | (with_reducible exact ih1 _ _ _ _)
      | (with_reducible exact sequiturref17_Holds.mono _ _ _)
      | (with_reducible exact LeO.refl _)
      | (with_reducible exact LeO.none _)
      | (with_reducible refine LeO.ite ?_ ?_)
      | (with_reducible refine LeO.bind ?_ (fun _ => ?_))
      | exact ih0 _ _ _ _ _
      | exact ih1 _ _ _ _
      | exact sequiturref17_Holds.mono _ _ _
      | exact LeO.none _
      | refine LeO.ite ?_ ?_
      | refine LeO.bind ?_ (fun _ => ?_)
    · intro y0 y1 y2 y3
      unfold sequiturlaw20_under.l1
      repeat' first
      | (with_reducible exact ih0 _ _ _ _ _)
      | (with_reducible exact ih1 _ _ _ _)
      | (with_reducible exact sequiturref17_Holds.mono _ _ _)
      | (with_reducible exact LeO.refl _)
      | (with_reducible exact LeO.none _)
      | (with_reducible refine LeO.ite ?_ ?_)
      | (with_reducible refine LeO.bind ?_ (fun _ => ?_))
      | exact ih0 _ _ _ _ _
      | exact ih1 _ _ _ _
      | exact sequiturref17_Holds.mono _ _ _
      | exact LeO.none _
      | refine LeO.ite ?_ ?_
      | refine LeO.bind ?_ (fun _ => ?_)
theorem sequiturlaw20_under.mono : ∀ a0 a1 a2 k, LeO (sequiturlaw20_under.f k a0 a1 a2) (sequiturlaw20_under.f (k + 1) a0 a1 a2) := by
  intro a0 a1 a2 k
  obtain ⟨ih0, ih1⟩ := sequiturlaw20_under.mono_l k
  unfold sequiturlaw20_under.f
  repeat' first
      | (with_reducible exact ih0 _ _ _ _ _)
      | (with_reducible exact ih1 _ _ _ _)
      | (with_reducible exact sequiturref17_Holds.mono _ _ _)
      | (with_reducible exact LeO.refl _)
      | (with_reducible exact LeO.none _)
      | (with_reducible refine LeO.ite ?_ ?_)
      | (with_reducible refine LeO.bind ?_ (fun _ => ?_))
      | exact ih0 _ _ _ _ _
      | exact ih1 _ _ _ _
      | exact sequiturref17_Holds.mono _ _ _
      | exact LeO.none _
      | refine LeO.ite ?_ ?_
      | refine LeO.bind ?_ (fun _ => ?_)
set_option maxHeartbeats 8000000 in
set_option maxRecDepth 100000 in
theorem sequiturlaw20_under.calls (k : Nat) (A0 : Option Addr) (c0 : Nat) (l0 : List (List Int)) (A1 : Option Addr) (c1 : Nat) (l1 : List Int) (A2 : Option Addr) (c2 : Nat) (l2 : List Bool) (r : Bool) (w : World) (hr0 : Kd.C (Kd.slice 3 (Kd.int .i64)) w A0 l0.length l0) (hc0 : l0.length ≤ c0) (hr1 : Kd.C (Kd.int .i64) w A1 l1.length l1) (hc1 : l1.length ≤ c1) (hr2 : Kd.C Kd.bool w A2 l2.length l2) (hc2 : l2.length ≤ c2) (h : sequiturlaw20_under.f k l0 l1 l2 = some r) :
    Calls Try.prog 19 #[.slice A0 l0.length c0, .slice A1 l1.length c1, .slice A2 l2.length c2] w fun e w' => e = .returned (.bool r) ∧ Drawn0 w w' := by
  have HR0 := Aside0.mk hr0
  have HC0 := Aside0.mk hc0
  clear hr0 hc0
  have HR1 := Aside0.mk hr1
  have HC1 := Aside0.mk hc1
  clear hr1 hc1
  have HR2 := Aside0.mk hr2
  have HC2 := Aside0.mk hc2
  clear hr2 hc2
  have H : (sequiturlaw20_under.l0 k l1 l2 l0 (l0.length : Int) 0) = some r := h
  clear h
  have H' := Aside0.mk H
  clear H
  go_enter Try.func19, Try.ntmps19
  go_wp2
  go_loopg [13] k (fun kq v13 w' => ∃ (x13_1 : Int), v13 = .int .i64 x13_1 ∧ Aside0 (sequiturlaw20_under.l0 kq l1 l2 l0 (l0.length : Int) x13_1 = some r) ∧ Aside0 (kq ≤ k) ∧ Drawn0 w w')
  case atStart => exact ⟨(0), (by first | rfl | (simp; done) | (simp [*]; done)), H', ⟨Nat.le_refl _⟩, by repeat (first | exact Drawn0.refl _ | apply Drawn0.step)⟩
  case round =>
    clear H'
    try clear c1
    try clear c2
    try clear p2
    obtain ⟨x13_1, rfl, HA, HK1, ⟨m1, rfl⟩⟩ := hrel
    cases gk with
    | zero => exact absurd HA.out (by simp [sequiturlaw20_under.l0])
    | succ k1 =>
      have H := HA.out
      clear HA
      simp only [sequiturlaw20_under.l0] at H
      by_cases c4 : x13_1 < (l0.length : Int)
      · rw [if_pos c4] at H
        have c4b0 : decide (x13_1 < (l0.length : Int)) = true := decide_eq_true c4
        clear c4
        by_cases c5 : 0 ≤ x13_1
        · rw [if_pos c5] at H
          have c5b0 : decide (0 ≤ x13_1) = true := decide_eq_true c5
          clear c5
          by_cases c6 : x13_1 < (l0.length : Int)
          · rw [if_pos c6] at H
            have c6b0 : decide (x13_1 < (l0.length : Int)) = true := decide_eq_true c6
            clear c6
            replace H := Option.bind_eq_some_iff.mp H
            obtain ⟨t136, A70, H⟩ := H
            replace H : (if t136 = true then (sequiturlaw20_under.l0 k1 l1 l2 l0 (l0.length : Int) (wrap64 (x13_1 + 1))) else (some false)) = some r := H
            have A7 := Aside0.mk A70
            clear A70
            by_cases c8 : t136 = true
            · subst c8
              have H1 : (sequiturlaw20_under.l0 k1 l1 l2 l0 (l0.length : Int) (wrap64 (x13_1 + 1))) = some r := by rw [if_pos rfl] at H; exact H
              clear H
              have H := H1
              clear H1
              as_aux_lemma =>
                have H' := Aside0.mk H
                clear H
                have p135 : 0 ≤ (x13_1 : Int) := of_decide_eq_true (by first | (with_reducible assumption) | assumption)
                have q135 : x13_1 < (l0.length : Int) := of_decide_eq_true (by first | (with_reducible assumption) | assumption)
                obtain ⟨ad135, A135_0, c135_0, e135, hx135_0, hl135_0, hi135_0⟩ := at_L3 HR0.out x13_1 p135 q135
                cases e135
                have HR135_0 := Aside0.mk hi135_0
                have HC135_0 := Aside0.mk hl135_0
                clear hi135_0 hl135_0
                replace p135 := eq_true p135
                replace q135 := eq_true q135
                go_wp2_with (first | ((with_reducible refine gate_callee (f := 63) rfl ?_); refine goesL_ (some 19) rfl rfl Try.func63 (by kernel_rfl) rfl #[.slice A135_0 (rd_L3 l0 x13_1).length c135_0, .slice A2 l2.length c2] rfl (by (try simp only [List.map_toArray, List.map_cons, List.map_nil]); first | done | rfl | (simp only [List.length_drop, List.length_take]; rfl)) ?_; (with_reducible refine (sequiturref17_Holds.calls k1 _ _ (rd_L3 l0 x13_1) _ _ l2 true _ ?side1 ?side2 ?side3 ?side4 A7.out).mono ?_); (case side1 => repeat (first | exact HR135_0.out | (with_reducible refine Kd.C_alloc ?_ _) | (with_reducible refine Kd.C_drewN ?_ _) | (with_reducible refine Kd.C_drew ?_))); (case side2 => exact HC135_0.out); (case side3 => repeat (first | exact HR2.out | (with_reducible refine Kd.C_alloc ?_ _) | (with_reducible refine Kd.C_drewN ?_ _) | (with_reducible refine Kd.C_drew ?_))); (case side4 => exact HC2.out); rintro e w' ⟨rfl, ⟨nd, rfl⟩⟩; refine ⟨_, rfl, ?_⟩))
                go_roundg k1
                case measure => have := HK1.out; omega
                case rel => exact ⟨(wrap64 (x13_1 + 1)), (by first | rfl | (simp; done) | (simp [*]; done)), H', ⟨by have := HK1.out; omega⟩, by repeat (first | exact Drawn0.refl _ | apply Drawn0.step)⟩
            · replace c8 := Bool.eq_false_iff.mpr c8
              subst c8
              have H1 : (some false) = some r := by rw [if_neg (show ¬ (false = true) by decide)] at H; exact H
              clear H
              have H := H1
              clear H1
              as_aux_lemma =>
                obtain rfl := Option.some.inj H
                have p135 : 0 ≤ (x13_1 : Int) := of_decide_eq_true (by first | (with_reducible assumption) | assumption)
                have q135 : x13_1 < (l0.length : Int) := of_decide_eq_true (by first | (with_reducible assumption) | assumption)
                obtain ⟨ad135, A135_0, c135_0, e135, hx135_0, hl135_0, hi135_0⟩ := at_L3 HR0.out x13_1 p135 q135
                cases e135
                have HR135_0 := Aside0.mk hi135_0
                have HC135_0 := Aside0.mk hl135_0
                clear hi135_0 hl135_0
                replace p135 := eq_true p135
                replace q135 := eq_true q135
                go_wp2_with (first | ((with_reducible refine gate_callee (f := 63) rfl ?_); refine goesL_ (some 19) rfl rfl Try.func63 (by kernel_rfl) rfl #[.slice A135_0 (rd_L3 l0 x13_1).length c135_0, .slice A2 l2.length c2] rfl (by (try simp only [List.map_toArray, List.map_cons, List.map_nil]); first | done | rfl | (simp only [List.length_drop, List.length_take]; rfl)) ?_; (with_reducible refine (sequiturref17_Holds.calls k1 _ _ (rd_L3 l0 x13_1) _ _ l2 false _ ?side1 ?side2 ?side3 ?side4 A7.out).mono ?_); (case side1 => repeat (first | exact HR135_0.out | (with_reducible refine Kd.C_alloc ?_ _) | (with_reducible refine Kd.C_drewN ?_ _) | (with_reducible refine Kd.C_drew ?_))); (case side2 => exact HC135_0.out); (case side3 => repeat (first | exact HR2.out | (with_reducible refine Kd.C_alloc ?_ _) | (with_reducible refine Kd.C_drewN ?_ _) | (with_reducible refine Kd.C_drew ?_))); (case side4 => exact HC2.out); rintro e w' ⟨rfl, ⟨nd, rfl⟩⟩; refine ⟨_, rfl, ?_⟩))
                go_ret
                exact ⟨by first | rfl | (simp; done) | (simp [*]; done), by repeat (first | exact Drawn0.refl _ | apply Drawn0.step)⟩
          · rw [if_neg c6] at H
            exact absurd H (by simp)
        · rw [if_neg c5] at H
          exact absurd H (by simp)
      · rw [if_neg c4] at H
        have c4b0 : decide (x13_1 < (l0.length : Int)) = false := decide_eq_false c4
        clear c4
        have H' := Aside0.mk H
        clear H
        go_wp2
        go_loopg [24] k1 (fun kq v24 w' => ∃ (x24_2 : Int), v24 = .int .i64 x24_2 ∧ Aside0 (sequiturlaw20_under.l1 kq l2 l1 (l1.length : Int) x24_2 = some r) ∧ Aside0 (kq ≤ k1) ∧ Drawn0 w w')
        case atStart => exact ⟨(0), (by first | rfl | (simp; done) | (simp [*]; done)), H', ⟨Nat.le_refl _⟩, by repeat (first | exact Drawn0.refl _ | apply Drawn0.step)⟩
        case round =>
          clear H'
          try clear c1
          try clear p1
          try clear q1
          try clear hx1
          try clear c2
          try clear p2
          try clear c4
          try clear c4b0
          try clear c5
          try clear c5b0
          try clear c6
          try clear c6b0
          try clear p6
          try clear c8
          try clear hx135_0
          try clear p135
          try clear p2
          try clear q135
          obtain ⟨x24_2, rfl, HA, HK2, ⟨m2, rfl⟩⟩ := hrel
          cases gk with
          | zero => exact absurd HA.out (by simp [sequiturlaw20_under.l1])
          | succ k2 =>
            have H := HA.out
            clear HA
            simp only [sequiturlaw20_under.l1] at H
            by_cases c9 : x24_2 < (l1.length : Int)
            · rw [if_pos c9] at H
              have c9b0 : decide (x24_2 < (l1.length : Int)) = true := decide_eq_true c9
              clear c9
              by_cases c10 : 0 ≤ x24_2
              · rw [if_pos c10] at H
                have c10b0 : decide (0 ≤ x24_2) = true := decide_eq_true c10
                clear c10
                by_cases c11 : x24_2 < (l1.length : Int)
                · rw [if_pos c11] at H
                  have c11b0 : decide (x24_2 < (l1.length : Int)) = true := decide_eq_true c11
                  clear c11
                  replace H := Option.bind_eq_some_iff.mp H
                  obtain ⟨t138, A120, H⟩ := H
                  replace H : (if t138 = true then (sequiturlaw20_under.l1 k2 l2 l1 (l1.length : Int) (wrap64 (x24_2 + 1))) else (some false)) = some r := H
                  have A12 := Aside0.mk A120
                  clear A120
                  by_cases c13 : t138 = true
                  · subst c13
                    have H1 : (sequiturlaw20_under.l1 k2 l2 l1 (l1.length : Int) (wrap64 (x24_2 + 1))) = some r := by rw [if_pos rfl] at H; exact H
                    clear H
                    have H := H1
                    clear H1
                    as_aux_lemma =>
                      have H' := Aside0.mk H
                      clear H
                      have p137 : 0 ≤ (x24_2 : Int) := of_decide_eq_true (by first | (with_reducible assumption) | assumption)
                      have q137 : x24_2 < (l1.length : Int) := of_decide_eq_true (by first | (with_reducible assumption) | assumption)
                      obtain ⟨ad137, e137, hx137_0⟩ := Kd.at_int HR1.out x24_2 p137 q137
                      cases e137
                      replace p137 := eq_true p137
                      replace q137 := eq_true q137
                      go_wp2_with (first | ((with_reducible refine gate_callee (f := 22) rfl ?_); refine goesL_ (some 30) rfl rfl Try.func22 (by kernel_rfl) rfl #[.int .i64 (rd l1 x24_2), .slice A2 l2.length c2] rfl (by (try simp only [List.map_toArray, List.map_cons, List.map_nil]); first | done | rfl | (simp only [List.length_drop, List.length_take]; rfl)) ?_; (with_reducible refine (sequiturref17_True.calls (rd l1 x24_2) _ _ l2 true _ ?side1 ?side2 A12.out).mono ?_); (case side1 => repeat (first | exact HR2.out | (with_reducible refine Kd.C_alloc ?_ _) | (with_reducible refine Kd.C_drewN ?_ _) | (with_reducible refine Kd.C_drew ?_))); (case side2 => exact HC2.out); rintro e w' ⟨rfl, ⟨nd, rfl⟩⟩; refine ⟨_, rfl, ?_⟩))
                      go_roundg k2
                      case measure => have := HK1.out; have := HK2.out; omega
                      case rel => exact ⟨(wrap64 (x24_2 + 1)), (by first | rfl | (simp; done) | (simp [*]; done)), H', ⟨by have := HK1.out; have := HK2.out; omega⟩, by repeat (first | exact Drawn0.refl _ | apply Drawn0.step)⟩
                  · replace c13 := Bool.eq_false_iff.mpr c13
                    subst c13
                    have H1 : (some false) = some r := by rw [if_neg (show ¬ (false = true) by decide)] at H; exact H
                    clear H
                    have H := H1
                    clear H1
                    as_aux_lemma =>
                      obtain rfl := Option.some.inj H
                      have p137 : 0 ≤ (x24_2 : Int) := of_decide_eq_true (by first | (with_reducible assumption) | assumption)
                      have q137 : x24_2 < (l1.length : Int) := of_decide_eq_true (by first | (with_reducible assumption) | assumption)
                      obtain ⟨ad137, e137, hx137_0⟩ := Kd.at_int HR1.out x24_2 p137 q137
                      cases e137
                      replace p137 := eq_true p137
                      replace q137 := eq_true q137
                      go_wp2_with (first | ((with_reducible refine gate_callee (f := 22) rfl ?_); refine goesL_ (some 30) rfl rfl Try.func22 (by kernel_rfl) rfl #[.int .i64 (rd l1 x24_2), .slice A2 l2.length c2] rfl (by (try simp only [List.map_toArray, List.map_cons, List.map_nil]); first | done | rfl | (simp only [List.length_drop, List.length_take]; rfl)) ?_; (with_reducible refine (sequiturref17_True.calls (rd l1 x24_2) _ _ l2 false _ ?side1 ?side2 A12.out).mono ?_); (case side1 => repeat (first | exact HR2.out | (with_reducible refine Kd.C_alloc ?_ _) | (with_reducible refine Kd.C_drewN ?_ _) | (with_reducible refine Kd.C_drew ?_))); (case side2 => exact HC2.out); rintro e w' ⟨rfl, ⟨nd, rfl⟩⟩; refine ⟨_, rfl, ?_⟩))
                      go_ret
                      exact ⟨by first | rfl | (simp; done) | (simp [*]; done), by repeat (first | exact Drawn0.refl _ | apply Drawn0.step)⟩
                · rw [if_neg c11] at H
                  exact absurd H (by simp)
              · rw [if_neg c10] at H
                exact absurd H (by simp)
            · rw [if_neg c9] at H
              have c9b0 : decide (x24_2 < (l1.length : Int)) = false := decide_eq_false c9
              clear c9
              as_aux_lemma =>
                obtain rfl := Option.some.inj H
                go_wp2
                go_ret
                exact ⟨by first | rfl | (simp; done) | (simp [*]; done), by repeat (first | exact Drawn0.refl _ | apply Drawn0.step)⟩

end Go.Proofs.Ytfcofpgehlmbbaa.P

-- Printed by wip/tools/pp.py of this claim's session (over the kit's print.py); Lean checks it.
namespace Go.Proofs.Ytfcofpgehlmbbaa.P
open Go.RowKit Go.Proofs.YtfcofpgehlmbbaaW.PrintWords Go.Proofs.YtfcofpgehlmbbaaW.PrintLast Go.Proofs.YtfcofpgehlmbbaaW.PrintMore
attribute [local go_sem] max2_int min2_int max_two min_two max_three min_three max_four min_four   -- for this text's walks alone
set_option linter.unusedVariables false
set_option linter.unusedSimpArgs false

-- SOLO
-- IMPORTS Derived.Test.YtfcofpgehlmbbaaPxAunitEng Derived.Test.YtfcofpgehlmbbaaPxAunitMore Derived.Test.YtfcofpgehlmbbaaPxAslicesHd
/-! ### sequiturlaw20_UnitSound: function 3 -/
/-- What is known behind an act: all clauses, and what was pushed. -/
def us20Step (all : List (List Int)) (pushed : List Int) (x : S35) (r : Bool) : List (List Int) × List Int :=
  if r = true then (if x.f0 = 1 then (all, pushed.take (pushed.length - 1)) else if x.f0 = 2 then (all ++ [x.f2], pushed) else (all, pushed ++ [x.f1])) else (all, pushed)
/-- The acts go as told. -/
def us20Go (k : Nat) (v : List Bool) : List S35 → Eng → List (List Int) → List Int → Prop
  | [], _, _, _ => True
  | x :: l, E, all, pushed => E.Lits ∧ (∀ y ∈ E.tr, (Lit.int .i64 y).wf = true) ∧ (Lit.int .i64 x.f1).wf = true ∧ (∀ r, lit_Clean.f x.f2 = some r → ∀ y ∈ r.1, (Lit.int .i64 y).wf = true) ∧ all.length < 2199023255552 ∧ pushed.length < 2199023255552 ∧
    ∃ E2 r f, Eng.act k E x.f0 x.f1 x.f2 = some (E2, r, f) ∧ E2.st.length = (us20Step all pushed x r).2.length ∧ E2.tr.length < 4398046511104 ∧
      (∃ u, sequiturlaw20_under.f k (us20Step all pushed x r).1 (us20Step all pushed x r).2 v = some u ∧ (u = true → E2.br < 0 ∧ ∀ y ∈ E2.tr, sequiturref17_True.f y v = some true)) ∧
      us20Go k v l E2 (us20Step all pushed x r).1 (us20Step all pushed x r).2
/-- What the law's calls tell. -/
def sequiturlaw20_UnitSound.Fact (k : Nat) (n : Int) (l : List (List Int)) (acts : List S35) (v : List Bool) : Prop :=
  sequiturlaw20_alive.P k ∧ ∃ fw, sequiturlaw20_Few.f k n l acts = some fw ∧ (fw = true → ¬ v.length > 100 → ∃ ra re, cnf_Right.f k n l = some (ra, re) ∧ (re = 0 → ∃ E, Eng.new k n l = some (E, 0) ∧ (∀ c ∈ l, ∀ r, lit_Clean.f c = some r → ∀ x ∈ r.1, (Lit.int .i64 x).wf = true) ∧
    (¬ (v.length : Int) < n → l.length < 2199023255552 ∧ us20Go k v acts E l [])))
set_option maxRecDepth 100000 in
set_option maxHeartbeats 4000000 in
theorem sequiturlaw20_UnitSound.walk (k : Nat) (n : Int) (A0 : Option Addr) (c0 : Nat) (l0 : List (List Int)) (A1 : Option Addr) (c1 : Nat) (l1 : List S35) (A2 : Option Addr) (c2 : Nat) (l2 : List Bool) (w : World)
    (hr0 : Kd.C (Kd.slice 3 (Kd.int .i64)) w A0 l0.length l0) (hc0 : l0.length ≤ c0) (hr1 : Kd.C k35 w A1 l1.length l1) (hc1 : l1.length ≤ c1) (hr2 : Kd.C Kd.bool w A2 l2.length l2) (hc2 : l2.length ≤ c2) (h : sequiturlaw20_UnitSound.Fact k n l0 l1 l2) :
    Calls Try.prog 3 #[.agg #[.int .i64 n, .slice A0 l0.length c0], .slice A1 l1.length c1, .slice A2 l2.length c2] w fun e w' => e = .returned (.bool true) ∧ Below w.heap.size w w' := by
  obtain ⟨hal, fw, hfw, hh⟩ := h
  have HAL := Aside0.mk hal
  have HFW := Aside0.mk hfw
  have HH := Aside0.mk hh
  have HR0 := Aside0.mk hr0
  have HC0 := Aside0.mk hc0
  have HR1 := Aside0.mk hr1
  have HC1 := Aside0.mk hc1
  have HR2 := Aside0.mk hr2
  have HC2 := Aside0.mk hc2
  have hu24 := Try.underlying24
  have hu35 := Try.underlying35
  clear hal hfw hh hr0 hc0 hr1 hc1 hr2 hc2
  have HB := Aside0.mk (Below.refl w.heap.size w)
  go_enter Try.func3, Try.ntmps3
  go_upto_region 1 with (first | ((with_reducible refine gate_dst (N := 3) rfl ?_); refine box_event ?hg (N := 3) ?hd (cs := #[.int .i64 n, .slice A0 l0.length c0]) (t := 24) ?hr ?_; (case hd => rfl); (case hg => rfl); (case hr => first | (go_simp; done) | (go_simp; rfl)); intro gb hg w3 hbox hb; have n0_ := Aside0.mk (below_step HB.out hb); have BK := Aside0.mk hbox; clear HB; have HB := n0_; clear n0_; clear hb hbox hg))
  (try simp only [Act.put, List.setIfInBounds_toArray, List.set_cons_zero, List.set_cons_succ])
  have cb0 : w3.cell? ⟨gb, 0, none⟩ = some (.int .i64 n) := (blk_cell BK.out 0).trans rfl
  have cb1 : w3.cell? ⟨gb, 1, none⟩ = some (.slice A0 l0.length c0) := (blk_cell BK.out 1).trans rfl
  have HCF := Aside0.mk (sequiturlaw20_Few.calls k n A0 c0 l0 A1 c1 l1 fw w3 (Kd.C_below HR0.out HB.out) HC0.out (Kd.C_below HR1.out HB.out) HC1.out HFW.out)
  by_cases hgo : fw = true ∧ ¬ l2.length > 100
  · obtain ⟨hg1, hg2⟩ := hgo
    subst hg1
    obtain ⟨ra, re, hcr, hh⟩ := HH.out rfl hg2
    have d1 : decide ((100 : Int) < (l2.length : Int)) = false := decide_eq_false (by omega)
    have d2 : (100 < l2.length) = False := eq_false hg2
    have HCR := Aside0.mk hcr
    clear HH hcr
    go_wp2_with fail
    refine HCF.out.mono ?_
    rintro e' w4 ⟨rfl, hb4⟩
    have n_ := Aside0.mk (below_step HB.out hb4)
    have BK4 := Aside0.mk (blk_below BK.out hb4)
    clear HB BK HCF hb4 cb0 cb1
    have HB := n_
    clear n_
    have cb0 : w4.cell? ⟨gb, 0, none⟩ = some (.int .i64 n) := (blk_cell BK4.out 0).trans rfl
    have cb1 : w4.cell? ⟨gb, 1, none⟩ = some (.slice A0 l0.length c0) := (blk_cell BK4.out 1).trans rfl
    by_cases hre : re = 0
    · subst hre
      obtain ⟨E, hnew, hwf, hh⟩ := hh rfl
      have HCN := Aside0.mk (eng_New.calls k n A0 c0 l0 E w4 (Kd.C_below HR0.out HB.out) HC0.out hwf hnew)
      have HH := Aside0.mk hh
      clear hnew hwf hh
      go_wp2_with fail
      refine HCN.out.mono ?_
      rintro e' w5 ⟨B, rfl, T, p, h5, hb5, hT5⟩
      have n_ := Aside0.mk (below_step HB.out hb5)
      have BK5 := Aside0.mk (blk_below BK4.out hb5)
      have HE := Aside0.mk h5
      have HT := Aside0.mk (show ∀ k, k < w.heap.size → T k = (0, 0) from fun k hk => hT5 k (Nat.lt_of_lt_of_le hk (below_size HB.out)))
      clear HB BK4 HCN h5 hb5 hT5 cb0 cb1
      have HB := n_
      clear n_
      have cb0 : w5.cell? ⟨gb, 0, none⟩ = some (.int .i64 n) := (blk_cell BK5.out 0).trans rfl
      have cb1 : w5.cell? ⟨gb, 1, none⟩ = some (.slice A0 l0.length c0) := (blk_cell BK5.out 1).trans rfl
      by_cases hvn : (l2.length : Int) < n
      · have d3 : decide ((l2.length : Int) < n) = true := decide_eq_true hvn
        go_wp2_with fail
        refine (sequiturlaw20_alive.calls k _ HAL.out).mono ?_
        rintro e' w6 ⟨rfl, hb6⟩
        have n_ := Aside0.mk (below_step HB.out hb6)
        clear hb6
        go_wp2
        go_ret
        exact ⟨rfl, n_.out⟩
      · have d3 : decide ((l2.length : Int) < n) = false := decide_eq_false hvn
        obtain ⟨hll, hgoE⟩ := HH.out (by omega)
        have HGO := Aside0.mk hgoE
        have HLL := Aside0.mk hll
        clear HH hgoE hll
        have hba : Below w5.heap.size w5 (w5.alloc (.cells #[] 33)) := below_alloc (Below.refl _ _) _
        have cb1a := pw_cell_below hba cb1
        have HE5 := Aside0.mk (HE.out.below hba)
        have HB5 := Aside0.mk (below_step HB.out hba)
        obtain ⟨hs, hHd, hCH⟩ := HdsOf.part HR0.out
        have HHD := Aside0.mk hHd
        have HCH := Aside0.mk (Kd.C_below hCH HB5.out)
        have hfr := HE.out.fresh
        have hE0 : Kd.R kH 33 (w5.alloc (.cells #[] 33)) w.heap.size (fun k => T k = (0, 0) ∧ True) (.slice (some ⟨w5.heap.size, 0, none⟩) 0 0) ([] : List Hd) := Kd.R_of_own (enc := hdv) (by have := own_lit w5 w.heap.size 33 .i64 [] (below_size HB.out) (by simp); simpa [encs, nums] using this) (fun k hk => ⟨hfr k (by simp [Value.ownBlock] at hk; omega), trivial⟩)
        have HE0 := Aside0.mk hE0
        have HFR := Aside0.mk hfr
        clear hHd hCH hE0 hfr
        go_wp2_with (at_builtin; refine Kd.R_append_rows kH (w0 := w) (W := w5.alloc (.cells #[] 33)) w.heap.size rfl (.tmp 42) (.tmp 44) 22 33 (.slice none 0 0) 24 rfl Try.underlying22 (by kernel_rfl) rfl (by decide) (by decide) (.slice (some ⟨w5.heap.size, 0, none⟩) 0 0) [] hs A0 l0.length c0 (fun k => T k = (0, 0) ∧ True) (fun _ => False) rfl rfl HE0.out HCH.out (fun _ _ h => h) (fun _ h => h.elim) (fun k hk => ⟨HE5.out.fresh k hk, trivial⟩) HB5.out (below_size HB5.out) (by have := HLL.out; simp; omega) ?_; intro v6 w6 r6 hb6 hg6 hat6)
        have HE6 := Aside0.mk (HE5.out.grown hg6 (fun k hk => HFR.out k (by simp [Value.ownBlock] at hk; omega)))
        have HB6 := Aside0.mk hb6
        have r6' : Kd.R kH 33 w6 w.heap.size (fun k => T k = (0, 0) ∧ True) v6 hs := by simpa using r6
        have HA6 := Aside0.mk r6'
        have hlb : l1.length ≤ 9223372036854775807 := HR1.out.2.1
        clear r6 r6' hb6 hg6 hat6 cb0 cb1 cb1a hba HE5 HB5 HE0 HCH HE HB BK5
        go_loopg [9, 10, 48] l1.length (fun gg v9 v10 v48 wr => ∃ (j : Nat) (E1 : Eng) (T1 : Tag) (p1 : EngP) (all : List (List Int)) (hs : List Hd) (pushed : List Int), v48 = .int .i64 (j : Int) ∧ Aside0 (j + gg = l1.length) ∧ Aside0 (EngIn wr B T1 E1 p1) ∧ Aside0 (∀ k, k < w.heap.size → T1 k = (0, 0)) ∧ Aside0 (Below w.heap.size w wr) ∧ Aside0 (HdsOf w hs all) ∧ Aside0 (Kd.R kH 33 wr w.heap.size (fun k => T1 k = (0, 0) ∧ True) v9 hs) ∧ Aside0 (Kd.R (Kd.int .i64) 3 wr w.heap.size (fun k => T1 k = (0, 0) ∧ some k ≠ v9.ownBlock) v10 pushed) ∧ Aside0 (us20Go k l2 (l1.drop j) E1 all pushed))
        case atStart => exact ⟨0, E, T, p, l0, hs, [], rfl, ⟨by simp⟩, HE6, HT, HB6, HHD, HA6, ⟨Kd.R_nil _ _ _ _ _⟩, HGO⟩
        case round =>
          clear HE6 HT HB6 HHD HA6 HGO HFR
          obtain ⟨j, E1, T1, p1, all, hs, pushed, rfl, hg, HE, HT, HB, HHD, HA, HP, HGO⟩ := hrel
          by_cases hlt : j < l1.length
          · obtain ⟨x, hx⟩ : ∃ x, l1[j] = x := ⟨_, rfl⟩
            have hrd : rd_T35 l1 (j : Int) = x := by unfold rd_T35; rw [Int.toNat_natCast, List.getD_eq_getElem?_getD, List.getElem?_eq_getElem hlt, hx]; rfl
            have hgo := HGO.out
            rw [List.drop_eq_getElem_cons hlt, hx] at hgo
            obtain ⟨g1, g2, g3, g4, g5, g6, E2, r, f, hact, hst, htl, hun, hgo2⟩ := hgo
            obtain ⟨ad, A3, c3, e1, x1, x2, x3, l3, iw⟩ := at_T35 HR1.out (j : Int) (by omega) (by omega)
            cases e1
            rw [hrd] at x1 x2 x3 l3 iw
            simp only [Int.toNat_natCast] at x1 x2 x3
            replace x1 := (HB.out.cell (World.block_lt_of_cell? w _ x1)).trans x1
            replace x2 := (HB.out.cell (World.block_lt_of_cell? w _ x2)).trans x2
            replace x3 := (HB.out.cell (World.block_lt_of_cell? w _ x3)).trans x3
            have HIW := Aside0.mk iw
            have i3 := Kd.C_below iw HB.out
            clear iw
            have P0 : ((0 : Int) ≤ (j : Int)) = True := eq_true (by omega)
            have P1 : ((j : Int) < (l1.length : Int)) = True := eq_true (by omega)
            have P2 : (j < l1.length) = True := eq_true hlt
            have hd : decide ((j : Int) < (l1.length : Int)) = true := decide_eq_true (by omega)
            have HUN := Aside0.mk hun
            have HG2 := Aside0.mk hgo2
            have HST := Aside0.mk hst
            have HTL := Aside0.mk htl
            have H56 := Aside0.mk (And.intro g5 g6)
            have hba : Below wr.heap.size wr (wr.alloc (.cells #[.int .i64 x.f0, .int .i64 x.f1, .slice A3 x.f2.length c3] 35)) := below_alloc (Below.refl _ _) _
            have HCALL := Aside0.mk (sequiturlaw20_act.calls k E1 B T1 p1 x.f0 x.f1 A3 c3 x.f2 E2 r f _ (HE.out.below hba) (Kd.C_below i3 hba) l3 g1 g2 g3 g4 hact)
            have HBA := Aside0.mk hba
            have HI3 := Aside0.mk i3
            have HL3 := Aside0.mk l3
            clear hun hgo2 hst htl g1 g2 g3 g4 g5 g6 hact hba i3 l3 HGO hrd hx
            go_wp2_with fail
            have hsz : wr.heap.size < (wr.alloc (.cells #[.int .i64 x.f0, .int .i64 x.f1, .slice A3 x.f2.length c3] 35)).heap.size := by simp
            have hxb := blk_new wr (.cells #[.int .i64 x.f0, .int .i64 x.f1, .slice A3 x.f2.length c3] 35)
            obtain ⟨WA, hWA⟩ : ∃ WA, wr.alloc (.cells #[.int .i64 x.f0, .int .i64 x.f1, .slice A3 x.f2.length c3] 35) = WA := ⟨_, rfl⟩
            rw [hWA] at hsz hxb HBA HCALL ⊢
            refine HCALL.out.mono ?_
            rintro e' w7 ⟨rfl, T7, p7, h7, m7⟩
            have HE7 := Aside0.mk h7
            have hBA := below_step HB.out HBA.out
            have HT7 := Aside0.mk (show ∀ k, k < w.heap.size → T7 k = (0, 0) from fun k hk => (m7.old k (Nat.lt_of_lt_of_le hk hBA.size)).1.trans (HT.out k hk))
            have HB7 := Aside0.mk (Below.trans hBA (m7.below _ hBA.size HT.out))
            have HA7 := Aside0.mk (R_moved (Kd.R_below HA.out HBA.out) m7)
            have HP7 := Aside0.mk (R_moved (Kd.R_below HP.out HBA.out) m7)
            have hx7 := ((m7.old wr.heap.size hsz).2 (HE.out.fresh _ (Nat.le_refl _))).trans hxb
            have cx0 : w7.cell? ⟨wr.heap.size, 0, none⟩ = some (.int .i64 x.f0) := (blk_cell hx7 0).trans rfl
            have cx1 : w7.cell? ⟨wr.heap.size, 1, none⟩ = some (.int .i64 x.f1) := (blk_cell hx7 1).trans rfl
            have cx2 : w7.cell? ⟨wr.heap.size, 2, none⟩ = some (.slice A3 x.f2.length c3) := (blk_cell hx7 2).trans rfl
            obtain ⟨gx, hgx⟩ : ∃ gx, wr.heap.size = gx := ⟨_, rfl⟩
            rw [hgx] at cx0 cx1 cx2 hx7
            have HX7 := Aside0.mk hx7
            clear h7 m7 hsz hxb HCALL hx7 HE HT HB HA HP
            go_upto_block 2 with fail
            go_cut [9, 10] (fun v9 v10 wc => ∃ (hs' : List Hd), Aside0 (Below w.heap.size w wc) ∧ Aside0 (EngIn wc B T7 E2 p7) ∧ Aside0 (HdsOf w hs' (us20Step all pushed x r).1) ∧ Aside0 (Kd.R kH 33 wc w.heap.size (fun k => T7 k = (0, 0) ∧ True) v9 hs') ∧ Aside0 (Kd.R (Kd.int .i64) 3 wc w.heap.size (fun k => T7 k = (0, 0) ∧ some k ≠ v9.ownBlock) v10 (us20Step all pushed x r).2))
            case first =>
              cases r with
              | false =>
                go_wp2
                go_meet
                case rel => exact ⟨hs, HB7, HE7, HHD, HA7, HP7⟩
              | true =>
                by_cases k1 : x.f0 = 1
                · have e : us20Step all pushed x true = (all, pushed.take (pushed.length - 1)) := by unfold us20Step; rw [if_pos rfl, if_pos k1]
                  have HEQ := Aside0.mk e
                  have q1 : (x.f0 == 1) = true := beq_iff_eq.2 k1
                  obtain ⟨A10, k10, e10⟩ := Kd.R_slice HP7.out
                  subst e10
                  have HR10 := Aside0.mk (Kd.R_take (m := pushed.length - 1) HP7.out (by omega))
                  have bc := (Kd.R_reads' HP7.out).2.1
                  have g6 := H56.out.2
                  clear e k1
                  by_cases hz : pushed.length = 0
                  · have hz' : pushed = [] := List.length_eq_zero_iff.1 hz
                    subst hz'
                    have HR11 : Aside0 (Kd.R (Kd.int .i64) 3 w7 w.heap.size (fun k => T7 k = (0, 0) ∧ some k ≠ u9.ownBlock) (.slice A10 0 k10) ([] : List Int)) := ⟨HP7.out⟩
                    clear hz bc g6
                    go_wp2
                    go_meet
                    case rel => rw [HEQ.out]; exact ⟨hs, HB7, HE7, HHD, HA7, HR11⟩
                  · obtain ⟨m, hm⟩ : ∃ m, pushed.length - 1 = m := ⟨_, rfl⟩
                    rw [hm] at HR10
                    have PW : wrap64 ((pushed.length : Int) - 1) = (m : Int) := by unfold wrap64; omega
                    have PC : (m ≤ k10) = True := eq_true (by omega)
                    have PZ : (m : Int) < 0 ↔ False := ⟨fun h => by omega, fun h => h.elim⟩
                    have PZ2 : ((0 : Int) ≤ (m : Int)) = True := eq_true (by omega)
                    have HM := Aside0.mk hm
                    clear hz g6 hm bc
                    go_wp2
                    go_meet
                    case rel => rw [HEQ.out, HM.out]; exact ⟨hs, HB7, HE7, HHD, HA7, HR10⟩
                · by_cases k2 : x.f0 = 2
                  · have e : us20Step all pushed x true = (all ++ [x.f2], pushed) := by unfold us20Step; rw [if_pos rfl, if_neg k1, if_pos k2]
                    have HEQ := Aside0.mk e
                    have q1 : (x.f0 == 1) = false := beq_eq_false_iff_ne.2 k1
                    have q2 : (x.f0 == 2) = true := beq_iff_eq.2 k2
                    clear e k1 k2
                    have hsl := HHD.out.1
                    have g5 := H56.out.1
                    have HSL := Aside0.mk (show (hs.length + 1) * 24 ≤ 140737488355328 by omega)
                    clear hsl g5
                    go_wp2_with (at_builtin; refine Kd.R_append kH (w0 := w) (W := w7) w.heap.size rfl (.tmp 80) (.tmp 83) 22 33 (.slice none 0 0) 24 rfl Try.underlying22 (by kernel_rfl) rfl (by decide) (by decide) u9 hs ((A3, x.f2.length, c3) : Hd) [.slice A3 x.f2.length c3] (fun k => T7 k = (0, 0) ∧ True) (fun _ => False) rfl rfl rfl (fun _ h => h.elim) (fun k hk => ⟨HE7.out.fresh k hk, trivial⟩) HA7.out HB7.out (below_size HB7.out) HSL.out ?_; intro v8 w8 r8 hb8 hg8 hat8)
                    have HA8 := Aside0.mk r8
                    have HB8 := Aside0.mk hb8
                    have HE8 := Aside0.mk (HE7.out.grown hg8 (fun k hk => (HA7.out.1 k hk).1))
                    have HP8 := Aside0.mk (Kd.R_after HP7.out hg8 hat8)
                    have HH8 := Aside0.mk (HdsOf.add HHD.out (show HdOf w (A3, x.f2.length, c3) x.f2 from ⟨rfl, HL3.out, HIW.out⟩))
                    clear r8 hb8 hg8 hat8
                    go_wp2
                    go_meet
                    case rel => rw [HEQ.out]; exact ⟨hs ++ [(A3, x.f2.length, c3)], HB8, HE8, HH8, HA8, HP8⟩
                  · have e : us20Step all pushed x true = (all, pushed ++ [x.f1]) := by unfold us20Step; rw [if_pos rfl, if_neg k1, if_neg k2]
                    have HEQ := Aside0.mk e
                    have q1 : (x.f0 == 1) = false := beq_eq_false_iff_ne.2 k1
                    have q2 : (x.f0 == 2) = false := beq_eq_false_iff_ne.2 k2
                    clear e k1 k2
                    have g6 := H56.out.2
                    have HSL := Aside0.mk (show (pushed.length + 1) * 8 ≤ 140737488355328 by omega)
                    clear g6
                    go_wp2_with (at_builtin; refine Kd.R_append (Kd.int .i64) (w0 := w) (W := w7) w.heap.size rfl (.tmp 58) (.tmp 61) 33 3 (.int .i64 0) 8 rfl Try.underlying33 (by kernel_rfl) rfl (by decide) (by decide) u10 pushed x.f1 [.int .i64 x.f1] (fun k => T7 k = (0, 0) ∧ some k ≠ u9.ownBlock) (fun _ => False) rfl rfl rfl (fun _ h => h.elim) (fun k hk => ⟨HE7.out.fresh k hk, fun e => by have := Kd.R_lt HA7.out k e.symm; omega⟩) HP7.out HB7.out (below_size HB7.out) HSL.out ?_; intro v8 w8 r8 hb8 hg8 hat8)
                    have HP8 := Aside0.mk r8
                    have HB8 := Aside0.mk hb8
                    have HE8 := Aside0.mk (HE7.out.grown hg8 (fun k hk => (HP7.out.1 k hk).1))
                    have HA8 := Aside0.mk (Kd.R_grown2 HA7.out rfl hg8 (fun k hk => (HP7.out.1 k hk).2))
                    clear r8 hb8 hg8 hat8
                    go_wp2
                    go_meet
                    case rel => rw [HEQ.out]; exact ⟨hs, HB8, HE8, HHD, HA8, HP8⟩
            case rest =>
              clear HB7 HE7 HHD HA7 HP7 cx0 cx1 cx2 HX7
              obtain ⟨hs8, HB8, HE8, HH8, HA8, HP8⟩ := hcut
              obtain ⟨all2, hall2⟩ : ∃ a, (us20Step all pushed x r).1 = a := ⟨_, rfl⟩
              obtain ⟨pu2, hpu2⟩ : ∃ a, (us20Step all pushed x r).2 = a := ⟨_, rfl⟩
              rw [hall2] at HH8 HUN HG2
              rw [hpu2] at HP8 HST HUN HG2
              have hl9 := HH8.out.1
              obtain ⟨A9, k9, e9⟩ := Kd.R_slice HA8.out
              subst e9
              obtain ⟨A10, k10, e10⟩ := Kd.R_slice HP8.out
              subst e10
              obtain ⟨u, hu, hun⟩ := HUN.out
              have HUT := Aside0.mk hun
              have hC9 : Kd.C (Kd.slice 3 (Kd.int .i64)) wc A9 all2.length all2 := by
                have := HdsOf.join (HH8.out.below HB8.out) (Kd.R_reads' HA8.out).2.2
                rw [hl9] at this
                exact this
              have hk9 : all2.length ≤ k9 := by rw [← hl9]; exact (Kd.R_reads' HA8.out).2.1
              have HCU := Aside0.mk (sequiturlaw20_under.calls k A9 k9 all2 A10 k10 pu2 A2 c2 l2 u wc hC9 hk9 (Kd.R_reads' HP8.out).2.2 (Kd.R_reads' HP8.out).2.1 (Kd.C_below HR2.out HB8.out) HC2.out hu)
              have hst := HST.out
              have P9 : ((pu2.length : Int) != (pu2.length : Int)) = false := by simp
              have HL9 := Aside0.mk hl9
              clear hun hC9 hk9 hu HUN hall2 hpu2
              go_wp2_with fail
              refine (eng_Levels.calls E2 B T7 p7 _ HE8.out).mono ?_
              rintro e' w9 ⟨rfl, rfl⟩
              rw [hst]
              go_wp2_with fail
              refine HCU.out.mono ?_
              rintro e' w10 ⟨rfl, ⟨nd, rfl⟩⟩
              have hbd : Below w9.heap.size w9 (w9.drewN nd) := pw_below_drewN (Below.refl _ _) nd
              have HE10 := Aside0.mk (HE8.out.below hbd)
              have HB10 := Aside0.mk (below_step HB8.out hbd)
              have hA10 := Kd.R_below HA8.out hbd
              rw [hl9] at hA10
              have HA10 := Aside0.mk hA10
              have hP10 := Kd.R_below HP8.out hbd
              rw [hl9] at hP10
              have HP10 := Aside0.mk hP10
              clear hA10 hP10
              clear hbd HE8 HB8 HA8 HP8 HCU hst hl9
              cases u with
              | false =>
                go_wp2
                go_roundg (l1.length - (j + 1))
                case measure => have := hg.out; omega
                case rel => exact ⟨j + 1, E2, T7, p7, all2, hs8, pu2, by simp, ⟨by have := hg.out; omega⟩, HE10, HT7, HB10, HH8, HA10, HP10, HG2⟩
              | true =>
                obtain ⟨hbr, htt⟩ := HUT.out rfl
                have HTT := Aside0.mk htt
                have d9 : decide ((0 : Int) ≤ E2.br) = false := decide_eq_false (by omega)
                clear htt HUT
                go_wp2_with fail
                refine (eng_Broken.calls E2 B T7 p7 _ HE10.out).mono ?_
                rintro e' w11 ⟨rfl, rfl⟩
                go_wp2_with fail
                refine (eng_Trail.calls E2 B T7 p7 _ HE10.out HTL.out).mono ?_
                rintro e' w12 ⟨v12, rfl, r12, hb12⟩
                have HE12 := Aside0.mk (HE10.out.below hb12)
                have HB12 := Aside0.mk (below_step HB10.out hb12)
                have HA12 := Aside0.mk (Kd.R_below HA10.out hb12)
                have HP12 := Aside0.mk (Kd.R_below HP10.out hb12)
                obtain ⟨A12, k12, e12⟩ := Kd.R_slice r12
                subst e12
                have HC12 := Aside0.mk (Kd.R_reads' r12)
                clear r12 hb12 HE10 HB10 HA10 HP10
                obtain ⟨tr, htr⟩ : ∃ tr, E2.tr = tr := ⟨_, rfl⟩
                rw [htr] at HC12 HTT HTL ⊢
                clear htr
                have hbig := HC12.out.2.2.2.1
                go_wp2
                go_loopg [101] tr.length (fun gg v101 wl => ∃ (i : Nat), v101 = .int .i64 (i : Int) ∧ Aside0 (i + gg = tr.length) ∧ Drawn0 w12 wl)
                case atStart => exact ⟨0, rfl, ⟨by simp⟩, Drawn0.refl _⟩
                case round =>
                  obtain ⟨i, rfl, hgi, ⟨nl, rfl⟩⟩ := hrel
                  have hbl : Below w12.heap.size w12 (w12.drewN nl) := pw_below_drewN (Below.refl _ _) nl
                  by_cases hlt2 : i < tr.length
                  · obtain ⟨ad2, e2, x2⟩ := Kd.at_int (Kd.C_below HC12.out.2.2 hbl) (i : Int) (by omega) (by omega)
                    cases e2
                    obtain ⟨y, hy⟩ : ∃ y, tr[i] = y := ⟨_, rfl⟩
                    have hrd : rd tr (i : Int) = y := by simp [rd, hlt2, hy]
                    rw [hrd] at x2
                    simp only [Int.toNat_natCast] at x2
                    have Q0 : ((0 : Int) ≤ (i : Int)) = True := eq_true (by omega)
                    have Q1 : ((i : Int) < (tr.length : Int)) = True := eq_true (by omega)
                    have Q2 : (i < tr.length) = True := eq_true hlt2
                    have hd2 : decide ((i : Int) < (tr.length : Int)) = true := decide_eq_true (by omega)
                    have HCT := Aside0.mk (sequiturref17_True.calls y A2 c2 l2 true (w12.drewN nl) (Kd.C_below HR2.out (below_step HB12.out hbl)) HC2.out (HTT.out y (by rw [← hy]; exact List.getElem_mem hlt2)))
                    clear hy hrd hbl
                    go_wp2_with fail
                    refine HCT.out.mono ?_
                    rintro e' w13 ⟨rfl, ⟨n2, rfl⟩⟩
                    go_wp2
                    go_roundg (tr.length - (i + 1))
                    case measure => have := hgi.out; omega
                    case rel => exact ⟨i + 1, by simp, ⟨by have := hgi.out; omega⟩, by repeat (first | exact Drawn0.refl _ | apply Drawn0.step)⟩
                  · have hd2 : decide ((i : Int) < (tr.length : Int)) = false := decide_eq_false (by omega)
                    have Q2 : (i < tr.length) = False := eq_false hlt2
                    have HE13 := Aside0.mk (HE12.out.below hbl)
                    have HB13 := Aside0.mk (below_step HB12.out hbl)
                    have HA13 := Aside0.mk (Kd.R_below HA12.out hbl)
                    have HP13 := Aside0.mk (Kd.R_below HP12.out hbl)
                    clear hbl
                    go_wp2
                    go_roundg (l1.length - (j + 1))
                    case measure => have := hg.out; omega
                    case rel => exact ⟨j + 1, E2, T7, p7, all2, hs8, pu2, by simp, ⟨by have := hg.out; omega⟩, HE13, HT7, HB13, HH8, HA13, HP13, HG2⟩
          · have hd : decide ((j : Int) < (l1.length : Int)) = false := decide_eq_false (by omega)
            have P2 : (j < l1.length) = False := eq_false hlt
            clear HGO
            go_wp2_with fail
            refine (sequiturlaw20_alive.calls k _ HAL.out).mono ?_
            rintro e' w6' ⟨rfl, hb6'⟩
            have n_ := Aside0.mk (below_step HB.out hb6')
            clear hb6'
            go_wp2
            go_ret
            exact ⟨rfl, n_.out⟩
    · have q1 : (re != 0) = true := by simpa using hre
      have q2 : (re == 0) = false := by simpa using hre
      have HCN := Aside0.mk (eng_New.fails k n A0 c0 l0 ra re w4 (Kd.C_below HR0.out HB.out) HC0.out HCR.out hre)
      clear hh hre
      go_wp2_with fail
      refine HCN.out.mono ?_
      rintro e' w5 ⟨rfl, hb5⟩
      have n_ := Aside0.mk (below_step HB.out hb5)
      clear HB HCN hb5
      have HB := n_
      clear n_
      go_wp2_with fail
      refine (sequiturlaw20_alive.calls k _ HAL.out).mono ?_
      rintro e' w6 ⟨rfl, hb6⟩
      have n_ := Aside0.mk (below_step HB.out hb6)
      clear hb6
      go_wp2
      go_ret
      exact ⟨rfl, n_.out⟩
  · cases fw with
    | true =>
      have hg2 : l2.length > 100 := by
        by_cases h : l2.length > 100
        · exact h
        · exact absurd ⟨rfl, h⟩ hgo
      have d1 : decide ((100 : Int) < (l2.length : Int)) = true := decide_eq_true (by omega)
      have d2 : (100 < l2.length) = True := eq_true hg2
      clear HH hgo
      go_wp2_with fail
      refine HCF.out.mono ?_
      rintro e' w4 ⟨rfl, hb4⟩
      have n_ := Aside0.mk (below_step HB.out hb4)
      clear HB HCF hb4
      have HB := n_
      clear n_
      go_wp2_with fail
      refine (sequiturlaw20_alive.calls k _ HAL.out).mono ?_
      rintro e' w6 ⟨rfl, hb6⟩
      have n_ := Aside0.mk (below_step HB.out hb6)
      clear hb6
      go_wp2
      go_ret
      exact ⟨rfl, n_.out⟩
    | false =>
      clear HH hgo
      go_wp2_with fail
      refine HCF.out.mono ?_
      rintro e' w4 ⟨rfl, hb4⟩
      have n_ := Aside0.mk (below_step HB.out hb4)
      clear HB HCF hb4
      have HB := n_
      clear n_
      go_wp2_with fail
      refine (sequiturlaw20_alive.calls k _ HAL.out).mono ?_
      rintro e' w6 ⟨rfl, hb6⟩
      have n_ := Aside0.mk (below_step HB.out hb6)
      clear hb6
      go_wp2
      go_ret
      exact ⟨rfl, n_.out⟩
theorem sequiturlaw20_UnitSound.calls (k : Nat) (a0_0 : Int) (A0_1 : Option Addr) (c0_1 : Nat) (l0_1 : List (List Int)) (A1 : Option Addr) (c1 : Nat) (l1 : List S35) (A2 : Option Addr) (c2 : Nat) (l2 : List Bool) (w : World)
    (hr0_1 : Kd.C (Kd.slice 3 (Kd.int .i64)) w A0_1 l0_1.length l0_1) (hc0_1 : l0_1.length ≤ c0_1) (hr1 : Kd.C k35 w A1 l1.length l1) (hc1 : l1.length ≤ c1) (hr2 : Kd.C Kd.bool w A2 l2.length l2) (hc2 : l2.length ≤ c2) (h : sequiturlaw20_UnitSound.Fact k a0_0 l0_1 l1 l2) :
    Calls Try.prog 3 #[.agg #[.int .i64 a0_0, .slice A0_1 l0_1.length c0_1], .slice A1 l1.length c1, .slice A2 l2.length c2] w fun e w' => e = .returned (.bool true) ∧ Below w.heap.size w w' := by
  exact sequiturlaw20_UnitSound.walk k a0_0 A0_1 c0_1 l0_1 A1 c1 l1 A2 c2 l2 w hr0_1 hc0_1 hr1 hc1 hr2 hc2 h


end Go.Proofs.Ytfcofpgehlmbbaa.P
