import Derived.Test.YtkmlekfmccghjaaKLearnUnit1
import Derived.Test.YtkmlekfmccghjaaKLearnUnit2
namespace Go.Proofs.Ytkmlekfmccghjaa.P
open Go.RowKit Go.Proofs.YtkmlekfmccghjaaW.PrintWords Go.Proofs.YtkmlekfmccghjaaW.PrintLast Go.Proofs.YtkmlekfmccghjaaW.PrintMore
attribute [local go_sem] max2_int min2_int max_two min_two max_three min_three max_four min_four
set_option linter.unusedVariables false
set_option linter.unusedSimpArgs false
def Eng.del (E : Eng) (y : Int) : Eng := { E with ms := fun x => if x = y then none else E.ms x }
def Eng.dels (E : Eng) (l : List Int) : Eng := l.foldl Eng.del E
theorem Eng.dels_snoc (E : Eng) (l : List Int) (x : Int) : E.dels (l ++ [x]) = (E.dels l).del x := by
  unfold Eng.dels; rw [List.foldl_append]; rfl
theorem Eng.dels_same : ∀ (l : List Int) (E : Eng), (E.dels l).cls = E.cls ∧ (E.dels l).tr = E.tr ∧ (E.dels l).st = E.st ∧ (E.dels l).n = E.n ∧ (E.dels l).br = E.br ∧ (E.dels l).ws = E.ws ∧ (E.dels l).wt = E.wt ∧ ∀ x, (E.dels l).ms x = if x ∈ l then none else E.ms x
  | [], E => ⟨rfl, rfl, rfl, rfl, rfl, rfl, rfl, fun x => by rw [if_neg (by simp)]; rfl⟩
  | y :: l, E => by
    obtain ⟨h1, h2, h3, h4, h5, h6, h7, h8⟩ := Eng.dels_same l (E.del y)
    refine ⟨h1, h2, h3, h4, h5, h6, h7, fun x => ?_⟩
    have := h8 x
    show (Eng.dels (E.del y) l).ms x = _
    rw [this]
    by_cases hx : x ∈ l
    case pos =>
      rw [if_pos hx, if_pos (List.mem_cons_of_mem _ hx)]
    rw [if_neg hx]
    show (if x = y then none else E.ms x) = _
    by_cases e : x = y
    case neg =>
      rw [if_neg e, if_neg (by simp [e, hx])]
    rw [if_pos e, if_pos (by rw [e]; simp)]
def Eng.popped (E : Eng) (a : Nat) : Eng := { E.dels (E.tr.drop a) with tr := E.tr.take a, st := E.st.dropLast, br := -1 }
def Eng.pop (k : Nat) (E : Eng) : Option (Eng × Bool) :=
  match E.st.getLast? with
  | none => some (E, false)
  | some a => if 0 ≤ a ∧ a.toNat ≤ E.tr.length then (Eng.settle k (E.popped a.toNat)).bind fun E' => some (E', true) else none
theorem EngIn.turn_del {w w1 : World} {B : Nat} {T : Tag} {E : Eng} {p : EngP} (h : EngIn w B T E p) (y : Int) (hM : MapI Try.prog 3 w1 p.bm (setI (mkV E.ms) y none)) (hg : w.grownBy w1 (some p.bm)) : EngIn w1 B T (E.del y) p ∧ Moved T T w w1 :=
  h.turn_ms (g := fun x => if x = y then none else E.ms x) (hM.congr fun x => by
    unfold setI
    by_cases e : x = y
    case pos =>
      rw [if_pos e]
      show none = Option.map _ (if x = y then none else E.ms x)
      rw [if_pos e]; rfl
    rw [if_neg e]
    show Option.map _ (E.ms x) = Option.map _ (if x = y then none else E.ms x)
    rw [if_neg e]) hg (fun x hx => by
    have hx : (if x = y then none else E.ms x).isSome = true := hx
    by_cases e : x = y
    case pos =>
      rw [if_pos e] at hx; cases hx
    rw [if_neg e] at hx; exact h.mst x hx)
set_option maxRecDepth 100000 in
set_option maxHeartbeats 4000000 in
theorem eng_Pop.calls (k : Nat) (E : Eng) (B : Nat) (T : Tag) (p : EngP) (E2 : Eng) (r : Bool) (w : World) (h : EngIn w B T E p) (hlit : E.Lits) (htr : ∀ x ∈ E.tr, (Lit.int .i64 x).wf = true) (hf : Eng.pop k E = some (E2, r)) :
    Calls Try.prog 31 #[.pointer (some ⟨B, 0, none⟩)] w fun e w' => e = .returned (.bool r) ∧ EngPost B T p E2 w w' := by
  unfold Eng.pop at hf
  have c5 := h.cells.2.2.2.2.2.1
  have c3 := h.cells.2.2.2.1
  have c4 := h.cells.2.2.2.2.1
  obtain ⟨A5, k5, e5⟩ := Kd.R_slice h.st
  obtain ⟨A3, k3, e3⟩ := Kd.R_slice h.tr
  rw [e5] at c5
  rw [e3] at c3
  have HE := K0 h; have HL := K0 hlit; have HTR := K0 htr
  cases hst : E.st.getLast? with
  | none =>
    rw [hst] at hf
    simp only [Option.some.injEq, Prod.mk.injEq] at hf
    obtain ⟨h1, h2⟩ := hf
    subst h2; have H2 := K0 h1
    rw [List.getLast?_eq_none_iff.1 hst] at c5
    clear h1 h hlit htr e5 e3
    go_enter Try.func31, Try.ntmps31
    go_wp2
    go_ret
    rw [← H2.out]
    exact ⟨rfl, T, p, HE.out, Moved.refl _ _, rfl⟩
  | some a =>
    rw [hst] at hf
    obtain ⟨ss, hss⟩ : ∃ ss, E.st = ss ++ [a] := List.getLast?_eq_some_iff.1 hst
    replace hf : (if 0 ≤ a ∧ a.toNat ≤ E.tr.length then (Eng.settle k (E.popped a.toNat)).bind fun E' => some (E', true) else none) = some (E2, r) := hf
    by_cases ha : 0 ≤ a ∧ a.toNat ≤ E.tr.length
    case neg =>
      rw [if_neg ha] at hf; cases hf
    rw [if_pos ha] at hf
    obtain ⟨E3, hs, hf⟩ := Option.bind_eq_some_iff.mp hf
    simp only [Option.some.injEq, Prod.mk.injEq] at hf
    obtain ⟨rfl, rfl⟩ := hf
    have HS := K0 hs
    obtain ⟨ha0, ha1⟩ := ha
    obtain ⟨m, rfl⟩ : ∃ m : Nat, a = m := ⟨a.toNat, by omega⟩
    rw [Int.toNat_natCast] at ha1 HS
    obtain ⟨N5, hN5⟩ : ∃ N5, ss.length = N5 := ⟨_, rfl⟩
    have hl5 : E.st.length = N5 + 1 := by rw [hss, List.length_append, hN5]; rfl
    rw [hl5] at c5 e5
    obtain ⟨N3, hN3⟩ : ∃ N3, E.tr.length = N3 := ⟨_, rfl⟩
    rw [hN3] at c3 e3 ha1
    have hrs := h.st
    rw [e5] at hrs
    have hrt := h.tr
    rw [e3] at hrt
    have b5 := (Kd.R_reads' hrs).2.2.2.1
    have b3 : N3 ≤ 9223372036854775807 := by rw [← hN3]; exact (Kd.R_reads' hrt).2.2.2.1
    have bc3 : N3 ≤ k3 := (Kd.R_reads' hrt).2.1
    have bc5 := (Kd.R_reads' hrs).2.1
    obtain ⟨ad, e1, x1⟩ := Kd.at_int (Kd.R_reads' hrs).2.2 (N5 : Int) (by omega) (by rw [hl5]; omega)
    cases e1
    have hrd : rd E.st (N5 : Int) = m := by rw [hss]; simp [rd, ← hN5]
    rw [hrd] at x1
    simp only [Int.toNat_natCast] at x1
    obtain ⟨L5, hL5⟩ : ∃ L5, N5 + 1 = L5 := ⟨_, rfl⟩
    rw [hL5] at c5 e5
    have P0 : IntKind.i64.wrap ((L5 : Int) - 1) = (N5 : Int) := (Go.IntWalk.i64_left _).trans (by unfold wrap64; omega)
    have P1 : ((0 : Int) ≤ (N5 : Int)) = True := eq_true (by omega)
    have P2 : ((N5 : Int) < (L5 : Int)) = True := eq_true (by omega)
    have P2' : (N5 < L5) = True := eq_true (by omega)
    have P3 : ((L5 : Int) == 0) = false := beq_eq_false_iff_ne.2 (by omega)
    have P4 : (L5 == 0) = false := beq_eq_false_iff_ne.2 (by omega)
    have P5 : (N5 ≤ k5) = True := eq_true (by omega)
    have P6 : (m ≤ k3) = True := eq_true (by omega)
    clear hrs hrt hst hs h hlit htr
    have hb0 : Below w.heap.size w w.drew := below_drew (Below.refl _ _)
    have HD := K0 (HE.out.below hb0)
    have HM0 := K0 (Moved.of_below (T := T) hb0)
    have d5 := pw_cell_below hb0 c5
    have d3 := pw_cell_below hb0 c3
    have dx := pw_cell_below hb0 x1
    obtain ⟨ds, hds⟩ : ∃ ds, E.tr.drop m = ds := ⟨_, rfl⟩
    have hdl : ds.length = N3 - m := by rw [← hds, List.length_drop, hN3]
    have HCUT : Aside0 (∀ (W : World) (E1 : Eng), EngIn W B T E1 p → E1.tr = E.tr → Kd.C (Kd.int .i64) W (if k3 = m then A3 else A3.map (·.add m)) ds.length ds) := ⟨fun W E1 h1 h2 => by
      have h3 := h1.tr
      rw [h2, e3] at h3
      have h4 := (Kd.R_reads' h3).2.2
      have h5 := Kd.C_drop h4 (m := m) (c := k3) (by omega) (by omega)
      rw [show (Kd.int .i64).sz = 1 from rfl, Nat.mul_one, hds] at h5
      exact h5⟩
    have HDM : Aside0 (∀ y ∈ ds, (Lit.int .i64 y).wf = true) := ⟨fun y hy => HTR.out y (List.mem_of_mem_drop (by rw [hds]; exact hy))⟩
    have HDS := K0 hds; have HE3 := K0 e3; have HE5 := K0 e5; have HN3 := K0 hN3; have HSS := K0 hss
    have hm3 : m ≤ N3 := ha1
    clear e3 e5 hds hN3 hss hf ha0 ha1 c4 x1 c3
    obtain ⟨L, hL⟩ : ∃ L, N3 - m = L := ⟨_, rfl⟩
    rw [hL] at hdl
    go_enter Try.func31, Try.ntmps31
    go_wp2
    go_still (by kernel_rfl)
    go_wp2
    all_goals
      obtain ⟨A6, hA6⟩ : ∃ A6, (if k3 = m then A3 else A3.map (·.add m)) = A6 := ⟨_, rfl⟩
      rw [hA6] at HCUT
      first
      | (rw [if_neg (by assumption)] at hA6; rw [hA6])
      | (have hkm : k3 = m := by assumption
         rw [if_pos hkm] at hA6
         rw [← hA6] at HCUT
         have HL0 := K0 (show L = 0 by omega)
         clear hkm h
         obtain rfl := hA6)
      have hLb : L ≤ 9223372036854775807 := by omega
      go_loopg [5, 35] L (fun gg _ v35 wr => ∃ (j : Nat), v35 = .int .i64 (j : Int) ∧ Aside0 (j + gg = L) ∧ Aside0 (EngIn wr B T (E.dels (ds.take j)) p) ∧ Aside0 (Moved T T w wr))
      case atStart => exact ⟨0, rfl, ⟨by simp⟩, HD, HM0⟩
      case round =>
        clear d3 d5 dx c5 HD HM0 HE
        obtain ⟨j, rfl, hg, HE1, HM1⟩ := hrel
        obtain ⟨E1, hE1⟩ : ∃ E1, E.dels (ds.take j) = E1 := ⟨_, rfl⟩
        obtain ⟨s1, s2, s3, s4, s5, s6, s7, s8⟩ := E.dels_same (ds.take j)
        rw [hE1] at HE1 s1 s2 s3 s4 s5 s6 s7
        have c4 := HE1.out.cells.2.2.2.2.1
        by_cases hlt : j < ds.length
        case pos =>
          first
          | (exfalso; have := HL0.out; omega)
          | (obtain ⟨ad', e1, x1⟩ := Kd.at_int (HCUT.out wr E1 HE1.out s2) (j : Int) (by omega) (by omega)
             obtain ⟨y, hy⟩ : ∃ y, ds[j] = y := ⟨_, rfl⟩
             have hrd' : rd ds (j : Int) = y := by simp [rd, hlt, hy]
             rw [hrd'] at x1
             simp only [Int.toNat_natCast] at x1
             have hyw := HDM.out y (by rw [← hy]; exact List.getElem_mem hlt)
             have HY := K0 (show ds.take (j + 1) = ds.take j ++ [y] by rw [List.take_add_one, List.getElem?_eq_getElem hlt, hy]; rfl)
             have Q0 : ((0 : Int) ≤ (j : Int)) = True := eq_true (by omega)
             have Q1 : ((j : Int) < (L : Int)) = True := eq_true (by omega)
             have Q2 : (j < L) = True := eq_true (by omega)
             have hd : decide ((j : Int) < (L : Int)) = true := decide_eq_true (by omega)
             have HE1' := K0 hE1
             obtain ⟨w2, hrun, hM2, hg2⟩ := HE1.out.ms.drop Try.underlying3 Try.underlying69 hyw 0
             obtain ⟨t1, t2⟩ := HE1.out.turn_del y hM2 hg2
             have T1 := K0 t1
             have T2 := K0 (HM1.out.trans t2)
             clear hE1 s1 s2 s3 s4 s5 s6 s7 s8 hy hrd' hyw t1 t2 hM2 hg2
             rw [e1]
             go_wp2
             rw [← e1]
             go_roundg (L - (j + 1))
             case measure => have := hg.out; omega
             case rel => exact ⟨j + 1, by simp, ⟨by have := hg.out; omega⟩, ⟨by rw [HY.out, Eng.dels_snoc, HE1'.out]; exact T1.out⟩, T2⟩)
        have hd : decide ((j : Int) < (L : Int)) = false := decide_eq_false (by omega)
        have Q2 : (j < L) = False := eq_false (by omega)
        rw [List.take_of_length_le (show ds.length ≤ j by omega)] at hE1 s8
        have HE1' := K0 hE1
        have S1 := K0 s1; have S2 := K0 s2; have S3 := K0 s3
        have hbw : Below wr.heap.size wr wr.drew := below_drew (Below.refl _ _)
        have HD1 := K0 (HE1.out.below hbw)
        have HMD := K0 (HM1.out.trans (Moved.of_below (T := T) hbw))
        have d3 : wr.drew.cell? ⟨B, 3, none⟩ = some (.slice A3 N3 k3) := by rw [HD1.out.cells.2.2.2.1, HE3.out]
        have d5 : wr.drew.cell? ⟨B, 5, none⟩ = some (.slice (some ad) L5 k5) := by rw [HD1.out.cells.2.2.2.2.2.1, HE5.out]
        have g0 := HD1.out.cells.2.2.2.2.2.2.2 3
        have g5 := HD1.out.cells.2.2.2.2.2.2.2 5
        have g6 := HD1.out.cells.2.2.2.2.2.2.2 6
        have r5 : wr.cell? ⟨B, 5, none⟩ = some (.slice (some ad) L5 k5) := by rw [HE1.out.cells.2.2.2.2.2.1, HE5.out]
        have r6 := HE1.out.cells.2.2.2.2.2.2.1
        have g35 := HE1.out.cells.2.2.2.2.2.2.2 5
        have g36 := HE1.out.cells.2.2.2.2.2.2.2 6
        have g33 := HE1.out.cells.2.2.2.2.2.2.2 3
        clear hE1 s1 s2 s3 s4 s5 s6 s7 hbw
        go_wp2
        refine start_ (n := 29) (S := fun w' => w'.cell? ⟨B, 3, none⟩ = some (.slice A3 N3 k3) ∧ w'.cell? ⟨B, 5, none⟩ = some (.slice (some ad) L5 k5)) (ds := [22, 25, 28]) #[false, false, false, false, false, false, false, false, false, false, false, false, false, false, false, false, false, false, false, false, false, false, false, false, false, false, false, false, false] (by kernel_rfl) rfl rfl ⟨d3, d5⟩ (fun hHeld => ?_)
        refine pure_ (i := 0) (N := some 45) (v := ?_) (a' := ?_) #[true, false, false, false, false, false, false, false, false, false, false, false, false, false, false, false, false, false, false, false, false, false, false, false, false, false, false, false, false] rfl rfl (by kernel_rfl) (fun _ _ _ h => h) (Or.inl ⟨by rfl, ?_⟩) ?_ ?_
        rotate_left
        · intro w'
          go_simp
          with_reducible rfl
        rotate_left
        · simp only [Act.put, List.setIfInBounds_toArray, List.set_cons_zero, List.set_cons_succ, i64_w, i32_w]
          rfl
        refine pure_ (i := 1) (N := some 46) (v := ?_) (a' := ?_) #[true, true, false, false, false, false, false, false, false, false, false, false, false, false, false, false, false, false, false, false, false, false, false, false, false, false, false, false, false] rfl rfl (by kernel_rfl) (fun _ _ _ h => h) (Or.inl ⟨by rfl, ?_⟩) ?_ ?_
        rotate_left
        · intro w'
          go_simp
          with_reducible rfl
        rotate_left
        · simp only [Act.put, List.setIfInBounds_toArray, List.set_cons_zero, List.set_cons_succ, i64_w, i32_w]
          rfl
        refine pure_ (i := 2) (N := some 47) (v := ?_) (a' := ?_) #[true, true, true, false, false, false, false, false, false, false, false, false, false, false, false, false, false, false, false, false, false, false, false, false, false, false, false, false, false] rfl rfl (by kernel_rfl) (fun _ _ _ h => h) (Or.inl ⟨by rfl, ?_⟩) ?_ ?_
        rotate_left
        · intro w'
          go_simp
          with_reducible rfl
        rotate_left
        · simp only [Act.put, List.setIfInBounds_toArray, List.set_cons_zero, List.set_cons_succ, i64_w, i32_w]
          rfl
        refine pure_ (i := 3) (N := some 48) (v := ?_) (a' := ?_) #[true, true, true, true, false, false, false, false, false, false, false, false, false, false, false, false, false, false, false, false, false, false, false, false, false, false, false, false, false] rfl rfl (by kernel_rfl) (fun _ _ _ h => h) (Or.inl ⟨by rfl, ?_⟩) ?_ ?_
        rotate_left
        · intro w'
          go_simp
          with_reducible rfl
        rotate_left
        · simp only [Act.put, List.setIfInBounds_toArray, List.set_cons_zero, List.set_cons_succ, i64_w, i32_w]
          rfl
        refine pure_ (i := 4) (N := some 49) (v := ?_) (a' := ?_) #[true, true, true, true, true, false, false, false, false, false, false, false, false, false, false, false, false, false, false, false, false, false, false, false, false, false, false, false, false] rfl rfl (by kernel_rfl) (fun _ _ _ h => h) (Or.inl ⟨by rfl, ?_⟩) ?_ ?_
        rotate_left
        · intro w'
          go_simp
          with_reducible rfl
        rotate_left
        · simp only [Act.put, List.setIfInBounds_toArray, List.set_cons_zero, List.set_cons_succ, i64_w, i32_w]
          rfl
        refine pure_ (i := 5) (N := some 50) (v := ?_) (a' := ?_) #[true, true, true, true, true, true, false, false, false, false, false, false, false, false, false, false, false, false, false, false, false, false, false, false, false, false, false, false, false] rfl rfl (by kernel_rfl) (fun _ _ _ h => h) (Or.inl ⟨by rfl, ?_⟩) ?_ ?_
        rotate_left
        · intro w'
          go_simp
          with_reducible rfl
        rotate_left
        · simp only [Act.put, List.setIfInBounds_toArray, List.set_cons_zero, List.set_cons_succ, i64_w, i32_w]
          rfl
        refine pure_ (i := 7) (N := some 52) (v := ?_) (a' := ?_) #[true, true, true, true, true, true, false, true, false, false, false, false, false, false, false, false, false, false, false, false, false, false, false, false, false, false, false, false, false] rfl rfl (by kernel_rfl) (fun _ _ _ h => h) (Or.inl ⟨by rfl, ?_⟩) ?_ ?_
        rotate_left
        · intro w'
          go_simp
          with_reducible rfl
        rotate_left
        · simp only [Act.put, List.setIfInBounds_toArray, List.set_cons_zero, List.set_cons_succ, i64_w, i32_w]
          rfl
        refine pure_ (i := 9) (N := some 54) (v := ?_) (a' := ?_) #[true, true, true, true, true, true, false, true, false, true, false, false, false, false, false, false, false, false, false, false, false, false, false, false, false, false, false, false, false] rfl rfl (by kernel_rfl) (fun _ _ _ h => h) (Or.inl ⟨by rfl, ?_⟩) ?_ ?_
        rotate_left
        · intro w'
          go_simp
          with_reducible rfl
        rotate_left
        · simp only [Act.put, List.setIfInBounds_toArray, List.set_cons_zero, List.set_cons_succ, i64_w, i32_w]
          rfl
        refine pure_ (i := 10) (N := some 55) (v := ?_) (a' := ?_) #[true, true, true, true, true, true, false, true, false, true, true, false, false, false, false, false, false, false, false, false, false, false, false, false, false, false, false, false, false] rfl rfl (by kernel_rfl) (fun _ _ _ h => h) (Or.inl ⟨by rfl, ?_⟩) ?_ ?_
        rotate_left
        · intro w'
          go_simp
          with_reducible rfl
        rotate_left
        · simp only [Act.put, List.setIfInBounds_toArray, List.set_cons_zero, List.set_cons_succ, i64_w, i32_w]
          rfl
        refine pure_ (i := 11) (N := some 56) (v := ?_) (a' := ?_) #[true, true, true, true, true, true, false, true, false, true, true, true, false, false, false, false, false, false, false, false, false, false, false, false, false, false, false, false, false] rfl rfl (by kernel_rfl) (fun _ _ _ h => h) (Or.inl ⟨by rfl, ?_⟩) ?_ ?_
        rotate_left
        · intro w'
          go_simp
          with_reducible rfl
        rotate_left
        · simp only [Act.put, List.setIfInBounds_toArray, List.set_cons_zero, List.set_cons_succ, i64_w, i32_w]
          rfl
        refine pure_ (i := 13) (N := some 58) (v := ?_) (a' := ?_) #[true, true, true, true, true, true, false, true, false, true, true, true, false, true, false, false, false, false, false, false, false, false, false, false, false, false, false, false, false] rfl rfl (by kernel_rfl) (fun _ _ _ h => h) (Or.inl ⟨by rfl, ?_⟩) ?_ ?_
        rotate_left
        · intro w'
          go_simp
          with_reducible rfl
        rotate_left
        · simp only [Act.put, List.setIfInBounds_toArray, List.set_cons_zero, List.set_cons_succ, i64_w, i32_w]
          rfl
        refine pure_ (i := 14) (N := some 59) (v := ?_) (a' := ?_) #[true, true, true, true, true, true, false, true, false, true, true, true, false, true, true, false, false, false, false, false, false, false, false, false, false, false, false, false, false] rfl rfl (by kernel_rfl) (fun _ _ _ h => h) (Or.inl ⟨by rfl, ?_⟩) ?_ ?_
        rotate_left
        · intro w'
          go_simp
          with_reducible rfl
        rotate_left
        · simp only [Act.put, List.setIfInBounds_toArray, List.set_cons_zero, List.set_cons_succ, i64_w, i32_w]
          rfl
        refine pure_ (i := 15) (N := some 60) (v := ?_) (a' := ?_) #[true, true, true, true, true, true, false, true, false, true, true, true, false, true, true, true, false, false, false, false, false, false, false, false, false, false, false, false, false] rfl rfl (by kernel_rfl) (fun _ _ _ h => h) (Or.inl ⟨by rfl, ?_⟩) ?_ ?_
        rotate_left
        · intro w'
          go_simp
          with_reducible rfl
        rotate_left
        · simp only [Act.put, List.setIfInBounds_toArray, List.set_cons_zero, List.set_cons_succ, i64_w, i32_w]
          rfl
        refine take_ (i := 6) (N := some 51) (v := ?_) (a' := ?_) #[true, true, true, true, true, true, true, true, false, true, true, true, false, true, true, true, false, false, false, false, false, false, false, false, false, false, false, false, false] rfl rfl (by kernel_rfl) (fun _ _ _ h => h) (Or.inl ⟨by rfl, ?_⟩) hHeld ?_ ?_
        rotate_left
        · rintro w' ⟨s0, s1⟩
          go_simp
          with_reducible rfl
        rotate_left
        · simp only [Act.put, List.setIfInBounds_toArray, List.set_cons_zero, List.set_cons_succ, i64_w, i32_w]
          rfl
        refine pure_ (i := 8) (N := some 53) (v := ?_) (a' := ?_) #[true, true, true, true, true, true, true, true, true, true, true, true, false, true, true, true, false, false, false, false, false, false, false, false, false, false, false, false, false] rfl rfl (by kernel_rfl) (fun _ _ _ h => h) (Or.inl ⟨by rfl, ?_⟩) ?_ ?_
        rotate_left
        · intro w'
          go_simp
          with_reducible rfl
        rotate_left
        · simp only [Act.put, List.setIfInBounds_toArray, List.set_cons_zero, List.set_cons_succ, i64_w, i32_w]
          rfl
        refine take_ (i := 12) (N := some 57) (v := ?_) (a' := ?_) #[true, true, true, true, true, true, true, true, true, true, true, true, true, true, true, true, false, false, false, false, false, false, false, false, false, false, false, false, false] rfl rfl (by kernel_rfl) (fun _ _ _ h => h) (Or.inl ⟨by rfl, ?_⟩) hHeld ?_ ?_
        rotate_left
        · rintro w' ⟨s0, s1⟩
          go_simp
          with_reducible rfl
        rotate_left
        · simp only [Act.put, List.setIfInBounds_toArray, List.set_cons_zero, List.set_cons_succ, i64_w, i32_w]
          rfl
        refine take_ (i := 16) (N := some 61) (v := ?_) (a' := ?_) #[true, true, true, true, true, true, true, true, true, true, true, true, true, true, true, true, true, false, false, false, false, false, false, false, false, false, false, false, false] rfl rfl (by kernel_rfl) (fun _ _ _ h => h) (Or.inl ⟨by rfl, ?_⟩) hHeld ?_ ?_
        rotate_left
        · rintro w' ⟨s0, s1⟩
          go_simp
          with_reducible rfl
        rotate_left
        · simp only [Act.put, List.setIfInBounds_toArray, List.set_cons_zero, List.set_cons_succ, i64_w, i32_w]
          rfl
        refine pure_ (i := 17) (N := some 62) (v := ?_) (a' := ?_) #[true, true, true, true, true, true, true, true, true, true, true, true, true, true, true, true, true, true, false, false, false, false, false, false, false, false, false, false, false] rfl rfl (by kernel_rfl) (fun _ _ _ h => h) (Or.inl ⟨by rfl, ?_⟩) ?_ ?_
        rotate_left
        · intro w'
          go_simp
          with_reducible rfl
        rotate_left
        · simp only [Act.put, List.setIfInBounds_toArray, List.set_cons_zero, List.set_cons_succ, i64_w, i32_w]
          rfl
        refine pure_ (i := 18) (N := some 63) (v := ?_) (a' := ?_) #[true, true, true, true, true, true, true, true, true, true, true, true, true, true, true, true, true, true, true, false, false, false, false, false, false, false, false, false, false] rfl rfl (by kernel_rfl) (fun _ _ _ h => h) (Or.inl ⟨by rfl, ?_⟩) ?_ ?_
        rotate_left
        · intro w'
          go_simp
          with_reducible rfl
        rotate_left
        · simp only [Act.put, List.setIfInBounds_toArray, List.set_cons_zero, List.set_cons_succ, i64_w, i32_w]
          rfl
        refine pure_ (i := 19) (N := some 64) (v := ?_) (a' := ?_) #[true, true, true, true, true, true, true, true, true, true, true, true, true, true, true, true, true, true, true, true, false, false, false, false, false, false, false, false, false] rfl rfl (by kernel_rfl) (fun _ _ _ h => h) (Or.inl ⟨by rfl, ?_⟩) ?_ ?_
        rotate_left
        · intro w'
          go_simp
          with_reducible rfl
        rotate_left
        · simp only [Act.put, List.setIfInBounds_toArray, List.set_cons_zero, List.set_cons_succ, i64_w, i32_w]
          rfl
        refine pure_ (i := 20) (N := some 65) (v := ?_) (a' := ?_) #[true, true, true, true, true, true, true, true, true, true, true, true, true, true, true, true, true, true, true, true, true, false, false, false, false, false, false, false, false] rfl rfl (by kernel_rfl) (fun _ _ _ h => h) (Or.inl ⟨by rfl, ?_⟩) ?_ ?_
        rotate_left
        · intro w'
          go_simp
          with_reducible rfl
        rotate_left
        · simp only [Act.put, List.setIfInBounds_toArray, List.set_cons_zero, List.set_cons_succ, i64_w, i32_w]
          rfl
        refine pure_ (i := 21) (N := some 66) (v := ?_) (a' := ?_) #[true, true, true, true, true, true, true, true, true, true, true, true, true, true, true, true, true, true, true, true, true, true, false, false, false, false, false, false, false] rfl rfl (by kernel_rfl) (fun _ _ _ h => h) (Or.inl ⟨by rfl, ?_⟩) ?_ ?_
        rotate_left
        · intro w'
          go_simp
          with_reducible rfl
        rotate_left
        · simp only [Act.put, List.setIfInBounds_toArray, List.set_cons_zero, List.set_cons_succ, i64_w, i32_w]
          rfl
        refine last_ (i := 22) (N := none) #[true, true, true, true, true, true, true, true, true, true, true, true, true, true, true, true, true, true, true, true, true, true, true, false, false, false, false, false, false] rfl rfl (by kernel_rfl) (by decide) (fun K hK => ?_)
        refine skip_ (w1 := ?_) (by rfl) rfl ?_ ?_
        rotate_left
        · go_simp
          rfl
        refine hK.out _ _ ?_
        clear hK K
        refine pure_ (i := 23) (N := some 67) (v := ?_) (a' := ?_) #[true, true, true, true, true, true, true, true, true, true, true, true, true, true, true, true, true, true, true, true, true, true, true, true, false, false, false, false, false] rfl rfl (by kernel_rfl) (fun _ _ _ h => h) (Or.inl ⟨by rfl, ?_⟩) ?_ ?_
        rotate_left
        · intro w'
          go_simp
          with_reducible rfl
        rotate_left
        · simp only [Act.put, List.setIfInBounds_toArray, List.set_cons_zero, List.set_cons_succ, i64_w, i32_w]
          rfl
        refine pure_ (i := 24) (N := some 68) (v := ?_) (a' := ?_) #[true, true, true, true, true, true, true, true, true, true, true, true, true, true, true, true, true, true, true, true, true, true, true, true, true, false, false, false, false] rfl rfl (by kernel_rfl) (fun _ _ _ h => h) (Or.inl ⟨by rfl, ?_⟩) ?_ ?_
        rotate_left
        · intro w'
          go_simp
          with_reducible rfl
        rotate_left
        · simp only [Act.put, List.setIfInBounds_toArray, List.set_cons_zero, List.set_cons_succ, i64_w, i32_w]
          rfl
        refine last_ (i := 25) (N := none) #[true, true, true, true, true, true, true, true, true, true, true, true, true, true, true, true, true, true, true, true, true, true, true, true, true, true, false, false, false] rfl rfl (by kernel_rfl) (by decide) (fun K hK => ?_)
        refine skip_ (w1 := ?_) (by rfl) rfl ?_ ?_
        rotate_left
        · go_simp
          rfl
        refine hK.out _ _ ?_
        clear hK K
        refine pure_ (i := 26) (N := some 69) (v := ?_) (a' := ?_) #[true, true, true, true, true, true, true, true, true, true, true, true, true, true, true, true, true, true, true, true, true, true, true, true, true, true, true, false, false] rfl rfl (by kernel_rfl) (fun _ _ _ h => h) (Or.inl ⟨by rfl, ?_⟩) ?_ ?_
        rotate_left
        · intro w'
          go_simp
          with_reducible rfl
        rotate_left
        · simp only [Act.put, List.setIfInBounds_toArray, List.set_cons_zero, List.set_cons_succ, i64_w, i32_w]
          rfl
        refine pure_ (i := 27) (N := some 70) (v := ?_) (a' := ?_) #[true, true, true, true, true, true, true, true, true, true, true, true, true, true, true, true, true, true, true, true, true, true, true, true, true, true, true, true, false] rfl rfl (by kernel_rfl) (fun _ _ _ h => h) (Or.inl ⟨by rfl, ?_⟩) ?_ ?_
        rotate_left
        · intro w'
          go_simp
          with_reducible rfl
        rotate_left
        · simp only [Act.put, List.setIfInBounds_toArray, List.set_cons_zero, List.set_cons_succ, i64_w, i32_w]
          rfl
        refine last_ (i := 28) (N := none) #[true, true, true, true, true, true, true, true, true, true, true, true, true, true, true, true, true, true, true, true, true, true, true, true, true, true, true, true, true] rfl rfl (by kernel_rfl) (by decide) (fun K hK => ?_)
        refine skip_ (w1 := ?_) (by rfl) rfl ?_ ?_
        rotate_left
        · go_simp
          rfl
        refine hK.out _ _ ?_
        clear hK K
        refine done_ (by kernel_rfl) ?_
        have hR3 : Kd.R (Kd.int .i64) 3 wr 0 (fun k => T k = (4, 0) ∨ wr.heap.size ≤ k) (.slice A3 m k3) (E.tr.take m) := by
          have h := HE1.out.tr
          rw [HE3.out, S2.out] at h
          exact Kd.R_take (Kd.R_mono h (fun _ hk => .inl hk)) (by rw [HN3.out]; exact hm3)
        have hgr : ∀ (W : World) (o : Option Nat), W.grownBy W o := fun W o => ⟨rfl, rfl, rfl, Nat.le_refl _, fun _ _ _ => rfl⟩
        have hk3 : ∀ x, (E1.ms x).isSome = true → x ∈ E.tr.take m := fun x hx => by
          have h1 := HE1.out.mst x hx
          rw [S2.out, ← List.take_append_drop m E.tr] at h1
          rcases List.mem_append.1 h1 with h1 | h1
          · exact h1
          · rw [HDS.out] at h1
            rw [← HE1'.out, s8, if_pos h1] at hx
            cases hx
        obtain ⟨a1, b1⟩ := HE1.out.turn_tr hR3 (hgr _ _) hk3
        have hR5 : Kd.R (Kd.int .i64) 3 (wr.setCell ⟨B, 3, none⟩ (.slice A3 m k3)) 0 (fun k => retag T wr (.slice A3 m k3) (4, 0) k = (5, 0) ∨ (wr.setCell ⟨B, 3, none⟩ (.slice A3 m k3)).heap.size ≤ k) (.slice (some ad) N5 k5) ss := by
          have h := a1.st
          have h : Kd.R (Kd.int .i64) 3 (wr.setCell ⟨B, 3, none⟩ (.slice A3 m k3)) 0 (fun k => retag T wr (.slice A3 m k3) (4, 0) k = (5, 0)) p.vS E1.st := h
          rw [HE5.out, S3.out, HSS.out] at h
          have h2 := Kd.R_take (m := N5) (Kd.R_mono (ok' := fun k => retag T wr (.slice A3 m k3) (4, 0) k = (5, 0) ∨ (wr.setCell ⟨B, 3, none⟩ (.slice A3 m k3)).heap.size ≤ k) h (fun _ hk => Or.inl hk)) (by simp [hN5])
          rw [show (ss ++ [(m : Int)]).take N5 = ss by rw [← hN5]; simp] at h2
          exact h2
        obtain ⟨a2, b2⟩ := a1.turn_st hR5 (hgr _ _)
        obtain ⟨a3, b3'⟩ := a2.turn_br (-1)
        obtain ⟨W6, hW6⟩ : ∃ W6, ((wr.setCell ⟨B, 3, none⟩ (.slice A3 m k3)).setCell ⟨B, 5, none⟩ (.slice (some ad) N5 k5)).setCell ⟨B, 6, none⟩ (.int .i64 (-1)) = W6 := ⟨_, rfl⟩
        rw [hW6] at a3 b3'
        have hbw6 : Below W6.heap.size W6 W6.drew := below_drew (Below.refl _ _)
        obtain ⟨T6, p6, E6, h6, m6, f6, e6⟩ : ∃ T6 p6 E6, EngIn W6.drew B T6 E6 p6 ∧ Moved T T6 w W6.drew ∧ p6.fw = p.fw ∧ E6 = E.popped m := ⟨_, _, _, a3.below hbw6, HM1.out.trans (b1.trans (b2.trans (b3'.trans (Moved.of_below hbw6)))), rfl, by
          unfold Eng.popped
          rw [HDS.out, HE1'.out, HSS.out, List.dropLast_concat]⟩
        have hlit6 : E6.Lits := by
          unfold Eng.Lits
          rw [e6]
          show ∀ c ∈ (E.dels (E.tr.drop m)).cls, _
          rw [HDS.out, HE1'.out, S1.out]
          exact HL.out
        have HCALL := K0 (eng_settle.calls k E6 B T6 p6 E3 _ h6 hlit6 (by rw [e6]; exact HS.out))
        have HM6 := K0 m6; have HW6 := K0 hW6; have HF6 := K0 f6; clear hW6 a1 b1 a2 b2 a3 b3' h6 m6 f6 e6 hlit6 hR3 hR5 hk3 hgr hbw6 d3 d5 g0 g5 g6 r5 r6 g35 g36 g33
        go_wp2_with fail
        rw [HW6.out]
        refine HCALL.out.mono ?_
        rintro e' w8 ⟨rfl, T8, p8, h8, m8, f8⟩
        have H8 := K0 h8
        have M8 := K0 (HM6.out.trans m8)
        have F8 := K0 (f8.trans HF6.out)
        clear h8 m8 f8 HCALL
        go_wp2
        go_ret
        exact ⟨rfl, T8, p8, H8.out, M8.out, F8.out⟩
def sequiturref18_Long.l0 : Nat → List (List Int) → Int → Option (Bool)
  | 0, _, _ => none
  | k + 1, x0, x5 => if x5 < (x0.length : Int) then (if 0 ≤ x5 then (if ((rd_L3 x0 x5).length : Int) > 70 then (some true) else (sequiturref18_Long.l0 k x0 (wrap64 (x5 + 1)))) else (none)) else (some false)
def sequiturref18_Long.f (k : Nat) (l0 : List (List Int)) (a1 : Int) : Option (Bool) := if (l0.length : Int) > a1 then (some true) else (sequiturref18_Long.l0 k l0 0)
set_option maxHeartbeats 8000000 in
set_option maxRecDepth 100000 in
theorem sequiturref18_Long.calls (k : Nat) (A0 : Option Addr) (c0 : Nat) (l0 : List (List Int)) (a1 : Int) (r : Bool) (w : World) (hr0 : Kd.C (Kd.slice 3 (Kd.int .i64)) w A0 l0.length l0) (hc0 : l0.length ≤ c0) (h : sequiturref18_Long.f k l0 a1 = some r) :
    Calls Try.prog 18 #[.slice A0 l0.length c0, .int .i64 a1] w fun e w' => e = .returned (.bool r) ∧ Drawn0 w w' := by
  have HR0 := K0 hr0
  have HC0 := K0 hc0
  clear hr0 hc0
  have H : (if (l0.length : Int) > a1 then (some true) else (sequiturref18_Long.l0 k l0 0)) = some r := h
  clear h
  by_cases c3 : (l0.length : Int) > a1
  · rw [if_pos c3] at H
    have c3b0 : decide (a1 < (l0.length : Int)) = true := decide_eq_true c3
    clear c3
    as_aux_lemma =>
      obtain rfl := Option.some.inj H
      go_enter Try.func18, Try.ntmps18
      go_wp2
      go_ret
      exact ⟨by first | rfl | (simp; done) | (simp [*]; done), by repeat (first | exact Drawn0.refl _ | apply Drawn0.step)⟩
  · rw [if_neg c3] at H
    have c3b0 : decide (a1 < (l0.length : Int)) = false := decide_eq_false c3
    clear c3
    have H' := K0 H
    clear H
    go_enter Try.func18, Try.ntmps18
    go_wp2
    go_loopg [5] k (fun kq v5 w' => ∃ (x5_1 : Int), v5 = .int .i64 x5_1 ∧ Aside0 (sequiturref18_Long.l0 kq l0 x5_1 = some r) ∧ Aside0 (kq ≤ k) ∧ Drawn0 w w')
    case atStart => exact ⟨(0), (by first | rfl | (simp; done) | (simp [*]; done)), H', ⟨Nat.le_refl _⟩, by repeat (first | exact Drawn0.refl _ | apply Drawn0.step)⟩
    case round =>
      clear H'
      try clear c1
      try clear p2
      try clear c3
      try clear c3b0
      obtain ⟨x5_1, rfl, HA, HK1, ⟨m1, rfl⟩⟩ := hrel
      cases gk with
      | zero => exact absurd HA.out (by simp [sequiturref18_Long.l0])
      | succ k1 =>
        have H := HA.out
        clear HA
        simp only [sequiturref18_Long.l0] at H
        by_cases c4 : x5_1 < (l0.length : Int)
        · rw [if_pos c4] at H
          have c4b0 : decide (x5_1 < (l0.length : Int)) = true := decide_eq_true c4
          clear c4
          by_cases c5 : 0 ≤ x5_1
          · rw [if_pos c5] at H
            have c5b0 : decide (0 ≤ x5_1) = true := decide_eq_true c5
            clear c5
            by_cases c6 : ((rd_L3 l0 x5_1).length : Int) > 70
            · rw [if_pos c6] at H
              have c6b0 : decide (70 < ((rd_L3 l0 x5_1).length : Int)) = true := decide_eq_true c6
              have c6b1 : decide (70 < (rd_L3 l0 x5_1).length) = true := decide_eq_true (by omega)
              clear c6
              as_aux_lemma =>
                obtain rfl := Option.some.inj H
                have p322 : 0 ≤ (x5_1 : Int) := of_decide_eq_true (by first | (with_reducible assumption) | assumption)
                have q322 : x5_1 < (l0.length : Int) := of_decide_eq_true (by first | (with_reducible assumption) | assumption)
                obtain ⟨ad322, A322_0, c322_0, e322, hx322_0, hl322_0, hi322_0⟩ := at_L3 HR0.out x5_1 p322 q322
                cases e322
                have HR322_0 := K0 hi322_0
                have HC322_0 := K0 hl322_0
                clear hi322_0 hl322_0
                replace p322 := eq_true p322
                replace q322 := eq_true q322
                go_wp2
                go_ret
                exact ⟨by first | rfl | (simp; done) | (simp [*]; done), by repeat (first | exact Drawn0.refl _ | apply Drawn0.step)⟩
            · rw [if_neg c6] at H
              have c6b0 : decide (70 < ((rd_L3 l0 x5_1).length : Int)) = false := decide_eq_false c6
              have c6b1 : decide (70 < (rd_L3 l0 x5_1).length) = false := decide_eq_false (by omega)
              clear c6
              as_aux_lemma =>
                have H' := K0 H
                clear H
                have p322 : 0 ≤ (x5_1 : Int) := of_decide_eq_true (by first | (with_reducible assumption) | assumption)
                have q322 : x5_1 < (l0.length : Int) := of_decide_eq_true (by first | (with_reducible assumption) | assumption)
                obtain ⟨ad322, A322_0, c322_0, e322, hx322_0, hl322_0, hi322_0⟩ := at_L3 HR0.out x5_1 p322 q322
                cases e322
                have HR322_0 := K0 hi322_0
                have HC322_0 := K0 hl322_0
                clear hi322_0 hl322_0
                replace p322 := eq_true p322
                replace q322 := eq_true q322
                go_wp2
                go_roundg k1
                case measure => have := HK1.out; omega
                case rel => exact ⟨(wrap64 (x5_1 + 1)), (by first | rfl | (simp; done) | (simp [*]; done)), H', ⟨by have := HK1.out; omega⟩, by repeat (first | exact Drawn0.refl _ | apply Drawn0.step)⟩
          · rw [if_neg c5] at H
            exact absurd H (by simp)
        · rw [if_neg c4] at H
          have c4b0 : decide (x5_1 < (l0.length : Int)) = false := decide_eq_false c4
          clear c4
          as_aux_lemma =>
            obtain rfl := Option.some.inj H
            go_wp2
            go_ret
            exact ⟨by first | rfl | (simp; done) | (simp [*]; done), by repeat (first | exact Drawn0.refl _ | apply Drawn0.step)⟩
def sequiturlaw21_long.f (k : Nat) (a0_0 : Int) (l0_1 : List (List Int)) (l1 : List Int) : Option (Bool) := (sequiturref18_Long.f k l0_1 20).bind fun t324 => (if t324 = true then (some true) else (if (l1.length : Int) > 20 then (some true) else (some (decide (a0_0 > 60)))))
set_option maxHeartbeats 8000000 in
set_option maxRecDepth 100000 in
theorem sequiturlaw21_long.calls (k : Nat) (a0_0 : Int) (A0_1 : Option Addr) (c0_1 : Nat) (l0_1 : List (List Int)) (A1 : Option Addr) (c1 : Nat) (l1 : List Int) (r : Bool) (w : World) (hr0_1 : Kd.C (Kd.slice 3 (Kd.int .i64)) w A0_1 l0_1.length l0_1) (hc0_1 : l0_1.length ≤ c0_1) (hr1 : Kd.C (Kd.int .i64) w A1 l1.length l1) (hc1 : l1.length ≤ c1) (h : sequiturlaw21_long.f k a0_0 l0_1 l1 = some r) :
    Calls Try.prog 17 #[.agg #[.int .i64 a0_0, .slice A0_1 l0_1.length c0_1], .slice A1 l1.length c1] w fun e w' => e = .returned (.bool r) ∧ Below w.heap.size w w' := by
  have hu24 := Try.underlying24
  have HR0_1 := K0 hr0_1
  have HC0_1 := K0 hc0_1
  clear hr0_1 hc0_1
  have HR1 := K0 hr1
  have HC1 := K0 hc1
  clear hr1 hc1
  have HB := K0 (Below.refl w.heap.size w)
  have H : ((sequiturref18_Long.f k l0_1 20).bind fun t324 => (if t324 = true then (some true) else (if (l1.length : Int) > 20 then (some true) else (some (decide (a0_0 > 60)))))) = some r := h
  clear h
  replace H := Option.bind_eq_some_iff.mp H
  obtain ⟨t324, A30, H⟩ := H
  replace H : (if t324 = true then (some true) else (if (l1.length : Int) > 20 then (some true) else (some (decide (a0_0 > 60))))) = some r := H
  have A3 := K0 A30
  clear A30
  by_cases c4 : t324 = true
  · subst c4
    have H1 : (some true) = some r := by rw [if_pos rfl] at H; exact H
    clear H
    have H := H1
    clear H1
    as_aux_lemma =>
      obtain rfl := Option.some.inj H
      go_enter Try.func17, Try.ntmps17
      go_wp2_with (first | ((with_reducible refine gate_dst (N := 2) rfl ?_); (try (refine gate_guard (by rfl) ?_; dsimp only)); refine box_event ?hg (N := 2) ?hd (cs := #[.int .i64 a0_0, .slice A0_1 l0_1.length c0_1]) (t := 24) ?hr ?_; (case hd => rfl); (case hg => rfl); (case hr => first | (go_simp; done) | (go_simp; rfl)); intro gb323 hg w5 hbox hb; have n0_ := K0 (below_step (by repeat (first | (with_reducible first | exact HB.out | apply below_alloc | apply pw_below_drewN | apply below_drew1) | exact HB.out)) hb); have n1_ := K0 (hbox); have n2_ := K0 ((by rw [hg]; exact (below_size (by repeat (first | (with_reducible first | exact HB.out | apply below_alloc | apply pw_below_drewN | apply below_drew1) | exact HB.out))) : w.heap.size ≤ gb323)); have n3_ := K0 ((by rw [hg]; exact (below_size (by repeat (first | (with_reducible first | exact HB.out | apply below_alloc | apply pw_below_drewN | apply below_drew1) | exact HB.out))) : w.heap.size ≤ gb323)); clear HB; have HB := n0_; have BK323 := n1_; have GW323 := n2_; have GE323 := n3_; clear n0_ n1_ n2_ n3_; clear hb hbox hg; have hcz6_0 : w5.cell? ⟨gb323, 0, none⟩ = some (.int .i64 a0_0) := (blk_cell BK323.out 0).trans rfl; have hcz6_1 : w5.cell? ⟨gb323, 1, none⟩ = some (.slice A0_1 l0_1.length c0_1) := (blk_cell BK323.out 1).trans rfl; have hfz6_0 := blk_frozen BK323.out 0; have hfz6_1 := blk_frozen BK323.out 1) | ((with_reducible refine gate_callee (f := 18) rfl ?_); refine goesL_ (some 7) rfl rfl Try.func18 (by kernel_rfl) rfl #[.slice A0_1 l0_1.length c0_1, .int .i64 20] rfl (by (try simp only [List.map_toArray, List.map_cons, List.map_nil]); first | done | rfl | (simp only [List.length_drop, List.length_take]; rfl)) ?_; (with_reducible refine (sequiturref18_Long.calls k _ _ l0_1 20 true _ ?side1 ?side2 A3.out).mono ?_); (case side1 => repeat (first | exact (Kd.C_below HR0_1.out HB.out) | (with_reducible refine Kd.C_alloc ?_ _) | (with_reducible refine Kd.C_drewN ?_ _) | (with_reducible refine Kd.C_drew ?_))); (case side2 => exact HC0_1.out); rintro e w' ⟨rfl, ⟨nd, rfl⟩⟩; refine ⟨_, rfl, ?_⟩))
      go_ret
      exact ⟨by first | rfl | (simp [errW_none, errW_some] <;> rfl) | (simp [*, errW_none, errW_some] <;> rfl), by repeat (first | (with_reducible first | exact HB.out | apply below_alloc | apply pw_below_drewN | apply below_drew1 | refine below_set ?_ GE323.out) | exact HB.out)⟩
  · replace c4 := Bool.eq_false_iff.mpr c4
    subst c4
    have H1 : (if (l1.length : Int) > 20 then (some true) else (some (decide (a0_0 > 60)))) = some r := by rw [if_neg (show ¬ (false = true) by decide)] at H; exact H
    clear H
    have H := H1
    clear H1
    by_cases c7 : (l1.length : Int) > 20
    · rw [if_pos c7] at H
      have c7b0 : decide (20 < (l1.length : Int)) = true := decide_eq_true c7
      have c7b1 : decide (20 < l1.length) = true := decide_eq_true (by omega)
      clear c7
      as_aux_lemma =>
        obtain rfl := Option.some.inj H
        go_enter Try.func17, Try.ntmps17
        go_wp2_with (first | ((with_reducible refine gate_dst (N := 2) rfl ?_); (try (refine gate_guard (by rfl) ?_; dsimp only)); refine box_event ?hg (N := 2) ?hd (cs := #[.int .i64 a0_0, .slice A0_1 l0_1.length c0_1]) (t := 24) ?hr ?_; (case hd => rfl); (case hg => rfl); (case hr => first | (go_simp; done) | (go_simp; rfl)); intro gb323 hg w8 hbox hb; have n0_ := K0 (below_step (by repeat (first | (with_reducible first | exact HB.out | apply below_alloc | apply pw_below_drewN | apply below_drew1) | exact HB.out)) hb); have n1_ := K0 (hbox); have n2_ := K0 ((by rw [hg]; exact (below_size (by repeat (first | (with_reducible first | exact HB.out | apply below_alloc | apply pw_below_drewN | apply below_drew1) | exact HB.out))) : w.heap.size ≤ gb323)); have n3_ := K0 ((by rw [hg]; exact (below_size (by repeat (first | (with_reducible first | exact HB.out | apply below_alloc | apply pw_below_drewN | apply below_drew1) | exact HB.out))) : w.heap.size ≤ gb323)); clear HB; have HB := n0_; have BK323 := n1_; have GW323 := n2_; have GE323 := n3_; clear n0_ n1_ n2_ n3_; clear hb hbox hg; have hcz9_0 : w8.cell? ⟨gb323, 0, none⟩ = some (.int .i64 a0_0) := (blk_cell BK323.out 0).trans rfl; have hcz9_1 : w8.cell? ⟨gb323, 1, none⟩ = some (.slice A0_1 l0_1.length c0_1) := (blk_cell BK323.out 1).trans rfl; have hfz9_0 := blk_frozen BK323.out 0; have hfz9_1 := blk_frozen BK323.out 1) | ((with_reducible refine gate_callee (f := 18) rfl ?_); refine goesL_ (some 7) rfl rfl Try.func18 (by kernel_rfl) rfl #[.slice A0_1 l0_1.length c0_1, .int .i64 20] rfl (by (try simp only [List.map_toArray, List.map_cons, List.map_nil]); first | done | rfl | (simp only [List.length_drop, List.length_take]; rfl)) ?_; (with_reducible refine (sequiturref18_Long.calls k _ _ l0_1 20 false _ ?side1 ?side2 A3.out).mono ?_); (case side1 => repeat (first | exact (Kd.C_below HR0_1.out HB.out) | (with_reducible refine Kd.C_alloc ?_ _) | (with_reducible refine Kd.C_drewN ?_ _) | (with_reducible refine Kd.C_drew ?_))); (case side2 => exact HC0_1.out); rintro e w' ⟨rfl, ⟨nd, rfl⟩⟩; refine ⟨_, rfl, ?_⟩))
        go_ret
        exact ⟨by first | rfl | (simp [errW_none, errW_some] <;> rfl) | (simp [*, errW_none, errW_some] <;> rfl), by repeat (first | (with_reducible first | exact HB.out | apply below_alloc | apply pw_below_drewN | apply below_drew1 | refine below_set ?_ GE323.out) | exact HB.out)⟩
    · rw [if_neg c7] at H
      have c7b0 : decide (20 < (l1.length : Int)) = false := decide_eq_false c7
      have c7b1 : decide (20 < l1.length) = false := decide_eq_false (by omega)
      clear c7
      as_aux_lemma =>
        obtain rfl := Option.some.inj H
        go_enter Try.func17, Try.ntmps17
        go_wp2_with (first | ((with_reducible refine gate_dst (N := 2) rfl ?_); (try (refine gate_guard (by rfl) ?_; dsimp only)); refine box_event ?hg (N := 2) ?hd (cs := #[.int .i64 a0_0, .slice A0_1 l0_1.length c0_1]) (t := 24) ?hr ?_; (case hd => rfl); (case hg => rfl); (case hr => first | (go_simp; done) | (go_simp; rfl)); intro gb323 hg w10 hbox hb; have n0_ := K0 (below_step (by repeat (first | (with_reducible first | exact HB.out | apply below_alloc | apply pw_below_drewN | apply below_drew1) | exact HB.out)) hb); have n1_ := K0 (hbox); have n2_ := K0 ((by rw [hg]; exact (below_size (by repeat (first | (with_reducible first | exact HB.out | apply below_alloc | apply pw_below_drewN | apply below_drew1) | exact HB.out))) : w.heap.size ≤ gb323)); have n3_ := K0 ((by rw [hg]; exact (below_size (by repeat (first | (with_reducible first | exact HB.out | apply below_alloc | apply pw_below_drewN | apply below_drew1) | exact HB.out))) : w.heap.size ≤ gb323)); clear HB; have HB := n0_; have BK323 := n1_; have GW323 := n2_; have GE323 := n3_; clear n0_ n1_ n2_ n3_; clear hb hbox hg; have hcz11_0 : w10.cell? ⟨gb323, 0, none⟩ = some (.int .i64 a0_0) := (blk_cell BK323.out 0).trans rfl; have hcz11_1 : w10.cell? ⟨gb323, 1, none⟩ = some (.slice A0_1 l0_1.length c0_1) := (blk_cell BK323.out 1).trans rfl; have hfz11_0 := blk_frozen BK323.out 0; have hfz11_1 := blk_frozen BK323.out 1) | ((with_reducible refine gate_callee (f := 18) rfl ?_); refine goesL_ (some 7) rfl rfl Try.func18 (by kernel_rfl) rfl #[.slice A0_1 l0_1.length c0_1, .int .i64 20] rfl (by (try simp only [List.map_toArray, List.map_cons, List.map_nil]); first | done | rfl | (simp only [List.length_drop, List.length_take]; rfl)) ?_; (with_reducible refine (sequiturref18_Long.calls k _ _ l0_1 20 false _ ?side1 ?side2 A3.out).mono ?_); (case side1 => repeat (first | exact (Kd.C_below HR0_1.out HB.out) | (with_reducible refine Kd.C_alloc ?_ _) | (with_reducible refine Kd.C_drewN ?_ _) | (with_reducible refine Kd.C_drew ?_))); (case side2 => exact HC0_1.out); rintro e w' ⟨rfl, ⟨nd, rfl⟩⟩; refine ⟨_, rfl, ?_⟩))
        go_ret
        exact ⟨by first | rfl | (simp [errW_none, errW_some] <;> rfl) | (simp [*, errW_none, errW_some] <;> rfl), by repeat (first | (with_reducible first | exact HB.out | apply below_alloc | apply pw_below_drewN | apply below_drew1 | refine below_set ?_ GE323.out) | exact HB.out)⟩
end Go.Proofs.Ytkmlekfmccghjaa.P
