import Derived.StillTailTactics
import Derived.Shelf.Abstract
import Derived.Laws.EntriesVeiled
import Derived.Test.YtkmlekfmccghjaaKLearnTrace1
import Derived.Test.YtkmlekfmccghjaaKLearnTrace2
import Derived.Test.YtkmlekfmccghjaaKLearnTrace11
import Derived.Test.YtkmlekfmccghjaaKLearnTrace6
import Derived.Test.YtkmlekfmccghjaaKLearnTrace7
namespace Go.Proofs.Ytkmlekfmccghjaa.P
open Go.RowKit Go.Proofs.YtkmlekfmccghjaaW.PrintWords Go.Proofs.YtkmlekfmccghjaaW.PrintLast Go.Proofs.YtkmlekfmccghjaaW.PrintMore
attribute [local go_sem] max2_int min2_int max_two min_two max_three min_three max_four min_four
set_option linter.unusedVariables false
set_option linter.unusedSimpArgs false
def plT (tr : List Int) : Nat → Int → Option Int
  | 0, _ => none
  | j + 1, x => if x = tr.getD j 0 then some (j : Int) else plT tr j x
theorem plT_set (tr : List Int) (j : Nat) (y : Int) : setI (plV (plT tr j)) (tr.getD j 0) (some (.int .i64 (j : Int))) y = plV (plT tr (j + 1)) y := by
  unfold setI plV
  simp only [plT]
  by_cases e : y = tr.getD j 0
  case neg =>
    rw [if_neg e, if_neg e]
  rw [if_pos e, if_pos e]; rfl
theorem plT_keys (tr : List Int) : ∀ (j : Nat), j ≤ tr.length → ∀ x, (plV (plT tr j) x).isSome = true → x ∈ tr
  | 0, _, x, h => by unfold plV plT at h; cases h
  | j + 1, hj, x, h => by
    unfold plV at h
    simp only [plT] at h
    by_cases e : x = tr.getD j 0
    case neg =>
      rw [if_neg e] at h; exact plT_keys tr j (by omega) x h
    rw [e, show tr.getD j 0 = tr[j]'(by omega) by simp [List.getD, List.getElem?_eq_getElem (show j < tr.length by omega)]]; exact List.getElem_mem (by omega)
theorem ix_any (p : Int → Bool) : ∀ (xs : List Int) (i : Int), 0 ≤ i → decide (0 ≤ ixOf p xs i) = xs.any p
  | [], i, _ => rfl
  | x :: t, i, hi => by
    rw [ixOf, List.any_cons]
    by_cases h : p x = true
    case pos =>
      rw [if_pos h, h, decide_eq_true hi]; rfl
    rw [if_neg h, ix_any p t (i + 1) (by omega)]
    simp [h]
set_option maxRecDepth 100000 in
set_option maxHeartbeats 8000000 in
theorem learn_begin.calls (E : Eng) (B : Nat) (T : Tag) (p : EngP) (N : Int) (A0 : Option Addr) (c0 : Nat) (L : List (List Int)) (r : List Int) (ok : Bool) (w : World)
    (hE : EngIn w B T E p) (hl : E.tr.length < 4398046511104) (htr : ∀ x ∈ E.tr, (Lit.int .i64 x).wf = true) (hL : Kd.C (Kd.slice 3 (Kd.int .i64)) w A0 L.length L) (hc : L.length ≤ c0) (hn : NumP L E.br r ok) :
    Calls Try.prog 49 #[.pointer (some ⟨B, 0, none⟩), .agg #[.int .i64 N, .slice A0 L.length c0]] w fun e w' => Below w.heap.size w w' ∧
      ((ok && r.all (fun x => (plT E.tr E.tr.length (wrap64 (-x))).isSome)) = true → ∃ gX bP vC vF, e = .returned (.tuple #[.pointer (some ⟨gX, 0, none⟩), .bool true]) ∧ ResIn w w' gX bP B N A0 c0 L (plT E.tr E.tr.length) (fun _ => True) vC vF r [E.br]) ∧
      ((ok && r.all (fun x => (plT E.tr E.tr.length (wrap64 (-x))).isSome)) = false → e = .returned (.tuple #[.pointer none, .bool false])) := by
  have huR := Try.underlying91
  have huC := Try.underlying24
  have hbig := hL.2.1
  have HE := K0 hE; have HL := K0 hL; have HN := K0 hn; have HT := K0 htr
  have hmm := @run_makeMap Try.prog
  clear hE hL hn htr
  go_enter Try.func49, Try.ntmps49
  go_wp2_with fail
  obtain ⟨g, hg⟩ : ∃ g, w.heap.size = g := ⟨_, rfl⟩
  obtain ⟨W1, hW1⟩ : ∃ W1, w.alloc (.cells #[.int .i64 N, .slice A0 L.length c0] 24) = W1 := ⟨_, rfl⟩
  obtain ⟨W2, hW2⟩ : ∃ W2, W1.alloc (.map #[] 0) = W2 := ⟨_, rfl⟩
  obtain ⟨W3, hW3⟩ : ∃ W3, W2.alloc (.cells #[.pointer (some ⟨B, 0, none⟩), .int .i64 N, .slice A0 L.length c0, .map (some (g + 1)), .slice none 0 0, .slice none 0 0] 91) = W3 := ⟨_, rfl⟩
  obtain ⟨W4, hW4⟩ : ∃ W4, W3.alloc (.cells #[.pointer (some ⟨g + 1 + 1, 0, none⟩)] 84) = W4 := ⟨_, rfl⟩
  have z1 : W1.heap.size = w.heap.size + 1 := by rw [← hW1]; exact Array.size_push _
  have z2 : W2.heap.size = W1.heap.size + 1 := by rw [← hW2]; exact Array.size_push _
  have z3 : W3.heap.size = W2.heap.size + 1 := by rw [← hW3]; exact Array.size_push _
  have z4 : W4.heap.size = W3.heap.size + 1 := by rw [← hW4]; exact Array.size_push _
  have hb1 : Below w.heap.size w W1 := by rw [← hW1]; exact below_alloc (Below.refl _ _) _
  have hb2 : Below w.heap.size w W2 := by rw [← hW2]; exact below_alloc hb1 _
  have hb3 : Below w.heap.size w W3 := by rw [← hW3]; exact below_alloc hb2 _
  have hb4 : Below w.heap.size w W4 := by rw [← hW4]; exact below_alloc hb3 _
  have m2 : MapI Try.prog 3 W2 (g + 1) (plV (plT E.tr 0)) := by
    have := MapI.made W1 Try.prog 3
    rw [hW2, z1, hg] at this
    exact this.congr (fun x => rfl)
  have n3 := blk_new W2 (.cells #[.pointer (some ⟨B, 0, none⟩), .int .i64 N, .slice A0 L.length c0, .map (some (g + 1)), .slice none 0 0, .slice none 0 0] 91)
  have n4 := blk_new W3 (.cells #[.pointer (some ⟨g + 1 + 1, 0, none⟩)] 84)
  rw [hW3, z2, z1, hg] at n3
  rw [hW4, z3, z2, z1, hg] at n4
  have b3 : Below W2.heap.size W2 W3 := by rw [← hW3]; exact below_alloc (Below.refl _ _) _
  have b4 : Below W3.heap.size W3 W4 := by rw [← hW4]; exact below_alloc (Below.refl _ _) _
  have hz : W4.heap.size = g + 4 := by omega
  have HB4 := K0 hb4; have HZ4 := K0 hz
  have HM4 := K0 ((m2.block (b3.block _ m2.lt)).block (b4.block _ (Nat.lt_of_lt_of_le m2.lt b3.size)))
  have HX4 := K0 (blk_below n3 b4)
  have HN4 := K0 n4; have HG := K0 hg
  have A1 := K0 (eng_Trail.calls E B T p W4 (HE.out.below hb4) hl)
  rw [hW1, hW2, hg, hW3, hW4]
  clear hW1 hW2 hW3 hW4 z1 z2 z3 z4 hb1 hb2 hb3 hb4 m2 n3 n4 b3 b4 hz hmm
  refine A1.out.mono ?_
  rintro e' w1 ⟨v1, rfl, r1, hb1⟩
  have hz4 := HZ4.out
  obtain ⟨A1', k1, e1⟩ := Kd.R_slice r1
  subst e1
  have HC1 := K0 (Kd.V_reads' (Kd.R_V (base' := 0) r1)).2.2
  have hbr : E.tr.length ≤ 9223372036854775807 := HC1.out.2.1
  have HB1 := K0 (show Below w.heap.size w w1 from below_step HB4.out hb1)
  have HM1 := K0 (HM4.out.block (hb1.block _ HM4.out.lt))
  have HX1 := K0 (blk_below HX4.out hb1)
  have HN1 := K0 (blk_below HN4.out hb1)
  have HZ1 := K0 (show g + 4 ≤ w1.heap.size from HZ4.out ▸ hb1.size)
  have r1' := r1
  clear hb1 r1 A1 HB4 HM4 HX4 HN4 HZ4 hg
  go_wp2_with fail
  have HR1 := K0 (show Kd.R (Kd.int .i64) 3 w1 0 (fun k => k ≠ g + 1) (.slice A1' E.tr.length k1) E.tr from Kd.R_mono (Kd.R_lower (Kd.R_bound r1') (Nat.zero_le _)) (fun k hk => by have := hk.2.1; omega))
  clear r1' HC1
  go_loopg [7, 8, 20] E.tr.length (fun gg v7 v8 v20 wr => ∃ (j : Nat), v20 = .int .i64 (j : Int) ∧ Aside0 (j + gg = E.tr.length) ∧ Aside0 (Below w.heap.size w wr) ∧ Aside0 (MapI Try.prog 3 wr (g + 1) (plV (plT E.tr j))) ∧ Aside0 (wr.heap[g + 1 + 1]? = w1.heap[g + 1 + 1]? ∧ wr.heap[g + 1 + 1 + 1]? = w1.heap[g + 1 + 1 + 1]?) ∧ Aside0 (Kd.R (Kd.int .i64) 3 wr 0 (fun k => k ≠ g + 1) (.slice A1' E.tr.length k1) E.tr) ∧ Aside0 (g + 4 ≤ wr.heap.size))
  case atStart => exact ⟨0, rfl, ⟨by simp⟩, HB1, HM1, ⟨rfl, rfl⟩, HR1, HZ1⟩
  case round =>
    clear HB1 HM1 HR1
    obtain ⟨j, rfl, hgg, HB, HM, HK, HR, HZ⟩ := hrel
    have px : wr.cell? ⟨g + 1 + 1, 3, none⟩ = some (.map (some (g + 1))) := (blk_cell (HK.out.1.trans HX1.out) 3).trans rfl
    have p4 : wr.cell? ⟨g + 1 + 1 + 1, 0, none⟩ = some (.pointer (some ⟨g + 1 + 1, 0, none⟩)) := (blk_cell (HK.out.2.trans HN1.out) 0).trans rfl
    by_cases hlt : j < E.tr.length
    case pos =>
      obtain ⟨ad, e1, x1⟩ := Kd.at_int (Kd.V_reads' (Kd.R_V (base' := 0) HR.out)).2.2 (j : Int) (by omega) (by omega)
      cases e1
      obtain ⟨x, hx⟩ : ∃ x, E.tr[j] = x := ⟨_, rfl⟩
      have hrd : rd E.tr (j : Int) = x := by simp [rd, hlt, hx]
      have hgd : E.tr.getD j 0 = x := by simp [List.getD, List.getElem?_eq_getElem hlt, hx]
      rw [hrd] at x1
      simp only [Int.toNat_natCast] at x1
      have hwx : (Lit.int .i64 x).wf = true := HT.out x (by rw [← hx]; exact List.getElem_mem hlt)
      have HSET := K0 (plT_set E.tr j)
      rw [hgd] at HSET
      have Q0 : ((0 : Int) ≤ (j : Int)) = True := eq_true (by omega)
      have Q1 : ((j : Int) < (E.tr.length : Int)) = True := eq_true (by omega)
      have Q2 : (j < E.tr.length) = True := eq_true hlt
      have hd2 : decide ((j : Int) < (E.tr.length : Int)) = true := decide_eq_true (by omega)
      have HJ := K0 hlt; clear hx hrd hgd
      go_wp2_with (refine wpList_store_I rfl (.tmp 28) (.tmp 29) (.tmp 30) 89 rfl 3 3 Try.underlying3 Try.underlying89 (g + 1) (plV (plT E.tr j)) rfl HM.out x (.int .i64 (j : Int)) rfl rfl hwx E.tr (plT_keys E.tr j (Nat.le_of_lt HJ.out)) (by omega) ?_; intro w3 hM3 hg3; have HM3 := K0 (hM3.congr HSET.out); have HB3 := K0 (HB.out.grown hg3 HB.out.size (fun k e => by injection e with e; have := HG.out; omega)); have HK3 := K0 (show w3.heap[g + 1 + 1]? = w1.heap[g + 1 + 1]? ∧ w3.heap[g + 1 + 1 + 1]? = w1.heap[g + 1 + 1 + 1]? from ⟨(hg3.block _ (by have := HZ.out; omega) (fun e => by injection e with e; omega)).trans HK.out.1, (hg3.block _ (by have := HZ.out; omega) (fun e => by injection e with e; omega)).trans HK.out.2⟩); have HR3 := K0 (Kd.R_grown HR.out hg3 (fun k hk e => by injection e with e; exact hk e)); have HZ3 := K0 (show g + 4 ≤ w3.heap.size from Nat.le_trans HZ.out hg3.size); clear hM3 hg3)
      go_wp2
      go_roundg (E.tr.length - (j + 1))
      case measure => have := hgg.out; have := HJ.out; omega
      case rel => exact ⟨j + 1, by simp, ⟨by have := hgg.out; have := HJ.out; omega⟩, HB3, HM3, HK3, HR3, HZ3⟩
    have hd2 : decide ((j : Int) < (E.tr.length : Int)) = false := decide_eq_false (by omega)
    have Q2 : (j < E.tr.length) = False := eq_false hlt
    have hj : j = E.tr.length := by have := hgg.out; omega
    subst hj
    have HX2 := K0 (HK.out.1.trans HX1.out)
    have HN2 := K0 (HK.out.2.trans HN1.out)
    clear HX1 HN1 HK HR hgg hlt
    have A3 := K0 (eng_Broken.calls E B T p wr (HE.out.below HB.out))
    go_wp2_with fail
    refine A3.out.mono ?_
    rintro e' w2 ⟨rfl, rfl⟩
    have HS2 : Aside0 (ResIn w w2 (g + 1 + 1) (g + 1) B N A0 c0 L (plT E.tr E.tr.length) (fun _ => True) (.slice none 0 0) (.slice none 0 0) [] []) := ⟨⟨HB.out, HX2.out, HM.out, Kd.R_nil _ _ _ _ _, Kd.R_nil _ _ _ _ _, by have := HG.out; omega, fun _ _ => trivial⟩⟩
    clear HX2 A3 HM
    go_wp2_with fail
    refine (learn_number.calls w (g + 1 + 1) (g + 1) B N A0 c0 L _ _ _ _ _ _ E.br r ok w2 HS2.out HL.out HN.out).mono ?_
    rintro e' w3 ⟨v3, rfl, r3, hb3⟩
    obtain ⟨A3, k3, e3⟩ := Kd.R_slice r3
    subst e3
    have HS2b := K0 HS2.out.b.size
    have HS3 := K0 (HS2.out.below hb3)
    have HN3 := K0 (blk_below HN2.out hb3)
    have HR3 := K0 r3
    have HZ3 := K0 (Nat.le_trans HZ.out hb3.size)
    clear hb3 r3 HS2 HN2
    cases ok with
    | false =>
      go_wp2
      go_ret2
      exact ⟨HS3.out.b, (fun h => by cases h), fun _ => rfl⟩
    | true =>
      have hcc := (Kd.V_reads' (Kd.R_V (base' := 0) HR3.out)).2.2
      have A4 := K0 (slices_ContainsFunc_int.calls 81 #[.pointer (some ⟨g + 1 + 1 + 1, 0, none⟩)] (enters_of Try.func81 (by kernel_rfl) rfl) (fun x => (plT E.tr E.tr.length (wrap64 (-x))).isNone) A3 k3 r w3 hcc (fun W hW x hx => learn_begin_1.calls (g + 1 + 1 + 1) w (g + 1 + 1) (g + 1) B N A0 c0 L _ _ _ _ _ _ x W (HS3.out.below hW) ((blk_cell (blk_below HN3.out hW) 0).trans rfl)))
      clear hcc
      go_wp2_with fail
      refine A4.out.mono ?_
      rintro e' w4 ⟨rfl, hb4⟩
      rw [ix_any _ _ _ (Int.le_refl 0)]
      have HS4 := K0 (HS3.out.below hb4)
      have HN4 := K0 (blk_below HN3.out hb4)
      have HR4 := K0 (Kd.R_below HR3.out hb4)
      have HZ4 := K0 (Nat.le_trans HZ3.out hb4.size)
      have HZR := K0 hb4.size
      clear hb4 HS3 HN3 A4
      obtain ⟨b, hb⟩ : ∃ b, r.any (fun x => (plT E.tr E.tr.length (wrap64 (-x))).isNone) = b := ⟨_, rfl⟩
      have hall : r.all (fun x => (plT E.tr E.tr.length (wrap64 (-x))).isSome) = !b := by
        rw [← hb, List.any_eq_not_all_not, Bool.not_not]
        congr 1
        funext x
        cases plT E.tr E.tr.length (wrap64 (-x)) <;> rfl
      rw [hb]
      have HALL := K0 hall
      cases b with
      | true =>
        clear hb hall
        go_wp2
        go_ret2
        have ha := HALL.out
        rw [Bool.not_true] at ha
        exact ⟨HS4.out.b, (fun h => by rw [Bool.true_and, ha] at h; cases h), fun _ => rfl⟩
      | false =>
        clear hb hall
        go_upto_region 11 with fail
        have p4 : w4.cell? ⟨g + 1 + 1 + 1, 0, none⟩ = some (.pointer (some ⟨g + 1 + 1, 0, none⟩)) := (blk_cell HN4.out 0).trans rfl
        have HLT := K0 (blk_lt HS4.out.x)
        have HX9 := K0 (show ((w4.setCell ⟨g + 1 + 1, 4, none⟩ (.slice A3 r.length k3)).alloc (.cells #[.int .i64 E.br] 3)).heap[g + 1 + 1]? = some (.cells #[.pointer (some ⟨B, 0, none⟩), .int .i64 N, .slice A0 L.length c0, .map (some (g + 1)), .slice A3 r.length k3, .slice none 0 0] 91 (0, 0)) from blk_below (blk_put HS4.out.x 4 (.slice A3 r.length k3) rfl) (below_alloc (Below.refl _ _) _))
        have HX8 := K0 (show (w4.alloc (.cells #[.int .i64 E.br] 3)).heap[g + 1 + 1]? = _ from blk_below HS4.out.x (below_alloc (Below.refl _ _) _))
        refine start_ (n := 11) (S := fun w' => w'.cell? ⟨g + 1 + 1 + 1, 0, none⟩ = some (.pointer (some ⟨g + 1 + 1, 0, none⟩))) (ds := [10]) #[false, false, false, false, false, false, false, false, false, false, false] (by kernel_rfl) rfl rfl (p4) (fun hHeld => ?_)
        refine pure_ (i := 2) (N := some 49) (v := ?_) (a' := ?_) #[false, false, true, false, false, false, false, false, false, false, false] rfl rfl (by kernel_rfl) (fun _ _ _ h => h) (Or.inl ⟨by rfl, ?_⟩) ?_ ?_
        rotate_left
        · intro w'
          go_simp
          with_reducible rfl
        rotate_left
        · simp only [Act.put, List.setIfInBounds_toArray, List.set_cons_zero, List.set_cons_succ, i64_w, i32_w]
          rfl
        refine pure_ (i := 3) (N := some 50) (v := ?_) (a' := ?_) #[false, false, true, true, false, false, false, false, false, false, false] rfl rfl (by kernel_rfl) (fun _ _ _ h => h) (Or.inl ⟨by rfl, ?_⟩) ?_ ?_
        rotate_left
        · intro w'
          go_simp
          with_reducible rfl
        rotate_left
        · simp only [Act.put, List.setIfInBounds_toArray, List.set_cons_zero, List.set_cons_succ, i64_w, i32_w]
          rfl
        refine take_ (i := 0) (N := some 47) (v := ?_) (a' := ?_) #[true, false, true, true, false, false, false, false, false, false, false] rfl rfl (by kernel_rfl) (fun _ _ _ h => h) (Or.inl ⟨by rfl, ?_⟩) hHeld ?_ ?_
        rotate_left
        · intro w' s0
          go_simp
          with_reducible rfl
        rotate_left
        · simp only [Act.put, List.setIfInBounds_toArray, List.set_cons_zero, List.set_cons_succ, i64_w, i32_w]
          rfl
        refine pure_ (i := 5) (N := some 52) (v := ?_) (a' := ?_) #[true, false, true, true, false, true, false, false, false, false, false] rfl rfl (by kernel_rfl) (fun _ _ _ h => h) (Or.inl ⟨by rfl, ?_⟩) ?_ ?_
        rotate_left
        · intro w'
          go_simp
          with_reducible rfl
        rotate_left
        · simp only [Act.put, List.setIfInBounds_toArray, List.set_cons_zero, List.set_cons_succ, i64_w, i32_w]
          rfl
        refine pure_ (i := 6) (N := some 53) (v := ?_) (a' := ?_) #[true, false, true, true, false, true, true, false, false, false, false] rfl rfl (by kernel_rfl) (fun _ _ _ h => h) (Or.inl ⟨by rfl, ?_⟩) ?_ ?_
        rotate_left
        · intro w'
          go_simp
          with_reducible rfl
        rotate_left
        · simp only [Act.put, List.setIfInBounds_toArray, List.set_cons_zero, List.set_cons_succ, i64_w, i32_w]
          rfl
        refine take_ (i := 1) (N := some 48) (v := ?_) (a' := ?_) #[true, true, true, true, false, true, true, false, false, false, false] rfl rfl (by kernel_rfl) (fun _ _ _ h => h) (Or.inl ⟨by rfl, ?_⟩) hHeld ?_ ?_
        rotate_left
        · intro w' s0
          go_simp
          with_reducible rfl
        rotate_left
        · simp only [Act.put, List.setIfInBounds_toArray, List.set_cons_zero, List.set_cons_succ, i64_w, i32_w]
          rfl
        refine join_ (σ := Unit) 3 #[true, true, true, true, true, true, true, true, false, false, false] (fun _ => [(51, .slice (some ⟨w4.heap.size, 0, none⟩) 1 1)]) (fun _ w' => w' = (w4.drew.setCell ⟨g + 1 + 1, 4, none⟩ (.slice A3 r.length k3)).alloc (.cells #[.int .i64 E.br] 3)) ?_ ?_
        rotate_left
        · intro hCont
          refine two_ (i := 4) (j := 7) (Ni := some 51) (Nj := none) #[true, true, true, true, true, true, true, false, false, false, false] #[true, true, true, true, false, true, true, true, false, false, false] rfl rfl rfl rfl (by kernel_rfl) (by decide) (by decide) (fun K hK => ?_) (fun K hK => ?_)
          · skip
            refine value_ (w1 := ?_) (v := ?_) (by rfl) rfl ?_ ?_
            rotate_left 2
            · go_simp
              constructor
              · rfl
              rfl
            refine hK.out _ _ (pw_cell_below (below_alloc (Below.refl _ _) _) hHeld) (fun hHeld => ?_)
            clear hK K
            refine norm_ (a' := ?_) ?_ ?_
            rotate_left
            · show Act.put _ (some 51) _ = _
              simp only [Act.put, List.setIfInBounds_toArray, List.set_cons_zero, List.set_cons_succ, i64_w, i32_w]
              rfl
            refine one_ (i := 7) (N := none) #[true, true, true, true, true, true, true, true, false, false, false] rfl rfl (by kernel_rfl) (by decide) (fun K hK => ?_)
            have hx5 := HX8.out
            have e4 := blk_cell hx5 4
            have y4 := blk_frozen hx5 4
            clear hx5
            refine skip_ (w1 := ?_) (by rfl) rfl ?_ ?_
            rotate_left
            · go_simp
              rfl
            refine hK.out _ _ (((World.cell?_setCell_far _ _ _ _ (by simp)).trans hHeld)) (fun hHeld => ?_)
            clear hK K
            exact norm_ (by simp only [putAll, Act.put, List.setIfInBounds_toArray, List.set_cons_zero, List.set_cons_succ]) (hCont () _ (by first | rfl | exact World.setCell_alloc_past _ _ _ _ HLT.out | exact congrArg World.drew (World.setCell_alloc_past _ _ _ _ HLT.out)))
          skip
          have hx5 := HS4.out.x
          have e4 := blk_cell hx5 4
          have y4 := blk_frozen hx5 4
          clear hx5
          refine skip_ (w1 := ?_) (by rfl) rfl ?_ ?_
          rotate_left
          · go_simp
            rfl
          refine hK.out _ _ (((World.cell?_setCell_far _ _ _ _ (by simp)).trans hHeld)) (fun hHeld => ?_)
          clear hK K
          refine one_ (i := 4) (N := some 51) #[true, true, true, true, true, true, true, true, false, false, false] rfl rfl (by kernel_rfl) (by decide) (fun K hK => ?_)
          refine value_ (w1 := ?_) (v := ?_) (by rfl) rfl ?_ ?_
          rotate_left 2
          · go_simp
            constructor
            · rfl
            rfl
          refine hK.out _ _ (pw_cell_below (below_alloc (Below.refl _ _) _) hHeld) (fun hHeld => ?_)
          clear hK K
          refine norm_ (a' := ?_) ?_ ?_
          rotate_left
          · show Act.put _ (some 51) _ = _
            simp only [Act.put, List.setIfInBounds_toArray, List.set_cons_zero, List.set_cons_succ, i64_w, i32_w]
            rfl
          exact norm_ (by simp only [putAll, Act.put, List.setIfInBounds_toArray, List.set_cons_zero, List.set_cons_succ]) (hCont () _ (by first | rfl | exact World.setCell_alloc_past _ _ _ _ HLT.out | exact congrArg World.drew (World.setCell_alloc_past _ _ _ _ HLT.out)))
        rintro _ w' rfl
        have hHeld : ((w4.drew.setCell ⟨g + 1 + 1, 4, none⟩ (.slice A3 r.length k3)).alloc (.cells #[.int .i64 E.br] 3)).cell? ⟨g + 1 + 1 + 1, 0, none⟩ = some (.pointer (some ⟨g + 1 + 1, 0, none⟩)) := pw_cell_below (below_alloc (Below.refl _ _) _) ((World.cell?_setCell_far _ _ _ _ (by simp)).trans p4)
        refine norm_ (a' := ?_) ?_ ?_
        rotate_left
        · simp only [putAll, Act.put, List.setIfInBounds_toArray, List.set_cons_zero, List.set_cons_succ]
          rfl
        refine pure_ (i := 8) (N := some 54) (v := ?_) (a' := ?_) #[true, true, true, true, true, true, true, true, true, false, false] rfl rfl (by kernel_rfl) (fun _ _ _ h => h) (Or.inl ⟨by rfl, ?_⟩) ?_ ?_
        rotate_left
        · intro w'
          go_simp
          with_reducible rfl
        rotate_left
        · simp only [Act.put, List.setIfInBounds_toArray, List.set_cons_zero, List.set_cons_succ, i64_w, i32_w]
          rfl
        refine pure_ (i := 9) (N := some 55) (v := ?_) (a' := ?_) #[true, true, true, true, true, true, true, true, true, true, false] rfl rfl (by kernel_rfl) (fun _ _ _ h => h) (Or.inl ⟨by rfl, ?_⟩) ?_ ?_
        rotate_left
        · intro w'
          go_simp
          with_reducible rfl
        rotate_left
        · simp only [Act.put, List.setIfInBounds_toArray, List.set_cons_zero, List.set_cons_succ, i64_w, i32_w]
          rfl
        refine last_ (i := 10) (N := none) #[true, true, true, true, true, true, true, true, true, true, true] rfl rfl (by kernel_rfl) (by decide) (fun K hK => ?_)
        have hx5 := HX9.out
        have e4 := blk_cell hx5 5
        have y4 := blk_frozen hx5 5
        clear hx5
        refine skip_ (w1 := ?_) (by rfl) rfl ?_ ?_
        rotate_left
        · go_simp
          rfl
        refine hK.out _ _ ?_
        clear hK K
        refine done_ (by kernel_rfl) ?_
        have HXF := K0 (blk_put HX9.out 5 (.slice (some ⟨w4.heap.size, 0, none⟩) 1 1) rfl)
        have hnw : ((w4.setCell ⟨g + 1 + 1, 4, none⟩ (.slice A3 r.length k3)).alloc (.cells #[.int .i64 E.br] 3)).heap[w4.heap.size]? = some (.cells #[.int .i64 E.br] 3 (0, 0)) := by
          have := blk_new (w4.setCell ⟨g + 1 + 1, 4, none⟩ (.slice A3 r.length k3)) (.cells #[.int .i64 E.br] 3)
          rwa [show (w4.setCell ⟨g + 1 + 1, 4, none⟩ (.slice A3 r.length k3)).heap.size = w4.heap.size by simp only [World.setCell, Array.size_modify]] at this
        have HNW := K0 (blk_far hnw (show w4.heap.size ≠ g + 1 + 1 by have := HLT.out; omega) (p := ⟨g + 1 + 1, 5, none⟩) (.slice (some ⟨w4.heap.size, 0, none⟩) 1 1))
        have hbf : Below w.heap.size w (((w4.setCell ⟨g + 1 + 1, 4, none⟩ (.slice A3 r.length k3)).alloc (.cells #[.int .i64 E.br] 3)).setCell ⟨g + 1 + 1, 5, none⟩ (.slice (some ⟨w4.heap.size, 0, none⟩) 1 1)) := ((HS4.out.b.setCell (show w.heap.size ≤ g + 1 + 1 from HS4.out.hi.1) _).alloc (by simp only [World.setCell, Array.size_modify]; exact HS4.out.b.size) _).setCell (show w.heap.size ≤ g + 1 + 1 from HS4.out.hi.1) _
        have HBF := K0 hbf
        have p4 : (((w4.setCell ⟨g + 1 + 1, 4, none⟩ (.slice A3 r.length k3)).alloc (.cells #[.int .i64 E.br] 3)).setCell ⟨g + 1 + 1, 5, none⟩ (.slice (some ⟨w4.heap.size, 0, none⟩) 1 1)).cell? ⟨g + 1 + 1 + 1, 0, none⟩ = some (.pointer (some ⟨g + 1 + 1, 0, none⟩)) := (World.cell?_setCell_far _ _ _ _ (by simp)).trans (pw_cell_below (below_alloc (Below.refl _ _) _) ((World.cell?_setCell_far _ _ _ _ (by simp)).trans p4))
        clear hnw hbf hHeld
        go_wp2
        go_ret2
        refine ⟨below_drew HBF.out, fun _ => ⟨g + 1 + 1, g + 1, _, _, rfl, ⟨below_drew HBF.out, HXF.out, ?_, ?_, ?_, HS4.out.hi, fun _ _ => trivial⟩⟩, fun h => by have ha := HALL.out; rw [Bool.true_and, ha] at h; cases h⟩
        · refine MapI.block (w := w4) HS4.out.m ?_
          exact (Below.heap_setCell _ _ _ (g + 1) (by simp)).trans (((below_alloc (Below.refl _ _) _).block (g + 1) (by have := HS4.out.m.lt; simp only [World.setCell, Array.size_modify]; exact this)).trans (Below.heap_setCell _ _ _ (g + 1) (by simp)))
        · refine Kd.R_mono (Kd.R_far (p := ⟨g + 1 + 1, 5, none⟩) (Kd.R_below (Kd.R_far (p := ⟨g + 1 + 1, 4, none⟩) (Kd.R_lower (Kd.R_bound HR4.out) HS2b.out) (fun k hk => by have := hk.2.1; have := HZ.out; show k ≠ g + 1 + 1; omega) _) (below_alloc (Below.refl _ _) _)) (fun k hk => by have := hk.2.1; have := HZ.out; show k ≠ g + 1 + 1; omega) _) (fun k hk => ?_)
          have h1 := hk.2.1
          have h2 := hk.2.2.1
          have h3 := HZ.out
          exact ⟨⟨by omega, by omega, trivial⟩, fun e => by injection e with e; have e2 : k = w4.heap.size := e; omega⟩
        refine Kd.R_of_own (enc := fun x => Value.int .i64 x) ⟨rfl, Or.inr ⟨w4.heap.size, 1, #[.int .i64 E.br], rfl, HS4.out.b.size, HNW.out, by simp, by decide, rfl, rfl⟩⟩ (fun k hk => ?_)
        have h1 : w4.heap.size = k := by injection hk
        have h3 := HZ4.out
        exact ⟨⟨by omega, by omega, trivial⟩, fun e => by have := Kd.R_lt HR4.out k e.symm; omega⟩
def toF (E : Eng) (top : Int) : List Int → Int → Int
  | [], t => t
  | x :: xs, t => toF E top xs (if E.lev x < top then (if t < E.lev x then E.lev x else t) else t)
def FirstP (k m : Nat) (E : Eng) (L : List (List Int)) (cl : List Int) (tv : Int) (fr : List Int) (g : Int) : Prop :=
  (E.br < 0 ∧ cl = [] ∧ tv = 0 ∧ fr = [] ∧ g = 3) ∨ (0 ≤ E.br ∧ ∃ r ok, NumP L E.br r ok ∧
    (((ok && r.all (fun x => (plT E.tr E.tr.length (wrap64 (-x))).isSome)) = false ∧ cl = [] ∧ tv = 0 ∧ fr = [] ∧ g = 1) ∨
     ((ok && r.all (fun x => (plT E.tr E.tr.length (wrap64 (-x))).isSome)) = true ∧ ∃ o, BackP k E L (plT E.tr E.tr.length) (fun _ => true) (soF E E.st.length) m r [E.br] o ∧
       ((o = none ∧ cl = [] ∧ tv = 0 ∧ fr = [] ∧ g = 1) ∨ (o = some (cl, fr) ∧ WfC cl ∧ tv = toF E E.st.length cl 0 ∧ g = 0)))))
set_option maxRecDepth 100000 in
set_option maxHeartbeats 8000000 in
theorem learn_First.calls (k m : Nat) (E : Eng) (B : Nat) (T : Tag) (p : EngP) (N : Int) (A0 : Option Addr) (c0 : Nat) (L : List (List Int)) (cl : List Int) (tv : Int) (fr : List Int) (gg : Int) (w : World)
    (hE : EngIn w B T E p) (hl : E.tr.length < 4398046511104) (hst : E.st.length < 4398046511104) (htr : ∀ x ∈ E.tr, (Lit.int .i64 x).wf = true) (hL : Kd.C (Kd.slice 3 (Kd.int .i64)) w A0 L.length L) (hc : L.length ≤ c0) (hm : m < 1099511627775) (h : FirstP k m E L cl tv fr gg) :
    Calls Try.prog 21 #[.pointer (some ⟨B, 0, none⟩), .agg #[.int .i64 N, .slice A0 L.length c0]] w fun e w' => ∃ v1 v2, e = .returned (.tuple #[v1, .int .i64 tv, v2, .int .i64 gg]) ∧ Kd.R (Kd.int .i64) 3 w' w.heap.size (fun _ => True) v1 cl ∧ Kd.R (Kd.int .i64) 3 w' w.heap.size (fun _ => True) v2 fr ∧ Below w.heap.size w w' := by
  have huR := Try.underlying91
  have huC := Try.underlying24
  have hbig := hL.2.1
  obtain ⟨ge, hge⟩ : ∃ g, w.heap.size = g := ⟨_, rfl⟩
  obtain ⟨W1, hW1⟩ : ∃ W1, w.alloc (.cells #[.pointer (some ⟨B, 0, none⟩)] 28) = W1 := ⟨_, rfl⟩
  obtain ⟨W2, hW2⟩ : ∃ W2, W1.alloc (.cells #[.int .i64 N, .slice A0 L.length c0] 24) = W2 := ⟨_, rfl⟩
  have z1 : W1.heap.size = w.heap.size + 1 := by rw [← hW1]; exact Array.size_push _
  have z2 : W2.heap.size = W1.heap.size + 1 := by rw [← hW2]; exact Array.size_push _
  have hb1 : Below w.heap.size w W1 := by rw [← hW1]; exact below_alloc (Below.refl _ _) _
  have hb2 : Below w.heap.size w W2 := by rw [← hW2]; exact below_alloc hb1 _
  have b2 : Below W1.heap.size W1 W2 := by rw [← hW2]; exact below_alloc (Below.refl _ _) _
  have n1 := blk_new w (.cells #[.pointer (some ⟨B, 0, none⟩)] 28)
  have n2 := blk_new W1 (.cells #[.int .i64 N, .slice A0 L.length c0] 24)
  rw [hW1, hge] at n1
  rw [hW2, z1, hge] at n2
  have HN1 := K0 (blk_below n1 b2)
  have HN2 := K0 n2; have HB2 := K0 hb2
  have HZ2 := K0 (show W2.heap.size = ge + 2 by omega)
  have HE2 := K0 (hE.below hb2)
  have HL2 := K0 (Kd.C_below hL hb2)
  have HT := K0 htr; have HF := K0 h; have HG := K0 hge
  have A1 := K0 (eng_Broken.calls E B T p W2 HE2.out)
  have hz1 : W1.heap.size = ge + 1 := by omega
  have q0 : W2.cell? ⟨ge, 0, none⟩ = some (.pointer (some ⟨B, 0, none⟩)) := (blk_cell HN1.out 0).trans rfl
  have q1 : W2.cell? ⟨ge + 1, 0, none⟩ = some (.int .i64 N) := (blk_cell HN2.out 0).trans rfl
  have q2 : W2.cell? ⟨ge + 1, 1, none⟩ = some (.slice A0 L.length c0) := (blk_cell HN2.out 1).trans rfl
  clear hE hL htr h z1 z2 hb1 hb2 b2 n1 n2
  go_enter Try.func21, Try.ntmps21
  go_wp2_with fail
  clear hW1 hW2 hge
  refine A1.out.mono ?_
  rintro e' w0 ⟨rfl, rfl⟩
  obtain ⟨br, hbr⟩ : ∃ br, E.br = br := ⟨_, rfl⟩
  rw [hbr]
  rcases HF.out with ⟨hneg, rfl, rfl, rfl, rfl⟩ | ⟨hpos, r, ok, hn, hrest⟩
  · have d1 : decide (br < 0) = true := decide_eq_true (by omega)
    clear hneg hbr HF
    go_wp2
    ((try simp only [Exit.inBlock, Exit.then]); refine bodyPost_ret (results_list (rs := [.tmp 4, .tmp 5, .tmp 6, .tmp 7]) rfl (by simp) (.tmp (.tmp (.tmp (.tmp .nil))))) rfl ?_)
    exact ⟨_, _, rfl, Kd.R_nil _ _ _ _ _, Kd.R_nil _ _ _ _ _, HB2.out⟩
  have d1 : decide (br < 0) = false := decide_eq_false (by omega)
  have A2 := K0 (learn_begin.calls E B T p N A0 c0 L r ok w0 HE2.out hl HT.out HL2.out hc hn)
  have HR := K0 hrest; clear hbr HF hn hrest hpos A1
  go_wp2_with fail
  refine A2.out.mono ?_
  rintro e' w1 ⟨hb1, ha, hna⟩
  have HA := K0 ha; have HNA := K0 hna; have HB1 := K0 hb1
  have HZ1 := K0 hb1.size
  have HN11 := K0 (blk_below HN1.out hb1)
  clear ha hna hb1 A2 q0 q1 q2 hz1
  rcases HR.out with ⟨hfail, rfl, rfl, rfl, rfl⟩ | ⟨hgood, o, hback, hout⟩
  · have he := HNA.out hfail
    subst he
    have A3 := K0 (eng_Levels.calls E B T p w1 (HE2.out.below HB1.out))
    have q0 : w1.cell? ⟨ge, 0, none⟩ = some (.pointer (some ⟨B, 0, none⟩)) := (blk_cell HN11.out 0).trans rfl
    clear hfail HA HNA HR
    go_wp2_with fail
    refine A3.out.mono ?_
    rintro e' w2 ⟨rfl, rfl⟩
    clear A3
    go_wp2
    ((try simp only [Exit.inBlock, Exit.then]); refine bodyPost_ret (results_list (rs := [.tmp 4, .tmp 5, .tmp 6, .tmp 7]) rfl (by simp) (.tmp (.tmp (.tmp (.tmp .nil))))) rfl ?_)
    exact ⟨_, _, rfl, Kd.R_nil _ _ _ _ _, Kd.R_nil _ _ _ _ _, (below_step HB2.out HB1.out).alloc (below_step HB2.out HB1.out).size _ |>.alloc (by simp only [World.alloc, Array.size_push]; have := (below_step HB2.out HB1.out).size; omega) _⟩
  obtain ⟨gX, bP, vC, vF, he, hs1⟩ := HA.out hgood
  subst he; have HS1 := K0 hs1; have HBK := K0 hback; have HOUT := K0 hout
  have A3 := K0 (eng_Levels.calls E B T p w1 (HE2.out.below HB1.out))
  have q0 : w1.cell? ⟨ge, 0, none⟩ = some (.pointer (some ⟨B, 0, none⟩)) := (blk_cell HN11.out 0).trans rfl
  clear hgood HA HNA HR hs1 hback hout
  go_wp2_with fail
  refine A3.out.mono ?_
  rintro e' w2 ⟨rfl, rfl⟩
  clear A3
  go_wp2_with fail
  obtain ⟨gt, hgt⟩ : ∃ g, w2.heap.size = g := ⟨_, rfl⟩
  obtain ⟨W3, hW3⟩ : ∃ W3, w2.alloc (.cells #[.int .i64 (E.st.length : Int)] 3) = W3 := ⟨_, rfl⟩
  obtain ⟨W4, hW4⟩ : ∃ W4, W3.alloc (.cells #[.func (.func 50) #[] #[.pointer (some ⟨ge, 0, none⟩)]] 58) = W4 := ⟨_, rfl⟩
  have z3 : W3.heap.size = w2.heap.size + 1 := by rw [← hW3]; exact Array.size_push _
  have z4 : W4.heap.size = W3.heap.size + 1 := by rw [← hW4]; exact Array.size_push _
  have b3 : Below w2.heap.size w2 W3 := by rw [← hW3]; exact below_alloc (Below.refl _ _) _
  have b4 : Below W3.heap.size W3 W4 := by rw [← hW4]; exact below_alloc (Below.refl _ _) _
  have n3 := blk_new w2 (.cells #[.int .i64 (E.st.length : Int)] 3)
  have n4 := blk_new W3 (.cells #[.func (.func 50) #[] #[.pointer (some ⟨ge, 0, none⟩)]] 58)
  rw [hW3, hgt] at n3
  rw [hW4, z3, hgt] at n4
  have b34 : Below w2.heap.size w2 W4 := below_step b3 b4
  have hzz : W4.heap.size = gt + 2 := by omega
  have HZ4 := K0 hzz
  have HGT := K0 (show ge + 2 ≤ gt by have := HZ1.out; have := HZ2.out; omega)
  have HNT := K0 (blk_below n3 b4)
  have HNL := K0 n4
  have HN4 := K0 (blk_below HN11.out b34)
  have HS4 := K0 (HS1.out.toQ (Q' := fun k => k ≠ ge ∧ k ≠ gt ∧ k ≠ gt + 1) b34 (fun k h1 h2 => by have := HZ2.out; omega) (fun k hk => by have := HGT.out; omega))
  have egm : ∀ args w, (callFunc 53 args).run Try.prog w = .ok (.enter 53 args) w := enters_of Try.func53 (by kernel_rfl) rfl
  have egs : ∀ args w, (callFunc 51 args).run Try.prog w = .ok (.enter 51 args) w := enters_of Try.func51 (by kernel_rfl) rfl
  have A5 := K0 (learn_back.calls k 53 51 #[] #[.pointer (some ⟨gt + 1, 0, none⟩), .pointer (some ⟨gt, 0, none⟩)] egm egs (fun _ => true) (soF E E.st.length) (fun k => k = ge ∨ k = gt ∨ k = gt + 1) E T p w0 gX bP B N A0 c0 L _ _ _ _ r [E.br] m o W4 HS4.out HE2.out HL2.out
    (fun k hk => by have h1 := HZ2.out; have h2 := HGT.out; have h3 := HZ4.out; have h4 := HS4.out.hi; have h5 := HS1.out.x; have h6 := blk_lt h5; have h7 := hgt; refine ⟨by omega, by omega, fun hq => ?_⟩; rcases hk with e | e | e <;> rw [e] at hq <;> omega)
    (fun W _ _ _ x => learn_First_3.calls x W)
    (fun W hW _ hK A c xs hx hC hc => learn_First_2.calls ge (gt + 1) gt E.st.length E B T p A c xs W (HE2.out.below hW) ((blk_cell ((hK ge (Or.inl rfl)).trans HN4.out) 0).trans rfl) ((blk_cell ((hK (gt + 1) (Or.inr (Or.inr rfl))).trans HNL.out) 0).trans rfl) ((blk_cell ((hK gt (Or.inr (Or.inl rfl))).trans HNT.out) 0).trans rfl) hx hC)
    (by show 1 + m < _; omega) HBK.out)
  rw [hW3, hW4, hgt]
  clear hW3 hW4 z3 z4 b3 b4 n3 n4 b34 hzz hgt q0 egm egs HBK
  refine A5.out.mono ?_
  rintro e' w5 ⟨rfl, hsome, hb5, hz5, hk5⟩
  have HB5 := K0 (below_step HB2.out hb5)
  have HK5 := K0 hk5
  have HW5 := K0 (show Below w0.heap.size w0 w5 from hb5)
  have HSM := K0 hsome; clear hsome hb5 hz5 hk5 A5
  obtain ⟨os, hos⟩ : ∃ b, o.isSome = b := ⟨_, rfl⟩
  rw [hos]
  rcases HOUT.out with ⟨rfl, rfl, rfl, rfl, rfl⟩ | ⟨rfl, hwf, rfl, rfl⟩
  · have ho2 : os = false := hos.symm
    subst ho2; clear HOUT HSM hos
    go_wp2
    ((try simp only [Exit.inBlock, Exit.then]); refine bodyPost_ret (results_list (rs := [.tmp 4, .tmp 5, .tmp 6, .tmp 7]) rfl (by simp) (.tmp (.tmp (.tmp (.tmp .nil))))) rfl ?_)
    exact ⟨_, _, rfl, Kd.R_nil _ _ _ _ _, Kd.R_nil _ _ _ _ _, HB5.out⟩
  have ho2 : os = true := hos.symm
  subst ho2; clear hos
  obtain ⟨vC5, vF5, hs5⟩ := HSM.out cl fr rfl
  obtain ⟨AC, kC, eC⟩ := Kd.R_slice hs5.c
  obtain ⟨AF, kF, eF⟩ := Kd.R_slice hs5.f
  subst eC eF; have HS5 := K0 hs5; have HWF := K0 hwf
  have HC := K0 (Kd.V_reads' (Kd.R_V (base' := 0) hs5.c)).2.2
  have hbc := HC.out.2.1
  have HX5 := K0 (show w5.heap[ge]? = some (.cells #[.pointer (some ⟨B, 0, none⟩)] 28 (0, 0)) ∧ w5.heap[gt]? = some (.cells #[.int .i64 (E.st.length : Int)] 3 (0, 0)) ∧ w5.heap[gt + 1]? = some (.cells #[.func (.func 50) #[] #[.pointer (some ⟨ge, 0, none⟩)]] 58 (0, 0)) from ⟨(HK5.out ge (Or.inl rfl)).trans HN4.out, (HK5.out gt (Or.inr (Or.inl rfl))).trans HNT.out, (HK5.out (gt + 1) (Or.inr (Or.inr rfl))).trans HNL.out⟩)
  obtain ⟨p0, p1, p2, p3, p4, p5⟩ := hs5.cells
  obtain ⟨mx, hto⟩ : ∃ t, toF E E.st.length cl 0 = t := ⟨_, rfl⟩
  have HTO := K0 hto
  have eg : ∀ args w, (callFunc 50 args).run Try.prog w = .ok (.enter 50 args) w := enters_of Try.func50 (by kernel_rfl) rfl
  obtain ⟨top, htop⟩ : ∃ t : Int, (E.st.length : Int) = t := ⟨_, rfl⟩
  rw [htop] at HX5 HTO hto ⊢
  have HTT := K0 hto; have HTP := K0 htop; clear HOUT HSM hs5 hwf hto htop HK5 HN4 HNT HNL HS4 HS1 HZ4
  go_wp2
  clear p0 p1 p2 p3 p4 p5
  have HBr := K0 (Below.refl w5.heap.size w5)
  go_loopg [13, 15, 16, 43] cl.length (fun gg v13 v15 v16 v43 wr => ∃ (j : Nat) (t : Int), v43 = .int .i64 (j : Int) ∧ v13 = .int .i64 t ∧ Aside0 (j + gg = cl.length) ∧ Aside0 (Below w5.heap.size w5 wr) ∧ Aside0 (toF E top (cl.drop j) t = mx))
  case atStart => exact ⟨0, 0, rfl, rfl, ⟨by simp⟩, HBr, HTO⟩
  case round =>
    clear HBr HTO
    obtain ⟨j, t, rfl, rfl, hg, HB, HL⟩ := hrel
    have HXr := K0 (show wr.heap[ge]? = some (.cells #[.pointer (some ⟨B, 0, none⟩)] 28 (0, 0)) ∧ wr.heap[gt]? = some (.cells #[.int .i64 top] 3 (0, 0)) ∧ wr.heap[gt + 1]? = some (.cells #[.func (.func 50) #[] #[.pointer (some ⟨ge, 0, none⟩)]] 58 (0, 0)) from ⟨blk_below HX5.out.1 HB.out, blk_below HX5.out.2.1 HB.out, blk_below HX5.out.2.2 HB.out⟩)
    have HSr := K0 (HS5.out.below HB.out)
    have HEr := K0 (HE2.out.below HSr.out.b)
    by_cases hlt : j < cl.length
    case neg =>
      have hd2 : decide ((j : Int) < (cl.length : Int)) = false := decide_eq_false (by omega)
      have Q2 : (j < cl.length) = False := eq_false hlt
      have hl := HL.out
      rw [List.drop_of_length_le (by omega), toF] at hl
      subst hl
      obtain ⟨p0, p1, p2, p3, p4, p5⟩ := HSr.out.cells
      clear HL hg hlt
      go_upto_region 17 with fail
      go_still (by kernel_rfl)
      have hd := below_drew (Below.refl wr.heap.size wr)
      have HD := K0 hd; clear hd p0 p1 p2 p3 p4 p5
      go_wp2
      ((try simp only [Exit.inBlock, Exit.then]); refine bodyPost_ret (results_list (rs := [.tmp 4, .tmp 5, .tmp 6, .tmp 7]) rfl (by simp) (.tmp (.tmp (.tmp (.tmp .nil))))) rfl ?_)
      refine ⟨.slice AC cl.length kC, .slice AF fr.length kF, (by show Ending.returned (.tuple #[.slice AC cl.length kC, .int .i64 t, .slice AF fr.length kF, .int .i64 0]) = _; rw [HTP.out, HTT.out]), Kd.R_mono (Kd.R_lower (Kd.R_below HSr.out.c HD.out) ?_) (fun _ _ => trivial), Kd.R_mono (Kd.R_lower (Kd.R_below HSr.out.f HD.out) ?_) (fun _ _ => trivial), below_step (below_step HB2.out HSr.out.b) HD.out⟩
      · exact HB2.out.size
      exact HB2.out.size
    obtain ⟨ad, e1, x1⟩ := Kd.at_int (Kd.C_below HC.out HB.out) (j : Int) (by omega) (by omega)
    cases e1
    obtain ⟨x, hxx⟩ : ∃ x, cl[j] = x := ⟨_, rfl⟩
    have hrd : rd cl (j : Int) = x := by simp [rd, hlt, hxx]
    rw [hrd] at x1
    simp only [Int.toNat_natCast] at x1
    have hl := HL.out
    rw [List.drop_eq_getElem_cons hlt, hxx, toF] at hl
    have HWX := K0 (HWF.out x (by rw [← hxx]; exact List.getElem_mem hlt))
    have Q0 : ((0 : Int) ≤ (j : Int)) = True := eq_true (by omega)
    have Q1 : ((j : Int) < (cl.length : Int)) = True := eq_true (by omega)
    have Q2 : (j < cl.length) = True := eq_true hlt
    have hd2 : decide ((j : Int) < (cl.length : Int)) = true := decide_eq_true (by omega)
    have HJ := K0 hlt
    have g0 : wr.cell? ⟨gt + 1, 0, none⟩ = some (.func (.func 50) #[] #[.pointer (some ⟨ge, 0, none⟩)]) := (blk_cell HXr.out.2.2 0).trans rfl
    obtain ⟨lx, hlx⟩ : ∃ l, E.lev x = l := ⟨_, rfl⟩
    rw [hlx] at hl
    have HLL := K0 hl
    have A6 := K0 (learn_First_1.calls ge E B T p x wr HEr.out ((blk_cell HXr.out.1 0).trans rfl) HWX.out)
    rw [hlx] at A6
    clear hxx hrd hl HL hlx
    go_wp2_with fail
    refine A6.out.mono ?_
    rintro e' w6 ⟨rfl, hb6⟩
    have HB6 := K0 (below_step HB.out hb6)
    have g1 : w6.cell? ⟨gt, 0, none⟩ = some (.int .i64 top) := (blk_cell (blk_below HXr.out.2.1 hb6) 0).trans rfl
    clear hb6 A6 x1 g0 HB
    have hlx := HLL.out
    by_cases e0 : lx < top
    case neg =>
      have d5 : decide (lx < top) = false := decide_eq_false e0
      rw [if_neg e0] at hlx
      have HL3 := K0 hlx; clear hlx HLL e0
      go_wp2
      go_roundg (cl.length - (j + 1))
      case measure => have := hg.out; have := HJ.out; omega
      case rel => exact ⟨j + 1, t, by simp, rfl, ⟨by have := hg.out; have := HJ.out; omega⟩, HB6, HL3⟩
    have d5 : decide (lx < top) = true := decide_eq_true e0
    rw [if_pos e0] at hlx
    by_cases e2 : t < lx
    case neg =>
      have d6 : max t lx = t := by omega
      rw [if_neg e2] at hlx
      have HL3 := K0 hlx; clear hlx HLL e0
      go_wp2
      go_roundg (cl.length - (j + 1))
      case measure => have := hg.out; have := HJ.out; omega
      case rel => exact ⟨j + 1, t, by simp, by simp [d6], ⟨by have := hg.out; have := HJ.out; omega⟩, HB6, HL3⟩
    have d6 : max t lx = lx := by omega
    rw [if_pos e2] at hlx
    have HL3 := K0 hlx; clear hlx HLL e0
    go_wp2
    go_roundg (cl.length - (j + 1))
    case measure => have := hg.out; have := HJ.out; omega
    case rel => exact ⟨j + 1, lx, by simp, by simp [d6], ⟨by have := hg.out; have := HJ.out; omega⟩, HB6, HL3⟩
def pushesP (k : Nat) : List Int → Eng → Eng → Prop
  | [], E, F => F = E
  | x :: l, E, F => E.Lits ∧ (Lit.int .i64 x).wf = true ∧ ∃ E2 r, Eng.push k E x = some (E2, r) ∧ pushesP k l E2 F
set_option maxRecDepth 100000 in
set_option maxHeartbeats 4000000 in
theorem learn_engine.calls (k : Nat) (n : Int) (A0 : Option Addr) (c0 : Nat) (L : List (List Int)) (A1 : Option Addr) (c1 : Nat) (ps : List Int) (E F : Eng) (w : World) (hL : Kd.C (Kd.slice 3 (Kd.int .i64)) w A0 L.length L) (hc : L.length ≤ c0) (hP : Kd.C (Kd.int .i64) w A1 ps.length ps)
    (hwf : ∀ c ∈ L, ∀ r, lit_Clean.f c = some r → ∀ x ∈ r.1, (Lit.int .i64 x).wf = true) (hnew : Eng.new k n L = some (E, 0)) (hps : pushesP k ps E F) :
    Calls Try.prog 19 #[.agg #[.int .i64 n, .slice A0 L.length c0], .slice A1 ps.length c1] w fun e w' => ∃ B, e = .returned (.tuple #[.pointer (some ⟨B, 0, none⟩), .bool true]) ∧ NewPost F B w w' := by
  have HL := K0 hL
  have HP := K0 hP
  have HC := K0 hc
  have HW := K0 hwf
  have HN := K0 hnew
  have HGO := K0 hps
  have hpb : ps.length ≤ 9223372036854775807 := hP.2.1
  have hu24 := Try.underlying24
  have HB := K0 (Below.refl w.heap.size w)
  clear hL hP hc hwf hnew hps
  go_enter Try.func19, Try.ntmps19
  go_upto_region 1 with (first | ((with_reducible refine gate_dst (N := 2) rfl ?_); refine box_event ?hg (N := 2) ?hd (cs := #[.int .i64 n, .slice A0 L.length c0]) (t := 24) ?hr ?_; (case hd => rfl); (case hg => rfl); (case hr => first | (go_simp; done) | (go_simp; rfl)); intro gb hg w3 hbox hb; have n0_ := K0 (below_step HB.out hb); have BK := K0 hbox; clear HB; have HB := n0_; clear n0_; clear hb hbox hg))
  (try simp only [Act.put, List.setIfInBounds_toArray, List.set_cons_zero, List.set_cons_succ])
  have cb0 : w3.cell? ⟨gb, 0, none⟩ = some (.int .i64 n) := (blk_cell BK.out 0).trans rfl
  have cb1 : w3.cell? ⟨gb, 1, none⟩ = some (.slice A0 L.length c0) := (blk_cell BK.out 1).trans rfl
  have HCN := K0 (eng_New.calls k n A0 c0 L E w3 (Kd.C_below HL.out HB.out) HC.out HW.out HN.out)
  go_wp2_with fail
  refine HCN.out.mono ?_
  rintro e' w5 ⟨B, rfl, T, p, h5, hb5, hT5⟩
  have HB5 := K0 (below_step HB.out hb5)
  have HE := K0 h5
  have HT := K0 (show ∀ k, k < w.heap.size → T k = (0, 0) from fun k hk => hT5 k (Nat.lt_of_lt_of_le hk (below_size HB.out)))
  clear HCN h5 hb5 hT5 cb0 cb1 HB BK HN
  go_wp2
  go_loopg [9, 23] ps.length (fun gg v9 v23 wr => ∃ (j : Nat) (E1 : Eng) (T1 : Tag) (p1 : EngP), v23 = .int .i64 (j : Int) ∧ Aside0 (j + gg = ps.length) ∧ Aside0 (EngIn wr B T1 E1 p1) ∧ Aside0 (Below w.heap.size w wr) ∧ Aside0 (∀ k, k < w.heap.size → T1 k = (0, 0)) ∧ Aside0 (pushesP k (ps.drop j) E1 F))
  case atStart => exact ⟨0, E, T, p, rfl, ⟨by simp⟩, HE, HB5, HT, HGO⟩
  case round =>
    clear HE HB5 HT HGO
    obtain ⟨j, E1, T1, p1, rfl, hg, HE, HB, HT, HGO⟩ := hrel
    by_cases hlt : j < ps.length
    · obtain ⟨ad, e1, x1⟩ := Kd.at_int (Kd.C_below HP.out HB.out) (j : Int) (by omega) (by omega)
      cases e1
      obtain ⟨x, hxx⟩ : ∃ x, ps[j] = x := ⟨_, rfl⟩
      have hrd : rd ps (j : Int) = x := by simp [rd, hlt, hxx]
      rw [hrd] at x1
      simp only [Int.toNat_natCast] at x1
      have hgo := HGO.out
      rw [List.drop_eq_getElem_cons hlt, hxx] at hgo
      obtain ⟨g1, g2, E2, r, hpush, hgo2⟩ := hgo
      have HG2 := K0 hgo2
      have HCALL := K0 (eng_Push.calls k E1 B T1 p1 x E2 r wr HE.out g2 g1 hpush)
      have Q0 : ((0 : Int) ≤ (j : Int)) = True := eq_true (by omega)
      have Q1 : ((j : Int) < (ps.length : Int)) = True := eq_true (by omega)
      have Q2 : (j < ps.length) = True := eq_true hlt
      have hd2 : decide ((j : Int) < (ps.length : Int)) = true := decide_eq_true (by omega)
      have HJ := K0 hlt
      clear hxx hrd hgo2 hpush g1 g2 HGO
      go_wp2_with fail
      refine HCALL.out.mono ?_
      rintro e' w7 ⟨rfl, T7, p7, h7, m7, f7⟩
      have HE7 := K0 h7
      have HB7 := K0 (Below.trans HB.out (m7.below _ HB.out.size HT.out))
      have HT7 := K0 (show ∀ k, k < w.heap.size → T7 k = (0, 0) from fun k hk => (m7.old k (Nat.lt_of_lt_of_le hk HB.out.size)).1.trans (HT.out k hk))
      clear h7 m7 f7 HCALL HE HB HT x1
      go_wp2
      go_roundg (ps.length - (j + 1))
      case measure => have := hg.out; have := HJ.out; omega
      case rel => exact ⟨j + 1, E2, T7, p7, by simp, ⟨by have := hg.out; have := HJ.out; omega⟩, HE7, HB7, HT7, HG2⟩
    · have hd2 : decide ((j : Int) < (ps.length : Int)) = false := decide_eq_false (by omega)
      have Q2 : (j < ps.length) = False := eq_false hlt
      have hgo := HGO.out
      rw [List.drop_of_length_le (by omega)] at hgo
      have hF : F = E1 := hgo
      subst hF
      clear hgo HGO hg hlt
      go_wp2
      go_ret2
      exact ⟨B, rfl, T1, p1, HE.out, HB.out, HT.out⟩
set_option maxRecDepth 100000 in
set_option maxHeartbeats 4000000 in
theorem learn_engine.fails (k : Nat) (n : Int) (A0 : Option Addr) (c0 : Nat) (L : List (List Int)) (A1 : Option Addr) (c1 l1 : Nat) (ra re : Int) (w : World) (hL : Kd.C (Kd.slice 3 (Kd.int .i64)) w A0 L.length L) (hc : L.length ≤ c0) (hcr : cnf_Right.f k n L = some (ra, re)) (hre : re ≠ 0) :
    Calls Try.prog 19 #[.agg #[.int .i64 n, .slice A0 L.length c0], .slice A1 l1 c1] w fun e w' => e = .returned (.tuple #[.pointer none, .bool false]) ∧ Below w.heap.size w w' := by
  have HL := K0 hL
  have HC := K0 hc
  have hu24 := Try.underlying24
  have HB := K0 (Below.refl w.heap.size w)
  have hd : (re == 0) = false := beq_eq_false_iff_ne.2 hre
  have hd' : (re != 0) = true := bne_iff_ne.2 hre
  clear hL hc
  go_enter Try.func19, Try.ntmps19
  go_upto_region 1 with (first | ((with_reducible refine gate_dst (N := 2) rfl ?_); refine box_event ?hg (N := 2) ?hd (cs := #[.int .i64 n, .slice A0 L.length c0]) (t := 24) ?hr ?_; (case hd => rfl); (case hg => rfl); (case hr => first | (go_simp; done) | (go_simp; rfl)); intro gb hg w3 hbox hb; have n0_ := K0 (below_step HB.out hb); have BK := K0 hbox; clear HB; have HB := n0_; clear n0_; clear hb hbox hg))
  (try simp only [Act.put, List.setIfInBounds_toArray, List.set_cons_zero, List.set_cons_succ])
  have cb0 : w3.cell? ⟨gb, 0, none⟩ = some (.int .i64 n) := (blk_cell BK.out 0).trans rfl
  have cb1 : w3.cell? ⟨gb, 1, none⟩ = some (.slice A0 L.length c0) := (blk_cell BK.out 1).trans rfl
  have HCN := K0 (eng_New.fails k n A0 c0 L ra re w3 (Kd.C_below HL.out HB.out) HC.out hcr hre)
  clear hcr hre
  go_wp2_with fail
  refine HCN.out.mono ?_
  rintro e' w5 ⟨rfl, hb5⟩
  have HB5 := K0 (below_step HB.out hb5)
  clear HCN hb5 cb0 cb1 HB BK
  go_wp2
  go_ret2
  exact ⟨rfl, HB5.out⟩
def EngOk (F : Eng) : Prop := F.tr.length < 4398046511104 ∧ F.st.length < 4398046511104 ∧ (∀ x ∈ F.tr, (Lit.int .i64 x).wf = true) ∧ ∀ x ∈ F.tr, (Lit.int .i64 (absW x)).wf = true
def EngFact (k : Nat) (n : Int) (L : List (List Int)) (ps : List Int) (Q : Eng → Prop) : Prop :=
  ∃ ra re, cnf_Right.f k n L = some (ra, re) ∧ (re = 0 → ∃ E F, Eng.new k n L = some (E, 0) ∧ (∀ c ∈ L, ∀ r, lit_Clean.f c = some r → ∀ x ∈ r.1, (Lit.int .i64 x).wf = true) ∧ pushesP k ps E F ∧ Q F)
def learn_alive.P (k : Nat) : Prop := ∃ E2 E3 m fr, Eng.new k 3 [[-1, 2], [-1, 3], [-2, -3]] = some (E2, 0) ∧ (∀ c ∈ [[-1, 2], [-1, 3], [-2, (-3 : Int)]], ∀ r, lit_Clean.f c = some r → ∀ x ∈ r.1, (Lit.int .i64 x).wf = true) ∧ E2.Lits ∧ Eng.push k E2 1 = some (E3, true) ∧ (E3.tr.length < 4398046511104 ∧ E3.st.length < 4398046511104 ∧ ∀ x ∈ E3.tr, (Lit.int .i64 x).wf = true) ∧ m < 1099511627775 ∧ FirstP k m E3 [[-1, 2], [-1, 3], [-2, -3]] [-1] 0 fr 0 ∧ 2 ≤ fr.length ∧ sequiturbase_Ints.f k [-1] [-1] = some true
set_option maxRecDepth 100000 in
set_option maxHeartbeats 4000000 in
theorem learn_alive.calls (k : Nat) (w : World) (h : learn_alive.P k) :
    Calls Try.prog 16 #[] w fun e w' => e = .returned (.bool true) ∧ Below w.heap.size w w' := by
  obtain ⟨E2, E3, m, fr, h1, h2, h3, h4, h5, h6, h7, h8, h9⟩ := h
  have hu24 := Try.underlying24
  have HB := K0 (Below.refl w.heap.size w)
  obtain ⟨y1, hy1⟩ : ∃ y_ : List Int, y_ = (([(-1), 2] : List Int)) := ⟨_, rfl⟩
  have Ny1 := K0 hy1
  obtain ⟨y2, hy2⟩ : ∃ y_ : List Int, y_ = (([(-1), 3] : List Int)) := ⟨_, rfl⟩
  have Ny2 := K0 hy2
  obtain ⟨y3, hy3⟩ : ∃ y_ : List Int, y_ = (([(-2), (-3)] : List Int)) := ⟨_, rfl⟩
  have Ny3 := K0 hy3
  obtain ⟨y4, hy4⟩ : ∃ y_ : List (List Int), y_ = (([y1, y2, y3] : List (List Int))) := ⟨_, rfl⟩
  have Ny4 := K0 hy4
  have e4 : ([[-1, 2], [-1, 3], [-2, -3]] : List (List Int)) = y4 := by rw [hy4, hy1, hy2, hy3]
  rw [e4] at h1 h2 h7
  obtain ⟨y5, hy5⟩ : ∃ y_ : List Int, y_ = (([(-1)] : List Int)) := ⟨_, rfl⟩
  have Ny5 := K0 hy5
  rw [← hy5] at h7 h9
  have H1 := K0 h1
  have H2 := K0 h2
  have H3 := K0 h3
  have H4 := K0 h4
  have H5 := K0 h5
  have H6 := K0 h6
  have H7 := K0 h7
  have H8 := K0 h8
  have H9 := K0 h9
  clear h1 h2 h3 h4 h5 h6 h7 h8 h9 hy1 hy2 hy3 hy4 hy5 e4
  go_enter Try.func16, Try.ntmps16
  go_upto_region 2 with (first | ((with_reducible refine gate_dst (N := 8) rfl ?_); (try (refine gate_guard (by rfl) ?_; dsimp only)); refine Kd.R_lit (Kd.int .i64) _ 3 ?hg (N := 8) ?hd (xs := ([(-1), 2] : List Int)) (inner := [.int .i64 (-1), .int .i64 2]) (ok := fun _ => True) (okp := fun _ => True) ?hr ?hp (fun _ hk => hk) trivial (Below.refl _ _) (Nat.le_refl _) (by simp) ?_; (case hd => rfl); (case hg => rfl); (case hr => first | (go_simp; done) | (go_simp; rfl)); (case hp => exact (Reps.one (show Kd.M (Kd.int .i64) _ _ _ (-1) [.int .i64 (-1)] from rfl) (Reps.one (show Kd.M (Kd.int .i64) _ _ _ 2 [.int .i64 2] from rfl) (Reps.none _ _)))); intro vl8 wl8 ho hb hg_ hnew_; clear hg_ hnew_; (first | rw [← Ny1.out] at ho | (simp only [Int.reduceToNat] at ho; rw [← Ny1.out] at ho)); have no_ := K0 (Kd.R_lower ho (below_size (by repeat (first | (with_reducible first | exact HB.out | apply below_alloc | apply pw_below_drewN | apply below_drew1) | exact HB.out)))); have nb_ := K0 (below_step (by repeat (first | (with_reducible first | exact HB.out | apply below_alloc | apply pw_below_drewN | apply below_drew1) | exact HB.out)) hb); clear HB; have HO1 := no_; have HB := nb_; clear no_ nb_; clear hb ho) | ((with_reducible refine gate_dst (N := 9) rfl ?_); (try (refine gate_guard (by rfl) ?_; dsimp only)); refine Kd.R_lit (Kd.int .i64) _ 3 ?hg (N := 9) ?hd (xs := ([(-1), 3] : List Int)) (inner := [.int .i64 (-1), .int .i64 3]) (ok := fun _ => True) (okp := fun _ => True) ?hr ?hp (fun _ hk => hk) trivial (Below.refl _ _) (Nat.le_refl _) (by simp) ?_; (case hd => rfl); (case hg => rfl); (case hr => first | (go_simp; done) | (go_simp; rfl)); (case hp => exact (Reps.one (show Kd.M (Kd.int .i64) _ _ _ (-1) [.int .i64 (-1)] from rfl) (Reps.one (show Kd.M (Kd.int .i64) _ _ _ 3 [.int .i64 3] from rfl) (Reps.none _ _)))); intro vl9 wl9 ho hb hg_ hnew_; clear hg_ hnew_; (first | rw [← Ny2.out] at ho | (simp only [Int.reduceToNat] at ho; rw [← Ny2.out] at ho)); have nn0_ := K0 (Kd.R_below (by (with_reducible repeat (first | apply Kd.R_alloc | apply Kd.R_drewN | apply Kd.R_drew)); exact HO1.out) hb); have no_ := K0 (Kd.R_lower ho (below_size (by repeat (first | (with_reducible first | exact HB.out | apply below_alloc | apply pw_below_drewN | apply below_drew1) | exact HB.out)))); have nb_ := K0 (below_step (by repeat (first | (with_reducible first | exact HB.out | apply below_alloc | apply pw_below_drewN | apply below_drew1) | exact HB.out)) hb); clear HO1 HB; have HO1 := nn0_; have HO2 := no_; have HB := nb_; clear nn0_ no_ nb_; clear hb ho) | ((with_reducible refine gate_dst (N := 10) rfl ?_); (try (refine gate_guard (by rfl) ?_; dsimp only)); refine Kd.R_lit (Kd.int .i64) _ 3 ?hg (N := 10) ?hd (xs := ([(-2), (-3)] : List Int)) (inner := [.int .i64 (-2), .int .i64 (-3)]) (ok := fun _ => True) (okp := fun _ => True) ?hr ?hp (fun _ hk => hk) trivial (Below.refl _ _) (Nat.le_refl _) (by simp) ?_; (case hd => rfl); (case hg => rfl); (case hr => first | (go_simp; done) | (go_simp; rfl)); (case hp => exact (Reps.one (show Kd.M (Kd.int .i64) _ _ _ (-2) [.int .i64 (-2)] from rfl) (Reps.one (show Kd.M (Kd.int .i64) _ _ _ (-3) [.int .i64 (-3)] from rfl) (Reps.none _ _)))); intro vl10 wl10 ho hb hg_ hnew_; clear hg_ hnew_; (first | rw [← Ny3.out] at ho | (simp only [Int.reduceToNat] at ho; rw [← Ny3.out] at ho)); have nn0_ := K0 (Kd.R_below (by (with_reducible repeat (first | apply Kd.R_alloc | apply Kd.R_drewN | apply Kd.R_drew)); exact HO1.out) hb); have nn1_ := K0 (Kd.R_below (by (with_reducible repeat (first | apply Kd.R_alloc | apply Kd.R_drewN | apply Kd.R_drew)); exact HO2.out) hb); have no_ := K0 (Kd.R_lower ho (below_size (by repeat (first | (with_reducible first | exact HB.out | apply below_alloc | apply pw_below_drewN | apply below_drew1) | exact HB.out)))); have nb_ := K0 (below_step (by repeat (first | (with_reducible first | exact HB.out | apply below_alloc | apply pw_below_drewN | apply below_drew1) | exact HB.out)) hb); clear HO1 HO2 HB; have HO1 := nn0_; have HO2 := nn1_; have HO3 := no_; have HB := nb_; clear nn0_ nn1_ no_ nb_; clear hb ho; obtain ⟨AoHO1, coHO1, eoHO1⟩ := Kd.R_slice HO1.out; subst eoHO1; obtain ⟨AoHO2, coHO2, eoHO2⟩ := Kd.R_slice HO2.out; subst eoHO2; obtain ⟨AoHO3, coHO3, eoHO3⟩ := Kd.R_slice HO3.out; subst eoHO3) | ((with_reducible refine gate_dst (N := 11) rfl ?_); (try (refine gate_guard (by rfl) ?_; dsimp only)); refine Kd.N_lit (Kd.slice 3 (Kd.int .i64)) _ 37 ?hg (N' := 11) ?hd (xs := ([y1, y2, y3] : List (List Int))) (inner := [.slice AoHO1 y1.length coHO1, .slice AoHO2 y2.length coHO2, .slice AoHO3 y3.length coHO3]) (ok := (fun _ => True)) (okp := (fun _ => True)) ?hr ?hp (fun _ hk => hk) ((show ∀ k_, wl10.heap.size ≤ k_ → (fun _ => True) k_ from fun k_ hk => trivial) _ (Nat.le_refl _)) (Below.refl _ _) (Nat.le_refl _) (by simp) ?_; (case hd => rfl); (case hg => rfl); (case hr => first | (go_simp; done) | (go_simp; rfl)); (case hp => exact (Reps.one (show Kd.FK (Kd.slice 3 (Kd.int .i64)) _ _ y1 [.slice AoHO1 y1.length coHO1] from (Kd.FK_slice_mk (Kd.R_reads' HO1.out).2.1 (Kd.R_F HO1.out))) (Reps.one (show Kd.FK (Kd.slice 3 (Kd.int .i64)) _ _ y2 [.slice AoHO2 y2.length coHO2] from (Kd.FK_slice_mk (Kd.R_reads' HO2.out).2.1 (Kd.R_F HO2.out))) (Reps.one (show Kd.FK (Kd.slice 3 (Kd.int .i64)) _ _ y3 [.slice AoHO3 y3.length coHO3] from (Kd.FK_slice_mk (Kd.R_reads' HO3.out).2.1 (Kd.R_F HO3.out))) (Reps.none _ _))))); intro vl11 wl11 ho hb hg_ hnew_; clear hg_ hnew_; (first | rw [← Ny4.out] at ho | (simp only [Int.reduceToNat] at ho; rw [← Ny4.out] at ho)); have no_ := K0 (Kd.N_lower ho (below_size (by repeat (first | (with_reducible first | exact HB.out | apply below_alloc | apply pw_below_drewN | apply below_drew1) | exact HB.out)))); have nb_ := K0 (below_step (by repeat (first | (with_reducible first | exact HB.out | apply below_alloc | apply pw_below_drewN | apply below_drew1) | exact HB.out)) hb); clear HB HO1 HO2 HO3; have HO4 := no_; have HB := nb_; clear no_ nb_; clear hb ho; obtain ⟨Ao4, co4, eo4⟩ := Kd.N_slice HO4.out; subst eo4))
  obtain ⟨gb, hgb⟩ : ∃ g, wl11.heap.size = g := ⟨_, rfl⟩
  obtain ⟨W5, hW5⟩ : ∃ W5, wl11.alloc (.cells #[.int .i64 3, .slice Ao4 y4.length co4] 24) = W5 := ⟨_, rfl⟩
  have hb5 : Below wl11.heap.size wl11 W5 := by rw [← hW5]; exact below_alloc (Below.refl _ _) _
  have n5 := blk_new wl11 (.cells #[.int .i64 3, .slice Ao4 y4.length co4] 24)
  rw [hW5, hgb] at n5
  rw [hW5, hgb]
  have BK := K0 n5
  have cb0 : W5.cell? ⟨gb, 0, none⟩ = some (.int .i64 3) := (blk_cell BK.out 0).trans rfl
  have cb1 : W5.cell? ⟨gb, 1, none⟩ = some (.slice Ao4 y4.length co4) := (blk_cell BK.out 1).trans rfl
  have HC5 := K0 (Kd.C_below (Kd.N_reads' HO4.out).2.2 hb5)
  have HL5 := K0 (Kd.N_reads' HO4.out).2.1
  have HB5 := K0 (below_step HB.out hb5)
  have A1 := K0 (eng_New.calls k 3 Ao4 co4 y4 E2 W5 HC5.out HL5.out H2.out H1.out)
  clear hW5 hgb hb5 n5 HO4 HB
  go_wp2_with fail
  refine A1.out.mono ?_
  rintro e' w6 ⟨B, rfl, T, p, h6_, hb6, hT6⟩
  have HE := K0 h6_
  have HT := K0 (show ∀ k, k < W5.heap.size → T k = (0, 0) from hT6)
  have HB6 := K0 (show Below W5.heap.size W5 w6 from hb6)
  have A2 := K0 (eng_Push.calls k E2 B T p 1 E3 true w6 HE.out (by decide) H3.out H4.out)
  clear h6_ hb6 hT6 A1 cb0 cb1
  go_wp2_with fail
  refine A2.out.mono ?_
  rintro e' w7 ⟨rfl, T7, p7, h7_, m7, f7⟩
  have HE7 := K0 h7_
  have HB7 := K0 (Below.trans HB6.out (m7.below _ HB6.out.size HT.out))
  have HBw := K0 (below_step HB5.out HB7.out)
  have BK7 := K0 (blk_below BK.out HB7.out)
  have cb0 : w7.cell? ⟨gb, 0, none⟩ = some (.int .i64 3) := (blk_cell BK7.out 0).trans rfl
  have cb1 : w7.cell? ⟨gb, 1, none⟩ = some (.slice Ao4 y4.length co4) := (blk_cell BK7.out 1).trans rfl
  have A3 := K0 (learn_First.calls k m E3 B T7 p7 3 Ao4 co4 y4 y5 0 fr 0 w7 HE7.out H5.out.1 H5.out.2.1 H5.out.2.2 (Kd.C_below HC5.out HB7.out) HL5.out H6.out H7.out)
  clear h7_ m7 f7 A2 HE HT HB6 HB7 BK
  go_wp2_with fail
  refine A3.out.mono ?_
  rintro e' w8 ⟨v1, v2, rfl, r1, r2, hb8⟩
  obtain ⟨A8, k8, e8⟩ := Kd.R_slice r2
  subst e8
  obtain ⟨A9, k9, e9⟩ := Kd.R_slice r1
  subst e9
  have HB := K0 (below_step HBw.out hb8)
  have HO7 := K0 r1
  have q8 : decide ((2 : Int) ≤ (fr.length : Int)) = true := decide_eq_true (by have := H8.out; omega)
  have q9 : decide (2 ≤ fr.length) = true := decide_eq_true H8.out
  have q7 : (2 ≤ fr.length) = True := eq_true H8.out
  clear r1 r2 hb8 A3 cb0 cb1 HBw
  go_wp2_with (first | ((with_reducible refine gate_dst (N := 38) rfl ?_); (try (refine gate_guard (by rfl) ?_; dsimp only)); refine Kd.R_lit (Kd.int .i64) _ 3 ?hg (N := 38) ?hd (xs := ([(-1)] : List Int)) (inner := [.int .i64 (-1)]) (ok := fun _ => True) (okp := fun _ => True) ?hr ?hp (fun _ hk => hk) trivial (Below.refl _ _) (Nat.le_refl _) (by simp) ?_; (case hd => rfl); (case hg => rfl); (case hr => first | (go_simp; done) | (go_simp; rfl)); (case hp => exact (Reps.one (show Kd.M (Kd.int .i64) _ _ _ (-1) [.int .i64 (-1)] from rfl) (Reps.none _ _))); intro vl38 wl38 ho hb hg_ hnew_; clear hg_ hnew_; (first | rw [← Ny5.out] at ho | (simp only [Int.reduceToNat] at ho; rw [← Ny5.out] at ho)); have nn0_ := K0 (Kd.R_below (by (with_reducible repeat (first | apply Kd.R_alloc | apply Kd.R_drewN | apply Kd.R_drew)); exact HO7.out) hb); have no_ := K0 (Kd.R_lower ho (below_size (by repeat (first | (with_reducible first | exact HB.out | apply below_alloc | apply pw_below_drewN | apply below_drew1) | exact HB.out)))); have nb_ := K0 (below_step (by repeat (first | (with_reducible first | exact HB.out | apply below_alloc | apply pw_below_drewN | apply below_drew1) | exact HB.out)) hb); clear HO7 HB; have HO7 := nn0_; have HO8 := no_; have HB := nb_; clear nn0_ no_ nb_; clear hb ho; obtain ⟨AoHO8, coHO8, eoHO8⟩ := Kd.R_slice HO8.out; subst eoHO8))
  refine (sequiturbase_Ints.calls k _ _ y5 _ _ y5 true _ (Kd.R_reads' HO7.out).2.2 (Kd.R_reads' HO7.out).2.1 (Kd.R_reads' HO8.out).2.2 (Kd.R_reads' HO8.out).2.1 H9.out).mono ?_
  rintro e' w9 ⟨rfl, ⟨nd, rfl⟩⟩
  have HB9 := K0 (pw_below_drewN HB.out nd)
  clear HO7 HO8 HB
  go_wp2
  go_ret
  exact ⟨rfl, HB9.out⟩
set_option maxRecDepth 100000 in
set_option maxHeartbeats 8000000 in
theorem learn_told.calls (E : Eng) (B : Nat) (T : Tag) (p : EngP) (w : World) (hE : EngIn w B T E p) (hl : E.tr.length < 4398046511104) (htr : ∀ x ∈ E.tr, (Lit.int .i64 (absW x)).wf = true) :
    Calls Try.prog 20 #[.pointer (some ⟨B, 0, none⟩)] w fun e w' => ∃ vT vW vL, e = .returned (.agg #[vT, vW, vL, .int .i64 E.br, .int .i64 (E.st.length : Int)]) ∧ RI w' w.heap.size vT E.tr ∧ RI w' w.heap.size vW E.whys ∧ RI w' w.heap.size vL E.levs ∧ Below w.heap.size w w' := by
  have huT := Try.underlying49
  obtain ⟨g2, hg2⟩ : ∃ g, w.heap.size = g := ⟨_, rfl⟩
  obtain ⟨W1, hW1⟩ : ∃ W1, w.alloc (.cells #[.slice none 0 0, .slice none 0 0, .slice none 0 0, .int .i64 0, .int .i64 0] 49) = W1 := ⟨_, rfl⟩
  have z1 : W1.heap.size = w.heap.size + 1 := by rw [← hW1]; exact Array.size_push _
  have hb1 : Below w.heap.size w W1 := by rw [← hW1]; exact below_alloc (Below.refl _ _) _
  have n1 := blk_new w (.cells #[.slice none 0 0, .slice none 0 0, .slice none 0 0, .int .i64 0, .int .i64 0] 49)
  rw [hW1, hg2] at n1
  have HY := K0 n1; have HB1 := K0 hb1
  have HZ1 := K0 (show W1.heap.size = g2 + 1 by omega)
  have HGW := K0 hg2; have HE := K0 hE; have HT := K0 htr
  have A1 := K0 (eng_Trail.calls E B T p W1 (HE.out.below hb1) hl)
  clear hE htr z1 hb1 n1
  go_enter Try.func20, Try.ntmps20
  go_wp2_with fail
  clear hW1 hg2
  refine A1.out.mono ?_
  rintro e' w2 ⟨vT, rfl, rT, hb2⟩
  have HY2 := K0 (blk_below HY.out hb2)
  have HB2 := K0 (below_step HB1.out hb2)
  have HRT := K0 rT
  have HZ2 := K0 hb2.size
  have A2 := K0 (eng_Broken.calls E B T p w2 (HE.out.below HB2.out))
  have A3 := K0 (eng_Levels.calls E B T p w2 (HE.out.below HB2.out))
  clear rT hb2 A1 HY HB1
  go_wp2_with fail
  refine A2.out.mono ?_
  rintro e' w3 ⟨rfl, rfl⟩
  go_wp2_with fail
  refine A3.out.mono ?_
  rintro e' w4 ⟨rfl, rfl⟩
  clear A2 A3
  obtain ⟨A4, k4, e4⟩ := Kd.R_slice HRT.out
  subst e4
  have hbr : E.tr.length ≤ 9223372036854775807 := (Kd.V_reads' (Kd.R_V (base' := 0) HRT.out)).2.2.2.1
  obtain ⟨g, hg⟩ : ∃ g, w4.heap.size = g := ⟨_, rfl⟩
  obtain ⟨W5, hW5⟩ : ∃ W5, w4.alloc (.cells #[.slice A4 E.tr.length k4, .slice none 0 0, .slice none 0 0, .int .i64 E.br, .int .i64 (E.st.length : Int)] 49) = W5 := ⟨_, rfl⟩
  have hb5 : Below w4.heap.size w4 W5 := by rw [← hW5]; exact below_alloc (Below.refl _ _) _
  have n5 := blk_new w4 (.cells #[.slice A4 E.tr.length k4, .slice none 0 0, .slice none 0 0, .int .i64 E.br, .int .i64 (E.st.length : Int)] 49)
  rw [hW5, hg] at n5
  have hno : ∀ k, (Value.slice none 0 0).ownBlock ≠ some k := fun k => by simp [Value.ownBlock]
  have HS0 := K0 (show ToldIn w W5 g2 g E.br (E.st.length : Int) (.slice A4 E.tr.length k4) (.slice none 0 0) (.slice none 0 0) E.tr (E.tr.take 0 |>.map fun x => E.why (absW x)) (E.tr.take 0 |>.map fun x => E.level (absW x)) from
    ⟨below_step HB2.out hb5, n5, blk_below HY2.out hb5, Kd.R_below (Kd.R_lower HRT.out (by have := HZ1.out; have := HGW.out; omega)) hb5, Kd.R_nil _ _ _ _ _, Kd.R_nil _ _ _ _ _, fun k e => ⟨by have := Kd.R_lt HRT.out k e; omega, by have := Kd.R_base HRT.out k e; have := HZ1.out; omega, hno k, hno k⟩, fun k e => absurd e (hno k), fun k e => absurd e (hno k), by have := HGW.out; have := HZ1.out; have := HZ2.out; omega⟩)
  have p0 : W5.cell? ⟨g, 0, none⟩ = some (.slice A4 E.tr.length k4) := (blk_cell n5 0).trans rfl
  clear hb5 n5 hno HRT HY2 HB2
  go_wp2
  clear hW5 hg p0
  go_loopg [5, 6, 17] E.tr.length (fun gg v5 v6 v17 wr => ∃ (j : Nat) (vW vL : Value), v17 = .int .i64 (j : Int) ∧ Aside0 (j + gg = E.tr.length) ∧ Aside0 (ToldIn w wr g2 g E.br (E.st.length : Int) (.slice A4 E.tr.length k4) vW vL E.tr ((E.tr.take j).map fun x => E.why (absW x)) ((E.tr.take j).map fun x => E.level (absW x))))
  case atStart => exact ⟨0, _, _, rfl, ⟨by simp⟩, HS0⟩
  case round =>
    clear HS0
    obtain ⟨j, vW, vL, rfl, hg, HS⟩ := hrel
    by_cases hlt : j < E.tr.length
    case neg =>
      have hd2 : decide ((j : Int) < (E.tr.length : Int)) = false := decide_eq_false (by omega)
      have Q2 : (j < E.tr.length) = False := eq_false hlt
      have hs := HS.out
      rw [List.take_of_length_le (by omega)] at hs
      obtain ⟨A6, k6, e6⟩ := Kd.R_slice hs.s
      obtain ⟨A7, k7, e7⟩ := Kd.R_slice hs.l
      subst e6 e7
      simp only [List.length_map] at hs
      have HS9 := K0 hs
      have q0 := (blk_cell hs.x 0).trans rfl
      have x0 : wr.cell? ⟨g, 0, none⟩ = some (.slice A4 E.tr.length k4) := (blk_cell hs.x 0).trans rfl
      have x1 : wr.cell? ⟨g, 1, none⟩ = some (.slice A6 E.tr.length k6) := (blk_cell hs.x 1).trans rfl
      have x2 : wr.cell? ⟨g, 2, none⟩ = some (.slice A7 E.tr.length k7) := (blk_cell hs.x 2).trans rfl
      have x3 : wr.cell? ⟨g, 3, none⟩ = some (.int .i64 E.br) := (blk_cell hs.x 3).trans rfl
      have x4 : wr.cell? ⟨g, 4, none⟩ = some (.int .i64 (E.st.length : Int)) := (blk_cell hs.x 4).trans rfl
      obtain ⟨⟨u0, z0⟩, ⟨u1, z1⟩, ⟨u2, z2⟩, ⟨u3, z3⟩, ⟨u4, z4⟩, u5⟩ := put5_facts hs.y (.slice A4 E.tr.length k4) (.slice A6 E.tr.length k6) (.slice A7 E.tr.length k7) (.int .i64 E.br) (.int .i64 (E.st.length : Int))
      have HR9 := K0 u5; clear u5 hs q0 HS hg hlt
      go_wp2
      (try simp only [Exit.inBlock, Exit.then])
      refine bodyPost_ret (results_cell_row rfl _ _ g2 _ _ _ _ rfl HR9.out huT rfl (by kernel_rfl)) rfl ?_
      have lw : E.whys.length = E.tr.length := List.length_map _
      have ll : E.levs.length = E.tr.length := List.length_map _
      exact ⟨_, _, _, rfl, RI.put5 HS9.out.t (fun k e => (HS9.out.dt k e).2.1) _ _ _ _ _, RI.put5 HS9.out.s (fun k e => (HS9.out.ds k e).2.1) _ _ _ _ _, RI.put5 HS9.out.l (fun k e => (HS9.out.dl k e).2) _ _ _ _ _, put5_below HS9.out.b HS9.out.hi.2.1 _ _ _ _ _⟩
    obtain ⟨ad, e1, x1⟩ := Kd.at_int (Kd.V_reads' (Kd.R_V (base' := 0) HS.out.t)).2.2 (j : Int) (by omega) (by omega)
    cases e1
    obtain ⟨x, hxx⟩ : ∃ x, E.tr[j] = x := ⟨_, rfl⟩
    have hrd : rd E.tr (j : Int) = x := by simp [rd, hlt, hxx]
    rw [hrd] at x1
    simp only [Int.toNat_natCast] at x1
    have htk : E.tr.take (j + 1) = E.tr.take j ++ [x] := by rw [List.take_add_one, List.getElem?_eq_getElem hlt, hxx]; rfl
    have HTW := K0 (show (E.tr.take (j + 1)).map (fun x => E.why (absW x)) = (E.tr.take j).map (fun x => E.why (absW x)) ++ [E.why (absW x)] by rw [htk, List.map_append]; rfl)
    have HTL := K0 (show (E.tr.take (j + 1)).map (fun x => E.level (absW x)) = (E.tr.take j).map (fun x => E.level (absW x)) ++ [E.level (absW x)] by rw [htk, List.map_append]; rfl)
    have HLW := K0 (show (((E.tr.take j).map fun x => E.why (absW x)).length + 1) * 8 ≤ 140737488355328 by rw [List.length_map, List.length_take]; omega)
    have HLL := K0 (show (((E.tr.take j).map fun x => E.level (absW x)).length + 1) * 8 ≤ 140737488355328 by rw [List.length_map, List.length_take]; omega)
    have HWX := K0 (HT.out x (by rw [← hxx]; exact List.getElem_mem hlt))
    obtain ⟨ws, hws⟩ : ∃ ws, ((E.tr.take j).map fun x => E.why (absW x)) = ws := ⟨_, rfl⟩
    obtain ⟨ls, hls⟩ : ∃ ls, ((E.tr.take j).map fun x => E.level (absW x)) = ls := ⟨_, rfl⟩
    rw [hws] at HTW HLW HS
    rw [hls] at HTL HLL HS
    obtain ⟨v, hv⟩ : ∃ v, absW x = v := ⟨_, rfl⟩
    rw [hv] at HWX HTW HTL
    have Q0 : ((0 : Int) ≤ (j : Int)) = True := eq_true (by omega)
    have Q1 : ((j : Int) < (E.tr.length : Int)) = True := eq_true (by omega)
    have Q2 : (j < E.tr.length) = True := eq_true hlt
    have hd2 : decide ((j : Int) < (E.tr.length : Int)) = true := decide_eq_true (by omega)
    have HJ := K0 hlt; clear hxx hrd htk hws hls
    by_cases hneg : x < 0
    case pos =>
      have d4 : decide (x < 0) = true := decide_eq_true hneg
      have hv2 : wrap64 (-x) = v := by rw [← hv]; unfold absW; rw [if_pos hneg]
      clear hv hneg
      go_upto_region 8 with fail
      clear x1
      (try simp only [hv2])
      have c0 : wr.cell? ⟨g, 1, none⟩ = some vW := (blk_cell HS.out.x 1).trans rfl
      refine start_ (n := 9) (S := fun w' => w'.cell? ⟨g, 1, none⟩ = some vW) (ds := [6, 8]) #[false, false, false, false, false, false, false, false, false] (by kernel_rfl) rfl rfl (c0) (fun hHeld => ?_)
      refine pure_ (i := 0) (N := some 26) (v := ?_) (a' := ?_) #[true, false, false, false, false, false, false, false, false] rfl rfl (by kernel_rfl) (fun _ _ _ h => h) (Or.inl ⟨by rfl, ?_⟩) ?_ ?_
      rotate_left
      · intro w'
        go_simp
        with_reducible rfl
      rotate_left
      · simp only [Act.put, List.setIfInBounds_toArray, List.set_cons_zero, List.set_cons_succ, i64_w, i32_w]
        rfl
      refine pure_ (i := 2) (N := some 28) (v := ?_) (a' := ?_) #[true, false, true, false, false, false, false, false, false] rfl rfl (by kernel_rfl) (fun _ _ _ h => h) (Or.inl ⟨by rfl, ?_⟩) ?_ ?_
      rotate_left
      · intro w'
        go_simp
        with_reducible rfl
      rotate_left
      · simp only [Act.put, List.setIfInBounds_toArray, List.set_cons_zero, List.set_cons_succ, i64_w, i32_w]
        rfl
      refine pure_ (i := 3) (N := some 29) (v := ?_) (a' := ?_) #[true, false, true, true, false, false, false, false, false] rfl rfl (by kernel_rfl) (fun _ _ _ h => h) (Or.inl ⟨by rfl, ?_⟩) ?_ ?_
      rotate_left
      · intro w'
        go_simp
        with_reducible rfl
      rotate_left
      · simp only [Act.put, List.setIfInBounds_toArray, List.set_cons_zero, List.set_cons_succ, i64_w, i32_w]
        rfl
      refine take_ (i := 1) (N := some 27) (v := ?_) (a' := ?_) #[true, true, true, true, false, false, false, false, false] rfl rfl (by kernel_rfl) (fun _ _ _ h => h) (Or.inl ⟨by rfl, ?_⟩) hHeld ?_ ?_
      rotate_left
      · intro w' s0
        go_simp
        with_reducible rfl
      rotate_left
      · simp only [Act.put, List.setIfInBounds_toArray, List.set_cons_zero, List.set_cons_succ, i64_w, i32_w]
        rfl
      refine one_ (i := 4) (N := some 30) #[true, true, true, true, true, false, false, false, false] rfl rfl (by kernel_rfl) (by decide) (fun K hK => ?_)
      refine goes_ Try.func43 (by kernel_rfl) rfl #[.pointer (some ⟨B, 0, none⟩), .int .i64 v] (by rfl) rfl rfl (by simp only [List.map_toArray, List.map_cons, List.map_nil]; rfl) ?_
      with_reducible refine (eng_Why.calls E B T p v _ (HE.out.below (below_drew HS.out.b)) HWX.out).mono ?_
      rintro e' w5 ⟨rfl, hbc⟩
      refine ⟨_, rfl, ?_⟩
      have HCw5 := K0 ((HS.out.below (show Below wr.heap.size wr w5 from below_step (below_drew (Below.refl _ _)) hbc)))
      clear hbc
      refine hK.out _ _ (((blk_cell HCw5.out.x 1).trans rfl)) (fun hHeld => ?_)
      clear hK K
      refine norm_ (a' := ?_) ?_ ?_
      rotate_left
      · show Act.put _ (some 30) _ = _
        simp only [Act.put, List.setIfInBounds_toArray, List.set_cons_zero, List.set_cons_succ, i64_w, i32_w]
        rfl
      refine one_ (i := 5) (N := some 31) #[true, true, true, true, true, true, false, false, false] rfl rfl (by kernel_rfl) (by decide) (fun K hK => ?_)
      refine value_ (w1 := ?_) (v := ?_) (by rfl) rfl ?_ ?_
      rotate_left 2
      · go_simp
        constructor
        · rfl
        rfl
      refine hK.out _ _ (pw_cell_below (below_alloc (Below.refl _ _) _) hHeld) (fun hHeld => ?_)
      clear hK K
      refine norm_ (a' := ?_) ?_ ?_
      rotate_left
      · show Act.put _ (some 31) _ = _
        simp only [Act.put, List.setIfInBounds_toArray, List.set_cons_zero, List.set_cons_succ, i64_w, i32_w]
        rfl
      refine last_ (i := 6) (N := some 32) #[true, true, true, true, true, true, true, false, false] rfl rfl (by kernel_rfl) (by decide) (fun K hK => ?_)
      refine Kd.R_append_step (Kd.int .i64) (w0 := w) (W := w5) w.heap.size (by rfl) (.tmp 27) (.tmp 31) 37 3 (.int .i64 0) 8 rfl Try.underlying37 (by kernel_rfl) rfl (by decide) (by decide) vW ws (E.why v) [.int .i64 (E.why v)] (fun _ => True) (fun _ => False) (by rfl) (by rfl) rfl (fun _ h => h.elim) (fun _ _ => trivial) HCw5.out.s HCw5.out.b HCw5.out.b.size HLW.out ?_
      intro v6 w6 ra hba hga hta
      obtain ⟨Av6, kv6, ev6⟩ := Kd.R_slice ra
      subst ev6
      obtain ⟨hxa, hsa⟩ := HCw5.out.addW ra hba hga hta
      have HS6 := K0 hsa
      rw [List.length_append, List.length_singleton] at HS6
      have ca : w6.cell? ⟨g, 1, none⟩ = some vW := (blk_cell hxa 1).trans rfl
      have fa : w6.frozen? ⟨g, 1, none⟩ = false := blk_frozen hxa 1
      clear ra hba hga hta hxa hsa
      refine hK.out _ _ ?_
      clear hK K
      refine norm_ (a' := ?_) ?_ ?_
      rotate_left
      · show Act.put _ (some 32) _ = _
        simp only [Act.put, List.setIfInBounds_toArray, List.set_cons_zero, List.set_cons_succ, i64_w, i32_w]
        rfl
      refine pure_ (i := 7) (N := some 33) (v := ?_) (a' := ?_) #[true, true, true, true, true, true, true, true, false] rfl rfl (by kernel_rfl) (fun _ _ _ h => h) (Or.inl ⟨by rfl, ?_⟩) ?_ ?_
      rotate_left
      · intro w'
        go_simp
        with_reducible rfl
      rotate_left
      · simp only [Act.put, List.setIfInBounds_toArray, List.set_cons_zero, List.set_cons_succ, i64_w, i32_w]
        rfl
      refine last_ (i := 8) (N := none) #[true, true, true, true, true, true, true, true, true] rfl rfl (by kernel_rfl) (by decide) (fun K hK => ?_)
      refine skip_ (w1 := ?_) (by rfl) rfl ?_ ?_
      rotate_left
      · go_simp
        rfl
      refine hK.out _ _ ?_
      clear hK K
      refine done_ (by kernel_rfl) ?_
      go_upto_region 9 with fail
      have c0 : (w6.setCell ⟨g, 1, none⟩ (.slice Av6 (ws.length + 1) kv6)).cell? ⟨g, 2, none⟩ = some vL := (blk_cell HS6.out.x 2).trans rfl
      refine start_ (n := 9) (S := fun w' => w'.cell? ⟨g, 2, none⟩ = some vL) (ds := [6, 8]) #[false, false, false, false, false, false, false, false, false] (by kernel_rfl) rfl rfl (c0) (fun hHeld => ?_)
      refine pure_ (i := 0) (N := some 34) (v := ?_) (a' := ?_) #[true, false, false, false, false, false, false, false, false] rfl rfl (by kernel_rfl) (fun _ _ _ h => h) (Or.inl ⟨by rfl, ?_⟩) ?_ ?_
      rotate_left
      · intro w'
        go_simp
        with_reducible rfl
      rotate_left
      · simp only [Act.put, List.setIfInBounds_toArray, List.set_cons_zero, List.set_cons_succ, i64_w, i32_w]
        rfl
      refine pure_ (i := 2) (N := some 36) (v := ?_) (a' := ?_) #[true, false, true, false, false, false, false, false, false] rfl rfl (by kernel_rfl) (fun _ _ _ h => h) (Or.inl ⟨by rfl, ?_⟩) ?_ ?_
      rotate_left
      · intro w'
        go_simp
        with_reducible rfl
      rotate_left
      · simp only [Act.put, List.setIfInBounds_toArray, List.set_cons_zero, List.set_cons_succ, i64_w, i32_w]
        rfl
      refine pure_ (i := 3) (N := some 37) (v := ?_) (a' := ?_) #[true, false, true, true, false, false, false, false, false] rfl rfl (by kernel_rfl) (fun _ _ _ h => h) (Or.inl ⟨by rfl, ?_⟩) ?_ ?_
      rotate_left
      · intro w'
        go_simp
        with_reducible rfl
      rotate_left
      · simp only [Act.put, List.setIfInBounds_toArray, List.set_cons_zero, List.set_cons_succ, i64_w, i32_w]
        rfl
      refine take_ (i := 1) (N := some 35) (v := ?_) (a' := ?_) #[true, true, true, true, false, false, false, false, false] rfl rfl (by kernel_rfl) (fun _ _ _ h => h) (Or.inl ⟨by rfl, ?_⟩) hHeld ?_ ?_
      rotate_left
      · intro w' s0
        go_simp
        with_reducible rfl
      rotate_left
      · simp only [Act.put, List.setIfInBounds_toArray, List.set_cons_zero, List.set_cons_succ, i64_w, i32_w]
        rfl
      refine one_ (i := 4) (N := some 38) #[true, true, true, true, true, false, false, false, false] rfl rfl (by kernel_rfl) (by decide) (fun K hK => ?_)
      refine goes_ Try.func28 (by kernel_rfl) rfl #[.pointer (some ⟨B, 0, none⟩), .int .i64 v] (by rfl) rfl rfl (by simp only [List.map_toArray, List.map_cons, List.map_nil]; rfl) ?_
      with_reducible refine (eng_Level.calls E B T p v _ (HE.out.below (below_drew HS6.out.b)) HWX.out).mono ?_
      rintro e' w7 ⟨rfl, hbc⟩
      refine ⟨_, rfl, ?_⟩
      have HCw7 := K0 ((HS6.out.below (show Below (w6.setCell ⟨g, 1, none⟩ (.slice Av6 (ws.length + 1) kv6)).heap.size (w6.setCell ⟨g, 1, none⟩ (.slice Av6 (ws.length + 1) kv6)) w7 from below_step (below_drew (Below.refl _ _)) hbc)))
      clear hbc
      refine hK.out _ _ (((blk_cell HCw7.out.x 2).trans rfl)) (fun hHeld => ?_)
      clear hK K
      refine norm_ (a' := ?_) ?_ ?_
      rotate_left
      · show Act.put _ (some 38) _ = _
        simp only [Act.put, List.setIfInBounds_toArray, List.set_cons_zero, List.set_cons_succ, i64_w, i32_w]
        rfl
      refine one_ (i := 5) (N := some 39) #[true, true, true, true, true, true, false, false, false] rfl rfl (by kernel_rfl) (by decide) (fun K hK => ?_)
      refine value_ (w1 := ?_) (v := ?_) (by rfl) rfl ?_ ?_
      rotate_left 2
      · go_simp
        constructor
        · rfl
        rfl
      refine hK.out _ _ (pw_cell_below (below_alloc (Below.refl _ _) _) hHeld) (fun hHeld => ?_)
      clear hK K
      refine norm_ (a' := ?_) ?_ ?_
      rotate_left
      · show Act.put _ (some 39) _ = _
        simp only [Act.put, List.setIfInBounds_toArray, List.set_cons_zero, List.set_cons_succ, i64_w, i32_w]
        rfl
      refine last_ (i := 6) (N := some 40) #[true, true, true, true, true, true, true, false, false] rfl rfl (by kernel_rfl) (by decide) (fun K hK => ?_)
      refine Kd.R_append_step (Kd.int .i64) (w0 := w) (W := w7) w.heap.size (by rfl) (.tmp 35) (.tmp 39) 37 3 (.int .i64 0) 8 rfl Try.underlying37 (by kernel_rfl) rfl (by decide) (by decide) vL ls (E.level v) [.int .i64 (E.level v)] (fun _ => True) (fun _ => False) (by rfl) (by rfl) rfl (fun _ h => h.elim) (fun _ _ => trivial) HCw7.out.l HCw7.out.b HCw7.out.b.size HLL.out ?_
      intro v8 w8 ra hba hga hta
      obtain ⟨Av8, kv8, ev8⟩ := Kd.R_slice ra
      subst ev8
      obtain ⟨hxa, hsa⟩ := HCw7.out.addL ra hba hga hta
      have HS8 := K0 hsa
      rw [List.length_append, List.length_singleton] at HS8
      have ca : w8.cell? ⟨g, 2, none⟩ = some vL := (blk_cell hxa 2).trans rfl
      have fa : w8.frozen? ⟨g, 2, none⟩ = false := blk_frozen hxa 2
      clear ra hba hga hta hxa hsa
      refine hK.out _ _ ?_
      clear hK K
      refine norm_ (a' := ?_) ?_ ?_
      rotate_left
      · show Act.put _ (some 40) _ = _
        simp only [Act.put, List.setIfInBounds_toArray, List.set_cons_zero, List.set_cons_succ, i64_w, i32_w]
        rfl
      refine pure_ (i := 7) (N := some 41) (v := ?_) (a' := ?_) #[true, true, true, true, true, true, true, true, false] rfl rfl (by kernel_rfl) (fun _ _ _ h => h) (Or.inl ⟨by rfl, ?_⟩) ?_ ?_
      rotate_left
      · intro w'
        go_simp
        with_reducible rfl
      rotate_left
      · simp only [Act.put, List.setIfInBounds_toArray, List.set_cons_zero, List.set_cons_succ, i64_w, i32_w]
        rfl
      refine last_ (i := 8) (N := none) #[true, true, true, true, true, true, true, true, true] rfl rfl (by kernel_rfl) (by decide) (fun K hK => ?_)
      refine skip_ (w1 := ?_) (by rfl) rfl ?_ ?_
      rotate_left
      · go_simp
        rfl
      refine hK.out _ _ ?_
      clear hK K
      refine done_ (by kernel_rfl) ?_
      go_wp2
      go_roundg (E.tr.length - (j + 1))
      case measure => have := hg.out; have := HJ.out; omega
      case rel => exact ⟨j + 1, (.slice Av6 (ws.length + 1) kv6), (.slice Av8 (ls.length + 1) kv8), by simp, ⟨by have := hg.out; have := HJ.out; omega⟩, ⟨by rw [HTW.out, HTL.out]; exact HS8.out⟩⟩
    have d4 : decide (x < 0) = false := decide_eq_false hneg
    have hv2 : v = x := by rw [← hv]; unfold absW; rw [if_neg hneg]
    subst hv2; clear hv hneg
    go_upto_region 8 with fail
    clear x1
    (try simp only [hv2])
    have c0 : wr.cell? ⟨g, 1, none⟩ = some vW := (blk_cell HS.out.x 1).trans rfl
    refine start_ (n := 9) (S := fun w' => w'.cell? ⟨g, 1, none⟩ = some vW) (ds := [6, 8]) #[false, false, false, false, false, false, false, false, false] (by kernel_rfl) rfl rfl (c0) (fun hHeld => ?_)
    refine pure_ (i := 0) (N := some 26) (v := ?_) (a' := ?_) #[true, false, false, false, false, false, false, false, false] rfl rfl (by kernel_rfl) (fun _ _ _ h => h) (Or.inl ⟨by rfl, ?_⟩) ?_ ?_
    rotate_left
    · intro w'
      go_simp
      with_reducible rfl
    rotate_left
    · simp only [Act.put, List.setIfInBounds_toArray, List.set_cons_zero, List.set_cons_succ, i64_w, i32_w]
      rfl
    refine pure_ (i := 2) (N := some 28) (v := ?_) (a' := ?_) #[true, false, true, false, false, false, false, false, false] rfl rfl (by kernel_rfl) (fun _ _ _ h => h) (Or.inl ⟨by rfl, ?_⟩) ?_ ?_
    rotate_left
    · intro w'
      go_simp
      with_reducible rfl
    rotate_left
    · simp only [Act.put, List.setIfInBounds_toArray, List.set_cons_zero, List.set_cons_succ, i64_w, i32_w]
      rfl
    refine pure_ (i := 3) (N := some 29) (v := ?_) (a' := ?_) #[true, false, true, true, false, false, false, false, false] rfl rfl (by kernel_rfl) (fun _ _ _ h => h) (Or.inl ⟨by rfl, ?_⟩) ?_ ?_
    rotate_left
    · intro w'
      go_simp
      with_reducible rfl
    rotate_left
    · simp only [Act.put, List.setIfInBounds_toArray, List.set_cons_zero, List.set_cons_succ, i64_w, i32_w]
      rfl
    refine take_ (i := 1) (N := some 27) (v := ?_) (a' := ?_) #[true, true, true, true, false, false, false, false, false] rfl rfl (by kernel_rfl) (fun _ _ _ h => h) (Or.inl ⟨by rfl, ?_⟩) hHeld ?_ ?_
    rotate_left
    · intro w' s0
      go_simp
      with_reducible rfl
    rotate_left
    · simp only [Act.put, List.setIfInBounds_toArray, List.set_cons_zero, List.set_cons_succ, i64_w, i32_w]
      rfl
    refine one_ (i := 4) (N := some 30) #[true, true, true, true, true, false, false, false, false] rfl rfl (by kernel_rfl) (by decide) (fun K hK => ?_)
    refine goes_ Try.func43 (by kernel_rfl) rfl #[.pointer (some ⟨B, 0, none⟩), .int .i64 v] (by rfl) rfl rfl (by simp only [List.map_toArray, List.map_cons, List.map_nil]; rfl) ?_
    with_reducible refine (eng_Why.calls E B T p v _ (HE.out.below (below_drew HS.out.b)) HWX.out).mono ?_
    rintro e' w5 ⟨rfl, hbc⟩
    refine ⟨_, rfl, ?_⟩
    have HCw5 := K0 ((HS.out.below (show Below wr.heap.size wr w5 from below_step (below_drew (Below.refl _ _)) hbc)))
    clear hbc
    refine hK.out _ _ (((blk_cell HCw5.out.x 1).trans rfl)) (fun hHeld => ?_)
    clear hK K
    refine norm_ (a' := ?_) ?_ ?_
    rotate_left
    · show Act.put _ (some 30) _ = _
      simp only [Act.put, List.setIfInBounds_toArray, List.set_cons_zero, List.set_cons_succ, i64_w, i32_w]
      rfl
    refine one_ (i := 5) (N := some 31) #[true, true, true, true, true, true, false, false, false] rfl rfl (by kernel_rfl) (by decide) (fun K hK => ?_)
    refine value_ (w1 := ?_) (v := ?_) (by rfl) rfl ?_ ?_
    rotate_left 2
    · go_simp
      constructor
      · rfl
      rfl
    refine hK.out _ _ (pw_cell_below (below_alloc (Below.refl _ _) _) hHeld) (fun hHeld => ?_)
    clear hK K
    refine norm_ (a' := ?_) ?_ ?_
    rotate_left
    · show Act.put _ (some 31) _ = _
      simp only [Act.put, List.setIfInBounds_toArray, List.set_cons_zero, List.set_cons_succ, i64_w, i32_w]
      rfl
    refine last_ (i := 6) (N := some 32) #[true, true, true, true, true, true, true, false, false] rfl rfl (by kernel_rfl) (by decide) (fun K hK => ?_)
    refine Kd.R_append_step (Kd.int .i64) (w0 := w) (W := w5) w.heap.size (by rfl) (.tmp 27) (.tmp 31) 37 3 (.int .i64 0) 8 rfl Try.underlying37 (by kernel_rfl) rfl (by decide) (by decide) vW ws (E.why v) [.int .i64 (E.why v)] (fun _ => True) (fun _ => False) (by rfl) (by rfl) rfl (fun _ h => h.elim) (fun _ _ => trivial) HCw5.out.s HCw5.out.b HCw5.out.b.size HLW.out ?_
    intro v6 w6 ra hba hga hta
    obtain ⟨Av6, kv6, ev6⟩ := Kd.R_slice ra
    subst ev6
    obtain ⟨hxa, hsa⟩ := HCw5.out.addW ra hba hga hta
    have HS6 := K0 hsa
    rw [List.length_append, List.length_singleton] at HS6
    have ca : w6.cell? ⟨g, 1, none⟩ = some vW := (blk_cell hxa 1).trans rfl
    have fa : w6.frozen? ⟨g, 1, none⟩ = false := blk_frozen hxa 1
    clear ra hba hga hta hxa hsa
    refine hK.out _ _ ?_
    clear hK K
    refine norm_ (a' := ?_) ?_ ?_
    rotate_left
    · show Act.put _ (some 32) _ = _
      simp only [Act.put, List.setIfInBounds_toArray, List.set_cons_zero, List.set_cons_succ, i64_w, i32_w]
      rfl
    refine pure_ (i := 7) (N := some 33) (v := ?_) (a' := ?_) #[true, true, true, true, true, true, true, true, false] rfl rfl (by kernel_rfl) (fun _ _ _ h => h) (Or.inl ⟨by rfl, ?_⟩) ?_ ?_
    rotate_left
    · intro w'
      go_simp
      with_reducible rfl
    rotate_left
    · simp only [Act.put, List.setIfInBounds_toArray, List.set_cons_zero, List.set_cons_succ, i64_w, i32_w]
      rfl
    refine last_ (i := 8) (N := none) #[true, true, true, true, true, true, true, true, true] rfl rfl (by kernel_rfl) (by decide) (fun K hK => ?_)
    refine skip_ (w1 := ?_) (by rfl) rfl ?_ ?_
    rotate_left
    · go_simp
      rfl
    refine hK.out _ _ ?_
    clear hK K
    refine done_ (by kernel_rfl) ?_
    go_upto_region 9 with fail
    have c0 : (w6.setCell ⟨g, 1, none⟩ (.slice Av6 (ws.length + 1) kv6)).cell? ⟨g, 2, none⟩ = some vL := (blk_cell HS6.out.x 2).trans rfl
    refine start_ (n := 9) (S := fun w' => w'.cell? ⟨g, 2, none⟩ = some vL) (ds := [6, 8]) #[false, false, false, false, false, false, false, false, false] (by kernel_rfl) rfl rfl (c0) (fun hHeld => ?_)
    refine pure_ (i := 0) (N := some 34) (v := ?_) (a' := ?_) #[true, false, false, false, false, false, false, false, false] rfl rfl (by kernel_rfl) (fun _ _ _ h => h) (Or.inl ⟨by rfl, ?_⟩) ?_ ?_
    rotate_left
    · intro w'
      go_simp
      with_reducible rfl
    rotate_left
    · simp only [Act.put, List.setIfInBounds_toArray, List.set_cons_zero, List.set_cons_succ, i64_w, i32_w]
      rfl
    refine pure_ (i := 2) (N := some 36) (v := ?_) (a' := ?_) #[true, false, true, false, false, false, false, false, false] rfl rfl (by kernel_rfl) (fun _ _ _ h => h) (Or.inl ⟨by rfl, ?_⟩) ?_ ?_
    rotate_left
    · intro w'
      go_simp
      with_reducible rfl
    rotate_left
    · simp only [Act.put, List.setIfInBounds_toArray, List.set_cons_zero, List.set_cons_succ, i64_w, i32_w]
      rfl
    refine pure_ (i := 3) (N := some 37) (v := ?_) (a' := ?_) #[true, false, true, true, false, false, false, false, false] rfl rfl (by kernel_rfl) (fun _ _ _ h => h) (Or.inl ⟨by rfl, ?_⟩) ?_ ?_
    rotate_left
    · intro w'
      go_simp
      with_reducible rfl
    rotate_left
    · simp only [Act.put, List.setIfInBounds_toArray, List.set_cons_zero, List.set_cons_succ, i64_w, i32_w]
      rfl
    refine take_ (i := 1) (N := some 35) (v := ?_) (a' := ?_) #[true, true, true, true, false, false, false, false, false] rfl rfl (by kernel_rfl) (fun _ _ _ h => h) (Or.inl ⟨by rfl, ?_⟩) hHeld ?_ ?_
    rotate_left
    · intro w' s0
      go_simp
      with_reducible rfl
    rotate_left
    · simp only [Act.put, List.setIfInBounds_toArray, List.set_cons_zero, List.set_cons_succ, i64_w, i32_w]
      rfl
    refine one_ (i := 4) (N := some 38) #[true, true, true, true, true, false, false, false, false] rfl rfl (by kernel_rfl) (by decide) (fun K hK => ?_)
    refine goes_ Try.func28 (by kernel_rfl) rfl #[.pointer (some ⟨B, 0, none⟩), .int .i64 v] (by rfl) rfl rfl (by simp only [List.map_toArray, List.map_cons, List.map_nil]; rfl) ?_
    with_reducible refine (eng_Level.calls E B T p v _ (HE.out.below (below_drew HS6.out.b)) HWX.out).mono ?_
    rintro e' w7 ⟨rfl, hbc⟩
    refine ⟨_, rfl, ?_⟩
    have HCw7 := K0 ((HS6.out.below (show Below (w6.setCell ⟨g, 1, none⟩ (.slice Av6 (ws.length + 1) kv6)).heap.size (w6.setCell ⟨g, 1, none⟩ (.slice Av6 (ws.length + 1) kv6)) w7 from below_step (below_drew (Below.refl _ _)) hbc)))
    clear hbc
    refine hK.out _ _ (((blk_cell HCw7.out.x 2).trans rfl)) (fun hHeld => ?_)
    clear hK K
    refine norm_ (a' := ?_) ?_ ?_
    rotate_left
    · show Act.put _ (some 38) _ = _
      simp only [Act.put, List.setIfInBounds_toArray, List.set_cons_zero, List.set_cons_succ, i64_w, i32_w]
      rfl
    refine one_ (i := 5) (N := some 39) #[true, true, true, true, true, true, false, false, false] rfl rfl (by kernel_rfl) (by decide) (fun K hK => ?_)
    refine value_ (w1 := ?_) (v := ?_) (by rfl) rfl ?_ ?_
    rotate_left 2
    · go_simp
      constructor
      · rfl
      rfl
    refine hK.out _ _ (pw_cell_below (below_alloc (Below.refl _ _) _) hHeld) (fun hHeld => ?_)
    clear hK K
    refine norm_ (a' := ?_) ?_ ?_
    rotate_left
    · show Act.put _ (some 39) _ = _
      simp only [Act.put, List.setIfInBounds_toArray, List.set_cons_zero, List.set_cons_succ, i64_w, i32_w]
      rfl
    refine last_ (i := 6) (N := some 40) #[true, true, true, true, true, true, true, false, false] rfl rfl (by kernel_rfl) (by decide) (fun K hK => ?_)
    refine Kd.R_append_step (Kd.int .i64) (w0 := w) (W := w7) w.heap.size (by rfl) (.tmp 35) (.tmp 39) 37 3 (.int .i64 0) 8 rfl Try.underlying37 (by kernel_rfl) rfl (by decide) (by decide) vL ls (E.level v) [.int .i64 (E.level v)] (fun _ => True) (fun _ => False) (by rfl) (by rfl) rfl (fun _ h => h.elim) (fun _ _ => trivial) HCw7.out.l HCw7.out.b HCw7.out.b.size HLL.out ?_
    intro v8 w8 ra hba hga hta
    obtain ⟨Av8, kv8, ev8⟩ := Kd.R_slice ra
    subst ev8
    obtain ⟨hxa, hsa⟩ := HCw7.out.addL ra hba hga hta
    have HS8 := K0 hsa
    rw [List.length_append, List.length_singleton] at HS8
    have ca : w8.cell? ⟨g, 2, none⟩ = some vL := (blk_cell hxa 2).trans rfl
    have fa : w8.frozen? ⟨g, 2, none⟩ = false := blk_frozen hxa 2
    clear ra hba hga hta hxa hsa
    refine hK.out _ _ ?_
    clear hK K
    refine norm_ (a' := ?_) ?_ ?_
    rotate_left
    · show Act.put _ (some 40) _ = _
      simp only [Act.put, List.setIfInBounds_toArray, List.set_cons_zero, List.set_cons_succ, i64_w, i32_w]
      rfl
    refine pure_ (i := 7) (N := some 41) (v := ?_) (a' := ?_) #[true, true, true, true, true, true, true, true, false] rfl rfl (by kernel_rfl) (fun _ _ _ h => h) (Or.inl ⟨by rfl, ?_⟩) ?_ ?_
    rotate_left
    · intro w'
      go_simp
      with_reducible rfl
    rotate_left
    · simp only [Act.put, List.setIfInBounds_toArray, List.set_cons_zero, List.set_cons_succ, i64_w, i32_w]
      rfl
    refine last_ (i := 8) (N := none) #[true, true, true, true, true, true, true, true, true] rfl rfl (by kernel_rfl) (by decide) (fun K hK => ?_)
    refine skip_ (w1 := ?_) (by rfl) rfl ?_ ?_
    rotate_left
    · go_simp
      rfl
    refine hK.out _ _ ?_
    clear hK K
    refine done_ (by kernel_rfl) ?_
    go_wp2
    go_roundg (E.tr.length - (j + 1))
    case measure => have := hg.out; have := HJ.out; omega
    case rel => exact ⟨j + 1, (.slice Av6 (ws.length + 1) kv6), (.slice Av8 (ls.length + 1) kv8), by simp, ⟨by have := hg.out; have := HJ.out; omega⟩, ⟨by rw [HTW.out, HTL.out]; exact HS8.out⟩⟩
set_option maxRecDepth 100000 in
theorem learn_Trace_1.calls (k ga : Nat) (A : Option Addr) (c : Nat) (goal : List Int) (b : Bool) (x : Int) (w : World) (hC : Kd.C (Kd.int .i64) w A goal.length goal) (hc : goal.length ≤ c) (ha : w.cell? ⟨ga, 0, none⟩ = some (.slice A goal.length c)) (hk : slices_Contains_int_int.f k goal x = some (!b)) :
    Calls Try.prog 63 #[.int .i64 x, .pointer (some ⟨ga, 0, none⟩)] w fun e w' => e = .returned (.bool b) ∧ Below w.heap.size w w' := by
  have A1 := K0 (slices_Contains_int_int.calls k A c goal x (!b) w hC hc hk)
  clear hC hk
  go_enter Try.func63, Try.ntmps63
  go_wp2_with fail
  refine A1.out.mono ?_
  rintro e' w1 ⟨rfl, hd⟩
  have HB := K0 hd.below
  clear hd A1 ha
  go_wp2
  go_ret
  exact ⟨by cases b <;> rfl, HB.out⟩
set_option maxRecDepth 100000 in
theorem learn_Trace_2.calls (k ga gm : Nat) (A : Option Addr) (c : Nat) (goal : List Int) (may : Int → Bool) (A1 : Option Addr) (c1 : Nat) (cl : List Int) (w : World) (hC : Kd.C (Kd.int .i64) w A goal.length goal) (hc : goal.length ≤ c) (ha : w.cell? ⟨ga, 0, none⟩ = some (.slice A goal.length c))
    (hm : w.cell? ⟨gm, 0, none⟩ = some (.func (.func 63) #[] #[.pointer (some ⟨ga, 0, none⟩)])) (hk : ∀ x, slices_Contains_int_int.f k goal x = some (!may x)) (hC1 : Kd.C (Kd.int .i64) w A1 cl.length cl) :
    Calls Try.prog 65 #[.slice A1 cl.length c1, .pointer (some ⟨gm, 0, none⟩)] w fun e w' => e = .returned (.bool (!cl.any may)) ∧ Below w.heap.size w w' := by
  have eg : ∀ args w, (callFunc 63 args).run Try.prog w = .ok (.enter 63 args) w := enters_of Try.func63 (by kernel_rfl) rfl
  have A2 := K0 (slices_ContainsFunc_int.calls 63 #[.pointer (some ⟨ga, 0, none⟩)] eg may A1 c1 cl w hC1 (fun W hW x hx => learn_Trace_1.calls k ga A c goal (may x) x W (Kd.C_below hC hW) hc ((hW.cell (World.block_lt_of_cell? w _ ha)).trans ha) (hk x)))
  rw [ix_any _ _ _ (Int.le_refl 0)] at A2
  clear hC hk hC1 ha eg
  obtain ⟨b, hb⟩ : ∃ b, cl.any may = b := ⟨_, rfl⟩
  rw [hb] at A2 ⊢
  clear hb
  go_enter Try.func65, Try.ntmps65
  go_wp2_with fail
  refine A2.out.mono ?_
  rintro e' w1 ⟨rfl, hb1⟩
  have HB := K0 hb1
  clear hb1 A2 hm
  go_wp2
  go_ret
  exact ⟨rfl, HB.out⟩
def mayT (goal : List Int) (x : Int) : Bool := !(goal.any (· == x))
def TraceP (k m : Nat) (E : Eng) (L : List (List Int)) (goal fr : List Int) (g : Int) : Prop :=
  (goal.all (fun x => E.val x == -1) = false ∧ fr = [] ∧ g = 1) ∨ (goal.all (fun x => E.val x == -1) = true ∧ ((E.br < 0 ∧ fr = [] ∧ g = 3) ∨ (0 ≤ E.br ∧ ∃ r ok, NumP L E.br r ok ∧
    (((ok && r.all (fun x => (plT E.tr E.tr.length (wrap64 (-x))).isSome)) = false ∧ fr = [] ∧ g = 1) ∨
     ((ok && r.all (fun x => (plT E.tr E.tr.length (wrap64 (-x))).isSome)) = true ∧ ∃ o, BackP k E L (plT E.tr E.tr.length) (mayT goal) (fun cl => !cl.any (mayT goal)) m r [E.br] o ∧
       ((o = none ∧ fr = [] ∧ g = 1) ∨ (∃ cl, o = some (cl, fr) ∧ g = 0)))))))
set_option maxRecDepth 100000 in
set_option maxHeartbeats 8000000 in
theorem learn_Trace.calls (k m : Nat) (E : Eng) (B : Nat) (T : Tag) (p : EngP) (N : Int) (A0 : Option Addr) (c0 : Nat) (L : List (List Int)) (A1 : Option Addr) (c1 : Nat) (goal : List Int) (fr : List Int) (gg : Int) (w : World)
    (hE : EngIn w B T E p) (hl : E.tr.length < 4398046511104) (htr : ∀ x ∈ E.tr, (Lit.int .i64 x).wf = true) (hL : Kd.C (Kd.slice 3 (Kd.int .i64)) w A0 L.length L) (hc : L.length ≤ c0) (hG : Kd.C (Kd.int .i64) w A1 goal.length goal) (hc1 : goal.length ≤ c1) (hgw : ∀ x ∈ goal, (Lit.int .i64 x).wf = true) (hk : ∀ x, slices_Contains_int_int.f k goal x = some (!mayT goal x)) (hm : m < 1099511627775) (h : TraceP k m E L goal fr gg) :
    Calls Try.prog 29 #[.pointer (some ⟨B, 0, none⟩), .agg #[.int .i64 N, .slice A0 L.length c0], .slice A1 goal.length c1] w fun e w' => ∃ v1, e = .returned (.tuple #[v1, .int .i64 gg]) ∧ Kd.R (Kd.int .i64) 3 w' w.heap.size (fun _ => True) v1 fr ∧ Below w.heap.size w w' := by
  have huR := Try.underlying91
  have huC := Try.underlying24
  have hbig := hL.2.1
  have hbg := hG.2.1
  obtain ⟨g4, hg4⟩ : ∃ g, w.heap.size = g := ⟨_, rfl⟩
  obtain ⟨W1, hW1⟩ : ∃ W1, w.alloc (.cells #[.int .i64 N, .slice A0 L.length c0] 24) = W1 := ⟨_, rfl⟩
  obtain ⟨W2, hW2⟩ : ∃ W2, W1.alloc (.cells #[.slice A1 goal.length c1] 37) = W2 := ⟨_, rfl⟩
  have z1 : W1.heap.size = w.heap.size + 1 := by rw [← hW1]; exact Array.size_push _
  have z2 : W2.heap.size = W1.heap.size + 1 := by rw [← hW2]; exact Array.size_push _
  have hb1 : Below w.heap.size w W1 := by rw [← hW1]; exact below_alloc (Below.refl _ _) _
  have hb2 : Below w.heap.size w W2 := by rw [← hW2]; exact below_alloc hb1 _
  have b2 : Below W1.heap.size W1 W2 := by rw [← hW2]; exact below_alloc (Below.refl _ _) _
  have n1 := blk_new w (.cells #[.int .i64 N, .slice A0 L.length c0] 24)
  have n2 := blk_new W1 (.cells #[.slice A1 goal.length c1] 37)
  rw [hW1, hg4] at n1
  rw [hW2, z1, hg4] at n2
  have HN1 := K0 (blk_below n1 b2)
  have HN2 := K0 n2
  have HB2 := K0 hb2
  have HZ2 := K0 (show W2.heap.size = g4 + 2 by omega)
  have HE2 := K0 (hE.below hb2)
  have HL2 := K0 (Kd.C_below hL hb2)
  have HG2 := K0 (Kd.C_below hG hb2)
  have HT := K0 htr
  have HF := K0 h
  have HK := K0 hk
  have HGW := K0 hgw
  have HGB := K0 (Below.refl W2.heap.size W2)
  have hz1 : W1.heap.size = g4 + 1 := by omega
  have q0 : W2.cell? ⟨g4, 0, none⟩ = some (.int .i64 N) := (blk_cell HN1.out 0).trans rfl
  have q1 : W2.cell? ⟨g4, 1, none⟩ = some (.slice A0 L.length c0) := (blk_cell HN1.out 1).trans rfl
  have q2 : W2.cell? ⟨g4 + 1, 0, none⟩ = some (.slice A1 goal.length c1) := (blk_cell HN2.out 0).trans rfl
  clear hE hL htr h z1 z2 hb1 hb2 b2 n1 n2 hk hgw hG
  go_enter Try.func29, Try.ntmps29
  go_wp2
  clear hW1 hW2 hg4
  go_loopg [9, 16] goal.length (fun gg_ v9 v16 wr => ∃ (j : Nat), v16 = .int .i64 (j : Int) ∧ Aside0 (j + gg_ = goal.length) ∧ Aside0 (Below W2.heap.size W2 wr) ∧ Aside0 ((goal.drop j).all (fun x => E.val x == -1) = goal.all (fun x => E.val x == -1)))
  case atStart => exact ⟨0, rfl, ⟨by simp⟩, HGB, ⟨rfl⟩⟩
  case round =>
    clear HGB
    obtain ⟨j, rfl, hg, HB, HA⟩ := hrel
    have HEr := K0 (HE2.out.below HB.out)
    by_cases hlt : j < goal.length
    · obtain ⟨ad, e1, x1⟩ := Kd.at_int (Kd.C_below HG2.out HB.out) (j : Int) (by omega) (by omega)
      cases e1
      obtain ⟨x, hxx⟩ : ∃ x, goal[j] = x := ⟨_, rfl⟩
      have hrd : rd goal (j : Int) = x := by simp [rd, hlt, hxx]
      rw [hrd] at x1
      simp only [Int.toNat_natCast] at x1
      have ha := HA.out
      rw [List.drop_eq_getElem_cons hlt, hxx, List.all_cons] at ha
      have A1 := K0 (eng_Value.calls E B T p x wr HEr.out (HGW.out x (by rw [← hxx]; exact List.getElem_mem hlt)))
      have Q0 : ((0 : Int) ≤ (j : Int)) = True := eq_true (by omega)
      have Q1 : ((j : Int) < (goal.length : Int)) = True := eq_true (by omega)
      have Q2 : (j < goal.length) = True := eq_true hlt
      have hd2 : decide ((j : Int) < (goal.length : Int)) = true := decide_eq_true (by omega)
      have HJ := K0 hlt
      obtain ⟨v, hv⟩ : ∃ v, E.val x = v := ⟨_, rfl⟩
      rw [hv] at ha A1
      have HA2 := K0 ha
      clear hxx hrd ha HA hv q0 q1 q2
      go_wp2_with fail
      refine A1.out.mono ?_
      rintro e' w3 ⟨rfl, hb3⟩
      have HB3 := K0 (below_step HB.out hb3)
      clear hb3 A1 x1 HEr HB
      by_cases e0 : v = -1
      · have d5 : (v != -1) = false := by rw [e0]; rfl
        have ha := HA2.out
        rw [show (v == -1) = true by rw [e0]; rfl, Bool.true_and] at ha
        have HA3 := K0 ha
        clear e0 ha HA2
        go_wp2
        go_roundg (goal.length - (j + 1))
        case measure => have := hg.out; have := HJ.out; omega
        case rel => exact ⟨j + 1, by simp, ⟨by have := hg.out; have := HJ.out; omega⟩, HB3, HA3⟩
      · have d5 : (v != -1) = true := bne_iff_ne.2 e0
        have ha := HA2.out
        rw [show (v == -1) = false from beq_eq_false_iff_ne.2 e0, Bool.false_and] at ha
        rcases HF.out with ⟨_, rfl, rfl⟩ | ⟨hall, _⟩
        · clear e0 ha HA2 HF
          go_wp2
          go_ret2
          exact ⟨_, rfl, Kd.R_nil _ _ _ _ _, below_step HB2.out HB3.out⟩
        · rw [hall] at ha; cases ha
    · have hd2 : decide ((j : Int) < (goal.length : Int)) = false := decide_eq_false (by omega)
      have Q2 : (j < goal.length) = False := eq_false hlt
      have ha := HA.out
      rw [List.drop_of_length_le (by omega), List.all_nil] at ha
      have HN1r := K0 (blk_below HN1.out HB.out)
      have HN2r := K0 (blk_below HN2.out HB.out)
      have HZr := K0 HB.out.size
      have A1 := K0 (eng_Broken.calls E B T p wr HEr.out)
      rcases HF.out with ⟨hall, _⟩ | ⟨_, hrest⟩
      · rw [hall] at ha; cases ha
      have HR := K0 hrest
      clear hrest ha HA HF hg hlt q0 q1 q2
      obtain ⟨br, hbr⟩ : ∃ br, E.br = br := ⟨_, rfl⟩
      rw [hbr] at A1
      have HBR := K0 hbr
      clear hbr
      go_wp2_with fail
      refine A1.out.mono ?_
      rintro e' w3 ⟨rfl, rfl⟩
      clear A1
      rcases HR.out with ⟨hneg, rfl, rfl⟩ | ⟨hpos, r, ok, hn, hrest⟩
      · have d1 : decide (br < 0) = true := decide_eq_true (by have := HBR.out; omega)
        clear hneg HBR HR
        go_wp2
        go_ret2
        exact ⟨_, rfl, Kd.R_nil _ _ _ _ _, below_step HB2.out HB.out⟩
      · have d1 : decide (br < 0) = false := decide_eq_false (by have := HBR.out; omega)
        have A2 := K0 (learn_begin.calls E B T p N A0 c0 L r ok w3 HEr.out hl HT.out (Kd.C_below HL2.out HB.out) hc hn)
        have HR2 := K0 hrest
        have q0 : w3.cell? ⟨g4, 0, none⟩ = some (.int .i64 N) := (blk_cell HN1r.out 0).trans rfl
        have q1 : w3.cell? ⟨g4, 1, none⟩ = some (.slice A0 L.length c0) := (blk_cell HN1r.out 1).trans rfl
        clear HBR HR hn hrest hpos
        go_wp2_with fail
        refine A2.out.mono ?_
        rintro e' w4 ⟨hb4, ha, hna⟩
        have HA := K0 ha
        have HNA := K0 hna
        have HB4 := K0 hb4
        have HZ4 := K0 hb4.size
        have HN24 := K0 (blk_below HN2r.out hb4)
        clear ha hna hb4 A2 q0 q1 HN1r
        rcases HR2.out with ⟨hfail, rfl, rfl⟩ | ⟨hgood, o, hback, hout⟩
        · have he := HNA.out hfail
          subst he
          clear hfail HA HNA HR2
          go_wp2
          go_ret2
          exact ⟨_, rfl, Kd.R_nil _ _ _ _ _, (below_step (below_step HB2.out HB.out) HB4.out).alloc (below_step (below_step HB2.out HB.out) HB4.out).size _⟩
        · obtain ⟨gX, bP, vC, vF, he, hs1⟩ := HA.out hgood
          subst he
          have HS1 := K0 hs1
          have HBK := K0 hback
          have HOUT := K0 hout
          clear hgood HA HNA HR2 hs1 hback hout
          obtain ⟨gm, hgm⟩ : ∃ g, w4.heap.size = g := ⟨_, rfl⟩
          obtain ⟨W5, hW5⟩ : ∃ W5, w4.alloc (.cells #[.func (.func 63) #[] #[.pointer (some ⟨g4 + 1, 0, none⟩)]] 64) = W5 := ⟨_, rfl⟩
          have z5 : W5.heap.size = w4.heap.size + 1 := by rw [← hW5]; exact Array.size_push _
          have b5 : Below w4.heap.size w4 W5 := by rw [← hW5]; exact below_alloc (Below.refl _ _) _
          have n5 := blk_new w4 (.cells #[.func (.func 63) #[] #[.pointer (some ⟨g4 + 1, 0, none⟩)]] 64)
          rw [hW5, hgm] at n5
          have HZ5 := K0 (show W5.heap.size = gm + 1 by omega)
          have HGM := K0 (show g4 + 2 ≤ gm by have := HZ4.out; have := HZr.out; have := HZ2.out; omega)
          have HGM2 := K0 (show w3.heap.size ≤ gm by have := HZ4.out; omega)
          have HNM := K0 n5
          have HN25 := K0 (blk_below HN24.out b5)
          have HS5 := K0 (HS1.out.toQ (Q' := fun k => k ≠ g4 + 1 ∧ k ≠ gm) b5 (fun k h1 h2 => by have := HZ2.out; have := HZr.out; omega) (fun k hk => by have := HGM.out; omega))
          have HG5 := K0 (Kd.C_below HG2.out HB.out)
          have egm : ∀ args w, (callFunc 63 args).run Try.prog w = .ok (.enter 63 args) w := enters_of Try.func63 (by kernel_rfl) rfl
          have egs : ∀ args w, (callFunc 65 args).run Try.prog w = .ok (.enter 65 args) w := enters_of Try.func65 (by kernel_rfl) rfl
          have A5 := K0 (learn_back.calls k 63 65 #[.pointer (some ⟨g4 + 1, 0, none⟩)] #[.pointer (some ⟨gm, 0, none⟩)] egm egs (mayT goal) (fun cl => !cl.any (mayT goal)) (fun k => k = g4 + 1 ∨ k = gm) E T p w3 gX bP B N A0 c0 L _ _ _ _ r [E.br] m o W5 HS5.out HEr.out (Kd.C_below HL2.out HB.out)
            (fun k hk => by have h1 := HZ2.out; have h2 := HGM.out; have h3 := HZ5.out; have h4 := HS5.out.hi; have h5 := HS1.out.x; have h6 := blk_lt h5; have h7 := hgm; have h8 := HZr.out; refine ⟨by omega, by omega, fun hq => ?_⟩; rcases hk with e | e <;> rw [e] at hq <;> omega)
            (fun W hW _ hKe x => learn_Trace_1.calls k (g4 + 1) A1 c1 goal (mayT goal x) x W (Kd.C_below HG5.out hW) hc1 ((blk_cell ((hKe (g4 + 1) (Or.inl rfl)).trans HN25.out) 0).trans rfl) (HK.out x))
            (fun W hW _ hKe A c xs hx hC hc => learn_Trace_2.calls k (g4 + 1) gm A1 c1 goal (mayT goal) A c xs W (Kd.C_below HG5.out hW) hc1 ((blk_cell ((hKe (g4 + 1) (Or.inl rfl)).trans HN25.out) 0).trans rfl) ((blk_cell ((hKe gm (Or.inr rfl)).trans HNM.out) 0).trans rfl) HK.out hC)
            (by show 1 + m < _; omega) HBK.out)
          have g0 : W5.cell? ⟨gm, 0, none⟩ = some (.func (.func 63) #[] #[.pointer (some ⟨g4 + 1, 0, none⟩)]) := (blk_cell HNM.out 0).trans rfl
          clear z5 b5 n5 egm egs HBK
          go_wp2_with fail
          clear hW5 hgm g0
          refine A5.out.mono ?_
          rintro e' w5 ⟨rfl, hsome, hb5, hz5, hk5⟩
          have HB5 := K0 (below_step (below_step HB2.out HB.out) hb5)
          have HW5 := K0 (show Below w3.heap.size w3 w5 from hb5)
          have HSM := K0 hsome
          clear hsome hb5 hz5 hk5 A5
          obtain ⟨os, hos⟩ : ∃ b, o.isSome = b := ⟨_, rfl⟩
          rw [hos]
          rcases HOUT.out with ⟨rfl, rfl, rfl⟩ | ⟨cl, rfl, rfl⟩
          · have ho2 : os = false := hos.symm
            subst ho2
            clear HOUT HSM hos
            go_wp2
            go_ret2
            exact ⟨_, rfl, Kd.R_nil _ _ _ _ _, HB5.out⟩
          · have ho2 : os = true := hos.symm
            subst ho2
            clear hos
            obtain ⟨vC5, vF5, hs5⟩ := HSM.out cl fr rfl
            obtain ⟨AF, kF, eF⟩ := Kd.R_slice hs5.f
            subst eF
            have HS5 := K0 hs5
            obtain ⟨p0, p1, p2, p3, p4, p5⟩ := hs5.cells
            clear HOUT HSM hs5
            go_wp2
            go_ret2
            refine ⟨.slice AF fr.length kF, rfl, Kd.R_mono (Kd.R_lower HS5.out.f ?_) (fun _ _ => trivial), HB5.out⟩
            exact (below_step HB2.out HB.out).size
def OneT (k : Nat) (n : Int) (L : List (List Int)) (F : Eng) (goal : List Int) : Prop :=
  ∃ m fr g, m < 1099511627775 ∧ (∀ x ∈ goal, (Lit.int .i64 x).wf = true) ∧ (∀ x, slices_Contains_int_int.f k goal x = some (!mayT goal x)) ∧ TraceP k m F L goal fr g ∧ sequiturref21_Trace.f k F.tr F.whys F.levs F.br (F.st.length : Int) n L goal = some (fr, g) ∧ sequiturbase_Ints.f k fr fr = some true
def sequiturlaw21_LearnTrace.Fact (k : Nat) (n : Int) (L : List (List Int)) (ps goal : List Int) : Prop :=
  learn_alive.P k ∧ ∃ lg, sequiturlaw21_long.f k n L ps = some lg ∧ (lg = false → goal.length ≤ 70 → EngFact k n L ps (fun F => EngOk F ∧ OneT k n L F goal ∧ OneT k n L F (F.tr.map fun l => wrap64 (-l))))
set_option maxRecDepth 100000 in
set_option maxHeartbeats 8000000 in
theorem sequiturlaw21_LearnTrace.calls (k : Nat) (a0_0 : Int) (A0_1 : Option Addr) (c0_1 : Nat) (l0_1 : List (List Int)) (A1 : Option Addr) (c1 : Nat) (l1 : List Int) (A2 : Option Addr) (c2 : Nat) (l2 : List Int) (w : World)
    (hr0_1 : Kd.C (Kd.slice 3 (Kd.int .i64)) w A0_1 l0_1.length l0_1) (hc0_1 : l0_1.length ≤ c0_1) (hr1 : Kd.C (Kd.int .i64) w A1 l1.length l1) (hc1 : l1.length ≤ c1) (hr2 : Kd.C (Kd.int .i64) w A2 l2.length l2) (hc2 : l2.length ≤ c2) (h : sequiturlaw21_LearnTrace.Fact k a0_0 l0_1 l1 l2) :
    Calls Try.prog 6 #[.agg #[.int .i64 a0_0, .slice A0_1 l0_1.length c0_1], .slice A1 l1.length c1, .slice A2 l2.length c2] w fun e w' => e = .returned (.bool true) ∧ Below w.heap.size w w' := by
  obtain ⟨hal, lg, hlg, hh⟩ := h
  have HAL := K0 hal; have HLG := K0 hlg; have HH := K0 hh
  have hu24 := Try.underlying24
  have hu49 := Try.underlying49
  obtain ⟨gb, hgb⟩ : ∃ g, w.heap.size = g := ⟨_, rfl⟩
  obtain ⟨W2, hW2⟩ : ∃ W2, w.alloc (.cells #[.int .i64 a0_0, .slice A0_1 l0_1.length c0_1] 24) = W2 := ⟨_, rfl⟩
  have hb2 : Below w.heap.size w W2 := by rw [← hW2]; exact below_alloc (Below.refl _ _) _
  have n2 := blk_new w (.cells #[.int .i64 a0_0, .slice A0_1 l0_1.length c0_1] 24)
  rw [hW2, hgb] at n2
  have BK := K0 n2; have HB := K0 hb2
  have HR0 := K0 (Kd.C_below hr0_1 HB.out)
  have HR1 := K0 (Kd.C_below hr1 HB.out)
  have HR2 := K0 (Kd.C_below hr2 HB.out)
  have HC0 := K0 hc0_1; have HC1 := K0 hc1; have HC2 := K0 hc2
  have hbl2 := hr2.2.1
  have A1_ := K0 (learn_alive.calls k W2 HAL.out)
  clear hal hlg hh hr0_1 hr1 hr2 hc0_1 hc1 hc2 hb2 n2
  go_enter Try.func6, Try.ntmps6
  go_wp2_with fail
  clear hW2 hgb HAL
  refine A1_.out.mono ?_
  rintro e' w3 ⟨rfl, hb3⟩
  have HB3 := K0 (show Below W2.heap.size W2 w3 from hb3)
  have cb0 : w3.cell? ⟨gb, 0, none⟩ = some (.int .i64 a0_0) := (blk_cell (blk_below BK.out hb3) 0).trans rfl
  have cb1 : w3.cell? ⟨gb, 1, none⟩ = some (.slice A0_1 l0_1.length c0_1) := (blk_cell (blk_below BK.out hb3) 1).trans rfl
  have A2_ := K0 (sequiturlaw21_long.calls k a0_0 A0_1 c0_1 l0_1 A1 c1 l1 lg w3 (Kd.C_below HR0.out HB3.out) HC0.out (Kd.C_below HR1.out HB3.out) HC1.out HLG.out)
  clear hb3 A1_
  cases lg with
  | true =>
    go_wp2_with fail
    refine A2_.out.mono ?_
    rintro e' w4 ⟨rfl, hb4⟩
    have HB4 := K0 (below_step HB.out (below_step HB3.out hb4))
    clear hb4 A2_ cb0 cb1
    go_wp2
    go_ret
    exact ⟨rfl, HB4.out⟩
  | false =>
    by_cases hlong : 70 < l2.length
    · have dl : decide ((70 : Int) < (l2.length : Int)) = true := decide_eq_true (by omega)
      have dl2 : (70 < l2.length) = True := eq_true hlong
      clear HH
      go_wp2_with fail
      refine A2_.out.mono ?_
      rintro e' w4 ⟨rfl, hb4⟩
      have HB4 := K0 (below_step HB.out (below_step HB3.out hb4))
      clear hb4 A2_ cb0 cb1
      go_wp2
      go_ret
      exact ⟨rfl, HB4.out⟩
    have dl : decide ((70 : Int) < (l2.length : Int)) = false := decide_eq_false (by omega)
    have dl2 : (70 < l2.length) = False := eq_false hlong
    obtain ⟨ra, re, hcr, hrest⟩ := HH.out rfl (by omega)
    have HCR := K0 hcr; have HRE := K0 hrest; clear HH hcr hrest hlong HLG
    go_wp2_with fail
    refine A2_.out.mono ?_
    rintro e' w5 ⟨rfl, hb5⟩
    have HB5 := K0 (below_step HB3.out hb5)
    have cb0 : w5.cell? ⟨gb, 0, none⟩ = some (.int .i64 a0_0) := (blk_cell (blk_below BK.out HB5.out) 0).trans rfl
    have cb1 : w5.cell? ⟨gb, 1, none⟩ = some (.slice A0_1 l0_1.length c0_1) := (blk_cell (blk_below BK.out HB5.out) 1).trans rfl
    clear hb5 A2_ HB3
    by_cases hre : re = 0
    case neg =>
      have A4_ := K0 (learn_engine.fails k a0_0 A0_1 c0_1 l0_1 A1 c1 l1.length ra re w5 (Kd.C_below HR0.out HB5.out) HC0.out HCR.out hre)
      clear hre HRE HCR
      go_wp2_with fail
      refine A4_.out.mono ?_
      rintro e' w6 ⟨rfl, hb6⟩
      have HB6 := K0 (below_step HB.out (below_step HB5.out hb6))
      clear hb6 A4_ cb0 cb1
      go_wp2
      go_ret
      exact ⟨rfl, HB6.out⟩
    subst hre
    obtain ⟨E, F, hnew, hwf, hps, hok, hone, htwo⟩ := HRE.out rfl
    have A4_ := K0 (learn_engine.calls k a0_0 A0_1 c0_1 l0_1 A1 c1 l1 E F w5 (Kd.C_below HR0.out HB5.out) HC0.out (Kd.C_below HR1.out HB5.out) hwf hnew hps)
    have HOK := K0 hok; have HONE := K0 hone; have HTWO := K0 htwo; clear hnew hwf hps hok hone htwo HRE HCR
    go_wp2_with fail
    refine A4_.out.mono ?_
    rintro e' w6 ⟨B, rfl, T, p, h6, hb6, hT6⟩
    have HE := K0 h6
    have HB6 := K0 (below_step HB5.out hb6)
    have A5_ := K0 (learn_told.calls F B T p w6 HE.out HOK.out.1 HOK.out.2.2.2)
    clear h6 hb6 hT6 A4_ cb0 cb1 HB5
    go_wp2_with fail
    refine A5_.out.mono ?_
    rintro e' w7 ⟨vT, vW, vL, rfl, rT, rW, rL, hb7⟩
    obtain ⟨AT, kT, eT⟩ := Kd.R_slice rT
    obtain ⟨AW, kW, eW⟩ := Kd.R_slice rW
    obtain ⟨AV, kL, eL⟩ := Kd.R_slice rL
    subst eT eW eL
    have HB7 := K0 (below_step HB6.out hb7)
    have HE7 := K0 (HE.out.below hb7)
    have HT7 := K0 (Kd.R_reads' rT).2
    have HW7 := K0 (show (Kd.int .i64).C w7 AW F.whys.length F.whys ∧ F.whys.length ≤ kW from ⟨(Kd.R_reads' rW).2.2, (Kd.R_reads' rW).2.1⟩)
    have HL7 := K0 (show (Kd.int .i64).C w7 AV F.levs.length F.levs ∧ F.levs.length ≤ kL from ⟨(Kd.R_reads' rL).2.2, (Kd.R_reads' rL).2.1⟩)
    clear rT rW rL hb7 A5_ HB6 HE
    go_upto_region 9 with fail
    obtain ⟨g9, hg9⟩ : ∃ g, w7.heap.size = g := ⟨_, rfl⟩
    obtain ⟨W8, hW8⟩ : ∃ W8, w7.alloc (.cells #[.slice AT F.tr.length kT, .slice AW F.whys.length kW, .slice AV F.levs.length kL, .int .i64 F.br, .int .i64 (F.st.length : Int)] 49) = W8 := ⟨_, rfl⟩
    have hb8 : Below w7.heap.size w7 W8 := by rw [← hW8]; exact below_alloc (Below.refl _ _) _
    have n8 := blk_new w7 (.cells #[.slice AT F.tr.length kT, .slice AW F.whys.length kW, .slice AV F.levs.length kL, .int .i64 F.br, .int .i64 (F.st.length : Int)] 49)
    rw [hW8, hg9] at n8
    rw [hW8, hg9]
    have HB8 := K0 (show Below w7.heap.size w7 W8 from hb8)
    have HN8 := K0 n8; clear hW8 hg9 hb8 n8
    have HX := K0 (show EngIn W8 B T F p ∧ (F.tr.length ≤ kT ∧ (Kd.int .i64).C W8 AT F.tr.length F.tr) ∧ (Kd.int .i64).C W8 AW F.whys.length F.whys ∧ (Kd.int .i64).C W8 AV F.levs.length F.levs ∧ W8.heap[g9]? = some (.cells #[.slice AT F.tr.length kT, .slice AW F.whys.length kW, .slice AV F.levs.length kL, .int .i64 F.br, .int .i64 (F.st.length : Int)] 49 (0, 0)) ∧ W8.heap[gb]? = some (.cells #[.int .i64 a0_0, .slice A0_1 l0_1.length c0_1] 24 (0, 0)) ∧ Kd.C (Kd.slice 3 (Kd.int .i64)) W8 A0_1 l0_1.length l0_1 ∧ Kd.C (Kd.int .i64) W8 A2 l2.length l2 from
      ⟨HE7.out.below HB8.out, ⟨HT7.out.1, Kd.C_below HT7.out.2 HB8.out⟩, Kd.C_below HW7.out.1 HB8.out, Kd.C_below HL7.out.1 HB8.out, HN8.out, blk_below BK.out (below_step HB7.out HB8.out), Kd.C_below HR0.out (below_step HB7.out HB8.out), Kd.C_below HR2.out (below_step HB7.out HB8.out)⟩)
    have HB28 := K0 (below_step HB7.out HB8.out)
    clear HE7 HT7 HN8 HB7 HB8 BK HR0 HR1 HR2
    have HCW := K0 (show F.whys.length ≤ kW ∧ F.levs.length ≤ kL from ⟨HW7.out.2, HL7.out.2⟩)
    clear HW7 HL7
    obtain ⟨m1, fr1, gr1, hm1, hgw1, hk1, hT1, hR1, hi1⟩ := HONE.out
    obtain ⟨m2, fr2, gr2, hm2, hgw2, hk2, hT2, hR2, hi2⟩ := HTWO.out
    have HI1 := K0 hi1; have HI2 := K0 hi2; have HRR1 := K0 hR1; have HRR2 := K0 hR2; have HTT1 := K0 hT1; have HTT2 := K0 hT2; have HG1 := K0 hgw1; have HG2 := K0 hgw2; have HK1 := K0 hk1; have HK2 := K0 hk2; clear hgw1 hk1 hT1 hR1 hi1 hgw2 hk2 hT2 hR2 hi2 HONE HTWO
    have cb0 : W8.cell? ⟨gb, 0, none⟩ = some (.int .i64 a0_0) := (blk_cell HX.out.2.2.2.2.2.1 0).trans rfl
    have cb1 : W8.cell? ⟨gb, 1, none⟩ = some (.slice A0_1 l0_1.length c0_1) := (blk_cell HX.out.2.2.2.2.2.1 1).trans rfl
    have A6_ := K0 (learn_Trace.calls k m1 F B T p a0_0 A0_1 c0_1 l0_1 A2 c2 l2 fr1 gr1 W8 HX.out.1 HOK.out.1 HOK.out.2.2.1 HX.out.2.2.2.2.2.2.1 HC0.out HX.out.2.2.2.2.2.2.2 HC2.out HG1.out HK1.out hm1 HTT1.out)
    go_wp2_with fail
    refine A6_.out.mono ?_
    rintro e' wB ⟨u1, rfl, r1, hbB⟩
    obtain ⟨B1, k1, e1⟩ := Kd.R_slice r1
    subst e1
    have HBB := K0 (show Below W8.heap.size W8 wB from hbB)
    have HR1b := K0 (Kd.R_reads' r1).2
    have hN := blk_below HX.out.2.2.2.2.1 hbB
    have cb0 : wB.cell? ⟨gb, 0, none⟩ = some (.int .i64 a0_0) := (blk_cell (blk_below HX.out.2.2.2.2.2.1 hbB) 0).trans rfl
    have cb1 : wB.cell? ⟨gb, 1, none⟩ = some (.slice A0_1 l0_1.length c0_1) := (blk_cell (blk_below HX.out.2.2.2.2.2.1 hbB) 1).trans rfl
    have x0 : wB.cell? ⟨g9, 0, none⟩ = some (.slice AT F.tr.length kT) := (blk_cell hN 0).trans rfl
    have x1 : wB.cell? ⟨g9, 1, none⟩ = some (.slice AW F.whys.length kW) := (blk_cell hN 1).trans rfl
    have x2 : wB.cell? ⟨g9, 2, none⟩ = some (.slice AV F.levs.length kL) := (blk_cell hN 2).trans rfl
    have x3 : wB.cell? ⟨g9, 3, none⟩ = some (.int .i64 F.br) := (blk_cell hN 3).trans rfl
    have x4 : wB.cell? ⟨g9, 4, none⟩ = some (.int .i64 (F.st.length : Int)) := (blk_cell hN 4).trans rfl
    have A7_ := K0 (sequiturref21_Trace.calls k AT kT F.tr AW kW F.whys AV kL F.levs F.br (F.st.length : Int) a0_0 A0_1 c0_1 l0_1 A2 c2 l2 fr1 gr1 wB (Kd.C_below HX.out.2.1.2 hbB) HX.out.2.1.1 (Kd.C_below HX.out.2.2.1 hbB) HCW.out.1 (Kd.C_below HX.out.2.2.2.1 hbB) HCW.out.2 (Kd.C_below HX.out.2.2.2.2.2.2.1 hbB) HC0.out (Kd.C_below HX.out.2.2.2.2.2.2.2 hbB) HC2.out HRR1.out)
    clear r1 hbB A6_ hN HRR1 HTT1 HG1 HK1
    go_wp2_with fail
    refine A7_.out.mono ?_
    rintro e' wC ⟨u3, rfl, r3, hbC⟩
    obtain ⟨B3, k3, e3⟩ := Kd.R_slice r3
    subst e3
    have HBC := K0 (below_step HBB.out hbC)
    have HR1c := K0 (show fr1.length ≤ k1 ∧ (Kd.int .i64).C wC B1 fr1.length fr1 from ⟨HR1b.out.1, Kd.C_below HR1b.out.2 hbC⟩)
    have HR3c := K0 (Kd.R_reads' r3).2
    have hN := blk_below HX.out.2.2.2.2.1 HBC.out
    have x0 : wC.cell? ⟨g9, 0, none⟩ = some (.slice AT F.tr.length kT) := (blk_cell hN 0).trans rfl
    have hbt : F.tr.length ≤ 9223372036854775807 := HX.out.2.1.2.2.1
    have HA0 := K0 (show RI wC wC.heap.size (.slice none 0 0) ((F.tr.take 0).map fun l => wrap64 (-l)) from Kd.R_nil _ _ _ _ _)
    have HBr := K0 (Below.refl wC.heap.size wC)
    clear r3 hbC A7_ HBB HR1b hN cb0 cb1 x1 x2 x3 x4 x0
    have x0 : wC.cell? ⟨g9, 0, none⟩ = some (.slice AT F.tr.length kT) := (blk_cell (blk_below HX.out.2.2.2.2.1 HBC.out) 0).trans rfl
    go_wp2
    clear x0
    go_loopg [14, 16, 58] F.tr.length (fun gg v14 v16 v58 wr => ∃ (j : Nat) (vA : Value), v58 = .int .i64 (j : Int) ∧ v14 = vA ∧ Aside0 (j + gg = F.tr.length) ∧ Aside0 (Below wC.heap.size wC wr) ∧ Aside0 (RI wr wC.heap.size vA ((F.tr.take j).map fun l => wrap64 (-l))))
    case atStart => exact ⟨0, _, rfl, rfl, ⟨by simp⟩, HBr, HA0⟩
    case round =>
      clear HBr HA0
      obtain ⟨j, vA, rfl, rfl, hg, HBr, HA⟩ := hrel
      by_cases hlt : j < F.tr.length
      case pos =>
        obtain ⟨ad, e1, x1⟩ := Kd.at_int (Kd.C_below HX.out.2.1.2 (below_step HBC.out HBr.out)) (j : Int) (by omega) (by omega)
        cases e1
        obtain ⟨x, hxx⟩ : ∃ x, F.tr[j] = x := ⟨_, rfl⟩
        have hrd : rd F.tr (j : Int) = x := by simp [rd, hlt, hxx]
        rw [hrd] at x1
        simp only [Int.toNat_natCast] at x1
        have HTK := K0 (show (F.tr.take (j + 1)).map (fun l => wrap64 (-l)) = (F.tr.take j).map (fun l => wrap64 (-l)) ++ [wrap64 (-x)] by rw [List.take_add_one, List.getElem?_eq_getElem hlt, hxx, List.map_append]; rfl)
        have HLN := K0 (show (((F.tr.take j).map fun l => wrap64 (-l)).length + 1) * 8 ≤ 140737488355328 by rw [List.length_map, List.length_take]; have := HOK.out.1; omega)
        obtain ⟨al, has⟩ : ∃ al, (F.tr.take j).map (fun l => wrap64 (-l)) = al := ⟨_, rfl⟩
        rw [has] at HTK HLN HA
        obtain ⟨AA, kA, eA⟩ := Kd.R_slice HA.out
        subst eA
        have Q0 : ((0 : Int) ≤ (j : Int)) = True := eq_true (by omega)
        have Q1 : ((j : Int) < (F.tr.length : Int)) = True := eq_true (by omega)
        have Q2 : (j < F.tr.length) = True := eq_true hlt
        have hd2 : decide ((j : Int) < (F.tr.length : Int)) = true := decide_eq_true (by omega)
        have HJ := K0 hlt; clear hxx hrd has
        go_wp2_with ((with_reducible refine gate_builtin (b := .append) (xs := #[.tmp 62, .tmp 65]) rfl ?_); at_builtin; refine Kd.R_append (Kd.int .i64) (w0 := wC) (W := wr) wC.heap.size rfl (.tmp 62) (.tmp 65) 37 3 (.int .i64 0) 8 rfl Try.underlying37 (by kernel_rfl) rfl (by decide) (by decide) (.slice AA al.length kA) al (wrap64 (-x)) [.int .i64 (wrap64 (-x))] (fun _ => True) (fun _ => False) rfl rfl rfl (fun _ h => h.elim) (fun _ _ => trivial) HA.out HBr.out HBr.out.size HLN.out ?_; intro v5 w5 r5 hb5 hg5 hat5; have HR5 := K0 r5; have HB5 := K0 hb5; clear r5 hb5 hg5 hat5)
        go_wp2
        go_roundg (F.tr.length - (j + 1))
        case measure => have := hg.out; have := HJ.out; omega
        case rel => exact ⟨j + 1, _, by simp, rfl, ⟨by have := hg.out; have := HJ.out; omega⟩, HB5, ⟨by rw [HTK.out]; exact HR5.out⟩⟩
      have hd2 : decide ((j : Int) < (F.tr.length : Int)) = false := decide_eq_false (by omega)
      have Q2 : (j < F.tr.length) = False := eq_false hlt
      have ha := HA.out
      rw [List.take_of_length_le (by omega)] at ha
      obtain ⟨al, has⟩ : ∃ al, F.tr.map (fun l => wrap64 (-l)) = al := ⟨_, rfl⟩
      rw [has] at ha HTT2 HG2 HK2 HRR2
      obtain ⟨AA, kA, eA⟩ := Kd.R_slice ha
      subst eA
      have HAA := K0 (Kd.R_reads' ha).2
      have hbX := below_step HBC.out HBr.out
      have HBX := K0 hbX
      have HR1r := K0 (show fr1.length ≤ k1 ∧ (Kd.int .i64).C wr B1 fr1.length fr1 from ⟨HR1c.out.1, Kd.C_below HR1c.out.2 HBr.out⟩)
      have HR3r := K0 (show fr1.length ≤ k3 ∧ (Kd.int .i64).C wr B3 fr1.length fr1 from ⟨HR3c.out.1, Kd.C_below HR3c.out.2 HBr.out⟩)
      have cb0 : wr.cell? ⟨gb, 0, none⟩ = some (.int .i64 a0_0) := (blk_cell (blk_below HX.out.2.2.2.2.2.1 hbX) 0).trans rfl
      have cb1 : wr.cell? ⟨gb, 1, none⟩ = some (.slice A0_1 l0_1.length c0_1) := (blk_cell (blk_below HX.out.2.2.2.2.2.1 hbX) 1).trans rfl
      have A8_ := K0 (learn_Trace.calls k m2 F B T p a0_0 A0_1 c0_1 l0_1 AA kA al fr2 gr2 wr (HX.out.1.below hbX) HOK.out.1 HOK.out.2.2.1 (Kd.C_below HX.out.2.2.2.2.2.2.1 hbX) HC0.out HAA.out.2 HAA.out.1 HG2.out HK2.out hm2 HTT2.out)
      clear ha has hg hlt HA hbX HR1c HR3c HBr
      go_wp2_with fail
      refine A8_.out.mono ?_
      rintro e' wD ⟨u5, rfl, r5, hbD⟩
      obtain ⟨B5, k5, e5⟩ := Kd.R_slice r5
      subst e5
      have HBD := K0 (below_step HBX.out hbD)
      have HR5 := K0 (Kd.R_reads' r5).2
      have HR1d := K0 (show fr1.length ≤ k1 ∧ (Kd.int .i64).C wD B1 fr1.length fr1 from ⟨HR1r.out.1, Kd.C_below HR1r.out.2 hbD⟩)
      have HR3d := K0 (show fr1.length ≤ k3 ∧ (Kd.int .i64).C wD B3 fr1.length fr1 from ⟨HR3r.out.1, Kd.C_below HR3r.out.2 hbD⟩)
      have hN := blk_below HX.out.2.2.2.2.1 HBD.out
      have cb0 : wD.cell? ⟨gb, 0, none⟩ = some (.int .i64 a0_0) := (blk_cell (blk_below HX.out.2.2.2.2.2.1 HBD.out) 0).trans rfl
      have cb1 : wD.cell? ⟨gb, 1, none⟩ = some (.slice A0_1 l0_1.length c0_1) := (blk_cell (blk_below HX.out.2.2.2.2.2.1 HBD.out) 1).trans rfl
      have x0 : wD.cell? ⟨g9, 0, none⟩ = some (.slice AT F.tr.length kT) := (blk_cell hN 0).trans rfl
      have x1 : wD.cell? ⟨g9, 1, none⟩ = some (.slice AW F.whys.length kW) := (blk_cell hN 1).trans rfl
      have x2 : wD.cell? ⟨g9, 2, none⟩ = some (.slice AV F.levs.length kL) := (blk_cell hN 2).trans rfl
      have x3 : wD.cell? ⟨g9, 3, none⟩ = some (.int .i64 F.br) := (blk_cell hN 3).trans rfl
      have x4 : wD.cell? ⟨g9, 4, none⟩ = some (.int .i64 (F.st.length : Int)) := (blk_cell hN 4).trans rfl
      have A9_ := K0 (sequiturref21_Trace.calls k AT kT F.tr AW kW F.whys AV kL F.levs F.br (F.st.length : Int) a0_0 A0_1 c0_1 l0_1 AA kA al fr2 gr2 wD (Kd.C_below HX.out.2.1.2 HBD.out) HX.out.2.1.1 (Kd.C_below HX.out.2.2.1 HBD.out) HCW.out.1 (Kd.C_below HX.out.2.2.2.1 HBD.out) HCW.out.2 (Kd.C_below HX.out.2.2.2.2.2.2.1 HBD.out) HC0.out (Kd.C_below HAA.out.2 hbD) HAA.out.1 HRR2.out)
      clear r5 hbD A8_ hN HRR2 HTT2 HG2 HK2 HBX HR1r HR3r
      go_wp2_with fail
      refine A9_.out.mono ?_
      rintro e' wE ⟨u7, rfl, r7, hbE⟩
      obtain ⟨B7, k7, e7⟩ := Kd.R_slice r7
      subst e7
      have HBE := K0 (below_step HBD.out hbE)
      have HR7 := K0 (Kd.R_reads' r7).2
      have HR5e := K0 (show fr2.length ≤ k5 ∧ (Kd.int .i64).C wE B5 fr2.length fr2 from ⟨HR5.out.1, Kd.C_below HR5.out.2 hbE⟩)
      have AA_ := K0 (sequiturbase_Ints.calls k B1 k1 fr1 B3 k3 fr1 true wE (Kd.C_below HR1d.out.2 hbE) HR1d.out.1 (Kd.C_below HR3d.out.2 hbE) HR3d.out.1 HI1.out)
      clear r7 hbE A9_ cb0 cb1 x0 x1 x2 x3 x4 HR5 HR1d HR3d HBD
      go_wp2_with fail
      refine AA_.out.mono ?_
      rintro e' wF ⟨rfl, hdF⟩
      have HBF := K0 (below_step HBE.out hdF.below)
      have AB_ := K0 (sequiturbase_Ints.calls k B5 k5 fr2 B7 k7 fr2 true wF (Kd.C_below HR5e.out.2 hdF.below) HR5e.out.1 (Kd.C_below HR7.out.2 hdF.below) HR7.out.1 HI2.out)
      clear hdF AA_ HBE
      go_wp2_with fail
      refine AB_.out.mono ?_
      rintro e' wG ⟨rfl, hdG⟩
      have HBG := K0 (below_step HBF.out hdG.below)
      clear hdG AB_
      go_wp2
      go_ret
      exact ⟨rfl, below_step HB.out (below_step HB28.out HBG.out)⟩
def Eng.add (k : Nat) (E : Eng) (c : List Int) : Option (Eng × Int) :=
  (lit_Right.f k c E.n).bind fun e => if e ≠ 0 then some (E, e) else if E.cls.length ≥ 4096 then some (E, 2) else (lit_Clean.f c).bind fun r =>
    if E.ws + r.1.length < 4398046511104 ∧ E.tr.length < 4398046511104 then (if E.br < 0 then (Eng.follow k ((E.laid r.1).look E.cls.length) E.tr.length).bind fun E' => some (E', 0) else some (E.laid r.1, 0)) else none
end Go.Proofs.Ytkmlekfmccghjaa.P
