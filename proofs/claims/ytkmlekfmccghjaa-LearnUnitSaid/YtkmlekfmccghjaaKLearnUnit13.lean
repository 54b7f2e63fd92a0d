import Derived.StillTailTactics
import Derived.Shelf.Abstract
import Derived.Laws.EntriesVeiled
import Derived.Laws.Rows
import Derived.Test.YtkmlekfmccghjaaKLearnUnit1
import Derived.Test.YtkmlekfmccghjaaKLearnUnit2
import Derived.Test.YtkmlekfmccghjaaKLearnUnit12
import Derived.Test.YtkmlekfmccghjaaKLearnUnit6
import Derived.Test.YtkmlekfmccghjaaKLearnUnit7
namespace Go.Proofs.Ytkmlekfmccghjaa.P
open Go.RowKit Go.Proofs.YtkmlekfmccghjaaW.PrintWords Go.Proofs.YtkmlekfmccghjaaW.PrintLast Go.Proofs.YtkmlekfmccghjaaW.PrintMore
attribute [local go_sem] max2_int min2_int max_two min_two max_three min_three max_four min_four
set_option linter.unusedVariables false
set_option linter.unusedSimpArgs false
def plT (tr : List Int) : Nat → Int → Option Int
  | 0, _ => none
  | j + 1, x => if x = tr.getD j 0 then some (j : Int) else plT tr j x
theorem plT_set (tr : List Int) (j : Nat) (y : Int) : setI (plV (plT tr j)) (tr.getD j 0) (some (.int .i64 (j : Int))) y = plV (plT tr (j + 1)) y := by
  unfold setI plV
  simp only [plT]
  by_cases e : y = tr.getD j 0
  case neg =>
    rw [if_neg e, if_neg e]
  rw [if_pos e, if_pos e]; rfl
theorem plT_keys (tr : List Int) : ∀ (j : Nat), j ≤ tr.length → ∀ x, (plV (plT tr j) x).isSome = true → x ∈ tr
  | 0, _, x, h => by unfold plV plT at h; cases h
  | j + 1, hj, x, h => by
    unfold plV at h
    simp only [plT] at h
    by_cases e : x = tr.getD j 0
    case neg =>
      rw [if_neg e] at h; exact plT_keys tr j (by omega) x h
    rw [e, show tr.getD j 0 = tr[j]'(by omega) by simp [List.getD, List.getElem?_eq_getElem (show j < tr.length by omega)]]; exact List.getElem_mem (by omega)
theorem ix_any (p : Int → Bool) : ∀ (xs : List Int) (i : Int), 0 ≤ i → decide (0 ≤ ixOf p xs i) = xs.any p
  | [], i, _ => rfl
  | x :: t, i, hi => by
    rw [ixOf, List.any_cons]
    by_cases h : p x = true
    case pos =>
      rw [if_pos h, h, decide_eq_true hi]; rfl
    rw [if_neg h, ix_any p t (i + 1) (by omega)]
    simp [h]
set_option maxRecDepth 100000 in
set_option maxHeartbeats 8000000 in
theorem learn_begin.calls (E : Eng) (B : Nat) (T : Tag) (p : EngP) (N : Int) (A0 : Option Addr) (c0 : Nat) (L : List (List Int)) (r : List Int) (ok : Bool) (w : World)
    (hE : EngIn w B T E p) (hl : E.tr.length < 4398046511104) (htr : ∀ x ∈ E.tr, (Lit.int .i64 x).wf = true) (hL : Kd.C (Kd.slice 3 (Kd.int .i64)) w A0 L.length L) (hc : L.length ≤ c0) (hn : NumP L E.br r ok) :
    Calls Try.prog 49 #[.pointer (some ⟨B, 0, none⟩), .agg #[.int .i64 N, .slice A0 L.length c0]] w fun e w' => Below w.heap.size w w' ∧
      ((ok && r.all (fun x => (plT E.tr E.tr.length (wrap64 (-x))).isSome)) = true → ∃ gX bP vC vF, e = .returned (.tuple #[.pointer (some ⟨gX, 0, none⟩), .bool true]) ∧ ResIn w w' gX bP B N A0 c0 L (plT E.tr E.tr.length) (fun _ => True) vC vF r [E.br]) ∧
      ((ok && r.all (fun x => (plT E.tr E.tr.length (wrap64 (-x))).isSome)) = false → e = .returned (.tuple #[.pointer none, .bool false])) := by
  have huR := Try.underlying91
  have huC := Try.underlying24
  have hbig := hL.2.1
  have HE := K0 hE; have HL := K0 hL; have HN := K0 hn; have HT := K0 htr
  have hmm := @run_makeMap Try.prog
  clear hE hL hn htr
  go_enter Try.func49, Try.ntmps49
  go_wp2_with fail
  obtain ⟨g, hg⟩ : ∃ g, w.heap.size = g := ⟨_, rfl⟩
  obtain ⟨W1, hW1⟩ : ∃ W1, w.alloc (.cells #[.int .i64 N, .slice A0 L.length c0] 24) = W1 := ⟨_, rfl⟩
  obtain ⟨W2, hW2⟩ : ∃ W2, W1.alloc (.map #[] 0) = W2 := ⟨_, rfl⟩
  obtain ⟨W3, hW3⟩ : ∃ W3, W2.alloc (.cells #[.pointer (some ⟨B, 0, none⟩), .int .i64 N, .slice A0 L.length c0, .map (some (g + 1)), .slice none 0 0, .slice none 0 0] 91) = W3 := ⟨_, rfl⟩
  obtain ⟨W4, hW4⟩ : ∃ W4, W3.alloc (.cells #[.pointer (some ⟨g + 1 + 1, 0, none⟩)] 84) = W4 := ⟨_, rfl⟩
  have z1 : W1.heap.size = w.heap.size + 1 := by rw [← hW1]; exact Array.size_push _
  have z2 : W2.heap.size = W1.heap.size + 1 := by rw [← hW2]; exact Array.size_push _
  have z3 : W3.heap.size = W2.heap.size + 1 := by rw [← hW3]; exact Array.size_push _
  have z4 : W4.heap.size = W3.heap.size + 1 := by rw [← hW4]; exact Array.size_push _
  have hb1 : Below w.heap.size w W1 := by rw [← hW1]; exact below_alloc (Below.refl _ _) _
  have hb2 : Below w.heap.size w W2 := by rw [← hW2]; exact below_alloc hb1 _
  have hb3 : Below w.heap.size w W3 := by rw [← hW3]; exact below_alloc hb2 _
  have hb4 : Below w.heap.size w W4 := by rw [← hW4]; exact below_alloc hb3 _
  have m2 : MapI Try.prog 3 W2 (g + 1) (plV (plT E.tr 0)) := by
    have := MapI.made W1 Try.prog 3
    rw [hW2, z1, hg] at this
    exact this.congr (fun x => rfl)
  have n3 := blk_new W2 (.cells #[.pointer (some ⟨B, 0, none⟩), .int .i64 N, .slice A0 L.length c0, .map (some (g + 1)), .slice none 0 0, .slice none 0 0] 91)
  have n4 := blk_new W3 (.cells #[.pointer (some ⟨g + 1 + 1, 0, none⟩)] 84)
  rw [hW3, z2, z1, hg] at n3
  rw [hW4, z3, z2, z1, hg] at n4
  have b3 : Below W2.heap.size W2 W3 := by rw [← hW3]; exact below_alloc (Below.refl _ _) _
  have b4 : Below W3.heap.size W3 W4 := by rw [← hW4]; exact below_alloc (Below.refl _ _) _
  have hz : W4.heap.size = g + 4 := by omega
  have HB4 := K0 hb4; have HZ4 := K0 hz
  have HM4 := K0 ((m2.block (b3.block _ m2.lt)).block (b4.block _ (Nat.lt_of_lt_of_le m2.lt b3.size)))
  have HX4 := K0 (blk_below n3 b4)
  have HN4 := K0 n4; have HG := K0 hg
  have A1 := K0 (eng_Trail.calls E B T p W4 (HE.out.below hb4) hl)
  rw [hW1, hW2, hg, hW3, hW4]
  clear hW1 hW2 hW3 hW4 z1 z2 z3 z4 hb1 hb2 hb3 hb4 m2 n3 n4 b3 b4 hz hmm
  refine A1.out.mono ?_
  rintro e' w1 ⟨v1, rfl, r1, hb1⟩
  have hz4 := HZ4.out
  obtain ⟨A1', k1, e1⟩ := Kd.R_slice r1
  subst e1
  have HC1 := K0 (Kd.V_reads' (Kd.R_V (base' := 0) r1)).2.2
  have hbr : E.tr.length ≤ 9223372036854775807 := HC1.out.2.1
  have HB1 := K0 (show Below w.heap.size w w1 from below_step HB4.out hb1)
  have HM1 := K0 (HM4.out.block (hb1.block _ HM4.out.lt))
  have HX1 := K0 (blk_below HX4.out hb1)
  have HN1 := K0 (blk_below HN4.out hb1)
  have HZ1 := K0 (show g + 4 ≤ w1.heap.size from HZ4.out ▸ hb1.size)
  have r1' := r1
  clear hb1 r1 A1 HB4 HM4 HX4 HN4 HZ4 hg
  go_wp2_with fail
  have HR1 := K0 (show Kd.R (Kd.int .i64) 3 w1 0 (fun k => k ≠ g + 1) (.slice A1' E.tr.length k1) E.tr from Kd.R_mono (Kd.R_lower (Kd.R_bound r1') (Nat.zero_le _)) (fun k hk => by have := hk.2.1; omega))
  clear r1' HC1
  go_loopg [7, 8, 20] E.tr.length (fun gg v7 v8 v20 wr => ∃ (j : Nat), v20 = .int .i64 (j : Int) ∧ Aside0 (j + gg = E.tr.length) ∧ Aside0 (Below w.heap.size w wr) ∧ Aside0 (MapI Try.prog 3 wr (g + 1) (plV (plT E.tr j))) ∧ Aside0 (wr.heap[g + 1 + 1]? = w1.heap[g + 1 + 1]? ∧ wr.heap[g + 1 + 1 + 1]? = w1.heap[g + 1 + 1 + 1]?) ∧ Aside0 (Kd.R (Kd.int .i64) 3 wr 0 (fun k => k ≠ g + 1) (.slice A1' E.tr.length k1) E.tr) ∧ Aside0 (g + 4 ≤ wr.heap.size))
  case atStart => exact ⟨0, rfl, ⟨by simp⟩, HB1, HM1, ⟨rfl, rfl⟩, HR1, HZ1⟩
  case round =>
    clear HB1 HM1 HR1
    obtain ⟨j, rfl, hgg, HB, HM, HK, HR, HZ⟩ := hrel
    have px : wr.cell? ⟨g + 1 + 1, 3, none⟩ = some (.map (some (g + 1))) := (blk_cell (HK.out.1.trans HX1.out) 3).trans rfl
    have p4 : wr.cell? ⟨g + 1 + 1 + 1, 0, none⟩ = some (.pointer (some ⟨g + 1 + 1, 0, none⟩)) := (blk_cell (HK.out.2.trans HN1.out) 0).trans rfl
    by_cases hlt : j < E.tr.length
    case pos =>
      obtain ⟨ad, e1, x1⟩ := Kd.at_int (Kd.V_reads' (Kd.R_V (base' := 0) HR.out)).2.2 (j : Int) (by omega) (by omega)
      cases e1
      obtain ⟨x, hx⟩ : ∃ x, E.tr[j] = x := ⟨_, rfl⟩
      have hrd : rd E.tr (j : Int) = x := by simp [rd, hlt, hx]
      have hgd : E.tr.getD j 0 = x := by simp [List.getD, List.getElem?_eq_getElem hlt, hx]
      rw [hrd] at x1
      simp only [Int.toNat_natCast] at x1
      have hwx : (Lit.int .i64 x).wf = true := HT.out x (by rw [← hx]; exact List.getElem_mem hlt)
      have HSET := K0 (plT_set E.tr j)
      rw [hgd] at HSET
      have Q0 : ((0 : Int) ≤ (j : Int)) = True := eq_true (by omega)
      have Q1 : ((j : Int) < (E.tr.length : Int)) = True := eq_true (by omega)
      have Q2 : (j < E.tr.length) = True := eq_true hlt
      have hd2 : decide ((j : Int) < (E.tr.length : Int)) = true := decide_eq_true (by omega)
      have HJ := K0 hlt; clear hx hrd hgd
      go_wp2_with (refine wpList_store_I rfl (.tmp 28) (.tmp 29) (.tmp 30) 89 rfl 3 3 Try.underlying3 Try.underlying89 (g + 1) (plV (plT E.tr j)) rfl HM.out x (.int .i64 (j : Int)) rfl rfl hwx E.tr (plT_keys E.tr j (Nat.le_of_lt HJ.out)) (by omega) ?_; intro w3 hM3 hg3; have HM3 := K0 (hM3.congr HSET.out); have HB3 := K0 (HB.out.grown hg3 HB.out.size (fun k e => by injection e with e; have := HG.out; omega)); have HK3 := K0 (show w3.heap[g + 1 + 1]? = w1.heap[g + 1 + 1]? ∧ w3.heap[g + 1 + 1 + 1]? = w1.heap[g + 1 + 1 + 1]? from ⟨(hg3.block _ (by have := HZ.out; omega) (fun e => by injection e with e; omega)).trans HK.out.1, (hg3.block _ (by have := HZ.out; omega) (fun e => by injection e with e; omega)).trans HK.out.2⟩); have HR3 := K0 (Kd.R_grown HR.out hg3 (fun k hk e => by injection e with e; exact hk e)); have HZ3 := K0 (show g + 4 ≤ w3.heap.size from Nat.le_trans HZ.out hg3.size); clear hM3 hg3)
      go_wp2
      go_roundg (E.tr.length - (j + 1))
      case measure => have := hgg.out; have := HJ.out; omega
      case rel => exact ⟨j + 1, by simp, ⟨by have := hgg.out; have := HJ.out; omega⟩, HB3, HM3, HK3, HR3, HZ3⟩
    have hd2 : decide ((j : Int) < (E.tr.length : Int)) = false := decide_eq_false (by omega)
    have Q2 : (j < E.tr.length) = False := eq_false hlt
    have hj : j = E.tr.length := by have := hgg.out; omega
    subst hj
    have HX2 := K0 (HK.out.1.trans HX1.out)
    have HN2 := K0 (HK.out.2.trans HN1.out)
    clear HX1 HN1 HK HR hgg hlt
    have A3 := K0 (eng_Broken.calls E B T p wr (HE.out.below HB.out))
    go_wp2_with fail
    refine A3.out.mono ?_
    rintro e' w2 ⟨rfl, rfl⟩
    have HS2 : Aside0 (ResIn w w2 (g + 1 + 1) (g + 1) B N A0 c0 L (plT E.tr E.tr.length) (fun _ => True) (.slice none 0 0) (.slice none 0 0) [] []) := ⟨⟨HB.out, HX2.out, HM.out, Kd.R_nil _ _ _ _ _, Kd.R_nil _ _ _ _ _, by have := HG.out; omega, fun _ _ => trivial⟩⟩
    clear HX2 A3 HM
    go_wp2_with fail
    refine (learn_number.calls w (g + 1 + 1) (g + 1) B N A0 c0 L _ _ _ _ _ _ E.br r ok w2 HS2.out HL.out HN.out).mono ?_
    rintro e' w3 ⟨v3, rfl, r3, hb3⟩
    obtain ⟨A3, k3, e3⟩ := Kd.R_slice r3
    subst e3
    have HS2b := K0 HS2.out.b.size
    have HS3 := K0 (HS2.out.below hb3)
    have HN3 := K0 (blk_below HN2.out hb3)
    have HR3 := K0 r3
    have HZ3 := K0 (Nat.le_trans HZ.out hb3.size)
    clear hb3 r3 HS2 HN2
    cases ok with
    | false =>
      go_wp2
      go_ret2
      exact ⟨HS3.out.b, (fun h => by cases h), fun _ => rfl⟩
    | true =>
      have hcc := (Kd.V_reads' (Kd.R_V (base' := 0) HR3.out)).2.2
      have A4 := K0 (slices_ContainsFunc_int.calls 81 #[.pointer (some ⟨g + 1 + 1 + 1, 0, none⟩)] (enters_of Try.func81 (by kernel_rfl) rfl) (fun x => (plT E.tr E.tr.length (wrap64 (-x))).isNone) A3 k3 r w3 hcc (fun W hW x hx => learn_begin_1.calls (g + 1 + 1 + 1) w (g + 1 + 1) (g + 1) B N A0 c0 L _ _ _ _ _ _ x W (HS3.out.below hW) ((blk_cell (blk_below HN3.out hW) 0).trans rfl)))
      clear hcc
      go_wp2_with fail
      refine A4.out.mono ?_
      rintro e' w4 ⟨rfl, hb4⟩
      rw [ix_any _ _ _ (Int.le_refl 0)]
      have HS4 := K0 (HS3.out.below hb4)
      have HN4 := K0 (blk_below HN3.out hb4)
      have HR4 := K0 (Kd.R_below HR3.out hb4)
      have HZ4 := K0 (Nat.le_trans HZ3.out hb4.size)
      have HZR := K0 hb4.size
      clear hb4 HS3 HN3 A4
      obtain ⟨b, hb⟩ : ∃ b, r.any (fun x => (plT E.tr E.tr.length (wrap64 (-x))).isNone) = b := ⟨_, rfl⟩
      have hall : r.all (fun x => (plT E.tr E.tr.length (wrap64 (-x))).isSome) = !b := by
        rw [← hb, List.any_eq_not_all_not, Bool.not_not]
        congr 1
        funext x
        cases plT E.tr E.tr.length (wrap64 (-x)) <;> rfl
      rw [hb]
      have HALL := K0 hall
      cases b with
      | true =>
        clear hb hall
        go_wp2
        go_ret2
        have ha := HALL.out
        rw [Bool.not_true] at ha
        exact ⟨HS4.out.b, (fun h => by rw [Bool.true_and, ha] at h; cases h), fun _ => rfl⟩
      | false =>
        clear hb hall
        go_upto_region 11 with fail
        have p4 : w4.cell? ⟨g + 1 + 1 + 1, 0, none⟩ = some (.pointer (some ⟨g + 1 + 1, 0, none⟩)) := (blk_cell HN4.out 0).trans rfl
        have HLT := K0 (blk_lt HS4.out.x)
        have HX9 := K0 (show ((w4.setCell ⟨g + 1 + 1, 4, none⟩ (.slice A3 r.length k3)).alloc (.cells #[.int .i64 E.br] 3)).heap[g + 1 + 1]? = some (.cells #[.pointer (some ⟨B, 0, none⟩), .int .i64 N, .slice A0 L.length c0, .map (some (g + 1)), .slice A3 r.length k3, .slice none 0 0] 91 (0, 0)) from blk_below (blk_put HS4.out.x 4 (.slice A3 r.length k3) rfl) (below_alloc (Below.refl _ _) _))
        have HX8 := K0 (show (w4.alloc (.cells #[.int .i64 E.br] 3)).heap[g + 1 + 1]? = _ from blk_below HS4.out.x (below_alloc (Below.refl _ _) _))
        refine start_ (n := 11) (S := fun w' => w'.cell? ⟨g + 1 + 1 + 1, 0, none⟩ = some (.pointer (some ⟨g + 1 + 1, 0, none⟩))) (ds := [10]) #[false, false, false, false, false, false, false, false, false, false, false] (by kernel_rfl) rfl rfl (p4) (fun hHeld => ?_)
        refine pure_ (i := 2) (N := some 49) (v := ?_) (a' := ?_) #[false, false, true, false, false, false, false, false, false, false, false] rfl rfl (by kernel_rfl) (fun _ _ _ h => h) (Or.inl ⟨by rfl, ?_⟩) ?_ ?_
        rotate_left
        · intro w'
          go_simp
          with_reducible rfl
        rotate_left
        · simp only [Act.put, List.setIfInBounds_toArray, List.set_cons_zero, List.set_cons_succ, i64_w, i32_w]
          rfl
        refine pure_ (i := 3) (N := some 50) (v := ?_) (a' := ?_) #[false, false, true, true, false, false, false, false, false, false, false] rfl rfl (by kernel_rfl) (fun _ _ _ h => h) (Or.inl ⟨by rfl, ?_⟩) ?_ ?_
        rotate_left
        · intro w'
          go_simp
          with_reducible rfl
        rotate_left
        · simp only [Act.put, List.setIfInBounds_toArray, List.set_cons_zero, List.set_cons_succ, i64_w, i32_w]
          rfl
        refine take_ (i := 0) (N := some 47) (v := ?_) (a' := ?_) #[true, false, true, true, false, false, false, false, false, false, false] rfl rfl (by kernel_rfl) (fun _ _ _ h => h) (Or.inl ⟨by rfl, ?_⟩) hHeld ?_ ?_
        rotate_left
        · intro w' s0
          go_simp
          with_reducible rfl
        rotate_left
        · simp only [Act.put, List.setIfInBounds_toArray, List.set_cons_zero, List.set_cons_succ, i64_w, i32_w]
          rfl
        refine pure_ (i := 5) (N := some 52) (v := ?_) (a' := ?_) #[true, false, true, true, false, true, false, false, false, false, false] rfl rfl (by kernel_rfl) (fun _ _ _ h => h) (Or.inl ⟨by rfl, ?_⟩) ?_ ?_
        rotate_left
        · intro w'
          go_simp
          with_reducible rfl
        rotate_left
        · simp only [Act.put, List.setIfInBounds_toArray, List.set_cons_zero, List.set_cons_succ, i64_w, i32_w]
          rfl
        refine pure_ (i := 6) (N := some 53) (v := ?_) (a' := ?_) #[true, false, true, true, false, true, true, false, false, false, false] rfl rfl (by kernel_rfl) (fun _ _ _ h => h) (Or.inl ⟨by rfl, ?_⟩) ?_ ?_
        rotate_left
        · intro w'
          go_simp
          with_reducible rfl
        rotate_left
        · simp only [Act.put, List.setIfInBounds_toArray, List.set_cons_zero, List.set_cons_succ, i64_w, i32_w]
          rfl
        refine take_ (i := 1) (N := some 48) (v := ?_) (a' := ?_) #[true, true, true, true, false, true, true, false, false, false, false] rfl rfl (by kernel_rfl) (fun _ _ _ h => h) (Or.inl ⟨by rfl, ?_⟩) hHeld ?_ ?_
        rotate_left
        · intro w' s0
          go_simp
          with_reducible rfl
        rotate_left
        · simp only [Act.put, List.setIfInBounds_toArray, List.set_cons_zero, List.set_cons_succ, i64_w, i32_w]
          rfl
        refine join_ (σ := Unit) 3 #[true, true, true, true, true, true, true, true, false, false, false] (fun _ => [(51, .slice (some ⟨w4.heap.size, 0, none⟩) 1 1)]) (fun _ w' => w' = (w4.drew.setCell ⟨g + 1 + 1, 4, none⟩ (.slice A3 r.length k3)).alloc (.cells #[.int .i64 E.br] 3)) ?_ ?_
        rotate_left
        · intro hCont
          refine two_ (i := 4) (j := 7) (Ni := some 51) (Nj := none) #[true, true, true, true, true, true, true, false, false, false, false] #[true, true, true, true, false, true, true, true, false, false, false] rfl rfl rfl rfl (by kernel_rfl) (by decide) (by decide) (fun K hK => ?_) (fun K hK => ?_)
          · skip
            refine value_ (w1 := ?_) (v := ?_) (by rfl) rfl ?_ ?_
            rotate_left 2
            · go_simp
              constructor
              · rfl
              rfl
            refine hK.out _ _ (pw_cell_below (below_alloc (Below.refl _ _) _) hHeld) (fun hHeld => ?_)
            clear hK K
            refine norm_ (a' := ?_) ?_ ?_
            rotate_left
            · show Act.put _ (some 51) _ = _
              simp only [Act.put, List.setIfInBounds_toArray, List.set_cons_zero, List.set_cons_succ, i64_w, i32_w]
              rfl
            refine one_ (i := 7) (N := none) #[true, true, true, true, true, true, true, true, false, false, false] rfl rfl (by kernel_rfl) (by decide) (fun K hK => ?_)
            have hx5 := HX8.out
            have e4 := blk_cell hx5 4
            have y4 := blk_frozen hx5 4
            clear hx5
            refine skip_ (w1 := ?_) (by rfl) rfl ?_ ?_
            rotate_left
            · go_simp
              rfl
            refine hK.out _ _ (((World.cell?_setCell_far _ _ _ _ (by simp)).trans hHeld)) (fun hHeld => ?_)
            clear hK K
            exact norm_ (by simp only [putAll, Act.put, List.setIfInBounds_toArray, List.set_cons_zero, List.set_cons_succ]) (hCont () _ (by first | rfl | exact World.setCell_alloc_past _ _ _ _ HLT.out | exact congrArg World.drew (World.setCell_alloc_past _ _ _ _ HLT.out)))
          skip
          have hx5 := HS4.out.x
          have e4 := blk_cell hx5 4
          have y4 := blk_frozen hx5 4
          clear hx5
          refine skip_ (w1 := ?_) (by rfl) rfl ?_ ?_
          rotate_left
          · go_simp
            rfl
          refine hK.out _ _ (((World.cell?_setCell_far _ _ _ _ (by simp)).trans hHeld)) (fun hHeld => ?_)
          clear hK K
          refine one_ (i := 4) (N := some 51) #[true, true, true, true, true, true, true, true, false, false, false] rfl rfl (by kernel_rfl) (by decide) (fun K hK => ?_)
          refine value_ (w1 := ?_) (v := ?_) (by rfl) rfl ?_ ?_
          rotate_left 2
          · go_simp
            constructor
            · rfl
            rfl
          refine hK.out _ _ (pw_cell_below (below_alloc (Below.refl _ _) _) hHeld) (fun hHeld => ?_)
          clear hK K
          refine norm_ (a' := ?_) ?_ ?_
          rotate_left
          · show Act.put _ (some 51) _ = _
            simp only [Act.put, List.setIfInBounds_toArray, List.set_cons_zero, List.set_cons_succ, i64_w, i32_w]
            rfl
          exact norm_ (by simp only [putAll, Act.put, List.setIfInBounds_toArray, List.set_cons_zero, List.set_cons_succ]) (hCont () _ (by first | rfl | exact World.setCell_alloc_past _ _ _ _ HLT.out | exact congrArg World.drew (World.setCell_alloc_past _ _ _ _ HLT.out)))
        rintro _ w' rfl
        have hHeld : ((w4.drew.setCell ⟨g + 1 + 1, 4, none⟩ (.slice A3 r.length k3)).alloc (.cells #[.int .i64 E.br] 3)).cell? ⟨g + 1 + 1 + 1, 0, none⟩ = some (.pointer (some ⟨g + 1 + 1, 0, none⟩)) := pw_cell_below (below_alloc (Below.refl _ _) _) ((World.cell?_setCell_far _ _ _ _ (by simp)).trans p4)
        refine norm_ (a' := ?_) ?_ ?_
        rotate_left
        · simp only [putAll, Act.put, List.setIfInBounds_toArray, List.set_cons_zero, List.set_cons_succ]
          rfl
        refine pure_ (i := 8) (N := some 54) (v := ?_) (a' := ?_) #[true, true, true, true, true, true, true, true, true, false, false] rfl rfl (by kernel_rfl) (fun _ _ _ h => h) (Or.inl ⟨by rfl, ?_⟩) ?_ ?_
        rotate_left
        · intro w'
          go_simp
          with_reducible rfl
        rotate_left
        · simp only [Act.put, List.setIfInBounds_toArray, List.set_cons_zero, List.set_cons_succ, i64_w, i32_w]
          rfl
        refine pure_ (i := 9) (N := some 55) (v := ?_) (a' := ?_) #[true, true, true, true, true, true, true, true, true, true, false] rfl rfl (by kernel_rfl) (fun _ _ _ h => h) (Or.inl ⟨by rfl, ?_⟩) ?_ ?_
        rotate_left
        · intro w'
          go_simp
          with_reducible rfl
        rotate_left
        · simp only [Act.put, List.setIfInBounds_toArray, List.set_cons_zero, List.set_cons_succ, i64_w, i32_w]
          rfl
        refine last_ (i := 10) (N := none) #[true, true, true, true, true, true, true, true, true, true, true] rfl rfl (by kernel_rfl) (by decide) (fun K hK => ?_)
        have hx5 := HX9.out
        have e4 := blk_cell hx5 5
        have y4 := blk_frozen hx5 5
        clear hx5
        refine skip_ (w1 := ?_) (by rfl) rfl ?_ ?_
        rotate_left
        · go_simp
          rfl
        refine hK.out _ _ ?_
        clear hK K
        refine done_ (by kernel_rfl) ?_
        have HXF := K0 (blk_put HX9.out 5 (.slice (some ⟨w4.heap.size, 0, none⟩) 1 1) rfl)
        have hnw : ((w4.setCell ⟨g + 1 + 1, 4, none⟩ (.slice A3 r.length k3)).alloc (.cells #[.int .i64 E.br] 3)).heap[w4.heap.size]? = some (.cells #[.int .i64 E.br] 3 (0, 0)) := by
          have := blk_new (w4.setCell ⟨g + 1 + 1, 4, none⟩ (.slice A3 r.length k3)) (.cells #[.int .i64 E.br] 3)
          rwa [show (w4.setCell ⟨g + 1 + 1, 4, none⟩ (.slice A3 r.length k3)).heap.size = w4.heap.size by simp only [World.setCell, Array.size_modify]] at this
        have HNW := K0 (blk_far hnw (show w4.heap.size ≠ g + 1 + 1 by have := HLT.out; omega) (p := ⟨g + 1 + 1, 5, none⟩) (.slice (some ⟨w4.heap.size, 0, none⟩) 1 1))
        have hbf : Below w.heap.size w (((w4.setCell ⟨g + 1 + 1, 4, none⟩ (.slice A3 r.length k3)).alloc (.cells #[.int .i64 E.br] 3)).setCell ⟨g + 1 + 1, 5, none⟩ (.slice (some ⟨w4.heap.size, 0, none⟩) 1 1)) := ((HS4.out.b.setCell (show w.heap.size ≤ g + 1 + 1 from HS4.out.hi.1) _).alloc (by simp only [World.setCell, Array.size_modify]; exact HS4.out.b.size) _).setCell (show w.heap.size ≤ g + 1 + 1 from HS4.out.hi.1) _
        have HBF := K0 hbf
        have p4 : (((w4.setCell ⟨g + 1 + 1, 4, none⟩ (.slice A3 r.length k3)).alloc (.cells #[.int .i64 E.br] 3)).setCell ⟨g + 1 + 1, 5, none⟩ (.slice (some ⟨w4.heap.size, 0, none⟩) 1 1)).cell? ⟨g + 1 + 1 + 1, 0, none⟩ = some (.pointer (some ⟨g + 1 + 1, 0, none⟩)) := (World.cell?_setCell_far _ _ _ _ (by simp)).trans (pw_cell_below (below_alloc (Below.refl _ _) _) ((World.cell?_setCell_far _ _ _ _ (by simp)).trans p4))
        clear hnw hbf hHeld
        go_wp2
        go_ret2
        refine ⟨below_drew HBF.out, fun _ => ⟨g + 1 + 1, g + 1, _, _, rfl, ⟨below_drew HBF.out, HXF.out, ?_, ?_, ?_, HS4.out.hi, fun _ _ => trivial⟩⟩, fun h => by have ha := HALL.out; rw [Bool.true_and, ha] at h; cases h⟩
        · refine MapI.block (w := w4) HS4.out.m ?_
          exact (Below.heap_setCell _ _ _ (g + 1) (by simp)).trans (((below_alloc (Below.refl _ _) _).block (g + 1) (by have := HS4.out.m.lt; simp only [World.setCell, Array.size_modify]; exact this)).trans (Below.heap_setCell _ _ _ (g + 1) (by simp)))
        · refine Kd.R_mono (Kd.R_far (p := ⟨g + 1 + 1, 5, none⟩) (Kd.R_below (Kd.R_far (p := ⟨g + 1 + 1, 4, none⟩) (Kd.R_lower (Kd.R_bound HR4.out) HS2b.out) (fun k hk => by have := hk.2.1; have := HZ.out; show k ≠ g + 1 + 1; omega) _) (below_alloc (Below.refl _ _) _)) (fun k hk => by have := hk.2.1; have := HZ.out; show k ≠ g + 1 + 1; omega) _) (fun k hk => ?_)
          have h1 := hk.2.1
          have h2 := hk.2.2.1
          have h3 := HZ.out
          exact ⟨⟨by omega, by omega, trivial⟩, fun e => by injection e with e; have e2 : k = w4.heap.size := e; omega⟩
        refine Kd.R_of_own (enc := fun x => Value.int .i64 x) ⟨rfl, Or.inr ⟨w4.heap.size, 1, #[.int .i64 E.br], rfl, HS4.out.b.size, HNW.out, by simp, by decide, rfl, rfl⟩⟩ (fun k hk => ?_)
        have h1 : w4.heap.size = k := by injection hk
        have h3 := HZ4.out
        exact ⟨⟨by omega, by omega, trivial⟩, fun e => by have := Kd.R_lt HR4.out k e.symm; omega⟩
def toF (E : Eng) (top : Int) : List Int → Int → Int
  | [], t => t
  | x :: xs, t => toF E top xs (if E.lev x < top then (if t < E.lev x then E.lev x else t) else t)
def FirstP (k m : Nat) (E : Eng) (L : List (List Int)) (cl : List Int) (tv : Int) (fr : List Int) (g : Int) : Prop :=
  (E.br < 0 ∧ cl = [] ∧ tv = 0 ∧ fr = [] ∧ g = 3) ∨ (0 ≤ E.br ∧ ∃ r ok, NumP L E.br r ok ∧
    (((ok && r.all (fun x => (plT E.tr E.tr.length (wrap64 (-x))).isSome)) = false ∧ cl = [] ∧ tv = 0 ∧ fr = [] ∧ g = 1) ∨
     ((ok && r.all (fun x => (plT E.tr E.tr.length (wrap64 (-x))).isSome)) = true ∧ ∃ o, BackP k E L (plT E.tr E.tr.length) (fun _ => true) (soF E E.st.length) m r [E.br] o ∧
       ((o = none ∧ cl = [] ∧ tv = 0 ∧ fr = [] ∧ g = 1) ∨ (o = some (cl, fr) ∧ WfC cl ∧ tv = toF E E.st.length cl 0 ∧ g = 0)))))
set_option maxRecDepth 100000 in
set_option maxHeartbeats 8000000 in
theorem learn_First.calls (k m : Nat) (E : Eng) (B : Nat) (T : Tag) (p : EngP) (N : Int) (A0 : Option Addr) (c0 : Nat) (L : List (List Int)) (cl : List Int) (tv : Int) (fr : List Int) (gg : Int) (w : World)
    (hE : EngIn w B T E p) (hl : E.tr.length < 4398046511104) (hst : E.st.length < 4398046511104) (htr : ∀ x ∈ E.tr, (Lit.int .i64 x).wf = true) (hL : Kd.C (Kd.slice 3 (Kd.int .i64)) w A0 L.length L) (hc : L.length ≤ c0) (hm : m < 1099511627775) (h : FirstP k m E L cl tv fr gg) :
    Calls Try.prog 21 #[.pointer (some ⟨B, 0, none⟩), .agg #[.int .i64 N, .slice A0 L.length c0]] w fun e w' => ∃ v1 v2, e = .returned (.tuple #[v1, .int .i64 tv, v2, .int .i64 gg]) ∧ Kd.R (Kd.int .i64) 3 w' w.heap.size (fun _ => True) v1 cl ∧ Kd.R (Kd.int .i64) 3 w' w.heap.size (fun _ => True) v2 fr ∧ Below w.heap.size w w' := by
  have huR := Try.underlying91
  have huC := Try.underlying24
  have hbig := hL.2.1
  obtain ⟨ge, hge⟩ : ∃ g, w.heap.size = g := ⟨_, rfl⟩
  obtain ⟨W1, hW1⟩ : ∃ W1, w.alloc (.cells #[.pointer (some ⟨B, 0, none⟩)] 28) = W1 := ⟨_, rfl⟩
  obtain ⟨W2, hW2⟩ : ∃ W2, W1.alloc (.cells #[.int .i64 N, .slice A0 L.length c0] 24) = W2 := ⟨_, rfl⟩
  have z1 : W1.heap.size = w.heap.size + 1 := by rw [← hW1]; exact Array.size_push _
  have z2 : W2.heap.size = W1.heap.size + 1 := by rw [← hW2]; exact Array.size_push _
  have hb1 : Below w.heap.size w W1 := by rw [← hW1]; exact below_alloc (Below.refl _ _) _
  have hb2 : Below w.heap.size w W2 := by rw [← hW2]; exact below_alloc hb1 _
  have b2 : Below W1.heap.size W1 W2 := by rw [← hW2]; exact below_alloc (Below.refl _ _) _
  have n1 := blk_new w (.cells #[.pointer (some ⟨B, 0, none⟩)] 28)
  have n2 := blk_new W1 (.cells #[.int .i64 N, .slice A0 L.length c0] 24)
  rw [hW1, hge] at n1
  rw [hW2, z1, hge] at n2
  have HN1 := K0 (blk_below n1 b2)
  have HN2 := K0 n2; have HB2 := K0 hb2
  have HZ2 := K0 (show W2.heap.size = ge + 2 by omega)
  have HE2 := K0 (hE.below hb2)
  have HL2 := K0 (Kd.C_below hL hb2)
  have HT := K0 htr; have HF := K0 h; have HG := K0 hge
  have A1 := K0 (eng_Broken.calls E B T p W2 HE2.out)
  have hz1 : W1.heap.size = ge + 1 := by omega
  have q0 : W2.cell? ⟨ge, 0, none⟩ = some (.pointer (some ⟨B, 0, none⟩)) := (blk_cell HN1.out 0).trans rfl
  have q1 : W2.cell? ⟨ge + 1, 0, none⟩ = some (.int .i64 N) := (blk_cell HN2.out 0).trans rfl
  have q2 : W2.cell? ⟨ge + 1, 1, none⟩ = some (.slice A0 L.length c0) := (blk_cell HN2.out 1).trans rfl
  clear hE hL htr h z1 z2 hb1 hb2 b2 n1 n2
  go_enter Try.func21, Try.ntmps21
  go_wp2_with fail
  clear hW1 hW2 hge
  refine A1.out.mono ?_
  rintro e' w0 ⟨rfl, rfl⟩
  obtain ⟨br, hbr⟩ : ∃ br, E.br = br := ⟨_, rfl⟩
  rw [hbr]
  rcases HF.out with ⟨hneg, rfl, rfl, rfl, rfl⟩ | ⟨hpos, r, ok, hn, hrest⟩
  · have d1 : decide (br < 0) = true := decide_eq_true (by omega)
    clear hneg hbr HF
    go_wp2
    ((try simp only [Exit.inBlock, Exit.then]); refine bodyPost_ret (results_list (rs := [.tmp 4, .tmp 5, .tmp 6, .tmp 7]) rfl (by simp) (.tmp (.tmp (.tmp (.tmp .nil))))) rfl ?_)
    exact ⟨_, _, rfl, Kd.R_nil _ _ _ _ _, Kd.R_nil _ _ _ _ _, HB2.out⟩
  have d1 : decide (br < 0) = false := decide_eq_false (by omega)
  have A2 := K0 (learn_begin.calls E B T p N A0 c0 L r ok w0 HE2.out hl HT.out HL2.out hc hn)
  have HR := K0 hrest; clear hbr HF hn hrest hpos A1
  go_wp2_with fail
  refine A2.out.mono ?_
  rintro e' w1 ⟨hb1, ha, hna⟩
  have HA := K0 ha; have HNA := K0 hna; have HB1 := K0 hb1
  have HZ1 := K0 hb1.size
  have HN11 := K0 (blk_below HN1.out hb1)
  clear ha hna hb1 A2 q0 q1 q2 hz1
  rcases HR.out with ⟨hfail, rfl, rfl, rfl, rfl⟩ | ⟨hgood, o, hback, hout⟩
  · have he := HNA.out hfail
    subst he
    have A3 := K0 (eng_Levels.calls E B T p w1 (HE2.out.below HB1.out))
    have q0 : w1.cell? ⟨ge, 0, none⟩ = some (.pointer (some ⟨B, 0, none⟩)) := (blk_cell HN11.out 0).trans rfl
    clear hfail HA HNA HR
    go_wp2_with fail
    refine A3.out.mono ?_
    rintro e' w2 ⟨rfl, rfl⟩
    clear A3
    go_wp2
    ((try simp only [Exit.inBlock, Exit.then]); refine bodyPost_ret (results_list (rs := [.tmp 4, .tmp 5, .tmp 6, .tmp 7]) rfl (by simp) (.tmp (.tmp (.tmp (.tmp .nil))))) rfl ?_)
    exact ⟨_, _, rfl, Kd.R_nil _ _ _ _ _, Kd.R_nil _ _ _ _ _, (below_step HB2.out HB1.out).alloc (below_step HB2.out HB1.out).size _ |>.alloc (by simp only [World.alloc, Array.size_push]; have := (below_step HB2.out HB1.out).size; omega) _⟩
  obtain ⟨gX, bP, vC, vF, he, hs1⟩ := HA.out hgood
  subst he; have HS1 := K0 hs1; have HBK := K0 hback; have HOUT := K0 hout
  have A3 := K0 (eng_Levels.calls E B T p w1 (HE2.out.below HB1.out))
  have q0 : w1.cell? ⟨ge, 0, none⟩ = some (.pointer (some ⟨B, 0, none⟩)) := (blk_cell HN11.out 0).trans rfl
  clear hgood HA HNA HR hs1 hback hout
  go_wp2_with fail
  refine A3.out.mono ?_
  rintro e' w2 ⟨rfl, rfl⟩
  clear A3
  go_wp2_with fail
  obtain ⟨gt, hgt⟩ : ∃ g, w2.heap.size = g := ⟨_, rfl⟩
  obtain ⟨W3, hW3⟩ : ∃ W3, w2.alloc (.cells #[.int .i64 (E.st.length : Int)] 3) = W3 := ⟨_, rfl⟩
  obtain ⟨W4, hW4⟩ : ∃ W4, W3.alloc (.cells #[.func (.func 50) #[] #[.pointer (some ⟨ge, 0, none⟩)]] 58) = W4 := ⟨_, rfl⟩
  have z3 : W3.heap.size = w2.heap.size + 1 := by rw [← hW3]; exact Array.size_push _
  have z4 : W4.heap.size = W3.heap.size + 1 := by rw [← hW4]; exact Array.size_push _
  have b3 : Below w2.heap.size w2 W3 := by rw [← hW3]; exact below_alloc (Below.refl _ _) _
  have b4 : Below W3.heap.size W3 W4 := by rw [← hW4]; exact below_alloc (Below.refl _ _) _
  have n3 := blk_new w2 (.cells #[.int .i64 (E.st.length : Int)] 3)
  have n4 := blk_new W3 (.cells #[.func (.func 50) #[] #[.pointer (some ⟨ge, 0, none⟩)]] 58)
  rw [hW3, hgt] at n3
  rw [hW4, z3, hgt] at n4
  have b34 : Below w2.heap.size w2 W4 := below_step b3 b4
  have hzz : W4.heap.size = gt + 2 := by omega
  have HZ4 := K0 hzz
  have HGT := K0 (show ge + 2 ≤ gt by have := HZ1.out; have := HZ2.out; omega)
  have HNT := K0 (blk_below n3 b4)
  have HNL := K0 n4
  have HN4 := K0 (blk_below HN11.out b34)
  have HS4 := K0 (HS1.out.toQ (Q' := fun k => k ≠ ge ∧ k ≠ gt ∧ k ≠ gt + 1) b34 (fun k h1 h2 => by have := HZ2.out; omega) (fun k hk => by have := HGT.out; omega))
  have egm : ∀ args w, (callFunc 53 args).run Try.prog w = .ok (.enter 53 args) w := enters_of Try.func53 (by kernel_rfl) rfl
  have egs : ∀ args w, (callFunc 51 args).run Try.prog w = .ok (.enter 51 args) w := enters_of Try.func51 (by kernel_rfl) rfl
  have A5 := K0 (learn_back.calls k 53 51 #[] #[.pointer (some ⟨gt + 1, 0, none⟩), .pointer (some ⟨gt, 0, none⟩)] egm egs (fun _ => true) (soF E E.st.length) (fun k => k = ge ∨ k = gt ∨ k = gt + 1) E T p w0 gX bP B N A0 c0 L _ _ _ _ r [E.br] m o W4 HS4.out HE2.out HL2.out
    (fun k hk => by have h1 := HZ2.out; have h2 := HGT.out; have h3 := HZ4.out; have h4 := HS4.out.hi; have h5 := HS1.out.x; have h6 := blk_lt h5; have h7 := hgt; refine ⟨by omega, by omega, fun hq => ?_⟩; rcases hk with e | e | e <;> rw [e] at hq <;> omega)
    (fun W _ _ _ x => learn_First_3.calls x W)
    (fun W hW _ hK A c xs hx hC hc => learn_First_2.calls ge (gt + 1) gt E.st.length E B T p A c xs W (HE2.out.below hW) ((blk_cell ((hK ge (Or.inl rfl)).trans HN4.out) 0).trans rfl) ((blk_cell ((hK (gt + 1) (Or.inr (Or.inr rfl))).trans HNL.out) 0).trans rfl) ((blk_cell ((hK gt (Or.inr (Or.inl rfl))).trans HNT.out) 0).trans rfl) hx hC)
    (by show 1 + m < _; omega) HBK.out)
  rw [hW3, hW4, hgt]
  clear hW3 hW4 z3 z4 b3 b4 n3 n4 b34 hzz hgt q0 egm egs HBK
  refine A5.out.mono ?_
  rintro e' w5 ⟨rfl, hsome, hb5, hz5, hk5⟩
  have HB5 := K0 (below_step HB2.out hb5)
  have HK5 := K0 hk5
  have HW5 := K0 (show Below w0.heap.size w0 w5 from hb5)
  have HSM := K0 hsome; clear hsome hb5 hz5 hk5 A5
  obtain ⟨os, hos⟩ : ∃ b, o.isSome = b := ⟨_, rfl⟩
  rw [hos]
  rcases HOUT.out with ⟨rfl, rfl, rfl, rfl, rfl⟩ | ⟨rfl, hwf, rfl, rfl⟩
  · have ho2 : os = false := hos.symm
    subst ho2; clear HOUT HSM hos
    go_wp2
    ((try simp only [Exit.inBlock, Exit.then]); refine bodyPost_ret (results_list (rs := [.tmp 4, .tmp 5, .tmp 6, .tmp 7]) rfl (by simp) (.tmp (.tmp (.tmp (.tmp .nil))))) rfl ?_)
    exact ⟨_, _, rfl, Kd.R_nil _ _ _ _ _, Kd.R_nil _ _ _ _ _, HB5.out⟩
  have ho2 : os = true := hos.symm
  subst ho2; clear hos
  obtain ⟨vC5, vF5, hs5⟩ := HSM.out cl fr rfl
  obtain ⟨AC, kC, eC⟩ := Kd.R_slice hs5.c
  obtain ⟨AF, kF, eF⟩ := Kd.R_slice hs5.f
  subst eC eF; have HS5 := K0 hs5; have HWF := K0 hwf
  have HC := K0 (Kd.V_reads' (Kd.R_V (base' := 0) hs5.c)).2.2
  have hbc := HC.out.2.1
  have HX5 := K0 (show w5.heap[ge]? = some (.cells #[.pointer (some ⟨B, 0, none⟩)] 28 (0, 0)) ∧ w5.heap[gt]? = some (.cells #[.int .i64 (E.st.length : Int)] 3 (0, 0)) ∧ w5.heap[gt + 1]? = some (.cells #[.func (.func 50) #[] #[.pointer (some ⟨ge, 0, none⟩)]] 58 (0, 0)) from ⟨(HK5.out ge (Or.inl rfl)).trans HN4.out, (HK5.out gt (Or.inr (Or.inl rfl))).trans HNT.out, (HK5.out (gt + 1) (Or.inr (Or.inr rfl))).trans HNL.out⟩)
  obtain ⟨p0, p1, p2, p3, p4, p5⟩ := hs5.cells
  obtain ⟨mx, hto⟩ : ∃ t, toF E E.st.length cl 0 = t := ⟨_, rfl⟩
  have HTO := K0 hto
  have eg : ∀ args w, (callFunc 50 args).run Try.prog w = .ok (.enter 50 args) w := enters_of Try.func50 (by kernel_rfl) rfl
  obtain ⟨top, htop⟩ : ∃ t : Int, (E.st.length : Int) = t := ⟨_, rfl⟩
  rw [htop] at HX5 HTO hto ⊢
  have HTT := K0 hto; have HTP := K0 htop; clear HOUT HSM hs5 hwf hto htop HK5 HN4 HNT HNL HS4 HS1 HZ4
  go_wp2
  clear p0 p1 p2 p3 p4 p5
  have HBr := K0 (Below.refl w5.heap.size w5)
  go_loopg [13, 15, 16, 43] cl.length (fun gg v13 v15 v16 v43 wr => ∃ (j : Nat) (t : Int), v43 = .int .i64 (j : Int) ∧ v13 = .int .i64 t ∧ Aside0 (j + gg = cl.length) ∧ Aside0 (Below w5.heap.size w5 wr) ∧ Aside0 (toF E top (cl.drop j) t = mx))
  case atStart => exact ⟨0, 0, rfl, rfl, ⟨by simp⟩, HBr, HTO⟩
  case round =>
    clear HBr HTO
    obtain ⟨j, t, rfl, rfl, hg, HB, HL⟩ := hrel
    have HXr := K0 (show wr.heap[ge]? = some (.cells #[.pointer (some ⟨B, 0, none⟩)] 28 (0, 0)) ∧ wr.heap[gt]? = some (.cells #[.int .i64 top] 3 (0, 0)) ∧ wr.heap[gt + 1]? = some (.cells #[.func (.func 50) #[] #[.pointer (some ⟨ge, 0, none⟩)]] 58 (0, 0)) from ⟨blk_below HX5.out.1 HB.out, blk_below HX5.out.2.1 HB.out, blk_below HX5.out.2.2 HB.out⟩)
    have HSr := K0 (HS5.out.below HB.out)
    have HEr := K0 (HE2.out.below HSr.out.b)
    by_cases hlt : j < cl.length
    case neg =>
      have hd2 : decide ((j : Int) < (cl.length : Int)) = false := decide_eq_false (by omega)
      have Q2 : (j < cl.length) = False := eq_false hlt
      have hl := HL.out
      rw [List.drop_of_length_le (by omega), toF] at hl
      subst hl
      obtain ⟨p0, p1, p2, p3, p4, p5⟩ := HSr.out.cells
      clear HL hg hlt
      go_upto_region 17 with fail
      go_still (by kernel_rfl)
      have hd := below_drew (Below.refl wr.heap.size wr)
      have HD := K0 hd; clear hd p0 p1 p2 p3 p4 p5
      go_wp2
      ((try simp only [Exit.inBlock, Exit.then]); refine bodyPost_ret (results_list (rs := [.tmp 4, .tmp 5, .tmp 6, .tmp 7]) rfl (by simp) (.tmp (.tmp (.tmp (.tmp .nil))))) rfl ?_)
      refine ⟨.slice AC cl.length kC, .slice AF fr.length kF, (by show Ending.returned (.tuple #[.slice AC cl.length kC, .int .i64 t, .slice AF fr.length kF, .int .i64 0]) = _; rw [HTP.out, HTT.out]), Kd.R_mono (Kd.R_lower (Kd.R_below HSr.out.c HD.out) ?_) (fun _ _ => trivial), Kd.R_mono (Kd.R_lower (Kd.R_below HSr.out.f HD.out) ?_) (fun _ _ => trivial), below_step (below_step HB2.out HSr.out.b) HD.out⟩
      · exact HB2.out.size
      exact HB2.out.size
    obtain ⟨ad, e1, x1⟩ := Kd.at_int (Kd.C_below HC.out HB.out) (j : Int) (by omega) (by omega)
    cases e1
    obtain ⟨x, hxx⟩ : ∃ x, cl[j] = x := ⟨_, rfl⟩
    have hrd : rd cl (j : Int) = x := by simp [rd, hlt, hxx]
    rw [hrd] at x1
    simp only [Int.toNat_natCast] at x1
    have hl := HL.out
    rw [List.drop_eq_getElem_cons hlt, hxx, toF] at hl
    have HWX := K0 (HWF.out x (by rw [← hxx]; exact List.getElem_mem hlt))
    have Q0 : ((0 : Int) ≤ (j : Int)) = True := eq_true (by omega)
    have Q1 : ((j : Int) < (cl.length : Int)) = True := eq_true (by omega)
    have Q2 : (j < cl.length) = True := eq_true hlt
    have hd2 : decide ((j : Int) < (cl.length : Int)) = true := decide_eq_true (by omega)
    have HJ := K0 hlt
    have g0 : wr.cell? ⟨gt + 1, 0, none⟩ = some (.func (.func 50) #[] #[.pointer (some ⟨ge, 0, none⟩)]) := (blk_cell HXr.out.2.2 0).trans rfl
    obtain ⟨lx, hlx⟩ : ∃ l, E.lev x = l := ⟨_, rfl⟩
    rw [hlx] at hl
    have HLL := K0 hl
    have A6 := K0 (learn_First_1.calls ge E B T p x wr HEr.out ((blk_cell HXr.out.1 0).trans rfl) HWX.out)
    rw [hlx] at A6
    clear hxx hrd hl HL hlx
    go_wp2_with fail
    refine A6.out.mono ?_
    rintro e' w6 ⟨rfl, hb6⟩
    have HB6 := K0 (below_step HB.out hb6)
    have g1 : w6.cell? ⟨gt, 0, none⟩ = some (.int .i64 top) := (blk_cell (blk_below HXr.out.2.1 hb6) 0).trans rfl
    clear hb6 A6 x1 g0 HB
    have hlx := HLL.out
    by_cases e0 : lx < top
    case neg =>
      have d5 : decide (lx < top) = false := decide_eq_false e0
      rw [if_neg e0] at hlx
      have HL3 := K0 hlx; clear hlx HLL e0
      go_wp2
      go_roundg (cl.length - (j + 1))
      case measure => have := hg.out; have := HJ.out; omega
      case rel => exact ⟨j + 1, t, by simp, rfl, ⟨by have := hg.out; have := HJ.out; omega⟩, HB6, HL3⟩
    have d5 : decide (lx < top) = true := decide_eq_true e0
    rw [if_pos e0] at hlx
    by_cases e2 : t < lx
    case neg =>
      have d6 : max t lx = t := by omega
      rw [if_neg e2] at hlx
      have HL3 := K0 hlx; clear hlx HLL e0
      go_wp2
      go_roundg (cl.length - (j + 1))
      case measure => have := hg.out; have := HJ.out; omega
      case rel => exact ⟨j + 1, t, by simp, by simp [d6], ⟨by have := hg.out; have := HJ.out; omega⟩, HB6, HL3⟩
    have d6 : max t lx = lx := by omega
    rw [if_pos e2] at hlx
    have HL3 := K0 hlx; clear hlx HLL e0
    go_wp2
    go_roundg (cl.length - (j + 1))
    case measure => have := hg.out; have := HJ.out; omega
    case rel => exact ⟨j + 1, lx, by simp, by simp [d6], ⟨by have := hg.out; have := HJ.out; omega⟩, HB6, HL3⟩
def pushesP (k : Nat) : List Int → Eng → Eng → Prop
  | [], E, F => F = E
  | x :: l, E, F => E.Lits ∧ (Lit.int .i64 x).wf = true ∧ ∃ E2 r, Eng.push k E x = some (E2, r) ∧ pushesP k l E2 F
set_option maxRecDepth 100000 in
set_option maxHeartbeats 4000000 in
theorem learn_engine.calls (k : Nat) (n : Int) (A0 : Option Addr) (c0 : Nat) (L : List (List Int)) (A1 : Option Addr) (c1 : Nat) (ps : List Int) (E F : Eng) (w : World) (hL : Kd.C (Kd.slice 3 (Kd.int .i64)) w A0 L.length L) (hc : L.length ≤ c0) (hP : Kd.C (Kd.int .i64) w A1 ps.length ps)
    (hwf : ∀ c ∈ L, ∀ r, lit_Clean.f c = some r → ∀ x ∈ r.1, (Lit.int .i64 x).wf = true) (hnew : Eng.new k n L = some (E, 0)) (hps : pushesP k ps E F) :
    Calls Try.prog 19 #[.agg #[.int .i64 n, .slice A0 L.length c0], .slice A1 ps.length c1] w fun e w' => ∃ B, e = .returned (.tuple #[.pointer (some ⟨B, 0, none⟩), .bool true]) ∧ NewPost F B w w' := by
  have HL := K0 hL
  have HP := K0 hP
  have HC := K0 hc
  have HW := K0 hwf
  have HN := K0 hnew
  have HGO := K0 hps
  have hpb : ps.length ≤ 9223372036854775807 := hP.2.1
  have hu24 := Try.underlying24
  have HB := K0 (Below.refl w.heap.size w)
  clear hL hP hc hwf hnew hps
  go_enter Try.func19, Try.ntmps19
  go_upto_region 1 with (first | ((with_reducible refine gate_dst (N := 2) rfl ?_); refine box_event ?hg (N := 2) ?hd (cs := #[.int .i64 n, .slice A0 L.length c0]) (t := 24) ?hr ?_; (case hd => rfl); (case hg => rfl); (case hr => first | (go_simp; done) | (go_simp; rfl)); intro gb hg w3 hbox hb; have n0_ := K0 (below_step HB.out hb); have BK := K0 hbox; clear HB; have HB := n0_; clear n0_; clear hb hbox hg))
  (try simp only [Act.put, List.setIfInBounds_toArray, List.set_cons_zero, List.set_cons_succ])
  have cb0 : w3.cell? ⟨gb, 0, none⟩ = some (.int .i64 n) := (blk_cell BK.out 0).trans rfl
  have cb1 : w3.cell? ⟨gb, 1, none⟩ = some (.slice A0 L.length c0) := (blk_cell BK.out 1).trans rfl
  have HCN := K0 (eng_New.calls k n A0 c0 L E w3 (Kd.C_below HL.out HB.out) HC.out HW.out HN.out)
  go_wp2_with fail
  refine HCN.out.mono ?_
  rintro e' w5 ⟨B, rfl, T, p, h5, hb5, hT5⟩
  have HB5 := K0 (below_step HB.out hb5)
  have HE := K0 h5
  have HT := K0 (show ∀ k, k < w.heap.size → T k = (0, 0) from fun k hk => hT5 k (Nat.lt_of_lt_of_le hk (below_size HB.out)))
  clear HCN h5 hb5 hT5 cb0 cb1 HB BK HN
  go_wp2
  go_loopg [9, 23] ps.length (fun gg v9 v23 wr => ∃ (j : Nat) (E1 : Eng) (T1 : Tag) (p1 : EngP), v23 = .int .i64 (j : Int) ∧ Aside0 (j + gg = ps.length) ∧ Aside0 (EngIn wr B T1 E1 p1) ∧ Aside0 (Below w.heap.size w wr) ∧ Aside0 (∀ k, k < w.heap.size → T1 k = (0, 0)) ∧ Aside0 (pushesP k (ps.drop j) E1 F))
  case atStart => exact ⟨0, E, T, p, rfl, ⟨by simp⟩, HE, HB5, HT, HGO⟩
  case round =>
    clear HE HB5 HT HGO
    obtain ⟨j, E1, T1, p1, rfl, hg, HE, HB, HT, HGO⟩ := hrel
    by_cases hlt : j < ps.length
    · obtain ⟨ad, e1, x1⟩ := Kd.at_int (Kd.C_below HP.out HB.out) (j : Int) (by omega) (by omega)
      cases e1
      obtain ⟨x, hxx⟩ : ∃ x, ps[j] = x := ⟨_, rfl⟩
      have hrd : rd ps (j : Int) = x := by simp [rd, hlt, hxx]
      rw [hrd] at x1
      simp only [Int.toNat_natCast] at x1
      have hgo := HGO.out
      rw [List.drop_eq_getElem_cons hlt, hxx] at hgo
      obtain ⟨g1, g2, E2, r, hpush, hgo2⟩ := hgo
      have HG2 := K0 hgo2
      have HCALL := K0 (eng_Push.calls k E1 B T1 p1 x E2 r wr HE.out g2 g1 hpush)
      have Q0 : ((0 : Int) ≤ (j : Int)) = True := eq_true (by omega)
      have Q1 : ((j : Int) < (ps.length : Int)) = True := eq_true (by omega)
      have Q2 : (j < ps.length) = True := eq_true hlt
      have hd2 : decide ((j : Int) < (ps.length : Int)) = true := decide_eq_true (by omega)
      have HJ := K0 hlt
      clear hxx hrd hgo2 hpush g1 g2 HGO
      go_wp2_with fail
      refine HCALL.out.mono ?_
      rintro e' w7 ⟨rfl, T7, p7, h7, m7, f7⟩
      have HE7 := K0 h7
      have HB7 := K0 (Below.trans HB.out (m7.below _ HB.out.size HT.out))
      have HT7 := K0 (show ∀ k, k < w.heap.size → T7 k = (0, 0) from fun k hk => (m7.old k (Nat.lt_of_lt_of_le hk HB.out.size)).1.trans (HT.out k hk))
      clear h7 m7 f7 HCALL HE HB HT x1
      go_wp2
      go_roundg (ps.length - (j + 1))
      case measure => have := hg.out; have := HJ.out; omega
      case rel => exact ⟨j + 1, E2, T7, p7, by simp, ⟨by have := hg.out; have := HJ.out; omega⟩, HE7, HB7, HT7, HG2⟩
    · have hd2 : decide ((j : Int) < (ps.length : Int)) = false := decide_eq_false (by omega)
      have Q2 : (j < ps.length) = False := eq_false hlt
      have hgo := HGO.out
      rw [List.drop_of_length_le (by omega)] at hgo
      have hF : F = E1 := hgo
      subst hF
      clear hgo HGO hg hlt
      go_wp2
      go_ret2
      exact ⟨B, rfl, T1, p1, HE.out, HB.out, HT.out⟩
set_option maxRecDepth 100000 in
set_option maxHeartbeats 4000000 in
theorem learn_engine.fails (k : Nat) (n : Int) (A0 : Option Addr) (c0 : Nat) (L : List (List Int)) (A1 : Option Addr) (c1 l1 : Nat) (ra re : Int) (w : World) (hL : Kd.C (Kd.slice 3 (Kd.int .i64)) w A0 L.length L) (hc : L.length ≤ c0) (hcr : cnf_Right.f k n L = some (ra, re)) (hre : re ≠ 0) :
    Calls Try.prog 19 #[.agg #[.int .i64 n, .slice A0 L.length c0], .slice A1 l1 c1] w fun e w' => e = .returned (.tuple #[.pointer none, .bool false]) ∧ Below w.heap.size w w' := by
  have HL := K0 hL
  have HC := K0 hc
  have hu24 := Try.underlying24
  have HB := K0 (Below.refl w.heap.size w)
  have hd : (re == 0) = false := beq_eq_false_iff_ne.2 hre
  have hd' : (re != 0) = true := bne_iff_ne.2 hre
  clear hL hc
  go_enter Try.func19, Try.ntmps19
  go_upto_region 1 with (first | ((with_reducible refine gate_dst (N := 2) rfl ?_); refine box_event ?hg (N := 2) ?hd (cs := #[.int .i64 n, .slice A0 L.length c0]) (t := 24) ?hr ?_; (case hd => rfl); (case hg => rfl); (case hr => first | (go_simp; done) | (go_simp; rfl)); intro gb hg w3 hbox hb; have n0_ := K0 (below_step HB.out hb); have BK := K0 hbox; clear HB; have HB := n0_; clear n0_; clear hb hbox hg))
  (try simp only [Act.put, List.setIfInBounds_toArray, List.set_cons_zero, List.set_cons_succ])
  have cb0 : w3.cell? ⟨gb, 0, none⟩ = some (.int .i64 n) := (blk_cell BK.out 0).trans rfl
  have cb1 : w3.cell? ⟨gb, 1, none⟩ = some (.slice A0 L.length c0) := (blk_cell BK.out 1).trans rfl
  have HCN := K0 (eng_New.fails k n A0 c0 L ra re w3 (Kd.C_below HL.out HB.out) HC.out hcr hre)
  clear hcr hre
  go_wp2_with fail
  refine HCN.out.mono ?_
  rintro e' w5 ⟨rfl, hb5⟩
  have HB5 := K0 (below_step HB.out hb5)
  clear HCN hb5 cb0 cb1 HB BK
  go_wp2
  go_ret2
  exact ⟨rfl, HB5.out⟩
section
variable {w : World} {g : Nat} {a0 a1 a2 a3 a4 : Value} {t : TypeId}
end
abbrev RI (w : World) (base : Nat) (v : Value) (xs : List Int) : Prop := Kd.R (Kd.int .i64) 3 w base (fun _ => True) v xs
structure ToldIn (w0 w : World) (g2 g : Nat) (br last : Int) (vT vW vL : Value) (tr ws ls : List Int) : Prop where
  b : Below w0.heap.size w0 w
  x : w.heap[g]? = some (.cells #[vT, vW, vL, .int .i64 br, .int .i64 last] 49 (0, 0))
  y : w.heap[g2]? = some (.cells #[.slice none 0 0, .slice none 0 0, .slice none 0 0, .int .i64 0, .int .i64 0] 49 (0, 0))
  t : RI w w0.heap.size vT tr
  s : RI w w0.heap.size vW ws
  l : RI w w0.heap.size vL ls
  dt : ∀ k, vT.ownBlock = some k → k ≠ g ∧ k ≠ g2 ∧ vW.ownBlock ≠ some k ∧ vL.ownBlock ≠ some k
  ds : ∀ k, vW.ownBlock = some k → k ≠ g ∧ k ≠ g2 ∧ vL.ownBlock ≠ some k
  dl : ∀ k, vL.ownBlock = some k → k ≠ g ∧ k ≠ g2
  hi : w0.heap.size ≤ g ∧ w0.heap.size ≤ g2 ∧ g ≠ g2
section
variable {w0 w w1 : World} {g2 g : Nat} {br last : Int} {vT vW vL v1 : Value} {tr ws ls : List Int} {n : Int}
theorem ToldIn.below (h : ToldIn w0 w g2 g br last vT vW vL tr ws ls) (hb : Below w.heap.size w w1) : ToldIn w0 w1 g2 g br last vT vW vL tr ws ls :=
  ⟨below_step h.b hb, blk_below h.x hb, blk_below h.y hb, Kd.R_below h.t hb, Kd.R_below h.s hb, Kd.R_below h.l hb, h.dt, h.ds, h.dl, h.hi⟩
end
def EngOk (F : Eng) : Prop := F.tr.length < 4398046511104 ∧ F.st.length < 4398046511104 ∧ (∀ x ∈ F.tr, (Lit.int .i64 x).wf = true) ∧ ∀ x ∈ F.tr, (Lit.int .i64 (absW x)).wf = true
def EngFact (k : Nat) (n : Int) (L : List (List Int)) (ps : List Int) (Q : Eng → Prop) : Prop :=
  ∃ ra re, cnf_Right.f k n L = some (ra, re) ∧ (re = 0 → ∃ E F, Eng.new k n L = some (E, 0) ∧ (∀ c ∈ L, ∀ r, lit_Clean.f c = some r → ∀ x ∈ r.1, (Lit.int .i64 x).wf = true) ∧ pushesP k ps E F ∧ Q F)
def Eng.add (k : Nat) (E : Eng) (c : List Int) : Option (Eng × Int) :=
  (lit_Right.f k c E.n).bind fun e => if e ≠ 0 then some (E, e) else if E.cls.length ≥ 4096 then some (E, 2) else (lit_Clean.f c).bind fun r =>
    if E.ws + r.1.length < 4398046511104 ∧ E.tr.length < 4398046511104 then (if E.br < 0 then (Eng.follow k ((E.laid r.1).look E.cls.length) E.tr.length).bind fun E' => some (E', 0) else some (E.laid r.1, 0)) else none
set_option maxRecDepth 100000 in
set_option maxHeartbeats 4000000 in
theorem eng_Add.calls (k : Nat) (E : Eng) (B : Nat) (T : Tag) (p : EngP) (A0 : Option Addr) (c0 : Nat) (l0 : List Int) (E2 : Eng) (r : Int) (w : World) (h : EngIn w B T E p) (hr0 : Kd.C (Kd.int .i64) w A0 l0.length l0) (hc0 : l0.length ≤ c0) (hlit : E.Lits) (hwf : ∀ r, lit_Clean.f l0 = some r → ∀ x ∈ r.1, (Lit.int .i64 x).wf = true) (hf : Eng.add k E l0 = some (E2, r)) :
    Calls Try.prog 32 #[.pointer (some ⟨B, 0, none⟩), .slice A0 l0.length c0] w fun e w' => e = .returned (.int .i64 r) ∧ ∃ T' p', EngIn w' B T' E2 p' ∧ Moved T T' w w' := by
  unfold Eng.add at hf
  obtain ⟨e, he, hf⟩ := Option.bind_eq_some_iff.mp hf
  have c0' := h.cells.1
  have HE := K0 h
  have HR := K0 (lit_Right.calls k A0 c0 l0 E.n e w hr0 hc0 he)
  clear he
  by_cases h0 : e = 0
  · subst h0
    rw [if_neg (by decide)] at hf
    obtain ⟨A1, k1, e1⟩ := Kd.R_slice h.cls
    obtain ⟨N, hN⟩ : ∃ N, E.cls.length = N := ⟨_, rfl⟩
    have hcc : ∀ {W : World}, Below w.heap.size w W → W.cell? ⟨B, 1, none⟩ = some (.slice A1 N k1) := fun hb => by
      rw [(h.below hb).cells.2.1, e1, h.len, hN]
    have HCC := K0 @hcc
    rw [hN] at hf
    by_cases h4 : N ≥ 4096
    · rw [if_pos h4] at hf
      simp only [Option.some.injEq, Prod.mk.injEq] at hf
      obtain ⟨h1, h2⟩ := hf
      subst h2
      have H2 := K0 h1
      have d1 : decide ((4096 : Int) ≤ (N : Int)) = true := decide_eq_true (by omega)
      have d2 : (4096 ≤ N) = True := eq_true h4
      clear h1 h hlit hwf hr0 hN hcc e1
      go_enter Try.func32, Try.ntmps32
      go_wp2_with fail
      refine HR.out.mono ?_
      rintro e' w1 ⟨rfl, ⟨⟨n1, rfl⟩⟩⟩
      have hb1 := pw_below_drewN (Below.refl w.heap.size w) n1
      have c1 := HCC.out hb1
      have HB1 := K0 hb1
      clear hb1
      go_wp2
      go_ret
      rw [← H2.out]
      exact ⟨rfl, T, p, HE.out.below HB1.out, Moved.of_below HB1.out⟩
    · rw [if_neg h4] at hf
      obtain ⟨⟨r1, r2⟩, hcl, hf⟩ := Option.bind_eq_some_iff.mp hf
      dsimp only at hf
      by_cases hbd : E.ws + r1.length < 4398046511104 ∧ E.tr.length < 4398046511104
      · rw [if_pos hbd] at hf
        have d1 : decide ((4096 : Int) ≤ (N : Int)) = false := decide_eq_false (by omega)
        have d2 : (4096 ≤ N) = False := eq_false h4
        have hw1 := hwf _ hcl
        have HCALL := K0 (fun W (hW : Below w.heap.size w W) => eng_lay.calls E B T p A0 c0 l0 r1 r2 W (h.below hW) (Kd.C_below hr0 hW) hc0 hcl hw1 hbd.1 (by rw [hN]; omega))
        obtain ⟨s1, s2, s3, s4, s5, s6, s7⟩ := E.laid_same r1
        have HS1 := K0 s1
        have HS2 := K0 s2
        have HS3 := K0 (show (E.laid r1).cls.length = N + 1 by rw [s3, List.length_append, hN]; rfl)
        have HLL := K0 (Eng.laid_lits hlit hw1)
        have HBD := K0 hbd
        have HF := K0 hf
        have hNb : N < 4096 := by omega
        clear h hlit hwf hr0 hN hcc e1 hcl hw1 s1 s2 s3 s4 s5 s6 s7 hbd hf h4
        go_enter Try.func32, Try.ntmps32
        go_wp2_with fail
        refine HR.out.mono ?_
        rintro e' w1 ⟨rfl, ⟨⟨n1, rfl⟩⟩⟩
        have hb1 := pw_below_drewN (Below.refl w.heap.size w) n1
        have c1 := HCC.out hb1
        have HB1 := K0 hb1
        clear hb1
        go_wp2_with fail
        refine (HCALL.out _ HB1.out).mono ?_
        rintro e' w2 ⟨rfl, T2, p2, h2, m2⟩
        have c6 := h2.cells.2.2.2.2.2.2.1
        rw [HS1.out] at c6
        have HM2 := K0 ((Moved.of_below HB1.out).trans m2)
        by_cases hbr : E.br < 0
        · have hf := HF.out
          rw [if_pos hbr] at hf
          obtain ⟨E5, hf5, hr⟩ := Option.bind_eq_some_iff.mp hf
          simp only [Option.some.injEq, Prod.mk.injEq] at hr
          obtain ⟨h1, h3⟩ := hr
          subst h3
          have H2 := K0 h1
          have d3 : decide (E.br < 0) = true := decide_eq_true hbr
          have c3 := h2.cells.2.2.2.1
          obtain ⟨A3, k3, e3⟩ := Kd.R_slice h2.tr
          obtain ⟨n3, hn3⟩ : ∃ n3, E.tr.length = n3 := ⟨_, rfl⟩
          rw [e3, HS2.out, hn3] at c3
          have c1' := h2.cells.2.1
          obtain ⟨A1', k1', e1'⟩ := Kd.R_slice h2.cls
          rw [e1', h2.len, HS3.out] at c1'
          have HLK := K0 (eng_look.calls (E.laid r1) B T2 p2 N w2 h2 (by rw [HS3.out]; omega) (HLL.out _ (List.getElem_mem _)) (by rw [HS2.out]; exact HBD.out.2))
          have HF5 := K0 hf5
          have HN3 := K0 hn3
          clear hf hf5 h1 hbr e3 hn3 e1' h2 m2 HCALL
          go_wp2_with fail
          refine HLK.out.mono ?_
          rintro e' w4 ⟨rfl, T4, p4, h4, m4, f4⟩
          have HM4 := K0 (HM2.out.trans m4)
          obtain ⟨l1, l2, _⟩ := (E.laid r1).look_cls N
          have HFO := K0 (eng_follow.calls k _ B T4 p4 n3 E5 w4 h4 (by unfold Eng.Lits; rw [l1]; exact HLL.out) (by rw [← HN3.out]; exact HF5.out))
          clear h4 m4 f4 l1 l2 HLK
          go_wp2_with fail
          refine HFO.out.mono ?_
          rintro e' w5 ⟨rfl, T5, p5, h5, m5, f5⟩
          have H5 := K0 h5
          have M5 := K0 (HM4.out.trans m5)
          clear h5 m5 f5 HFO
          go_wp2
          go_ret
          rw [← H2.out]
          exact ⟨rfl, T5, p5, H5.out, M5.out⟩
        · have hf := HF.out
          rw [if_neg hbr] at hf
          simp only [Option.some.injEq, Prod.mk.injEq] at hf
          obtain ⟨h1, h3⟩ := hf
          subst h3
          have H2 := K0 h1
          have d3 : decide (E.br < 0) = false := decide_eq_false hbr
          have H3 := K0 h2
          clear h1 hbr h2 m2 HCALL
          go_wp2
          go_ret
          rw [← H2.out]
          exact ⟨rfl, T2, p2, H3.out, HM2.out⟩
      · rw [if_neg hbd] at hf; cases hf
  · rw [if_pos h0] at hf
    simp only [Option.some.injEq, Prod.mk.injEq] at hf
    obtain ⟨h1, h2⟩ := hf
    subst h2
    have H2 := K0 h1
    have q1 : (e != 0) = true := by simpa using h0
    have q2 : (e == 0) = false := by simpa using h0
    clear h1 h hlit hwf hr0 h0
    go_enter Try.func32, Try.ntmps32
    go_wp2_with fail
    refine HR.out.mono ?_
    rintro e' w1 ⟨rfl, ⟨⟨n1, rfl⟩⟩⟩
    have HB1 := K0 (pw_below_drewN (Below.refl w.heap.size w) n1)
    go_wp2
    go_ret
    rw [← H2.out]
    exact ⟨rfl, T, p, HE.out.below HB1.out, Moved.of_below HB1.out⟩
def topF (E : Eng) (top : Int) : List Int → Int → Int
  | [], t => t
  | x :: xs, t => topF E top xs (if E.lev x = top then x else t)
def popsP (k : Nat) (lv : Int) : Nat → Eng → Eng → Prop
  | 0, E, G => ¬ lv < (E.st.length : Int) ∧ G = E
  | m + 1, E, G => (¬ lv < (E.st.length : Int) ∧ G = E) ∨ (lv < (E.st.length : Int) ∧ E.Lits ∧ (∀ x ∈ E.tr, (Lit.int .i64 x).wf = true) ∧ ∃ E2, Eng.pop k E = some (E2, true) ∧ popsP k lv m E2 G)
def UnitQ (k : Nat) (n : Int) (L : List (List Int)) (F : Eng) : Prop := EngOk F ∧ (F.br < 0 ∨ (0 ≤ F.br ∧ F.st.length = 0) ∨ (0 ≤ F.br ∧ F.st.length ≠ 0 ∧ ∃ m cl tv fr, m < 1099511627775 ∧ FirstP k m F L cl tv fr 0 ∧
  (∀ x ∈ cl, (Lit.int .i64 x).wf = true ∧ (Lit.int .i64 (varW x)).wf = true) ∧ (∀ r, lit_Clean.f cl = some r → ∀ x ∈ r.1, (Lit.int .i64 x).wf = true) ∧ (Lit.int .i64 (topF F (F.st.length : Int) cl 0)).wf = true ∧ ∃ mp G H, popsP k tv mp F G ∧ G.Lits ∧ G.val (topF F (F.st.length : Int) cl 0) = 0 ∧ Eng.add k G cl = some (H, 0) ∧ (0 ≤ H.br ∨ H.br < 0 ∧ H.val (topF F (F.st.length : Int) cl 0) = 1)))
structure LuIn (w cur : World) (B : Nat) (T : Tag) (E : Eng) (p : EngP) (v : Value) (cl : List Int) : Prop where
  e : EngIn cur B T E p
  b : Below w.heap.size w cur
  t : ∀ k, k < w.heap.size → T k = (0, 0)
  r : Kd.R (Kd.int .i64) 3 cur w.heap.size (fun k => T k = (0, 0) ∧ True) v cl
section
variable {w : World} {B : Nat} {cur nxt : World} {T T' : Tag} {E E' : Eng} {p p' : EngP} {v : Value} {cl : List Int}
theorem LuIn.below (h : LuIn w cur B T E p v cl) (hb : Below cur.heap.size cur nxt) : LuIn w nxt B T E p v cl :=
  ⟨h.e.below hb, below_step h.b hb, h.t, Kd.R_below h.r hb⟩
theorem LuIn.moved (h : LuIn w cur B T E p v cl) (he : EngIn nxt B T' E' p') (m : Moved T T' cur nxt) : LuIn w nxt B T' E' p' v cl :=
  ⟨he, Below.trans h.b (m.below _ h.b.size h.t), fun k hk => (m.old k (Nat.lt_of_lt_of_le hk h.b.size)).1.trans (h.t k hk), R_moved h.r m⟩
end
def learn_alive.P (k : Nat) : Prop := ∃ E2 E3 m fr, Eng.new k 3 [[-1, 2], [-1, 3], [-2, -3]] = some (E2, 0) ∧ (∀ c ∈ [[-1, 2], [-1, 3], [-2, (-3 : Int)]], ∀ r, lit_Clean.f c = some r → ∀ x ∈ r.1, (Lit.int .i64 x).wf = true) ∧ E2.Lits ∧ Eng.push k E2 1 = some (E3, true) ∧ (E3.tr.length < 4398046511104 ∧ E3.st.length < 4398046511104 ∧ ∀ x ∈ E3.tr, (Lit.int .i64 x).wf = true) ∧ m < 1099511627775 ∧ FirstP k m E3 [[-1, 2], [-1, 3], [-2, -3]] [-1] 0 fr 0 ∧ 2 ≤ fr.length ∧ sequiturbase_Ints.f k [-1] [-1] = some true
set_option maxRecDepth 100000 in
set_option maxHeartbeats 4000000 in
theorem learn_alive.calls (k : Nat) (w : World) (h : learn_alive.P k) :
    Calls Try.prog 16 #[] w fun e w' => e = .returned (.bool true) ∧ Below w.heap.size w w' := by
  obtain ⟨E2, E3, m, fr, h1, h2, h3, h4, h5, h6, h7, h8, h9⟩ := h
  have hu24 := Try.underlying24
  have HB := K0 (Below.refl w.heap.size w)
  obtain ⟨y1, hy1⟩ : ∃ y_ : List Int, y_ = (([(-1), 2] : List Int)) := ⟨_, rfl⟩
  have Ny1 := K0 hy1
  obtain ⟨y2, hy2⟩ : ∃ y_ : List Int, y_ = (([(-1), 3] : List Int)) := ⟨_, rfl⟩
  have Ny2 := K0 hy2
  obtain ⟨y3, hy3⟩ : ∃ y_ : List Int, y_ = (([(-2), (-3)] : List Int)) := ⟨_, rfl⟩
  have Ny3 := K0 hy3
  obtain ⟨y4, hy4⟩ : ∃ y_ : List (List Int), y_ = (([y1, y2, y3] : List (List Int))) := ⟨_, rfl⟩
  have Ny4 := K0 hy4
  have e4 : ([[-1, 2], [-1, 3], [-2, -3]] : List (List Int)) = y4 := by rw [hy4, hy1, hy2, hy3]
  rw [e4] at h1 h2 h7
  obtain ⟨y5, hy5⟩ : ∃ y_ : List Int, y_ = (([(-1)] : List Int)) := ⟨_, rfl⟩
  have Ny5 := K0 hy5
  rw [← hy5] at h7 h9
  have H1 := K0 h1
  have H2 := K0 h2
  have H3 := K0 h3
  have H4 := K0 h4
  have H5 := K0 h5
  have H6 := K0 h6
  have H7 := K0 h7
  have H8 := K0 h8
  have H9 := K0 h9
  clear h1 h2 h3 h4 h5 h6 h7 h8 h9 hy1 hy2 hy3 hy4 hy5 e4
  go_enter Try.func16, Try.ntmps16
  go_upto_region 2 with (first | ((with_reducible refine gate_dst (N := 8) rfl ?_); (try (refine gate_guard (by rfl) ?_; dsimp only)); refine Kd.R_lit (Kd.int .i64) _ 3 ?hg (N := 8) ?hd (xs := ([(-1), 2] : List Int)) (inner := [.int .i64 (-1), .int .i64 2]) (ok := fun _ => True) (okp := fun _ => True) ?hr ?hp (fun _ hk => hk) trivial (Below.refl _ _) (Nat.le_refl _) (by simp) ?_; (case hd => rfl); (case hg => rfl); (case hr => first | (go_simp; done) | (go_simp; rfl)); (case hp => exact (Reps.one (show Kd.M (Kd.int .i64) _ _ _ (-1) [.int .i64 (-1)] from rfl) (Reps.one (show Kd.M (Kd.int .i64) _ _ _ 2 [.int .i64 2] from rfl) (Reps.none _ _)))); intro vl8 wl8 ho hb hg_ hnew_; clear hg_ hnew_; (first | rw [← Ny1.out] at ho | (simp only [Int.reduceToNat] at ho; rw [← Ny1.out] at ho)); have no_ := K0 (Kd.R_lower ho (below_size (by repeat (first | (with_reducible first | exact HB.out | apply below_alloc | apply pw_below_drewN | apply below_drew1) | exact HB.out)))); have nb_ := K0 (below_step (by repeat (first | (with_reducible first | exact HB.out | apply below_alloc | apply pw_below_drewN | apply below_drew1) | exact HB.out)) hb); clear HB; have HO1 := no_; have HB := nb_; clear no_ nb_; clear hb ho) | ((with_reducible refine gate_dst (N := 9) rfl ?_); (try (refine gate_guard (by rfl) ?_; dsimp only)); refine Kd.R_lit (Kd.int .i64) _ 3 ?hg (N := 9) ?hd (xs := ([(-1), 3] : List Int)) (inner := [.int .i64 (-1), .int .i64 3]) (ok := fun _ => True) (okp := fun _ => True) ?hr ?hp (fun _ hk => hk) trivial (Below.refl _ _) (Nat.le_refl _) (by simp) ?_; (case hd => rfl); (case hg => rfl); (case hr => first | (go_simp; done) | (go_simp; rfl)); (case hp => exact (Reps.one (show Kd.M (Kd.int .i64) _ _ _ (-1) [.int .i64 (-1)] from rfl) (Reps.one (show Kd.M (Kd.int .i64) _ _ _ 3 [.int .i64 3] from rfl) (Reps.none _ _)))); intro vl9 wl9 ho hb hg_ hnew_; clear hg_ hnew_; (first | rw [← Ny2.out] at ho | (simp only [Int.reduceToNat] at ho; rw [← Ny2.out] at ho)); have nn0_ := K0 (Kd.R_below (by (with_reducible repeat (first | apply Kd.R_alloc | apply Kd.R_drewN | apply Kd.R_drew)); exact HO1.out) hb); have no_ := K0 (Kd.R_lower ho (below_size (by repeat (first | (with_reducible first | exact HB.out | apply below_alloc | apply pw_below_drewN | apply below_drew1) | exact HB.out)))); have nb_ := K0 (below_step (by repeat (first | (with_reducible first | exact HB.out | apply below_alloc | apply pw_below_drewN | apply below_drew1) | exact HB.out)) hb); clear HO1 HB; have HO1 := nn0_; have HO2 := no_; have HB := nb_; clear nn0_ no_ nb_; clear hb ho) | ((with_reducible refine gate_dst (N := 10) rfl ?_); (try (refine gate_guard (by rfl) ?_; dsimp only)); refine Kd.R_lit (Kd.int .i64) _ 3 ?hg (N := 10) ?hd (xs := ([(-2), (-3)] : List Int)) (inner := [.int .i64 (-2), .int .i64 (-3)]) (ok := fun _ => True) (okp := fun _ => True) ?hr ?hp (fun _ hk => hk) trivial (Below.refl _ _) (Nat.le_refl _) (by simp) ?_; (case hd => rfl); (case hg => rfl); (case hr => first | (go_simp; done) | (go_simp; rfl)); (case hp => exact (Reps.one (show Kd.M (Kd.int .i64) _ _ _ (-2) [.int .i64 (-2)] from rfl) (Reps.one (show Kd.M (Kd.int .i64) _ _ _ (-3) [.int .i64 (-3)] from rfl) (Reps.none _ _)))); intro vl10 wl10 ho hb hg_ hnew_; clear hg_ hnew_; (first | rw [← Ny3.out] at ho | (simp only [Int.reduceToNat] at ho; rw [← Ny3.out] at ho)); have nn0_ := K0 (Kd.R_below (by (with_reducible repeat (first | apply Kd.R_alloc | apply Kd.R_drewN | apply Kd.R_drew)); exact HO1.out) hb); have nn1_ := K0 (Kd.R_below (by (with_reducible repeat (first | apply Kd.R_alloc | apply Kd.R_drewN | apply Kd.R_drew)); exact HO2.out) hb); have no_ := K0 (Kd.R_lower ho (below_size (by repeat (first | (with_reducible first | exact HB.out | apply below_alloc | apply pw_below_drewN | apply below_drew1) | exact HB.out)))); have nb_ := K0 (below_step (by repeat (first | (with_reducible first | exact HB.out | apply below_alloc | apply pw_below_drewN | apply below_drew1) | exact HB.out)) hb); clear HO1 HO2 HB; have HO1 := nn0_; have HO2 := nn1_; have HO3 := no_; have HB := nb_; clear nn0_ nn1_ no_ nb_; clear hb ho; obtain ⟨AoHO1, coHO1, eoHO1⟩ := Kd.R_slice HO1.out; subst eoHO1; obtain ⟨AoHO2, coHO2, eoHO2⟩ := Kd.R_slice HO2.out; subst eoHO2; obtain ⟨AoHO3, coHO3, eoHO3⟩ := Kd.R_slice HO3.out; subst eoHO3) | ((with_reducible refine gate_dst (N := 11) rfl ?_); (try (refine gate_guard (by rfl) ?_; dsimp only)); refine Kd.N_lit (Kd.slice 3 (Kd.int .i64)) _ 37 ?hg (N' := 11) ?hd (xs := ([y1, y2, y3] : List (List Int))) (inner := [.slice AoHO1 y1.length coHO1, .slice AoHO2 y2.length coHO2, .slice AoHO3 y3.length coHO3]) (ok := (fun _ => True)) (okp := (fun _ => True)) ?hr ?hp (fun _ hk => hk) ((show ∀ k_, wl10.heap.size ≤ k_ → (fun _ => True) k_ from fun k_ hk => trivial) _ (Nat.le_refl _)) (Below.refl _ _) (Nat.le_refl _) (by simp) ?_; (case hd => rfl); (case hg => rfl); (case hr => first | (go_simp; done) | (go_simp; rfl)); (case hp => exact (Reps.one (show Kd.FK (Kd.slice 3 (Kd.int .i64)) _ _ y1 [.slice AoHO1 y1.length coHO1] from (Kd.FK_slice_mk (Kd.R_reads' HO1.out).2.1 (Kd.R_F HO1.out))) (Reps.one (show Kd.FK (Kd.slice 3 (Kd.int .i64)) _ _ y2 [.slice AoHO2 y2.length coHO2] from (Kd.FK_slice_mk (Kd.R_reads' HO2.out).2.1 (Kd.R_F HO2.out))) (Reps.one (show Kd.FK (Kd.slice 3 (Kd.int .i64)) _ _ y3 [.slice AoHO3 y3.length coHO3] from (Kd.FK_slice_mk (Kd.R_reads' HO3.out).2.1 (Kd.R_F HO3.out))) (Reps.none _ _))))); intro vl11 wl11 ho hb hg_ hnew_; clear hg_ hnew_; (first | rw [← Ny4.out] at ho | (simp only [Int.reduceToNat] at ho; rw [← Ny4.out] at ho)); have no_ := K0 (Kd.N_lower ho (below_size (by repeat (first | (with_reducible first | exact HB.out | apply below_alloc | apply pw_below_drewN | apply below_drew1) | exact HB.out)))); have nb_ := K0 (below_step (by repeat (first | (with_reducible first | exact HB.out | apply below_alloc | apply pw_below_drewN | apply below_drew1) | exact HB.out)) hb); clear HB HO1 HO2 HO3; have HO4 := no_; have HB := nb_; clear no_ nb_; clear hb ho; obtain ⟨Ao4, co4, eo4⟩ := Kd.N_slice HO4.out; subst eo4))
  obtain ⟨gb, hgb⟩ : ∃ g, wl11.heap.size = g := ⟨_, rfl⟩
  obtain ⟨W5, hW5⟩ : ∃ W5, wl11.alloc (.cells #[.int .i64 3, .slice Ao4 y4.length co4] 24) = W5 := ⟨_, rfl⟩
  have hb5 : Below wl11.heap.size wl11 W5 := by rw [← hW5]; exact below_alloc (Below.refl _ _) _
  have n5 := blk_new wl11 (.cells #[.int .i64 3, .slice Ao4 y4.length co4] 24)
  rw [hW5, hgb] at n5
  rw [hW5, hgb]
  have BK := K0 n5
  have cb0 : W5.cell? ⟨gb, 0, none⟩ = some (.int .i64 3) := (blk_cell BK.out 0).trans rfl
  have cb1 : W5.cell? ⟨gb, 1, none⟩ = some (.slice Ao4 y4.length co4) := (blk_cell BK.out 1).trans rfl
  have HC5 := K0 (Kd.C_below (Kd.N_reads' HO4.out).2.2 hb5)
  have HL5 := K0 (Kd.N_reads' HO4.out).2.1
  have HB5 := K0 (below_step HB.out hb5)
  have A1 := K0 (eng_New.calls k 3 Ao4 co4 y4 E2 W5 HC5.out HL5.out H2.out H1.out)
  clear hW5 hgb hb5 n5 HO4 HB
  go_wp2_with fail
  refine A1.out.mono ?_
  rintro e' w6 ⟨B, rfl, T, p, h6_, hb6, hT6⟩
  have HE := K0 h6_
  have HT := K0 (show ∀ k, k < W5.heap.size → T k = (0, 0) from hT6)
  have HB6 := K0 (show Below W5.heap.size W5 w6 from hb6)
  have A2 := K0 (eng_Push.calls k E2 B T p 1 E3 true w6 HE.out (by decide) H3.out H4.out)
  clear h6_ hb6 hT6 A1 cb0 cb1
  go_wp2_with fail
  refine A2.out.mono ?_
  rintro e' w7 ⟨rfl, T7, p7, h7_, m7, f7⟩
  have HE7 := K0 h7_
  have HB7 := K0 (Below.trans HB6.out (m7.below _ HB6.out.size HT.out))
  have HBw := K0 (below_step HB5.out HB7.out)
  have BK7 := K0 (blk_below BK.out HB7.out)
  have cb0 : w7.cell? ⟨gb, 0, none⟩ = some (.int .i64 3) := (blk_cell BK7.out 0).trans rfl
  have cb1 : w7.cell? ⟨gb, 1, none⟩ = some (.slice Ao4 y4.length co4) := (blk_cell BK7.out 1).trans rfl
  have A3 := K0 (learn_First.calls k m E3 B T7 p7 3 Ao4 co4 y4 y5 0 fr 0 w7 HE7.out H5.out.1 H5.out.2.1 H5.out.2.2 (Kd.C_below HC5.out HB7.out) HL5.out H6.out H7.out)
  clear h7_ m7 f7 A2 HE HT HB6 HB7 BK
  go_wp2_with fail
  refine A3.out.mono ?_
  rintro e' w8 ⟨v1, v2, rfl, r1, r2, hb8⟩
  obtain ⟨A8, k8, e8⟩ := Kd.R_slice r2
  subst e8
  obtain ⟨A9, k9, e9⟩ := Kd.R_slice r1
  subst e9
  have HB := K0 (below_step HBw.out hb8)
  have HO7 := K0 r1
  have q8 : decide ((2 : Int) ≤ (fr.length : Int)) = true := decide_eq_true (by have := H8.out; omega)
  have q9 : decide (2 ≤ fr.length) = true := decide_eq_true H8.out
  have q7 : (2 ≤ fr.length) = True := eq_true H8.out
  clear r1 r2 hb8 A3 cb0 cb1 HBw
  go_wp2_with (first | ((with_reducible refine gate_dst (N := 38) rfl ?_); (try (refine gate_guard (by rfl) ?_; dsimp only)); refine Kd.R_lit (Kd.int .i64) _ 3 ?hg (N := 38) ?hd (xs := ([(-1)] : List Int)) (inner := [.int .i64 (-1)]) (ok := fun _ => True) (okp := fun _ => True) ?hr ?hp (fun _ hk => hk) trivial (Below.refl _ _) (Nat.le_refl _) (by simp) ?_; (case hd => rfl); (case hg => rfl); (case hr => first | (go_simp; done) | (go_simp; rfl)); (case hp => exact (Reps.one (show Kd.M (Kd.int .i64) _ _ _ (-1) [.int .i64 (-1)] from rfl) (Reps.none _ _))); intro vl38 wl38 ho hb hg_ hnew_; clear hg_ hnew_; (first | rw [← Ny5.out] at ho | (simp only [Int.reduceToNat] at ho; rw [← Ny5.out] at ho)); have nn0_ := K0 (Kd.R_below (by (with_reducible repeat (first | apply Kd.R_alloc | apply Kd.R_drewN | apply Kd.R_drew)); exact HO7.out) hb); have no_ := K0 (Kd.R_lower ho (below_size (by repeat (first | (with_reducible first | exact HB.out | apply below_alloc | apply pw_below_drewN | apply below_drew1) | exact HB.out)))); have nb_ := K0 (below_step (by repeat (first | (with_reducible first | exact HB.out | apply below_alloc | apply pw_below_drewN | apply below_drew1) | exact HB.out)) hb); clear HO7 HB; have HO7 := nn0_; have HO8 := no_; have HB := nb_; clear nn0_ no_ nb_; clear hb ho; obtain ⟨AoHO8, coHO8, eoHO8⟩ := Kd.R_slice HO8.out; subst eoHO8))
  refine (sequiturbase_Ints.calls k _ _ y5 _ _ y5 true _ (Kd.R_reads' HO7.out).2.2 (Kd.R_reads' HO7.out).2.1 (Kd.R_reads' HO8.out).2.2 (Kd.R_reads' HO8.out).2.1 H9.out).mono ?_
  rintro e' w9 ⟨rfl, ⟨nd, rfl⟩⟩
  have HB9 := K0 (pw_below_drewN HB.out nd)
  clear HO7 HO8 HB
  go_wp2
  go_ret
  exact ⟨rfl, HB9.out⟩
def sequiturlaw21_LearnUnit.Fact (k : Nat) (n : Int) (L : List (List Int)) (ps : List Int) : Prop :=
  learn_alive.P k ∧ ∃ lg, sequiturlaw21_long.f k n L ps = some lg ∧ (lg = false → n ≤ 8 → EngFact k n L ps (UnitQ k n L))
set_option maxRecDepth 100000 in
set_option maxHeartbeats 8000000 in
theorem sequiturlaw21_LearnUnit.calls (k : Nat) (a0_0 : Int) (A0_1 : Option Addr) (c0_1 : Nat) (l0_1 : List (List Int)) (A1 : Option Addr) (c1 : Nat) (l1 : List Int) (w : World)
    (hr0_1 : Kd.C (Kd.slice 3 (Kd.int .i64)) w A0_1 l0_1.length l0_1) (hc0_1 : l0_1.length ≤ c0_1) (hr1 : Kd.C (Kd.int .i64) w A1 l1.length l1) (hc1 : l1.length ≤ c1) (h : sequiturlaw21_LearnUnit.Fact k a0_0 l0_1 l1) :
    Calls Try.prog 7 #[.agg #[.int .i64 a0_0, .slice A0_1 l0_1.length c0_1], .slice A1 l1.length c1] w fun e w' => e = .returned (.bool true) ∧ Below w.heap.size w w' := by
  obtain ⟨hal, lg, hlg, hh⟩ := h
  have HAL := K0 hal; have HLG := K0 hlg; have HH := K0 hh
  have hu24 := Try.underlying24
  obtain ⟨gb, hgb⟩ : ∃ g, w.heap.size = g := ⟨_, rfl⟩
  obtain ⟨W2, hW2⟩ : ∃ W2, w.alloc (.cells #[.int .i64 a0_0, .slice A0_1 l0_1.length c0_1] 24) = W2 := ⟨_, rfl⟩
  have hb2 : Below w.heap.size w W2 := by rw [← hW2]; exact below_alloc (Below.refl _ _) _
  have n2 := blk_new w (.cells #[.int .i64 a0_0, .slice A0_1 l0_1.length c0_1] 24)
  rw [hW2, hgb] at n2
  have BK := K0 n2; have HB := K0 hb2
  have HR0 := K0 (Kd.C_below hr0_1 HB.out)
  have HR1 := K0 (Kd.C_below hr1 HB.out)
  have HC0 := K0 hc0_1; have HC1 := K0 hc1
  have A1_ := K0 (learn_alive.calls k W2 HAL.out)
  clear hal hlg hh hr0_1 hr1 hc0_1 hc1 hb2 n2
  go_enter Try.func7, Try.ntmps7
  go_wp2_with fail
  clear hW2 hgb HAL
  refine A1_.out.mono ?_
  rintro e' w3 ⟨rfl, hb3⟩
  have HB3 := K0 (show Below W2.heap.size W2 w3 from hb3)
  have cb0 : w3.cell? ⟨gb, 0, none⟩ = some (.int .i64 a0_0) := (blk_cell (blk_below BK.out hb3) 0).trans rfl
  have cb1 : w3.cell? ⟨gb, 1, none⟩ = some (.slice A0_1 l0_1.length c0_1) := (blk_cell (blk_below BK.out hb3) 1).trans rfl
  have A2_ := K0 (sequiturlaw21_long.calls k a0_0 A0_1 c0_1 l0_1 A1 c1 l1 lg w3 (Kd.C_below HR0.out HB3.out) HC0.out (Kd.C_below HR1.out HB3.out) HC1.out HLG.out)
  clear hb3 A1_
  cases lg with
  | true =>
    go_wp2_with fail
    refine A2_.out.mono ?_
    rintro e' w4 ⟨rfl, hb4⟩
    have HB4 := K0 (below_step HB.out (below_step HB3.out hb4))
    clear hb4 A2_ cb0 cb1
    go_wp2
    go_ret
    exact ⟨rfl, HB4.out⟩
  | false =>
    have HH2 := K0 (fun h8 => HH.out rfl h8)
    clear HH
    go_wp2_with fail
    refine A2_.out.mono ?_
    rintro e' w5 ⟨rfl, hb5⟩
    have HB5 := K0 (below_step HB3.out hb5)
    have cb0 : w5.cell? ⟨gb, 0, none⟩ = some (.int .i64 a0_0) := (blk_cell (blk_below BK.out HB5.out) 0).trans rfl
    have cb1 : w5.cell? ⟨gb, 1, none⟩ = some (.slice A0_1 l0_1.length c0_1) := (blk_cell (blk_below BK.out HB5.out) 1).trans rfl
    clear hb5 A2_ HB3
    by_cases hlong : 8 < a0_0
    · have dl : decide (8 < a0_0) = true := decide_eq_true hlong
      clear HH2 hlong
      go_wp2
      go_ret
      exact ⟨rfl, below_step HB.out HB5.out⟩
    have dl : decide (8 < a0_0) = false := decide_eq_false hlong
    obtain ⟨ra, re, hcr, hrest⟩ := HH2.out (by omega)
    have HCR := K0 hcr; have HRE := K0 hrest; clear HH2 hcr hrest hlong HLG
    by_cases hre : re = 0
    case neg =>
      have A4_ := K0 (learn_engine.fails k a0_0 A0_1 c0_1 l0_1 A1 c1 l1.length ra re w5 (Kd.C_below HR0.out HB5.out) HC0.out HCR.out hre)
      clear hre HRE HCR
      go_wp2_with fail
      refine A4_.out.mono ?_
      rintro e' w6 ⟨rfl, hb6⟩
      have HB6 := K0 (below_step HB.out (below_step HB5.out hb6))
      clear hb6 A4_ cb0 cb1
      go_wp2
      go_ret
      exact ⟨rfl, HB6.out⟩
    subst hre
    obtain ⟨E, F, hnew, hwf, hps, hok, hq⟩ := HRE.out rfl
    have A4_ := K0 (learn_engine.calls k a0_0 A0_1 c0_1 l0_1 A1 c1 l1 E F w5 (Kd.C_below HR0.out HB5.out) HC0.out (Kd.C_below HR1.out HB5.out) hwf hnew hps)
    have HOK := K0 hok; clear hnew hwf hps hok HRE HCR
    go_wp2_with fail
    refine A4_.out.mono ?_
    rintro e' w6 ⟨B, rfl, T, p, h6, hb6, hT6⟩
    have HE := K0 h6; have HT := K0 hT6
    have HZ5 := K0 HB5.out.size
    have HB6 := K0 (below_step HB5.out hb6)
    clear h6 hb6 hT6 A4_ cb0 cb1 HB5
    have A5_ := K0 (eng_Broken.calls F B T p w6 HE.out)
    obtain ⟨br, hbr⟩ : ∃ b, F.br = b := ⟨_, rfl⟩
    rw [hbr] at A5_ hq
    have HQ := K0 hq; clear hq
    go_wp2_with fail
    refine A5_.out.mono ?_
    rintro e' w7 ⟨rfl, rfl⟩
    clear A5_
    by_cases hneg : br < 0
    · have d1 : decide (br < 0) = true := decide_eq_true (by omega)
      clear hneg hbr HQ
      go_wp2
      go_ret
      exact ⟨rfl, below_step HB.out HB6.out⟩
    have d1 : decide (br < 0) = false := decide_eq_false (by omega)
    obtain ⟨top, htop⟩ : ∃ t : Int, (F.st.length : Int) = t := ⟨_, rfl⟩
    have HTP := K0 htop
    have A6_ := K0 (eng_Levels.calls F B T p w7 HE.out)
    rw [htop] at A6_
    have HNG := K0 hneg; clear htop hneg hbr
    go_wp2_with fail
    refine A6_.out.mono ?_
    rintro e' w8 ⟨rfl, rfl⟩
    clear A6_
    by_cases htz : top = 0
    · have d2 : (top == 0) = true := by rw [htz]; rfl
      clear htz HQ
      go_wp2
      go_ret
      exact ⟨rfl, below_step HB.out HB6.out⟩
    have d2 : (top == 0) = false := beq_eq_false_iff_ne.2 htz
    obtain ⟨_, _, m, cl, tv, fr, hm, hF, hcl, hcw, htw, mp, G, H, hpops, hGL, hGv, hadd, hend⟩ := (HQ.out.resolve_left (by have := HNG.out; omega)).resolve_left (fun h => htz (by have := HTP.out; omega))
    obtain ⟨tt, htt⟩ : ∃ t, topF F (F.st.length : Int) cl 0 = t := ⟨_, rfl⟩
    rw [htt] at htw hGv hend
    rw [HTP.out] at htt
    have HCL := K0 hcl; have HCW := K0 hcw; have HTT := K0 htt; have HTW := K0 htw; have HPP := K0 hpops; have HGL := K0 hGL; have HGV := K0 hGv; have HAD := K0 hadd; have HEND := K0 hend
    have cb0 : w8.cell? ⟨gb, 0, none⟩ = some (.int .i64 a0_0) := (blk_cell (blk_below BK.out HB6.out) 0).trans rfl
    have cb1 : w8.cell? ⟨gb, 1, none⟩ = some (.slice A0_1 l0_1.length c0_1) := (blk_cell (blk_below BK.out HB6.out) 1).trans rfl
    have A7_ := K0 (learn_First.calls k m F B T p a0_0 A0_1 c0_1 l0_1 cl tv fr 0 w8 HE.out HOK.out.1 HOK.out.2.1 HOK.out.2.2.1 (Kd.C_below HR0.out HB6.out) HC0.out hm hF)
    clear hcl hcw htt htw hpops hGL hGv hadd hend hF htz HQ HNG
    go_wp2_with fail
    refine A7_.out.mono ?_
    rintro e' w9 ⟨v1, v2, rfl, r1, r2, hb9⟩
    have HS9 := K0 (show LuIn W2 w9 B T F p v1 cl from ⟨HE.out.below hb9, below_step HB6.out hb9, fun k hk => HT.out k (Nat.lt_of_lt_of_le hk HZ5.out), Kd.R_of_own (Kd.own_of_R (Kd.R_lower r1 HB6.out.size)) (fun k hk => ⟨HE.out.fresh k (Kd.R_base r1 k hk), trivial⟩)⟩)
    obtain ⟨B1, k1, e1⟩ := Kd.R_slice r1
    subst e1
    have hbc : cl.length ≤ 9223372036854775807 := (Kd.R_reads' r1).2.2.2.1
    have HBr := K0 (Below.refl w9.heap.size w9)
    clear r1 r2 hb9 A7_ HE HB6 cb0 cb1 HT HZ5
    go_wp2
    go_loopg [11, 13, 54] cl.length (fun gg v11 v13 v54 wr => ∃ (j : Nat) (u : Int), v54 = .int .i64 (j : Int) ∧ v11 = .int .i64 u ∧ Aside0 (j + gg = cl.length) ∧ Aside0 (Below w9.heap.size w9 wr) ∧ Aside0 (topF F top (cl.drop j) u = tt))
    case atStart => exact ⟨0, 0, rfl, rfl, ⟨by simp⟩, HBr, HTT⟩
    case round =>
      clear HBr HTT
      obtain ⟨j, u, rfl, rfl, hg, HBr, HL⟩ := hrel
      have HSr := K0 (HS9.out.below HBr.out)
      by_cases hlt : j < cl.length
      case pos =>
        obtain ⟨ad, e1, x1⟩ := Kd.at_int (Kd.R_reads' HSr.out.r).2.2 (j : Int) (by omega) (by omega)
        cases e1
        obtain ⟨x, hxx⟩ : ∃ x, cl[j] = x := ⟨_, rfl⟩
        have hrd : rd cl (j : Int) = x := by simp [rd, hlt, hxx]
        rw [hrd] at x1
        simp only [Int.toNat_natCast] at x1
        have hl := HL.out
        rw [List.drop_eq_getElem_cons hlt, hxx, topF] at hl
        have HX := K0 (HCL.out x (by rw [← hxx]; exact List.getElem_mem hlt))
        obtain ⟨v, hv2⟩ : ∃ v, varW x = v := ⟨_, rfl⟩
        have hv : (if x < wrap64 (-x) then wrap64 (-x) else x) = v := hv2
        obtain ⟨lx, hlx⟩ : ∃ l, F.lev x = l := ⟨_, rfl⟩
        have HLX := K0 (show F.level v = lx by rw [← hv2]; exact hlx)
        have HXW := K0 (show (Lit.int .i64 v).wf = true by rw [← hv2]; exact HX.out.2)
        rw [hlx] at hl
        have HLL := K0 hl
        have Q0 : ((0 : Int) ≤ (j : Int)) = True := eq_true (by omega)
        have Q1 : ((j : Int) < (cl.length : Int)) = True := eq_true (by omega)
        have Q2 : (j < cl.length) = True := eq_true hlt
        have hd2 : decide ((j : Int) < (cl.length : Int)) = true := decide_eq_true (by omega)
        have HJ := K0 hlt
        have AA_ := K0 (eng_Level.calls F B T p v wr HSr.out.e HXW.out)
        rw [HLX.out] at AA_
        clear hxx hrd hl HL hv2 hlx HX
        go_wp2_with fail
        refine AA_.out.mono ?_
        rintro e' wC ⟨rfl, hbC⟩
        have HBC := K0 (below_step HBr.out hbC)
        have AB_ := K0 (eng_Levels.calls F B T p wC (HSr.out.e.below hbC))
        rw [HTP.out] at AB_
        clear hbC AA_ HBr HSr x1
        go_wp2_with fail
        refine AB_.out.mono ?_
        rintro e' wD ⟨rfl, rfl⟩
        clear AB_
        have hlx := HLL.out
        by_cases e0 : lx = top
        case pos =>
          have d5 : (lx == top) = true := by rw [e0]; simp
          rw [if_pos e0] at hlx
          have HL3 := K0 hlx; clear e0 hlx HLL
          go_wp2
          go_roundg (cl.length - (j + 1))
          case measure => have := hg.out; have := HJ.out; omega
          case rel => exact ⟨j + 1, x, by simp, rfl, ⟨by have := hg.out; have := HJ.out; omega⟩, HBC, HL3⟩
        have d5 : (lx == top) = false := beq_eq_false_iff_ne.2 e0
        rw [if_neg e0] at hlx
        have HL3 := K0 hlx; clear e0 hlx HLL
        go_wp2
        go_roundg (cl.length - (j + 1))
        case measure => have := hg.out; have := HJ.out; omega
        case rel => exact ⟨j + 1, u, by simp, rfl, ⟨by have := hg.out; have := HJ.out; omega⟩, HBC, HL3⟩
      have hd2 : decide ((j : Int) < (cl.length : Int)) = false := decide_eq_false (by omega)
      have Q2 : (j < cl.length) = False := eq_false hlt
      have hl := HL.out
      rw [List.drop_of_length_le (by omega), topF] at hl
      subst hl; clear HL hg hlt HBr HS9
      go_wp2
      go_loopg [72] mp (fun gg v72 wr => ∃ (gn : Nat) (E1 : Eng) (T1 : Tag) (p1 : EngP), Aside0 (gn = gg) ∧ Aside0 (LuIn W2 wr B T1 E1 p1 (.slice B1 cl.length k1) cl) ∧ Aside0 (popsP k tv gn E1 G))
      case atStart => exact ⟨mp, F, T, p, ⟨rfl⟩, HSr, HPP⟩
      case round =>
        clear HSr HPP
        obtain ⟨gn, E1, T1, p1, hgn, HSr, HPP⟩ := hrel
        have AB_ := K0 (eng_Levels.calls E1 B T1 p1 wr HSr.out.e)
        obtain ⟨s1, hs1⟩ : ∃ t : Int, (E1.st.length : Int) = t := ⟨_, rfl⟩
        rw [hs1] at AB_
        have HS1 := K0 hs1; clear hs1
        go_wp2_with fail
        refine AB_.out.mono ?_
        rintro e' wD ⟨rfl, rfl⟩
        clear AB_
        by_cases hlv : tv < s1
        case pos =>
          have d6 : decide (tv < s1) = true := decide_eq_true hlv
          obtain ⟨gm, hgm⟩ : ∃ gm, gn = gm + 1 := by
            cases gn with
            | zero => exact absurd (HS1.out ▸ hlv) HPP.out.1
            | succ gm => exact ⟨gm, rfl⟩
          subst hgm
          obtain ⟨_, g1, g2, E2, hpop, hrest⟩ := HPP.out.resolve_left (fun h => h.1 (HS1.out ▸ hlv))
          have HRS := K0 hrest
          have AP_ := K0 (eng_Pop.calls k E1 B T1 p1 E2 true wD HSr.out.e g1 g2 hpop)
          clear hlv g1 g2 hpop hrest HPP
          go_wp2_with fail
          refine AP_.out.mono ?_
          rintro e' wE ⟨rfl, TE, pE, hE_, mE, fE⟩
          have HSE := K0 (HSr.out.moved hE_ mE)
          clear hE_ mE fE AP_ HSr
          go_wp2
          go_roundg gm
          case measure => have := hgn.out; omega
          case rel => exact ⟨gm, E2, TE, pE, ⟨rfl⟩, HSE, HRS⟩
        have d6 : decide (tv < s1) = false := decide_eq_false hlv
        have hGE : G = E1 := by
          have h := HPP.out
          cases gn with
          | zero => exact h.2
          | succ gm => exact h.elim (fun h => h.2) (fun h => absurd (HS1.out ▸ h.1) hlv)
        subst hGE
        have AV_ := K0 (eng_Value.calls G B T1 p1 u wD HSr.out.e HTW.out)
        rw [HGV.out] at AV_
        clear hlv HPP hgn
        go_wp2_with fail
        refine AV_.out.mono ?_
        rintro e' wE ⟨rfl, hbE⟩
        have HSE := K0 (HSr.out.below hbE)
        have AA_ := K0 (eng_Add.calls k G B T1 p1 B1 k1 cl H 0 wE HSE.out.e (Kd.R_reads' HSE.out.r).2.2 (Kd.R_reads' HSE.out.r).2.1 HGL.out HCW.out HAD.out)
        clear hbE AV_ HSr
        go_wp2_with fail
        refine AA_.out.mono ?_
        rintro e' wF ⟨rfl, TF, pF, hF_, mF⟩
        have HSF := K0 (HSE.out.moved hF_ mF)
        have AB2_ := K0 (eng_Broken.calls H B TF pF wF HSF.out.e)
        obtain ⟨hb, hhb⟩ : ∃ b, H.br = b := ⟨_, rfl⟩
        have hend := HEND.out
        rw [hhb] at AB2_ hend
        clear hF_ mF AA_ HSE hhb
        go_wp2_with fail
        refine AB2_.out.mono ?_
        rintro e' wG ⟨rfl, rfl⟩
        clear AB2_
        rcases hend with hge | ⟨hlt2, hval⟩
        · have d7 : decide (0 ≤ hb) = true := decide_eq_true hge
          clear hge
          go_wp2
          go_ret
          exact ⟨rfl, below_step HB.out HSF.out.b⟩
        have d7 : decide (0 ≤ hb) = false := decide_eq_false (by omega)
        have AV2_ := K0 (eng_Value.calls H B TF pF u wG HSF.out.e HTW.out)
        rw [hval] at AV2_
        clear hlt2 hval
        go_wp2_with fail
        refine AV2_.out.mono ?_
        rintro e' wH ⟨rfl, hbH⟩
        have HBH := K0 (below_step HSF.out.b hbH)
        clear hbH AV2_
        go_wp2
        go_ret
        exact ⟨rfl, below_step HB.out HBH.out⟩
end Go.Proofs.Ytkmlekfmccghjaa.P
