import Derived.Lib.SliceRun
import Derived.Deep.DeepCutAuto
import Derived.Deep.RegionLaw
import Derived.Shelf.RegionOpenPlain
import Derived.StillTailTactics
import Derived.Shelf.Abstract
import Derived.Laws.EntriesVeiled
import Derived.Test.YtkmlekfmccghjaaKLearnUnit1
import Derived.Test.YtkmlekfmccghjaaKLearnUnit10
import Derived.Test.YtkmlekfmccghjaaKLearnUnit11
import Derived.Test.YtkmlekfmccghjaaKLearnUnit2
namespace Go.Proofs.Ytkmlekfmccghjaa.P
open Go.RowKit Go.Proofs.YtkmlekfmccghjaaW.PrintWords Go.Proofs.YtkmlekfmccghjaaW.PrintLast Go.Proofs.YtkmlekfmccghjaaW.PrintMore
attribute [local go_sem] max2_int min2_int max_two min_two max_three min_three max_four min_four
set_option linter.unusedVariables false
set_option linter.unusedSimpArgs false
def cmpI (a b : Int) : Int := if a < b then -1 else if b < a then 1 else 0
set_option maxRecDepth 100000 in
theorem cmp_isNaN.calls (a : Int) (W : World) : Calls Try.prog 101 #[.int .i64 a] W fun e W' => e = .returned (.bool false) ∧ W' = W := by
  go_enter Try.func101, Try.ntmps101
  go_wp2
  all_goals (go_ret; exact ⟨by simp, rfl⟩)
set_option maxRecDepth 100000 in
theorem cmp_Compare.calls (a b : Int) (W : World) : Calls Try.prog 95 #[.int .i64 a, .int .i64 b] W fun e W' => e = .returned (.int .i64 (cmpI a b)) ∧ W' = W := by
  unfold cmpI
  by_cases h1 : a < b
  case pos =>
    rw [if_pos h1]
    go_enter Try.func95, Try.ntmps95
    go_wp2_with fail
    refine (cmp_isNaN.calls a W).mono ?_
    rintro e w' ⟨rfl, rfl⟩
    go_wp2_with fail
    refine (cmp_isNaN.calls b _).mono ?_
    rintro e w' ⟨rfl, rfl⟩
    go_wp2
    go_ret
    exact ⟨rfl, rfl⟩
  rw [if_neg h1]
  by_cases h2 : b < a
  case neg =>
    rw [if_neg h2]
    go_enter Try.func95, Try.ntmps95
    go_wp2_with fail
    refine (cmp_isNaN.calls a W).mono ?_
    rintro e w' ⟨rfl, rfl⟩
    go_wp2_with fail
    refine (cmp_isNaN.calls b _).mono ?_
    rintro e w' ⟨rfl, rfl⟩
    go_wp2
    go_ret
    exact ⟨rfl, rfl⟩
  rw [if_pos h2]
  go_enter Try.func95, Try.ntmps95
  go_wp2_with fail
  refine (cmp_isNaN.calls a W).mono ?_
  rintro e w' ⟨rfl, rfl⟩
  go_wp2_with fail
  refine (cmp_isNaN.calls b _).mono ?_
  rintro e w' ⟨rfl, rfl⟩
  go_wp2
  go_ret
  exact ⟨rfl, rfl⟩
set_option maxRecDepth 100000 in
theorem cmp_Or.calls (a b : Int) (g : Nat) (W : World) (h0 : W.cell? ⟨g, 0, none⟩ = some (.int .i64 a)) (h1 : W.cell? ⟨g, 1, none⟩ = some (.int .i64 b)) :
    Calls Try.prog 94 #[.slice (some ⟨g, 0, none⟩) 2 2] W fun e W' => e = .returned (.int .i64 (if a ≠ 0 then a else b)) ∧ W' = W := by
  go_enter Try.func94, Try.ntmps94
  go_wp2
  go_loopg [5, 8] 2 (fun gg _ v8 wr => ∃ j : Nat, v8 = .int .i64 (j : Int) ∧ wr = W ∧ Aside0 (j + gg = 2) ∧ Aside0 (0 < j → a = 0) ∧ Aside0 (1 < j → b = 0))
  case atStart => exact ⟨0, rfl, rfl, ⟨rfl⟩, ⟨fun h => by omega⟩, ⟨fun h => by omega⟩⟩
  case round =>
    obtain ⟨j, rfl, rfl, hg, ha, hb⟩ := hrel
    rcases Nat.lt_or_ge j 2 with hj | hj
    · rcases Nat.lt_or_ge j 1 with hj1 | hj1
      · obtain rfl : j = 0 := by omega
        by_cases hz : a = 0
        case neg =>
          have c1 : (a != 0) = true := by simpa using hz
          go_wp2
          go_ret
          exact ⟨rfl, rfl⟩
        subst hz
        go_wp2
        go_roundg 1
        case measure => have := hg.out; omega
        case rel => exact ⟨1, rfl, rfl, ⟨rfl⟩, ⟨by simp⟩, ⟨fun h => by omega⟩⟩
      obtain rfl : j = 1 := by omega
      have hz := ha.out (by omega)
      subst hz
      by_cases hy : b = 0
      case neg =>
        have c1 : (b != 0) = true := by simpa using hy
        go_wp2
        go_ret
        exact ⟨by simp, rfl⟩
      subst hy
      go_wp2
      go_roundg 0
      case measure => have := hg.out; omega
      case rel => exact ⟨2, rfl, rfl, ⟨rfl⟩, ⟨by simp⟩, ⟨by simp⟩⟩
    obtain rfl : j = 2 := by have := hg.out; omega
    have hz := ha.out (by omega)
    have hy := hb.out (by omega)
    subst hz hy
    go_wp2
    go_ret
    exact ⟨by simp, rfl⟩
theorem drewN_drewN (W : World) (m n : Nat) : (W.drewN m).drewN n = W.drewN (m + n) := by
  show ({ W with drawn := W.drawn + m + n } : World) = { W with drawn := W.drawn + (m + n) }
  rw [Nat.add_assoc]
open Go.Sort in
set_option maxRecDepth 100000 in
theorem lit_Clean_1.calls (a b : Int) (W : World) :
    Calls Try.prog 93 #[.int .i64 a, .int .i64 b] W fun e W' => e = .returned (.int .i64 (if cmpI (mx a (wrap64 (-a))) (mx b (wrap64 (-b))) ≠ 0 then cmpI (mx a (wrap64 (-a))) (mx b (wrap64 (-b))) else cmpI a b)) ∧ ∃ q os, W' = grow (W.drewN q) os := by
  have H1 := K0 (lit_variable.calls a (mx a (wrap64 (-a))) W rfl)
  obtain ⟨x, hx⟩ : ∃ x, mx a (wrap64 (-a)) = x := ⟨_, rfl⟩
  obtain ⟨y, hy⟩ : ∃ y, mx b (wrap64 (-b)) = y := ⟨_, rfl⟩
  rw [hx] at H1
  have HY := K0 hy
  rw [hx, hy]
  clear hx hy
  obtain ⟨p, hp⟩ : ∃ p, cmpI x y = p := ⟨_, rfl⟩
  obtain ⟨r, hr⟩ : ∃ r, cmpI a b = r := ⟨_, rfl⟩
  have HP := K0 hp; have HR := K0 hr
  rw [hp, hr]
  obtain ⟨u, hu⟩ : ∃ u, (if p ≠ 0 then p else r) = u := ⟨_, rfl⟩
  have HU := K0 hu
  rw [hu]
  clear hp hr hu
  go_enter Try.func93, Try.ntmps93
  go_wp2_with fail
  refine H1.out.mono ?_
  rintro e w1 ⟨rfl, ⟨⟨n1, rfl⟩⟩⟩
  go_wp2_with fail
  refine (lit_variable.calls b y (W.drewN n1) (by rw [← HY.out]; rfl)).mono ?_
  rintro e w2 ⟨rfl, ⟨⟨n2, rfl⟩⟩⟩
  go_wp2_with fail
  refine (cmp_Compare.calls x y _).mono ?_
  rintro e w3 ⟨rfl, rfl⟩
  rw [HP.out]
  go_wp2_with fail
  refine (cmp_Compare.calls a b _).mono ?_
  rintro e w4 ⟨rfl, rfl⟩
  rw [HR.out]
  go_wp2_with fail
  refine (cmp_Or.calls p r _ _ (by have := blk_cell (blk_new (W.drewN (n1 + n2)) (.cells #[.int .i64 p, .int .i64 r] 3)) 0; exact this) (by have := blk_cell (blk_new (W.drewN (n1 + n2)) (.cells #[.int .i64 p, .int .i64 r] 3)) 1; exact this)).mono ?_
  rintro e w5 ⟨he, rfl⟩
  rw [HU.out] at he
  subst he
  go_wp2
  go_ret
  exact ⟨rfl, n1 + n2, #[.cells #[.int .i64 p, .int .i64 r] 3], by rw [alloc_eq_grow]⟩
def cfL (a b : Int) : Int := if cmpI (mx a (wrap64 (-a))) (mx b (wrap64 (-b))) ≠ 0 then cmpI (mx a (wrap64 (-a))) (mx b (wrap64 (-b))) else cmpI a b
theorem cmpI_lt {a b : Int} : cmpI a b < 0 ↔ a < b := by unfold cmpI; split <;> (try split) <;> omega
theorem cmpI_ne {a b : Int} : cmpI a b ≠ 0 ↔ a ≠ b := by unfold cmpI; split <;> (try split) <;> omega
theorem cfL_lt {a b : Int} : cfL a b < 0 ↔ mx a (wrap64 (-a)) < mx b (wrap64 (-b)) ∨ (mx a (wrap64 (-a)) = mx b (wrap64 (-b)) ∧ a < b) := by
  unfold cfL
  by_cases h : mx a (wrap64 (-a)) = mx b (wrap64 (-b))
  case neg =>
    rw [if_pos (cmpI_ne.2 h), cmpI_lt]; omega
  rw [if_neg (by rw [cmpI_ne]; simpa using h), cmpI_lt]; omega
open Go.Sort Go.Proofs in
theorem cfL_swo : SWO (ltOf cfL) := by
  refine ⟨fun x => ?_, fun x y z h1 h2 => ?_, fun x y z h1 h2 => ?_⟩
  · exact decide_eq_false (by rw [cfL_lt]; omega)
  · have h1 := of_decide_eq_true h1
    have h2 := of_decide_eq_true h2
    exact decide_eq_true (by rw [cfL_lt] at h1 h2 ⊢; omega)
  have h1 := of_decide_eq_false h1
  have h2 := of_decide_eq_false h2
  exact decide_eq_false (by rw [cfL_lt] at h1 h2 ⊢; omega)
open Go.Sort Go.Lib Go.Proofs in
set_option maxRecDepth 100000 in
theorem slices_SortFunc_lits.calls (xs : List Int) (g n cap base : Nat) (ok : Nat → Prop) (W : World) (h : Kd.R (Kd.int .i64) 3 W base ok (.slice (some ⟨g, 0, none⟩) n cap) xs) (hlen : xs.length < 4611686018427387904) :
    Calls Try.prog 92 #[.slice (some ⟨g, 0, none⟩) n cap, .func (.func 93) #[] #[]] W fun e W' => e = .returned (.tuple #[]) ∧ Kd.R (Kd.int .i64) 3 W' base ok (.slice (some ⟨g, 0, none⟩) n cap) (xs.mergeSort fun x y => !(ltOf cfL) y x) ∧
      (∃ W1, (∃ q, W1 = W.drewN q) ∧ ∃ W2, W1.grownBy W2 (some g) ∧ Below W2.heap.size W2 W') := by
  obtain ⟨hn, hnc, hC⟩ := Kd.R_reads' h
  have hbig := hC.2.1
  have hblk : g < W.heap.size := by
    obtain ⟨inner, ho⟩ := Kd.R_own h
    exact own_lt ho g rfl
  have key := Try.slices_SortFunc_total (Value.int .i64) (fun _ => rfl) cfL cfL_swo 93 #[] g 0 cap xs.toArray W (enters_of Try.func93 (by kernel_rfl) rfl)
    (fun m os dk hs x y => calls_of_args (args := #[.int .i64 x, .int .i64 y]) rfl (lit_Clean_1.calls x y _)) (R_holds h) hblk (by simp; omega) (fun x y h1 h2 => by
      have h1 := of_decide_eq_false h1
      have h2 := of_decide_eq_false h2
      rw [cfL_lt] at h1 h2
      omega)
  have hsz : xs.toArray.size = n := by simp [hn]
  rw [hsz] at key
  refine key.mono ?_
  rintro e W' ⟨rfl, q, os, rfl⟩
  obtain ⟨hR, hg⟩ := R_rowPut (xs.mergeSort fun x y => !(ltOf cfL) y x) (by rw [List.length_mergeSort]) q h
  obtain ⟨hR2, hb2⟩ := R_grow os hR
  exact ⟨rfl, hR2, _, ⟨q, rfl⟩, _, hg, hb2⟩
open Go.Sort Go.Lib Go.Proofs in
theorem slices_Compact_R.calls (xs : List Int) (g n cap base : Nat) (ok : Nat → Prop) (W : World) (h : Kd.R (Kd.int .i64) 3 W base ok (.slice (some ⟨g, 0, none⟩) n cap) xs) (hle : (Lib.compact xs).length ≤ xs.length) :
    Calls Try.prog 96 #[.slice (some ⟨g, 0, none⟩) n cap] W fun e W' => e = .returned (.slice (some ⟨g, 0, none⟩) (Lib.compact xs).length cap) ∧ Kd.R (Kd.int .i64) 3 W' base ok (.slice (some ⟨g, 0, none⟩) (Lib.compact xs).length cap) (Lib.compact xs) ∧
      ∃ q, (W.drewN q).grownBy W' (some g) := by
  obtain ⟨hn, hnc, hC⟩ := Kd.R_reads' h
  have hbig := hC.2.1
  have key := Try.slices_Compact_int g 0 cap xs W (R_holds h) (by omega) (by omega)
  rw [← hn] at key
  refine key.mono ?_
  rintro e W' ⟨rfl, q, rfl⟩
  obtain ⟨hR, hg⟩ := R_rowPut (Lib.compact xs ++ List.replicate (n - (Lib.compact xs).length) 0) (by simp; omega) q h
  have hT := Kd.R_take hR (m := (Lib.compact xs).length) (by simp)
  rw [List.take_left'  rfl] at hT
  exact ⟨rfl, hT, q, hg⟩
def adjB : List Int → Bool
  | x :: y :: t => (y == wrap64 (-x)) || adjB (y :: t)
  | _ => false
def lit_Clean.out (c : List Int) : List Int := Lib.compact ((c.filter fun l => (lit_is.f l).getD false).mergeSort fun x y => !(Go.Proofs.ltOf cfL) y x)
def lit_Clean.f (l0 : List Int) : Option (List Int × Bool) := if l0.length < 17592186044416 ∧ (lit_Clean.out l0).length ≤ l0.length then some (lit_Clean.out l0, !adjB (lit_Clean.out l0)) else none
set_option maxRecDepth 100000 in
set_option maxHeartbeats 4000000 in
theorem lit_Clean.calls (A0 : Option Addr) (c0 : Nat) (l0 : List Int) (r1 : List Int) (r2 : Bool) (w : World) (hr0 : Kd.C (Kd.int .i64) w A0 l0.length l0) (hc0 : l0.length ≤ c0) (h : lit_Clean.f l0 = some (r1, r2)) :
    Calls Try.prog 74 #[.slice A0 l0.length c0] w fun e w' => ∃ v0_ : Value, e = .returned (.tuple #[v0_, .bool r2]) ∧ Kd.R (Kd.int .i64) 3 w' w.heap.size (fun _ => True) v0_ r1 ∧ Below w.heap.size w w' := by
  unfold lit_Clean.f at h
  by_cases hlen0 : ¬ (l0.length < 17592186044416 ∧ (lit_Clean.out l0).length ≤ l0.length)
  · rw [if_neg hlen0] at h; cases h
  obtain ⟨hlen, hle⟩ := Decidable.not_not.1 hlen0
  rw [if_pos ⟨hlen, hle⟩] at h
  simp only [Option.some.injEq, Prod.mk.injEq] at h
  obtain ⟨rfl, rfl⟩ := h
  have HR := K0 hr0
  obtain ⟨p, hp⟩ : ∃ p : Int → Bool, p = fun l => (lit_is.f l).getD false := ⟨_, rfl⟩
  have his : ∀ a, lit_is.f a = some (p a) := fun a => by
    rw [hp]
    unfold lit_is.f
    dsimp only
    split <;> rfl
  have HIS := K0 his; have HLN := K0 hlen; have HLE := K0 hle
  have HO := K0 (show lit_Clean.out l0 = Lib.compact ((l0.filter p).mergeSort fun x y => !(Go.Proofs.ltOf cfL) y x) from by rw [hp]; rfl)
  clear hr0 hlen0 hlen hle hp his
  go_enter Try.func74, Try.ntmps74
  go_wp2
  go_loopg [4, 6, 10] l0.length (fun gg v4 _ v10 wr => ∃ i : Nat, v10 = .int .i64 (i : Int) ∧ Aside0 (i + gg = l0.length) ∧ Aside0 (Kd.R (Kd.int .i64) 3 wr w.heap.size (fun _ => True) v4 ((l0.take i).filter p)) ∧ Aside0 (Below w.heap.size w wr))
  case atStart => exact ⟨0, rfl, ⟨by simp⟩, ⟨Kd.R_nil _ _ _ _ _⟩, ⟨Below.refl _ _⟩⟩
  case round =>
    obtain ⟨i, rfl, hg, hR, hB⟩ := hrel
    obtain ⟨A4, c4, rfl⟩ := Kd.R_slice hR.out
    by_cases hlt : i < l0.length
    case pos =>
      obtain ⟨ad, e1, x1⟩ := Kd.at_int (Kd.C_below HR.out hB.out) (i : Int) (by omega) (by omega)
      cases e1
      obtain ⟨y, hy⟩ : ∃ y, l0[i] = y := ⟨_, rfl⟩
      have hrd : rd l0 (i : Int) = y := by simp [rd, hlt, hy]
      rw [hrd] at x1
      simp only [Int.toNat_natCast] at x1
      have htk : (l0.take (i + 1)).filter p = (l0.take i).filter p ++ if p y = true then [y] else [] := by
        rw [List.take_add_one, List.getElem?_eq_getElem hlt, hy, List.filter_append]
        cases hpy : p y <;> simp [hpy]
      have HT := K0 htk
      have hfl : ((l0.take i).filter p).length ≤ i := Nat.le_trans (List.length_filter_le _ _) (by simp; omega)
      have P0 : ((0 : Int) ≤ (i : Int)) = True := eq_true (by omega)
      have P1 : ((i : Int) < (l0.length : Int)) = True := eq_true (by omega)
      have P2 : (i < l0.length) = True := eq_true hlt
      have hd : decide ((i : Int) < (l0.length : Int)) = true := decide_eq_true (by omega)
      have hln := HLN.out
      clear hrd htk hy
      cases hq : p y with
      | true =>
        have hcall := K0 (lit_is.calls y true wr (by rw [HIS.out, hq]))
        have hz := HT.out
        rw [if_pos hq] at hz
        have HZ := K0 hz; clear hz HT hq
        go_wp2_with fail
        refine hcall.out.mono ?_
        rintro e' w1 ⟨rfl, ⟨⟨n1, rfl⟩⟩⟩
        have hR1 := K0 (Kd.R_drewN hR.out n1)
        have hB1 := K0 (pw_below_drewN hB.out n1)
        go_wp2_with (at_builtin; refine Kd.R_append (Kd.int .i64) (w0 := w) w.heap.size rfl (.tmp 16) (.tmp 18) 37 3 (.int .i64 0) 8 rfl Try.underlying37 (by kernel_rfl) rfl (by decide) (by decide) _ ((l0.take i).filter p) y [.int .i64 y] (fun _ => True) (fun _ => False) rfl rfl rfl (fun _ h => h.elim) (fun _ _ => trivial) hR1.out hB1.out hB1.out.size (by omega) ?_; intro v1 w3 r1 hb3 hg3 hat3)
        go_roundg (l0.length - (i + 1))
        case measure => have := hg.out; omega
        case rel => exact ⟨i + 1, by simp, ⟨by have := hg.out; omega⟩, ⟨by rw [HZ.out]; exact r1⟩, ⟨hb3⟩⟩
      | false =>
        have hcall := K0 (lit_is.calls y false wr (by rw [HIS.out, hq]))
        have hz := HT.out
        rw [if_neg (by rw [hq]; decide), List.append_nil] at hz
        have HZ := K0 hz; clear hz HT hq
        go_wp2_with fail
        refine hcall.out.mono ?_
        rintro e' w1 ⟨rfl, ⟨⟨n1, rfl⟩⟩⟩
        go_wp2
        go_roundg (l0.length - (i + 1))
        case measure => have := hg.out; omega
        case rel => exact ⟨i + 1, by simp, ⟨by have := hg.out; omega⟩, ⟨by rw [HZ.out]; exact Kd.R_drewN hR.out n1⟩, ⟨pw_below_drewN hB.out n1⟩⟩
    have hd : decide ((i : Int) < (l0.length : Int)) = false := decide_eq_false (by omega)
    have P2 : (i < l0.length) = False := eq_false hlt
    have htake : (l0.take i).filter p = l0.filter p := by rw [List.take_of_length_le (by omega)]
    have hRf := hR.out
    rw [htake] at hRf ⊢
    obtain ⟨fl, hfl⟩ : ∃ fl, l0.filter p = fl := ⟨_, rfl⟩
    have hflen : fl.length ≤ l0.length := by rw [← hfl]; exact List.length_filter_le _ _
    have hout := HO.out
    rw [hfl] at hRf hout ⊢
    have HRF := K0 hRf; have HOUT := K0 hout
    have HB := hB
    have hln := HLN.out
    clear hRf hR htake hfl hout hB HO hg HIS
    have fin : ∀ (v : Value) (W : World), Kd.R (Kd.int .i64) 3 W w.heap.size (fun _ => True) v (lit_Clean.out l0) → True := fun _ _ _ => trivial
    by_cases hz : fl.length = 0
    case pos =>
      have hnil : fl = [] := List.length_eq_zero_iff.1 hz
      subst hnil
      have hce : Lib.compact (([] : List Int).mergeSort fun x y => !(Go.Proofs.ltOf cfL) y x) = [] := List.length_eq_zero_iff.1 (Nat.le_zero.1 (Nat.le_trans (Lib.compact_length_le _) (by simp)))
      have HO2 := K0 (HOUT.out.trans hce)
      clear HOUT hce HLE hz
      go_wp2_with fail
      refine (Try.slices_SortFunc_none (α := Int) A4 c4 _ wr).mono ?_
      rintro e' w1 ⟨rfl, rfl⟩
      go_wp2_with fail
      refine (Try.slices_Compact_int_empty A4 c4 _).mono ?_
      rintro e' w2 ⟨rfl, rfl⟩
      go_wp2
      go_loopg [7] 0 (fun gg v7 wr2 => v7 = .int .i64 1 ∧ wr2 = w2)
      case atStart => exact ⟨rfl, rfl⟩
      case round =>
        obtain ⟨rfl, rfl⟩ := hrel
        go_wp2
        go_ret2
        rw [HO2.out]
        exact ⟨_, rfl, HRF.out, HB.out⟩
    obtain ⟨inner, ho⟩ := Kd.R_own HRF.out
    obtain ⟨g, rfl⟩ : ∃ g, A4 = some ⟨g, 0, none⟩ := by
      rcases ho.2 with ⟨e1, e2⟩ | ⟨g, cap, cur, e1, _⟩
      · omega
      · injection e1 with e1 _ _; exact ⟨g, e1⟩
    have hgb : w.heap.size ≤ g := own_base ho g rfl
    clear ho
    have hle : (Lib.compact (fl.mergeSort fun x y => !(Go.Proofs.ltOf cfL) y x)).length ≤ (fl.mergeSort fun x y => !(Go.Proofs.ltOf cfL) y x).length := Lib.compact_length_le _
    have HLE2 := K0 hle; clear hle
    go_wp2_with fail
    refine (slices_SortFunc_lits.calls fl g fl.length c4 w.heap.size (fun _ => True) wr HRF.out (by omega)).mono ?_
    rintro e' w1 ⟨rfl, hR1, W1, ⟨q1, rfl⟩, W2, hg1, hb1⟩
    have HR1 := K0 hR1
    have hB2 : Below w.heap.size w W2 := (pw_below_drewN HB.out q1).grown hg1 (pw_below_drewN HB.out q1).size (fun k e => by cases e; exact hgb)
    have HB1 := K0 (hB2.trans (hb1.mono hB2.size))
    clear hR1 hB2 hg1 hb1
    go_wp2_with fail
    refine (slices_Compact_R.calls _ g fl.length c4 w.heap.size (fun _ => True) w1 HR1.out HLE2.out).mono ?_
    rintro e' w2 ⟨rfl, hR2, q2, hg2⟩
    rw [← HOUT.out] at hR2
    try rw [← HOUT.out]
    have HR2 := K0 hR2
    have HB2 := K0 ((pw_below_drewN HB1.out q2).grown hg2 (pw_below_drewN HB1.out q2).size (fun k e => by cases e; exact hgb))
    clear hR2 hg2 HR1 HRF HB1
    obtain ⟨out, hout⟩ : ∃ out, lit_Clean.out l0 = out := ⟨_, rfl⟩
    rw [hout] at HR2 HLE ⊢
    have HO2 := K0 hout; clear hout HOUT HLE2
    have hol := HLE.out
    go_wp2
    go_loopg [7] out.length (fun gg v7 wr => ∃ j : Nat, v7 = .int .i64 (j : Int) ∧ 1 ≤ j ∧ Aside0 (out.length ≤ j + gg) ∧ Aside0 (Kd.R (Kd.int .i64) 3 wr w.heap.size (fun _ => True) (.slice (some ⟨g, 0, none⟩) out.length c4) out) ∧ Aside0 (Below w.heap.size w wr) ∧ Aside0 (adjB (out.drop (j - 1)) = adjB out))
    case atStart => exact ⟨1, rfl, Nat.le_refl _, ⟨by omega⟩, HR2, HB2, ⟨rfl⟩⟩
    case round =>
      clear HR2 HB2 HB
      obtain ⟨j, rfl, hj1, hg, hR, hB, hA⟩ := hrel
      by_cases hjt : j < out.length
      case neg =>
        have hd : decide ((j : Int) < (out.length : Int)) = false := decide_eq_false (by omega)
        have P2 : (j < out.length) = False := eq_false hjt
        have hz : adjB out = false := by
          rw [← hA.out]
          have hl : (out.drop (j - 1)).length ≤ 1 := by rw [List.length_drop]; omega
          match out.drop (j - 1), hl with
          | [], _ => rfl
          | [_], _ => rfl
          | _ :: _ :: _, hl => exact absurd hl (by simp)
        have HZ := K0 hz; clear hz
        go_wp2
        go_ret2
        rw [HO2.out, HZ.out]
        exact ⟨_, rfl, hR.out, hB.out⟩
      obtain ⟨y, hy⟩ : ∃ y, out[j] = y := ⟨_, rfl⟩
      obtain ⟨x, hx⟩ : ∃ x, out[j - 1] = x := ⟨_, rfl⟩
      obtain ⟨c1, _⟩ := Kd.R_celln (0 : Int) hR.out (j : Int) (by omega) (by omega)
      obtain ⟨c2, _⟩ := Kd.R_celln (0 : Int) hR.out ((j : Int) - 1) (by omega) (by omega)
      have ej : rdOf 0 out (j : Int) = y := by simp [rdOf, hjt, hy]
      have ex : rdOf 0 out ((j : Int) - 1) = x := by rw [show (j : Int) - 1 = ((j - 1 : Nat) : Int) by omega]; simp [rdOf, show j - 1 < out.length by omega, hx]
      rw [ej] at c1
      rw [ex] at c2
      simp only [Int.toNat_natCast] at c1
      rw [show ((j : Int) - 1).toNat = j - 1 by omega] at c2
      have hA2 := hA.out
      rw [List.drop_eq_getElem_cons (show j - 1 < out.length by omega), hx, show j - 1 + 1 = j by omega, List.drop_eq_getElem_cons hjt, hy, adjB] at hA2
      have HA2 := K0 hA2
      have HY := K0 (show out.drop j = y :: out.drop (j + 1) by rw [List.drop_eq_getElem_cons hjt, hy])
      have P0 : ((0 : Int) ≤ (j : Int)) = True := eq_true (by omega)
      have P1 : ((j : Int) < (out.length : Int)) = True := eq_true (by omega)
      have P2 : (j < out.length) = True := eq_true hjt
      have P3 : ((1 : Int) ≤ (j : Int)) = True := eq_true (by omega)
      have P4 : ((j : Int) - 1 < (out.length : Int)) = True := eq_true (by omega)
      have hd : decide ((j : Int) < (out.length : Int)) = true := decide_eq_true (by omega)
      have P5 : IntKind.i64.wrap ((j : Int) - 1) = (j : Int) - 1 := Go.IntWalk.i64_in _ (by omega)
      have P6 : IntKind.i64.wrap (-x) = wrap64 (-x) := Go.IntWalk.i64_left _
      have mixed : Try.prog.follows .mixedOrders = true := by kernel_rfl
      clear hA hA2 ej ex hx hy
      go_wp2_with fail
      go_cut [41] (fun v41 wc => v41 = .bool (y == wrap64 (-x)) ∧ wc = wr.drew)
      case first =>
        go_region_law_o (fail)
        all_goals (go_wp2_with fail; go_meet; exact ⟨rfl, rfl⟩)
      case rest =>
      obtain ⟨rfl, rfl⟩ := hcut
      have HRd := K0 (Kd.R_drew hR.out)
      have HBd := K0 (below_drew hB.out)
      cases hq : (y == wrap64 (-x)) with
      | true =>
        have hz := HA2.out
        rw [hq, Bool.true_or] at hz
        have HZ := K0 hz; clear hz
        go_wp2
        go_ret2
        rw [HO2.out, ← HZ.out]
        exact ⟨_, rfl, HRd.out, HBd.out⟩
      | false =>
        have hz := HA2.out
        rw [hq, Bool.false_or] at hz
        have HZ := K0 hz; clear hz
        go_wp2
        go_roundg (out.length - j - 1)
        case measure => have := hg.out; omega
        case rel => exact ⟨j + 1, by simp, by omega, ⟨by omega⟩, HRd, HBd, ⟨by rw [show j + 1 - 1 = j by omega, HY.out]; exact HZ.out⟩⟩
def NumP (L : List (List Int)) (n : Int) (r : List Int) (ok : Bool) : Prop := (ok = false ∧ r = [] ∧ (n < 0 ∨ (L.length : Int) ≤ n)) ∨ (ok = true ∧ 0 ≤ n ∧ n < (L.length : Int) ∧ ∃ b, lit_Clean.f (L.getD n.toNat []) = some (r, b))
set_option maxRecDepth 100000 in
set_option maxHeartbeats 4000000 in
theorem learn_number.calls (wb : World) (gX bP B : Nat) (N : Int) (A0 : Option Addr) (c0 : Nat) (L : List (List Int)) (pl : Int → Option Int) (Q : Nat → Prop) (vC vF : Value) (cl fr : List Int) (n : Int) (r : List Int) (ok : Bool) (w : World)
    (h : ResIn wb w gX bP B N A0 c0 L pl Q vC vF cl fr) (hL : Kd.C (Kd.slice 3 (Kd.int .i64)) wb A0 L.length L) (hn : NumP L n r ok) :
    Calls Try.prog 80 #[.pointer (some ⟨gX, 0, none⟩), .int .i64 n] w fun e w' => ∃ v, e = .returned (.tuple #[v, .bool ok]) ∧ Kd.R (Kd.int .i64) 3 w' w.heap.size (fun _ => True) v r ∧ Below w.heap.size w w' := by
  obtain ⟨p0, p1, p2, p3, p4, p5⟩ := h.cells
  have HB := K0 h.b
  have HL := K0 hL
  have hbig := hL.2.1
  have huR := Try.underlying91
  have huC := Try.underlying24
  clear h hL
  rcases hn with ⟨rfl, rfl, hn⟩ | ⟨rfl, h0, h1, b, hc⟩
  · rcases hn with hn | hn
    · have d : decide (n < 0) = true := decide_eq_true hn
      clear hn
      go_enter Try.func80, Try.ntmps80
      go_wp2
      go_ret2
      exact ⟨_, rfl, Kd.R_nil _ _ _ _ _, Below.refl _ _⟩
    · obtain ⟨q, rfl⟩ : ∃ q : Nat, n = (q : Int) := ⟨n.toNat, by omega⟩
      have d : decide ((q : Int) < 0) = false := decide_eq_false (by omega)
      have d2 : decide ((L.length : Int) ≤ (q : Int)) = true := decide_eq_true hn
      have d3 : decide (L.length ≤ q) = true := decide_eq_true (by omega)
      have d4 : (L.length ≤ q) = True := eq_true (by omega)
      clear hn
      go_enter Try.func80, Try.ntmps80
      go_wp2
      go_ret2
      exact ⟨_, rfl, Kd.R_nil _ _ _ _ _, Below.refl _ _⟩
  · obtain ⟨q, rfl⟩ : ∃ q : Nat, n = (q : Int) := ⟨n.toNat, by omega⟩
    have hql : q < L.length := by omega
    obtain ⟨ad, A2, c2, e2, x2, hl2, hC2⟩ := at_L3 (Kd.C_below HL.out HB.out) (q : Int) (by omega) (by omega)
    cases e2
    simp only [Int.toNat_natCast] at x2 hc
    obtain ⟨c, hcc⟩ : ∃ c, L.getD q [] = c := ⟨_, rfl⟩
    have hrd : rd_L3 L (q : Int) = c := by rw [← hcc]; simp [rd_L3]
    rw [hrd] at x2 hl2 hC2
    rw [hcc] at hc
    have HCL := K0 (lit_Clean.calls A2 c2 c r b w hC2 hl2 hc)
    have d : decide ((q : Int) < 0) = false := decide_eq_false (by omega)
    have d2 : decide ((L.length : Int) ≤ (q : Int)) = false := decide_eq_false (by omega)
    have d3 : decide (L.length ≤ q) = false := decide_eq_false (by omega)
    have d4 : (L.length ≤ q) = False := eq_false (by omega)
    have Q0 : ((0 : Int) ≤ (q : Int)) = True := eq_true (by omega)
    have Q1 : ((q : Int) < (L.length : Int)) = True := eq_true (by omega)
    have Q2 : (q < L.length) = True := eq_true hql
    clear hrd hcc hc h0 h1 hC2
    go_enter Try.func80, Try.ntmps80
    go_wp2_with fail
    refine HCL.out.mono ?_
    rintro e' w3 ⟨v3, rfl, r3, hb3⟩
    obtain ⟨A3, k3, e3⟩ := Kd.R_slice r3
    subst e3
    have HR3 := K0 r3
    have HB3 := K0 hb3
    clear r3 hb3 HCL p0 p1 p2 p3 p4 p5 x2
    go_wp2
    go_ret2
    exact ⟨_, rfl, HR3.out, HB3.out⟩
mutual
def lit_Resolve.j0 : Nat → List Int → List Int → Int → Bool → Option (List Int × Int)
  | 0, _, _, _, _ => none
  | k + 1, x0, x1, x2, x25 => if x25 = true then (some (([] : List Int), 1)) else (lit_Resolve.l0 k x1 x2 ([] : List Int) x0 (x0.length : Int) 0)
def lit_Resolve.l0 : Nat → List Int → Int → List Int → List Int → Int → Int → Option (List Int × Int)
  | 0, _, _, _, _, _, _ => none
  | k + 1, x1, x2, x8, x26, x27, x28 => if x28 < x27 then (if 0 ≤ x28 then (if x28 < (x26.length : Int) then (if (rd x26 x28) = x2 then (lit_Resolve.l0 k x1 x2 x8 x26 x27 (wrap64 (x28 + 1))) else (if x8.length < 17592186044416 then (lit_Resolve.l0 k x1 x2 (x8 ++ [rd x26 x28]) x26 x27 (wrap64 (x28 + 1))) else (none))) else (none)) else (none)) else (lit_Resolve.l1 k x2 x8 x1 (x1.length : Int) 0)
def lit_Resolve.l1 : Nat → Int → List Int → List Int → Int → Int → Option (List Int × Int)
  | 0, _, _, _, _, _ => none
  | k + 1, x2, x8, x40, x41, x42 => if x42 < x41 then (if 0 ≤ x42 then (if x42 < (x40.length : Int) then (if (rd x40 x42) = (wrap64 (-x2)) then (lit_Resolve.l1 k x2 x8 x40 x41 (wrap64 (x42 + 1))) else (if x8.length < 17592186044416 then (lit_Resolve.l1 k x2 (x8 ++ [rd x40 x42]) x40 x41 (wrap64 (x42 + 1))) else (none))) else (none)) else (none)) else ((lit_Clean.f x8).bind fun bt318 => (if bt318.2 = true then (some (bt318.1, 0)) else (some (([] : List Int), 4))))
end
def lit_Resolve.f (k : Nat) (l0 : List Int) (l1 : List Int) (a2 : Int) : Option (List Int × Int) := (lit_Has.f k l0 a2).bind fun t308 => (if t308 = true then ((lit_Has.f k l1 (wrap64 (-a2))).bind fun t309 => (lit_Resolve.j0 k l0 l1 a2 (!t309))) else (lit_Resolve.j0 k l0 l1 a2 true))
set_option maxHeartbeats 8000000 in
set_option maxRecDepth 100000 in
theorem lit_Resolve.calls (k : Nat) (A0 : Option Addr) (c0 : Nat) (l0 : List Int) (A1 : Option Addr) (c1 : Nat) (l1 : List Int) (a2 : Int) (r1 : List Int) (r2 : Int) (w : World) (hr0 : Kd.C (Kd.int .i64) w A0 l0.length l0) (hc0 : l0.length ≤ c0) (hr1 : Kd.C (Kd.int .i64) w A1 l1.length l1) (hc1 : l1.length ≤ c1) (h : lit_Resolve.f k l0 l1 a2 = some (r1, r2)) :
    Calls Try.prog 97 #[.slice A0 l0.length c0, .slice A1 l1.length c1, .int .i64 a2] w fun e w' => ∃ v0_ : Value, e = .returned (.tuple #[v0_, .int .i64 r2]) ∧ Kd.R (Kd.int .i64) 3 w' w.heap.size (fun _ => True) v0_ r1 ∧ Below w.heap.size w w' := by
  have HR0 := K0 hr0; have HC0 := K0 hc0; clear hr0 hc0; have HR1 := K0 hr1; have HC1 := K0 hc1; clear hr1 hc1
  have HB := K0 (Below.refl w.heap.size w)
  have H : ((lit_Has.f k l0 a2).bind fun t308 => (if t308 = true then ((lit_Has.f k l1 (wrap64 (-a2))).bind fun t309 => (lit_Resolve.j0 k l0 l1 a2 (!t309))) else (lit_Resolve.j0 k l0 l1 a2 true))) = some (r1, r2) := h
  clear h; have HC4 := K0 H; clear H
  go_enter Try.func97, Try.ntmps97
  go_upto_region 1 with (fail)
  go_cut [25] (fun v25 wc => ∃ (kq : Nat) (x25_3 : Bool), v25 = .bool x25_3 ∧ Aside0 (lit_Resolve.j0 kq l0 l1 a2 x25_3 = some (r1, r2)) ∧ Aside0 (kq ≤ k) ∧ Aside0 (Below w.heap.size w wc))
  case first =>
    have H := HC4.out
    clear HC4
    replace H := Option.bind_eq_some_iff.mp H
    obtain ⟨t308, A50, H⟩ := H
    replace H : (if t308 = true then ((lit_Has.f k l1 (wrap64 (-a2))).bind fun t309 => (lit_Resolve.j0 k l0 l1 a2 (!t309))) else (lit_Resolve.j0 k l0 l1 a2 true)) = some (r1, r2) := H
    have A5 := K0 A50; clear A50
    by_cases c6 : t308 = true
    case neg =>
      replace c6 := Bool.eq_false_iff.mpr c6
      subst c6
      have H1 : (lit_Resolve.j0 k l0 l1 a2 true) = some (r1, r2) := by rw [if_neg (show ¬ (false = true) by decide)] at H; exact H
      clear H
      have H := H1
      clear H1
      as_aux_lemma =>
        have H' := K0 H
        clear H
        go_wp2_with (first | ((with_reducible refine gate_callee (f := 102) rfl ?_); refine goesL_ (some 17) rfl rfl Try.func102 (by kernel_rfl) rfl #[.slice A0 l0.length c0, .int .i64 a2] rfl (by (try simp only [List.map_toArray, List.map_cons, List.map_nil]); first | done | rfl | (simp only [List.length_drop, List.length_take]; rfl)) ?_; (with_reducible refine (lit_Has.calls k _ _ l0 a2 false _ ?side1 ?side2 A5.out).mono ?_); (case side1 => repeat (first | exact (Kd.C_below HR0.out HB.out) | (with_reducible refine Kd.C_alloc ?_ _) | (with_reducible refine Kd.C_drewN ?_ _) | (with_reducible refine Kd.C_drew ?_))); (case side2 => exact HC0.out); rintro e w' ⟨rfl, ⟨nd, rfl⟩⟩; refine ⟨_, rfl, ?_⟩))
        go_meet
        case rel => exact ⟨_, (true), (by first | rfl | (simp; done) | (simp [*]; done)), H', ⟨by first | omega | exact Nat.le_refl _⟩, ⟨by repeat (first | (with_reducible first | exact HB.out | apply below_alloc | apply pw_below_drewN | apply below_drew1) | exact HB.out)⟩⟩
    subst c6
    have H1 : ((lit_Has.f k l1 (wrap64 (-a2))).bind fun t309 => (lit_Resolve.j0 k l0 l1 a2 (!t309))) = some (r1, r2) := by rw [if_pos rfl] at H; exact H
    clear H
    have H := H1
    clear H1
    replace H := Option.bind_eq_some_iff.mp H
    obtain ⟨t309, A70, H⟩ := H
    replace H : (lit_Resolve.j0 k l0 l1 a2 (!t309)) = some (r1, r2) := H
    have A7 := K0 A70; clear A70
    as_aux_lemma =>
      have H' := K0 H
      clear H
      go_wp2_with (first | ((with_reducible refine gate_callee (f := 102) rfl ?_); refine goesL_ (some 17) rfl rfl Try.func102 (by kernel_rfl) rfl #[.slice A0 l0.length c0, .int .i64 a2] rfl (by (try simp only [List.map_toArray, List.map_cons, List.map_nil]); first | done | rfl | (simp only [List.length_drop, List.length_take]; rfl)) ?_; (with_reducible refine (lit_Has.calls k _ _ l0 a2 true _ ?side1 ?side2 A5.out).mono ?_); (case side1 => repeat (first | exact (Kd.C_below HR0.out HB.out) | (with_reducible refine Kd.C_alloc ?_ _) | (with_reducible refine Kd.C_drewN ?_ _) | (with_reducible refine Kd.C_drew ?_))); (case side2 => exact HC0.out); rintro e w' ⟨rfl, ⟨nd, rfl⟩⟩; refine ⟨_, rfl, ?_⟩) | (go_at_call 102; (with_reducible refine (lit_Has.calls k _ _ l1 (wrap64 (-a2)) t309 _ ?side1 ?side2 A7.out).mono ?_); (case side1 => repeat (first | exact (Kd.C_below HR1.out (by repeat (first | (with_reducible first | exact HB.out | apply below_alloc | apply pw_below_drewN | apply below_drew1) | exact HB.out))) | (with_reducible refine Kd.C_alloc ?_ _) | (with_reducible refine Kd.C_drewN ?_ _) | (with_reducible refine Kd.C_drew ?_))); (case side2 => exact HC1.out); rintro e w' ⟨rfl, ⟨nd, rfl⟩⟩))
      go_meet
      case rel => exact ⟨_, (!t309), (by first | rfl | (simp; done) | (simp [*]; done)), H', ⟨by first | omega | exact Nat.le_refl _⟩, ⟨by repeat (first | (with_reducible first | exact HB.out | apply below_alloc | apply pw_below_drewN | apply below_drew1) | exact HB.out)⟩⟩
  case rest =>
    clear HC4; try clear c1; try clear p2; try clear c6; try clear p6
    obtain ⟨kq, x25_3, rfl, HA, HJ3, HB⟩ := hcut
    cases kq with
    | zero => exact absurd HA.out (by simp [lit_Resolve.j0])
    | succ kj3 =>
      have H := HA.out
      clear HA
      simp only [lit_Resolve.j0] at H
      by_cases c8 : x25_3 = true
      case pos =>
        subst c8
        have H1 : (some (([] : List Int), 1)) = some (r1, r2) := by rw [if_pos rfl] at H; exact H
        clear H
        have H := H1
        clear H1
        as_aux_lemma =>
          simp only [Option.some.injEq, Prod.mk.injEq] at H
          obtain ⟨rfl, rfl⟩ := H
          go_wp2
          go_ret2
          exact ⟨_, by first | rfl | (simp [errW_none, errW_some] <;> rfl) | (simp [*, errW_none, errW_some] <;> rfl), by first | exact Kd.R_nil _ _ _ _ _ | exact Kd.N_nil _ _ _ _ _ | exact Kd.V_nil _ _ _ _ _ | exact Kd.Q_nil _ _ _ _ _ | exact Kd.S_nil _ _ _ _ _, by repeat (first | (with_reducible first | exact HB.out | apply below_alloc | apply pw_below_drewN | apply below_drew1) | exact HB.out)⟩
      replace c8 := Bool.eq_false_iff.mpr c8
      subst c8
      have H1 : (lit_Resolve.l0 kj3 l1 a2 ([] : List Int) l0 (l0.length : Int) 0) = some (r1, r2) := by rw [if_neg (show ¬ (false = true) by decide)] at H; exact H
      clear H
      have H := H1
      clear H1
      have H' := K0 H
      clear H
      go_wp2
      go_loopg [8, 28] kj3 (fun kq v8 v28 w' => ∃ (x8_2 : List Int) (x28_2 : Int), v28 = .int .i64 x28_2 ∧ Aside0 (lit_Resolve.l0 kq l1 a2 x8_2 l0 (l0.length : Int) x28_2 = some (r1, r2)) ∧ Aside0 (kq ≤ kj3) ∧ Aside0 (Kd.R (Kd.int .i64) 3 w' w.heap.size (fun _ => True) v8 x8_2) ∧ Aside0 (Below w.heap.size w w'))
      case atStart => exact ⟨(([] : List Int)), (0), (by first | rfl | (simp; done) | (simp [*]; done)), H', ⟨Nat.le_refl _⟩, ⟨by first | exact Kd.R_nil _ _ _ _ _ | exact Kd.N_nil _ _ _ _ _ | exact Kd.V_nil _ _ _ _ _ | exact Kd.Q_nil _ _ _ _ _ | exact Kd.S_nil _ _ _ _ _⟩, ⟨by repeat (first | (with_reducible first | exact HB.out | apply below_alloc | apply pw_below_drewN | apply below_drew1) | exact HB.out)⟩⟩
      case round =>
        clear H'; try clear c1; try clear p2; try clear c6; try clear p6; try clear c8; try clear p2; try clear p6
        obtain ⟨x8_2, x28_2, rfl, HA, HK2, HO_8, HB⟩ := hrel
        cases gk with
        | zero => exact absurd HA.out (by simp [lit_Resolve.l0])
        | succ k2 =>
          have H := HA.out
          clear HA
          simp only [lit_Resolve.l0] at H
          by_cases c9 : x28_2 < (l0.length : Int)
          case pos =>
            rw [if_pos c9] at H
            have c9b0 : decide (x28_2 < (l0.length : Int)) = true := decide_eq_true c9
            clear c9
            by_cases c10 : 0 ≤ x28_2
            case neg =>
              rw [if_neg c10] at H
              exact absurd H (by simp)
            rw [if_pos c10] at H
            have c10b0 : decide (0 ≤ x28_2) = true := decide_eq_true c10
            clear c10
            by_cases c11 : x28_2 < (l0.length : Int)
            case neg =>
              rw [if_neg c11] at H
              exact absurd H (by simp)
            rw [if_pos c11] at H
            have c11b0 : decide (x28_2 < (l0.length : Int)) = true := decide_eq_true c11
            clear c11
            by_cases c12 : (rd l0 x28_2) = a2
            case pos =>
              rw [if_pos c12] at H
              have c12b0 : ((rd l0 x28_2) == a2) = true := beq_iff_eq.mpr c12
              have c12b1 : ((rd l0 x28_2) != a2) = false := bne_eq_false_iff_eq.mpr c12
              clear c12
              as_aux_lemma =>
                have H' := K0 H
                clear H
                have p310 : 0 ≤ (x28_2 : Int) := of_decide_eq_true (by first | (with_reducible assumption) | assumption)
                have q310 : x28_2 < (l0.length : Int) := of_decide_eq_true (by first | (with_reducible assumption) | assumption)
                obtain ⟨ad310, e310, hx310_0⟩ := Kd.at_int HR0.out x28_2 p310 q310
                cases e310
                replace hx310_0 := (HB.out.cell (World.block_lt_of_cell? w _ hx310_0)).trans hx310_0
                replace p310 := eq_true p310; replace q310 := eq_true q310
                go_wp2
                go_roundg k2
                case measure => have := HJ3.out; have := HK2.out; omega
                case rel => exact ⟨(x8_2), (wrap64 (x28_2 + 1)), (by first | rfl | (simp; done) | (simp [*]; done)), H', ⟨by have := HJ3.out; have := HK2.out; omega⟩, ⟨by (with_reducible repeat (first | apply Kd.R_alloc | apply Kd.R_drewN | apply Kd.R_drew)); exact HO_8.out⟩, ⟨by repeat (first | (with_reducible first | exact HB.out | apply below_alloc | apply pw_below_drewN | apply below_drew1) | exact HB.out)⟩⟩
            rw [if_neg c12] at H
            have c12b0 : ((rd l0 x28_2) == a2) = false := beq_eq_false_iff_ne.mpr c12
            have c12b1 : ((rd l0 x28_2) != a2) = true := bne_iff_ne.mpr c12
            by_cases c13 : x8_2.length < 17592186044416
            case neg =>
              rw [if_neg c13] at H
              exact absurd H (by simp)
            rw [if_pos c13] at H
            have LMc13 := K0 c13; clear c13
            obtain ⟨y311, hy311⟩ : ∃ y_ : List Int, y_ = (x8_2 ++ [rd l0 x28_2]) := ⟨_, rfl⟩
            replace H : (lit_Resolve.l0 k2 l1 a2 y311 l0 (l0.length : Int) (wrap64 (x28_2 + 1))) = some (r1, r2) := by first | (rw [hy311]; with_reducible exact H) | (have H2_ := (Option.bind_some _ _).symm.trans H; rw [hy311]; with_reducible exact H2_) | (have H2_ := (Option.bind_some _ _).symm.trans H; with_reducible exact H2_) | with_reducible exact H | (rw [hy311]; exact H) | exact H
            have Ny311 := K0 hy311; clear hy311
            as_aux_lemma =>
              have H' := K0 H
              clear H
              have p310 : 0 ≤ (x28_2 : Int) := of_decide_eq_true (by first | (with_reducible assumption) | assumption)
              have q310 : x28_2 < (l0.length : Int) := of_decide_eq_true (by first | (with_reducible assumption) | assumption)
              obtain ⟨ad310, e310, hx310_0⟩ := Kd.at_int HR0.out x28_2 p310 q310
              cases e310
              replace hx310_0 := (HB.out.cell (World.block_lt_of_cell? w _ hx310_0)).trans hx310_0
              replace p310 := eq_true p310; replace q310 := eq_true q310
              go_wp2_with (first | ((with_reducible refine gate_builtin (b := .append) (xs := #[.tmp 35, .tmp 37]) rfl ?_); at_builtin; refine Kd.R_append (Kd.int .i64) (w0 := w) w.heap.size rfl (.tmp 35) (.tmp 37) 37 3 (.int .i64 0) 8 rfl Try.underlying37 info3 rfl (by decide) (by omega) u8 x8_2 (rd l0 x28_2) [.int .i64 (rd l0 x28_2)] (fun _ => True) (fun _ => False) rfl rfl ?aP (fun _ hk => hk.elim) ?aF ?aO ?aB ?aS ?aL ?_; (case aP => exact rfl); (case aB => exact (by repeat (first | (with_reducible first | exact HB.out | apply below_alloc | apply pw_below_drewN | apply below_drew1) | exact HB.out))); (case aF => exact (fun _ _ => trivial)); (case aO => exact (by (with_reducible repeat (first | apply Kd.R_alloc | apply Kd.R_drewN | apply Kd.R_drew)); exact HO_8.out)); (case aS => exact (below_size (by repeat (first | (with_reducible first | exact HB.out | apply below_alloc | apply pw_below_drewN | apply below_drew1) | exact HB.out)))); (case aL => have := LMc13.out; omega); intro v312 w14 ho hb hg hat; rw [← Ny311.out] at ho; have n0_ := K0 (hb); have n1_ := K0 (ho); clear HB; clear HO_8; have HB := n0_; have HO313 := n1_; clear n0_ n1_; clear ho hb hg hat))
              go_roundg k2
              case measure => have := HJ3.out; have := HK2.out; omega
              case rel => exact ⟨(y311), (wrap64 (x28_2 + 1)), (by first | rfl | (simp; done) | (simp [*]; done)), H', ⟨by have := HJ3.out; have := HK2.out; omega⟩, ⟨by (with_reducible repeat (first | apply Kd.R_alloc | apply Kd.R_drewN | apply Kd.R_drew)); exact HO313.out⟩, ⟨by repeat (first | (with_reducible first | exact HB.out | apply below_alloc | apply pw_below_drewN | apply below_drew1) | exact HB.out)⟩⟩
          rw [if_neg c9] at H
          have c9b0 : decide (x28_2 < (l0.length : Int)) = false := decide_eq_false c9
          clear c9
          have H' := K0 H
          clear H
          go_wp2
          go_loopg [8, 42] k2 (fun kq v8 v42 w' => ∃ (x8_3 : List Int) (x42_3 : Int), v42 = .int .i64 x42_3 ∧ Aside0 (lit_Resolve.l1 kq a2 x8_3 l1 (l1.length : Int) x42_3 = some (r1, r2)) ∧ Aside0 (kq ≤ k2) ∧ Aside0 (Kd.R (Kd.int .i64) 3 w' w.heap.size (fun _ => True) v8 x8_3) ∧ Aside0 (Below w.heap.size w w'))
          case atStart => exact ⟨(x8_2), (0), (by first | rfl | (simp; done) | (simp [*]; done)), H', ⟨Nat.le_refl _⟩, ⟨by (with_reducible repeat (first | apply Kd.R_alloc | apply Kd.R_drewN | apply Kd.R_drew)); exact HO_8.out⟩, ⟨by repeat (first | (with_reducible first | exact HB.out | apply below_alloc | apply pw_below_drewN | apply below_drew1) | exact HB.out)⟩⟩
          case round =>
            clear H'; try clear c1; try clear p2; try clear p3; try clear q3; try clear hx3; try clear c6; try clear p6; try clear c8; try clear c9; try clear c9b0; try clear c10; try clear c10b0; try clear c11; try clear c11b0; try clear c12; try clear c12b0; try clear c12b1; try clear c13; try clear hx310_0; try clear p2; try clear p310; try clear p6; try clear q310
            obtain ⟨x8_3, x42_3, rfl, HA, HK3, HO_8, HB⟩ := hrel
            cases gk with
            | zero => exact absurd HA.out (by simp [lit_Resolve.l1])
            | succ k3 =>
              have H := HA.out
              clear HA
              simp only [lit_Resolve.l1] at H
              by_cases c15 : x42_3 < (l1.length : Int)
              case neg =>
                rw [if_neg c15] at H
                have c15b0 : decide (x42_3 < (l1.length : Int)) = false := decide_eq_false c15
                clear c15
                replace H := Option.bind_eq_some_iff.mp H
                obtain ⟨⟨t318, t319⟩, A210, H⟩ := H
                replace H : (if t319 = true then (some (t318, 0)) else (some (([] : List Int), 4))) = some (r1, r2) := H
                have A21 := K0 A210; clear A210
                by_cases c22 : t319 = true
                case pos =>
                  subst c22
                  have H1 : (some (t318, 0)) = some (r1, r2) := by rw [if_pos rfl] at H; exact H
                  clear H
                  have H := H1
                  clear H1
                  as_aux_lemma =>
                    simp only [Option.some.injEq, Prod.mk.injEq] at H
                    obtain ⟨rfl, rfl⟩ := H
                    obtain ⟨Ao23, co23, eo23⟩ := Kd.R_slice HO_8.out
                    subst eo23
                    go_wp2_with (first | ((with_reducible refine gate_callee (f := 74) rfl ?_); refine goesL_ (some 57) rfl rfl Try.func74 (by kernel_rfl) rfl #[.slice Ao23 x8_3.length co23] rfl (by (try simp only [List.map_toArray, List.map_cons, List.map_nil]); first | done | rfl | (simp only [List.length_drop, List.length_take]; rfl)) ?_; (with_reducible refine (lit_Clean.calls _ _ x8_3 t318 true _ ?side1 ?side2 A21.out).mono ?_); (case side1 => repeat (first | exact (Kd.R_reads' HO_8.out).2.2 | (with_reducible refine Kd.C_alloc ?_ _) | (with_reducible refine Kd.C_drewN ?_ _) | (with_reducible refine Kd.C_drew ?_))); (case side2 => exact (Kd.R_reads' HO_8.out).2.1); rintro e w24 ⟨v320, rfl, ho0, hb⟩; refine ⟨_, rfl, ?_⟩; have n0_ := K0 (Kd.R_elder' (by (with_reducible repeat (first | apply Kd.R_alloc | apply Kd.R_drewN | apply Kd.R_drew)); exact HO_8.out) (Kd.R_base ho0) hb); have n1_ := K0 (Kd.R_lower (Kd.R_new' ho0 (Kd.R_lt (by (with_reducible repeat (first | apply Kd.R_alloc | apply Kd.R_drewN | apply Kd.R_drew)); exact HO_8.out))) (below_size (by repeat (first | (with_reducible first | exact HB.out | apply below_alloc | apply pw_below_drewN | apply below_drew1) | exact HB.out)))); have n2_ := K0 (below_step (by repeat (first | (with_reducible first | exact HB.out | apply below_alloc | apply pw_below_drewN | apply below_drew1) | exact HB.out)) hb); clear HO_8; clear HB; have HO_8 := n0_; have HO321 := n1_; have HB := n2_; clear n0_ n1_ n2_; (try clear hb); (try clear hb2); (try clear hk); (try clear hi); (try clear ho0)))
                    go_ret2
                    exact ⟨_, by first | rfl | (simp [errW_none, errW_some] <;> rfl) | (simp [*, errW_none, errW_some] <;> rfl), by (with_reducible repeat (first | apply Kd.R_alloc | apply Kd.R_drewN | apply Kd.R_drew)); exact Kd.R_mono HO321.out (fun _ hk => trivial), by repeat (first | (with_reducible first | exact HB.out | apply below_alloc | apply pw_below_drewN | apply below_drew1) | exact HB.out)⟩
                replace c22 := Bool.eq_false_iff.mpr c22
                subst c22
                have H1 : (some (([] : List Int), 4)) = some (r1, r2) := by rw [if_neg (show ¬ (false = true) by decide)] at H; exact H
                clear H
                have H := H1
                clear H1
                as_aux_lemma =>
                  simp only [Option.some.injEq, Prod.mk.injEq] at H
                  obtain ⟨rfl, rfl⟩ := H
                  obtain ⟨Ao25, co25, eo25⟩ := Kd.R_slice HO_8.out
                  subst eo25
                  go_wp2_with (first | ((with_reducible refine gate_callee (f := 74) rfl ?_); refine goesL_ (some 57) rfl rfl Try.func74 (by kernel_rfl) rfl #[.slice Ao25 x8_3.length co25] rfl (by (try simp only [List.map_toArray, List.map_cons, List.map_nil]); first | done | rfl | (simp only [List.length_drop, List.length_take]; rfl)) ?_; (with_reducible refine (lit_Clean.calls _ _ x8_3 t318 false _ ?side1 ?side2 A21.out).mono ?_); (case side1 => repeat (first | exact (Kd.R_reads' HO_8.out).2.2 | (with_reducible refine Kd.C_alloc ?_ _) | (with_reducible refine Kd.C_drewN ?_ _) | (with_reducible refine Kd.C_drew ?_))); (case side2 => exact (Kd.R_reads' HO_8.out).2.1); rintro e w26 ⟨v320, rfl, ho0, hb⟩; refine ⟨_, rfl, ?_⟩; have n0_ := K0 (Kd.R_elder' (by (with_reducible repeat (first | apply Kd.R_alloc | apply Kd.R_drewN | apply Kd.R_drew)); exact HO_8.out) (Kd.R_base ho0) hb); have n1_ := K0 (Kd.R_lower (Kd.R_new' ho0 (Kd.R_lt (by (with_reducible repeat (first | apply Kd.R_alloc | apply Kd.R_drewN | apply Kd.R_drew)); exact HO_8.out))) (below_size (by repeat (first | (with_reducible first | exact HB.out | apply below_alloc | apply pw_below_drewN | apply below_drew1) | exact HB.out)))); have n2_ := K0 (below_step (by repeat (first | (with_reducible first | exact HB.out | apply below_alloc | apply pw_below_drewN | apply below_drew1) | exact HB.out)) hb); clear HO_8; clear HB; have HO_8 := n0_; have HO321 := n1_; have HB := n2_; clear n0_ n1_ n2_; (try clear hb); (try clear hb2); (try clear hk); (try clear hi); (try clear ho0)))
                  go_ret2
                  exact ⟨_, by first | rfl | (simp [errW_none, errW_some] <;> rfl) | (simp [*, errW_none, errW_some] <;> rfl), by first | exact Kd.R_nil _ _ _ _ _ | exact Kd.N_nil _ _ _ _ _ | exact Kd.V_nil _ _ _ _ _ | exact Kd.Q_nil _ _ _ _ _ | exact Kd.S_nil _ _ _ _ _, by repeat (first | (with_reducible first | exact HB.out | apply below_alloc | apply pw_below_drewN | apply below_drew1) | exact HB.out)⟩
              rw [if_pos c15] at H
              have c15b0 : decide (x42_3 < (l1.length : Int)) = true := decide_eq_true c15
              clear c15
              by_cases c16 : 0 ≤ x42_3
              case neg =>
                rw [if_neg c16] at H
                exact absurd H (by simp)
              rw [if_pos c16] at H
              have c16b0 : decide (0 ≤ x42_3) = true := decide_eq_true c16
              clear c16
              by_cases c17 : x42_3 < (l1.length : Int)
              case neg =>
                rw [if_neg c17] at H
                exact absurd H (by simp)
              rw [if_pos c17] at H
              have c17b0 : decide (x42_3 < (l1.length : Int)) = true := decide_eq_true c17
              clear c17
              by_cases c18 : (rd l1 x42_3) = (wrap64 (-a2))
              case pos =>
                rw [if_pos c18] at H
                have c18b0 : ((rd l1 x42_3) == (wrap64 (-a2))) = true := beq_iff_eq.mpr c18
                have c18b1 : ((rd l1 x42_3) != (wrap64 (-a2))) = false := bne_eq_false_iff_eq.mpr c18
                clear c18
                as_aux_lemma =>
                  have H' := K0 H
                  clear H
                  have p314 : 0 ≤ (x42_3 : Int) := of_decide_eq_true (by first | (with_reducible assumption) | assumption)
                  have q314 : x42_3 < (l1.length : Int) := of_decide_eq_true (by first | (with_reducible assumption) | assumption)
                  obtain ⟨ad314, e314, hx314_0⟩ := Kd.at_int HR1.out x42_3 p314 q314
                  cases e314
                  replace hx314_0 := (HB.out.cell (World.block_lt_of_cell? w _ hx314_0)).trans hx314_0
                  replace p314 := eq_true p314; replace q314 := eq_true q314
                  go_wp2
                  go_roundg k3
                  case measure => have := HJ3.out; have := HK2.out; have := HK3.out; omega
                  case rel => exact ⟨(x8_3), (wrap64 (x42_3 + 1)), (by first | rfl | (simp; done) | (simp [*]; done)), H', ⟨by have := HJ3.out; have := HK2.out; have := HK3.out; omega⟩, ⟨by (with_reducible repeat (first | apply Kd.R_alloc | apply Kd.R_drewN | apply Kd.R_drew)); exact HO_8.out⟩, ⟨by repeat (first | (with_reducible first | exact HB.out | apply below_alloc | apply pw_below_drewN | apply below_drew1) | exact HB.out)⟩⟩
              rw [if_neg c18] at H
              have c18b0 : ((rd l1 x42_3) == (wrap64 (-a2))) = false := beq_eq_false_iff_ne.mpr c18
              have c18b1 : ((rd l1 x42_3) != (wrap64 (-a2))) = true := bne_iff_ne.mpr c18
              by_cases c19 : x8_3.length < 17592186044416
              case neg =>
                rw [if_neg c19] at H
                exact absurd H (by simp)
              rw [if_pos c19] at H
              have LMc19 := K0 c19; clear c19
              obtain ⟨y315, hy315⟩ : ∃ y_ : List Int, y_ = (x8_3 ++ [rd l1 x42_3]) := ⟨_, rfl⟩
              replace H : (lit_Resolve.l1 k3 a2 y315 l1 (l1.length : Int) (wrap64 (x42_3 + 1))) = some (r1, r2) := by first | (rw [hy315]; with_reducible exact H) | (have H2_ := (Option.bind_some _ _).symm.trans H; rw [hy315]; with_reducible exact H2_) | (have H2_ := (Option.bind_some _ _).symm.trans H; with_reducible exact H2_) | with_reducible exact H | (rw [hy315]; exact H) | exact H
              have Ny315 := K0 hy315; clear hy315
              as_aux_lemma =>
                have H' := K0 H
                clear H
                have p314 : 0 ≤ (x42_3 : Int) := of_decide_eq_true (by first | (with_reducible assumption) | assumption)
                have q314 : x42_3 < (l1.length : Int) := of_decide_eq_true (by first | (with_reducible assumption) | assumption)
                obtain ⟨ad314, e314, hx314_0⟩ := Kd.at_int HR1.out x42_3 p314 q314
                cases e314
                replace hx314_0 := (HB.out.cell (World.block_lt_of_cell? w _ hx314_0)).trans hx314_0
                replace p314 := eq_true p314; replace q314 := eq_true q314
                go_wp2_with (first | ((with_reducible refine gate_builtin (b := .append) (xs := #[.tmp 50, .tmp 52]) rfl ?_); at_builtin; refine Kd.R_append (Kd.int .i64) (w0 := w) w.heap.size rfl (.tmp 50) (.tmp 52) 37 3 (.int .i64 0) 8 rfl Try.underlying37 info3 rfl (by decide) (by omega) u8 x8_3 (rd l1 x42_3) [.int .i64 (rd l1 x42_3)] (fun _ => True) (fun _ => False) rfl rfl ?aP (fun _ hk => hk.elim) ?aF ?aO ?aB ?aS ?aL ?_; (case aP => exact rfl); (case aB => exact (by repeat (first | (with_reducible first | exact HB.out | apply below_alloc | apply pw_below_drewN | apply below_drew1) | exact HB.out))); (case aF => exact (fun _ _ => trivial)); (case aO => exact (by (with_reducible repeat (first | apply Kd.R_alloc | apply Kd.R_drewN | apply Kd.R_drew)); exact HO_8.out)); (case aS => exact (below_size (by repeat (first | (with_reducible first | exact HB.out | apply below_alloc | apply pw_below_drewN | apply below_drew1) | exact HB.out)))); (case aL => have := LMc19.out; omega); intro v316 w20 ho hb hg hat; rw [← Ny315.out] at ho; have n0_ := K0 (hb); have n1_ := K0 (ho); clear HB; clear HO_8; have HB := n0_; have HO317 := n1_; clear n0_ n1_; clear ho hb hg hat))
                go_roundg k3
                case measure => have := HJ3.out; have := HK2.out; have := HK3.out; omega
                case rel => exact ⟨(y315), (wrap64 (x42_3 + 1)), (by first | rfl | (simp; done) | (simp [*]; done)), H', ⟨by have := HJ3.out; have := HK2.out; have := HK3.out; omega⟩, ⟨by (with_reducible repeat (first | apply Kd.R_alloc | apply Kd.R_drewN | apply Kd.R_drew)); exact HO317.out⟩, ⟨by repeat (first | (with_reducible first | exact HB.out | apply below_alloc | apply pw_below_drewN | apply below_drew1) | exact HB.out)⟩⟩
def okx (pl : Int → Option Int) (l x : Int) : Bool := (x == wrap64 (-l)) || ((pl (wrap64 (-x))).isSome && decide ((pl (wrap64 (-x))).getD 0 < (pl (wrap64 (-l))).getD 0))
set_option maxRecDepth 100000 in
set_option maxHeartbeats 8000000 in
theorem learn_step.calls (k : Nat) (E : Eng) (T : Tag) (p : EngP) (wb : World) (gX bP B : Nat) (N : Int) (A0 : Option Addr) (c0 : Nat) (L : List (List Int)) (pl : Int → Option Int) (Q : Nat → Prop) (vC vF : Value) (cl fr : List Int) (l v : Int) (r next : List Int) (ok has : Bool) (e : Int) (R : Bool) (w : World)
    (h : ResIn wb w gX bP B N A0 c0 L pl Q vC vF cl fr) (hE : EngIn wb B T E p) (hL : Kd.C (Kd.slice 3 (Kd.int .i64)) wb A0 L.length L) (hfr : fr.length < 1099511627776) (hv : (if l < wrap64 (-l) then wrap64 (-l) else l) = v) (hwv : (Lit.int .i64 v).wf = true) (hn : NumP L (E.why v) r ok)
    (hc : ok = true → slices_Contains_int_int.f k r (wrap64 (-l)) = some has) (hres : ok = true → has = true → r.all (okx pl l) = true → lit_Resolve.f k cl r l = some (next, e)) (hR : R = (ok && has && r.all (okx pl l) && (e == 0))) :
    Calls Try.prog 84 #[.pointer (some ⟨gX, 0, none⟩), .int .i64 l] w fun e' w' => e' = .returned (.bool R) ∧ (R = true → ∃ vC' vF', ResIn wb w' gX bP B N A0 c0 L pl Q vC' vF' next (fr ++ [E.why v])) ∧ (R = false → ResIn wb w' gX bP B N A0 c0 L pl Q vC vF cl fr) ∧ ResKept gX vF w w' := by
  have huR := Try.underlying91
  have huC := Try.underlying24
  have HS := K0 h
  have HE := K0 hE
  have HL := K0 hL
  have HN := K0 hn
  have HC := K0 hc
  have HRS := K0 hres
  have HRR := K0 hR
  have A1 := K0 (eng_Why.calls E B T p v w (hE.below h.b) hwv)
  obtain ⟨nw, hnw⟩ : ∃ n, E.why v = n := ⟨_, rfl⟩
  rw [hnw] at HN A1 ⊢
  obtain ⟨p0, p1, p2, p3, p4, p5⟩ := h.cells
  clear h hE hL hn hc hres hR hnw hwv
  go_enter Try.func84, Try.ntmps84
  go_wp2_with fail
  clear p0 p1 p2 p3 p4 p5
  refine A1.out.mono ?_
  rintro e' w1 ⟨rfl, hb1⟩
  have HS1 := K0 (HS.out.below hb1)
  have HK1 := K0 hb1
  clear hb1 HS A1 hv
  go_wp2_with fail
  refine (learn_number.calls wb gX bP B N A0 c0 L pl Q vC vF cl fr nw r ok w1 HS1.out HL.out HN.out).mono ?_
  rintro e' w2 ⟨v2, rfl, r2, hb2⟩
  obtain ⟨A2, k2, e2⟩ := Kd.R_slice r2
  subst e2
  have HS2 := K0 (HS1.out.below hb2)
  have HK2 := K0 (below_step HK1.out hb2)
  have HR2 := K0 r2
  have hc2 := (Kd.V_reads' (Kd.R_V (base' := 0) r2)).2.1
  have HC2 := K0 (Kd.V_reads' (Kd.R_V (base' := 0) r2)).2.2
  have hbr : r.length ≤ 9223372036854775807 := HC2.out.2.1
  clear hb2 HS1 r2
  cases ok with
  | false =>
    have hR := HRR.out
    simp only [Bool.false_and] at hR
    subst hR
    go_wp2
    go_ret
    exact ⟨rfl, HS2.out, ResKept.of_below HK2.out⟩
  | true =>
    have A3 := K0 (slices_Contains_int_int.calls k A2 k2 r (wrap64 (-l)) has w2 HC2.out hc2 (HC.out rfl))
    go_wp2_with fail
    refine A3.out.mono ?_
    rintro e' w3 ⟨rfl, hd3⟩
    have hb3 := hd3.below
    have HS3 := K0 (HS2.out.below hb3)
    have HK3 := K0 (below_step HK2.out hb3)
    have HC3 := K0 (Kd.C_below HC2.out hb3)
    have HR3 := K0 (Kd.R_below HR2.out hb3)
    have HZ3 := K0 hb3.size
    clear hd3 hb3 A3 HC2
    cases has with
    | false =>
      have hR := HRR.out
      simp only [Bool.true_and, Bool.false_and] at hR
      subst hR
      go_wp2
      go_ret
      exact ⟨rfl, HS3.out, ResKept.of_below HK3.out⟩
    | true =>
      go_wp2
      go_loopg [9, 10, 11, 40] r.length (fun gg v9 v10 v11 v40 wr => ∃ (j : Nat), v40 = .int .i64 (j : Int) ∧ Aside0 (j + gg = r.length) ∧ Aside0 (wr = w3) ∧ Aside0 ((r.drop j).all (okx pl l) = r.all (okx pl l)))
      case atStart => exact ⟨0, rfl, ⟨by simp⟩, ⟨rfl⟩, ⟨rfl⟩⟩
      case round =>
        obtain ⟨j, rfl, hg, HW, HA⟩ := hrel
        have hwr := HW.out
        subst hwr
        obtain ⟨p0, p1, p2, p3, p4, p5⟩ := HS3.out.cells
        by_cases hlt : j < r.length
        · obtain ⟨ad, e1, x1⟩ := Kd.at_int HC3.out (j : Int) (by omega) (by omega)
          cases e1
          obtain ⟨x, hx⟩ : ∃ x, r[j] = x := ⟨_, rfl⟩
          have hrd : rd r (j : Int) = x := by simp [rd, hlt, hx]
          rw [hrd] at x1
          simp only [Int.toNat_natCast] at x1
          have ha := HA.out
          rw [List.drop_eq_getElem_cons hlt, hx, List.all_cons] at ha
          have HA2 := K0 ha
          have q1 := HS3.out.look_ok (wf_wrap x)
          have q2 := HS3.out.look (wf_wrap l)
          have P0 : ((0 : Int) ≤ (j : Int)) = True := eq_true (by omega)
          have P1 : ((j : Int) < (r.length : Int)) = True := eq_true (by omega)
          have P2 : (j < r.length) = True := eq_true hlt
          have d4 : decide ((j : Int) < (r.length : Int)) = true := decide_eq_true (by omega)
          obtain ⟨a, hpa⟩ : ∃ a, (pl (wrap64 (-x))).getD 0 = a := ⟨_, rfl⟩
          obtain ⟨on, hon⟩ : ∃ on, (pl (wrap64 (-x))).isSome = on := ⟨_, rfl⟩
          obtain ⟨b, hpb⟩ : ∃ b, (pl (wrap64 (-l))).getD 0 = b := ⟨_, rfl⟩
          rw [hpa, hon] at q1
          rw [hpb] at q2
          have hok : okx pl l x = ((x == wrap64 (-l)) || (on && decide (a < b))) := by unfold okx; rw [hpa, hon, hpb]
          rw [hok] at HA2
          clear hx hrd ha HA hpa hon hpb hok
          by_cases e0 : x = wrap64 (-l)
          · have d5 : (x != wrap64 (-l)) = false := by rw [e0]; simp
            have hA := HA2.out
            rw [show (x == wrap64 (-l)) = true by rw [e0]; simp, Bool.true_or, Bool.true_and] at hA
            have HA3 := K0 hA
            clear e0 hA HA2
            go_wp2
            go_roundg (r.length - (j + 1))
            case measure => have := hg.out; omega
            case rel => exact ⟨j + 1, by simp, ⟨by have := hg.out; omega⟩, ⟨rfl⟩, HA3⟩
          · have d5 : (x != wrap64 (-l)) = true := bne_iff_ne.2 e0
            have hA := HA2.out
            rw [beq_eq_false_iff_ne.2 e0, Bool.false_or] at hA
            have HA3 := K0 hA
            clear e0 hA HA2
            cases on with
            | false =>
              have hR := HRR.out
              rw [show r.all (okx pl l) = false by rw [← HA3.out]; rfl] at hR
              simp only [Bool.and_false, Bool.false_and] at hR
              subst hR
              go_wp2
              go_ret
              exact ⟨rfl, HS3.out, ResKept.of_below HK3.out⟩
            | true =>
              by_cases hab : a < b
              · have d6 : decide (b ≤ a) = false := decide_eq_false (by omega)
                have hA := HA3.out
                rw [decide_eq_true hab, Bool.true_and, Bool.true_and] at hA
                have HA4 := K0 hA
                clear hA HA3 hab
                go_wp2
                go_roundg (r.length - (j + 1))
                case measure => have := hg.out; omega
                case rel => exact ⟨j + 1, by simp, ⟨by have := hg.out; omega⟩, ⟨rfl⟩, HA4⟩
              · have d6 : decide (b ≤ a) = true := decide_eq_true (by omega)
                have hR := HRR.out
                rw [show r.all (okx pl l) = false by rw [← HA3.out, decide_eq_false hab]; rfl] at hR
                simp only [Bool.and_false, Bool.false_and] at hR
                subst hR
                clear hab
                go_wp2
                go_ret
                exact ⟨rfl, HS3.out, ResKept.of_below HK3.out⟩
        · have d4 : decide ((j : Int) < (r.length : Int)) = false := decide_eq_false (by omega)
          have P2 : (j < r.length) = False := eq_false hlt
          have ha := HA.out
          rw [List.drop_of_length_le (by omega)] at ha
          have hall : r.all (okx pl l) = true := by rw [← ha]; rfl
          obtain ⟨AC, kC, eC⟩ := Kd.R_slice HS3.out.c
          obtain ⟨AF, kF, eF⟩ := Kd.R_slice HS3.out.f
          subst eC eF
          have hcc := Kd.V_reads' (Kd.R_V (base' := 0) HS3.out.c)
          have A5 := K0 (lit_Resolve.calls k AC kC cl A2 k2 r l next e wr hcc.2.2 hcc.2.1 HC3.out hc2 (by first | exact HRS.out rfl rfl hall | exact HRS.out hall | exact HRS.out trivial trivial hall))
          have hR := HRR.out
          rw [hall] at hR
          simp only [Bool.true_and] at hR
          have HR9 := K0 hR
          clear ha hall hcc hR HRR HRS HA HC HN
          go_wp2_with fail
          refine A5.out.mono ?_
          rintro e' w4 ⟨v4, rfl, r4, hb4⟩
          obtain ⟨A4, k4, e4⟩ := Kd.R_slice r4
          subst e4
          have HS4 := K0 (HS3.out.below hb4)
          have HK4 := K0 (below_step HK3.out hb4)
          have HR4 := K0 r4
          have HZ4 := K0 hb4.size
          have HF4 := K0 (Kd.R_below (Kd.R_bound HS3.out.f) hb4)
          have HX3 := K0 (blk_lt HS3.out.x)
          have HM3 := K0 HS3.out.m.lt
          have HFL := K0 (Kd.R_lt HS3.out.f)
          clear r4 hb4 A5 p0 p1 p2 p3 p4 p5
          obtain ⟨p0, p1, p2, p3, p4, p5⟩ := HS4.out.cells
          by_cases he : e = 0
          · subst he
            have hR := HR9.out
            have hR2 : R = true := hR
            clear hR
            subst hR2
            clear HR9
            have HLN := K0 (show (fr.length + 1) * 8 ≤ 140737488355328 by omega)
            go_wp2_with ((with_reducible refine gate_builtin (b := .append) (xs := #[.tmp 92, .tmp 94]) rfl ?_); at_builtin; refine Kd.R_append (Kd.int .i64) (w0 := wb) (W := w4) wb.heap.size rfl (.tmp 92) (.tmp 94) 37 3 (.int .i64 0) 8 rfl Try.underlying37 (by kernel_rfl) rfl (by decide) (by decide) (.slice AF fr.length kF) fr nw [.int .i64 nw] (fun k => ((k ≠ gX ∧ k ≠ bP ∧ Q k) ∧ some k ≠ (.slice A4 next.length k4 : Value).ownBlock)) (fun _ => False) rfl rfl rfl (fun _ h => h.elim) ?fresh (Kd.R_mono HF4.out ?mono) HS4.out.b HS4.out.b.size HLN.out ?_; (case fresh => exact fun k hk => ⟨⟨by have := blk_lt HS4.out.x; omega, by have := HS4.out.m.lt; omega, HS4.out.q k hk⟩, fun e => by have := Kd.R_lt HR4.out k e.symm; omega⟩); (case mono => exact fun k hk => ⟨hk.1.1, fun e => by have := Kd.R_base HR4.out k e.symm; have := hk.2.2.1; omega⟩); intro v5 w5 r5 hb5 hg5 hat5; obtain ⟨A6, k6, e6⟩ := Kd.R_slice r5; subst e6; have HR5 := K0 r5; have HB5 := K0 hb5; have HG5 := K0 hg5; have hno : ∀ k, some k = (.slice AF fr.length kF : Value).ownBlock → k < wr.heap.size ∧ k ≠ gX ∧ k ≠ bP := (fun k e => ⟨HFL.out k e.symm, (HS4.out.f.1 k e.symm).1.1, (HS4.out.f.1 k e.symm).1.2.1⟩); have HX5 := K0 (blk_grown HS4.out.x hg5 (fun e => (hno gX e).2.1 rfl)); have HM5 := K0 (HS4.out.m.block (hg5.block bP HS4.out.m.lt (fun e => (hno bP e).2.2 rfl))); have HC5 := K0 (show Kd.R (Kd.int .i64) 3 w5 wb.heap.size (fun k => ((k ≠ gX ∧ k ≠ bP ∧ Q k) ∧ some k ≠ (.slice A6 (fr ++ [nw]).length k6 : Value).ownBlock)) (.slice A4 next.length k4) next from Kd.R_mono (Kd.R_grown (Kd.R_lower (Kd.R_bound HR4.out) HS3.out.b.size) hg5 (fun k hk e => by have := (hno k e).1; have := hk.2.1; omega)) (fun k hk => ⟨⟨by have := HX3.out; have := hk.2.1; omega, by have := HM3.out; have := hk.2.1; omega, HS3.out.q k hk.2.1⟩, fun e => hat5.elim (fun q => by rw [q] at e; have := (hno k e).1; have := hk.2.1; omega) (fun hh => by obtain ⟨b, q, hle⟩ := hh; rw [q] at e; injection e with e; have := hk.2.2.1; omega)⟩)); have b1 := blk_put (cs' := #[.pointer (some ⟨B, 0, none⟩), .int .i64 N, .slice A0 L.length c0, .map (some bP), .slice A4 next.length k4, .slice AF fr.length kF]) HX5.out 4 (.slice A4 next.length k4) rfl; have b2 := blk_put (cs' := #[.pointer (some ⟨B, 0, none⟩), .int .i64 N, .slice A0 L.length c0, .map (some bP), .slice A4 next.length k4, .slice A6 (fr ++ [nw]).length k6]) b1 5 (.slice A6 (fr ++ [nw]).length k6) rfl; have u4 := blk_cell HX5.out 4; have z4 := blk_frozen HX5.out 4; have u5 := blk_cell b1 5; have z5 := blk_frozen b1 5; have HB2 := K0 b2; have hlen : (fr ++ [nw]).length = fr.length + 1 := (by simp); rw [hlen] at HR5 HC5 HB2; clear hlen; clear r5 hb5 hg5 hat5 hno b1 b2)
            clear p0 p1 p2 p3 p4 p5 u4 z4 u5 z5
            go_wp2
            go_ret
            refine ⟨rfl, ⟨_, _, (HB5.out.setCell (show wb.heap.size ≤ gX from HS4.out.hi.1) _).setCell (show wb.heap.size ≤ gX from HS4.out.hi.1) _, HB2.out, ?_, ?_, ?_, HS4.out.hi, ?_⟩, ?_, ?_⟩
            · exact (HM5.out.block (Below.heap_setCell _ _ _ bP (Ne.symm HS4.out.hi.2.2))).block (Below.heap_setCell _ _ _ bP (Ne.symm HS4.out.hi.2.2))
            · exact Kd.R_far (p := ⟨gX, 5, none⟩) (Kd.R_far (p := ⟨gX, 4, none⟩) HC5.out (fun k hk => hk.1.1) _) (fun k hk => hk.1.1) _
            · exact Kd.R_far (p := ⟨gX, 5, none⟩) (Kd.R_far (p := ⟨gX, 4, none⟩) HR5.out (fun k hk => hk.1.1) _) (fun k hk => hk.1.1) _
            · intro k hk
              have h1 := HG5.out.size
              simp only [World.setCell, Array.size_modify] at hk
              exact HS4.out.q k (Nat.le_trans h1 hk)
            · have h1 := HG5.out.size
              have h2 := HK4.out.size
              simp only [World.setCell, Array.size_modify]
              omega
            · intro k hk h1 h2
              have h3 := HK4.out.size
              exact (Below.heap_setCell _ _ _ k h1).trans ((Below.heap_setCell _ _ _ k h1).trans ((HG5.out.block k (Nat.lt_of_lt_of_le hk h3) h2).trans (HK4.out.block k hk)))
          · have hR := HR9.out
            rw [beq_eq_false_iff_ne.2 he] at hR
            subst hR
            have d7 : (e != 0) = true := bne_iff_ne.2 he
            clear he
            go_wp2
            go_ret
            exact ⟨rfl, HS4.out, ResKept.of_below HK4.out⟩
def varW (l : Int) : Int := if l < wrap64 (-l) then wrap64 (-l) else l
def StepP (k : Nat) (E : Eng) (L : List (List Int)) (pl : Int → Option Int) (cl : List Int) (l : Int) (R : Bool) (next : List Int) : Prop :=
  (Lit.int .i64 (varW l)).wf = true ∧ ∃ r ok has e, NumP L (E.why (varW l)) r ok ∧ (ok = true → slices_Contains_int_int.f k r (wrap64 (-l)) = some has) ∧ (ok = true → has = true → r.all (okx pl l) = true → lit_Resolve.f k cl r l = some (next, e)) ∧ R = (ok && has && r.all (okx pl l) && (e == 0))
def WfC (cl : List Int) : Prop := ∀ x ∈ cl, (Lit.int .i64 (varW x)).wf = true
def BackP (k : Nat) (E : Eng) (L : List (List Int)) (pl : Int → Option Int) (may : Int → Bool) (so : List Int → Bool) : Nat → List Int → List Int → Option (List Int × List Int) → Prop
  | 0, _, _, _ => False
  | m + 1, cl, fr, o => WfC cl ∧ ((so cl = true ∧ o = some (cl, fr)) ∨ (so cl = false ∧ (lastP pl may cl (0, false)).2 = false ∧ o = none) ∨
      (so cl = false ∧ (lastP pl may cl (0, false)).2 = true ∧ ∃ R next, StepP k E L pl cl (lastP pl may cl (0, false)).1 R next ∧ ((R = false ∧ o = none) ∨ (R = true ∧ BackP k E L pl may so m next (fr ++ [E.why (varW (lastP pl may cl (0, false)).1)]) o))))
set_option maxRecDepth 100000 in
set_option maxHeartbeats 8000000 in
theorem learn_back.calls (k : Nat) (gm gs : Nat) (lm ls : Array Value) (egm : ∀ args w, (callFunc gm args).run Try.prog w = .ok (.enter gm args) w) (egs : ∀ args w, (callFunc gs args).run Try.prog w = .ok (.enter gs args) w) (may : Int → Bool) (so : List Int → Bool) (K : Nat → Prop)
    (E : Eng) (T : Tag) (p : EngP) (wb : World) (gX bP B : Nat) (N : Int) (A0 : Option Addr) (c0 : Nat) (L : List (List Int)) (pl : Int → Option Int) (Q : Nat → Prop) (vC vF : Value) (cl fr : List Int) (m : Nat) (o : Option (List Int × List Int)) (w : World)
    (h : ResIn wb w gX bP B N A0 c0 L pl Q vC vF cl fr) (hE : EngIn wb B T E p) (hL : Kd.C (Kd.slice 3 (Kd.int .i64)) wb A0 L.length L)
    (hK : ∀ k, K k → k < w.heap.size ∧ k ≠ gX ∧ ¬ Q k)
    (hm : ∀ W, Below wb.heap.size wb W → w.heap.size ≤ W.heap.size → (∀ k, K k → W.heap[k]? = w.heap[k]?) → ∀ x, Calls Try.prog gm (#[.int .i64 x] ++ lm) W fun e W' => e = .returned (.bool (may x)) ∧ Below W.heap.size W W')
    (hs : ∀ W, Below wb.heap.size wb W → w.heap.size ≤ W.heap.size → (∀ k, K k → W.heap[k]? = w.heap[k]?) → ∀ A c xs, WfC xs → Kd.C (Kd.int .i64) W A xs.length xs → xs.length ≤ c → Calls Try.prog gs (#[.slice A xs.length c] ++ ls) W fun e W' => e = .returned (.bool (so xs)) ∧ Below W.heap.size W W')
    (hmf : fr.length + m < 1099511627776) (ho : BackP k E L pl may so m cl fr o) :
    Calls Try.prog 52 #[.pointer (some ⟨gX, 0, none⟩), .func (.func gm) #[] lm, .func (.func gs) #[] ls] w fun e' w' => e' = .returned (.bool o.isSome) ∧ (∀ cl' fr', o = some (cl', fr') → ∃ vC' vF', ResIn wb w' gX bP B N A0 c0 L pl Q vC' vF' cl' fr') ∧ Below wb.heap.size wb w' ∧ w.heap.size ≤ w'.heap.size ∧ (∀ k, K k → w'.heap[k]? = w.heap[k]?) := by
  have huR := Try.underlying91
  have HE := K0 hE
  have HL := K0 hL
  have HKK := K0 hK
  have HM := K0 hm
  have HSO := K0 hs
  have HS := K0 h
  have HO := K0 ho
  have HMF := K0 hmf
  clear h hE hL hK hm hs ho hmf
  go_enter Try.func52, Try.ntmps52
  go_wp2
  go_loopg [7, 8] m (fun gg v7 v8 wr => ∃ (g : Nat) (cl1 fr1 : List Int) (vC1 vF1 : Value), Aside0 (g = gg) ∧ Aside0 (ResIn wb wr gX bP B N A0 c0 L pl Q vC1 vF1 cl1 fr1) ∧ Aside0 (BackP k E L pl may so g cl1 fr1 o) ∧ Aside0 (fr1.length + g < 1099511627776) ∧ Aside0 (w.heap.size ≤ wr.heap.size ∧ ∀ k, K k → wr.heap[k]? = w.heap[k]?))
  case atStart => exact ⟨m, cl, fr, vC, vF, ⟨rfl⟩, HS, HO, HMF, ⟨Nat.le_refl _, fun _ _ => rfl⟩⟩
  case round =>
    clear HS HO HMF
    obtain ⟨gg, cl1, fr1, vC1, vF1, hg, HS, HO, HMF, HW⟩ := hrel
    obtain ⟨p0, p1, p2, p3, p4, p5⟩ := HS.out.cells
    obtain ⟨AC, kC, eC⟩ := Kd.R_slice HS.out.c
    subst eC
    have hcc := Kd.V_reads' (Kd.R_V (base' := 0) HS.out.c)
    obtain ⟨gg', rfl⟩ : ∃ g', gg = g' + 1 := by cases gg with
      | zero => exact HO.out.elim
      | succ g' => exact ⟨g', rfl⟩
    have A1 := K0 (HSO.out wr HS.out.b HW.out.1 HW.out.2 AC kC cl1 HO.out.1 hcc.2.2 hcc.2.1)
    clear hcc
    go_wp2_with fail
    refine A1.out.mono ?_
    rintro e' w1 ⟨rfl, hb1⟩
    have HS1 := K0 (HS.out.below hb1)
    have HW1 := K0 (show w.heap.size ≤ w1.heap.size ∧ ∀ k, K k → w1.heap[k]? = w.heap[k]? from ⟨Nat.le_trans HW.out.1 hb1.size, fun k hk => (hb1.block k (Nat.lt_of_lt_of_le (HKK.out k hk).1 HW.out.1)).trans (HW.out.2 k hk)⟩)
    clear p0 p1 p2 p3 p4 p5 hb1 HS HW A1
    rcases HO.out.2 with ⟨hso, hoo⟩ | ⟨hso, hfo, hoo⟩ | ⟨hso, hfo, R, next, hst, hoo⟩
    · rw [hso]
      clear hso HO
      subst hoo
      go_wp2
      go_ret
      refine ⟨rfl, fun cl' fr' e => ?_, HS1.out.b, HW1.out.1, HW1.out.2⟩
      injection e with e
      injection e with e1 e2
      subst e1 e2
      exact ⟨_, _, HS1.out⟩
    · rw [hso]
      subst hoo
      have A2 := K0 (learn_last.calls gm lm egm may wb gX bP B N A0 c0 L pl Q _ vF1 cl1 fr1 w1 HS1.out (fun W hW x hx => HM.out W (HS1.out.below hW).b (Nat.le_trans HW1.out.1 hW.size) (fun k hk => (hW.block k (Nat.lt_of_lt_of_le (HKK.out k hk).1 HW1.out.1)).trans (HW1.out.2 k hk)) x))
      clear hso HO
      go_wp2_with fail
      refine A2.out.mono ?_
      rintro e' w2 ⟨rfl, hb2⟩
      rw [hfo]
      have HS2 := K0 (HS1.out.below hb2)
      have HW2 := K0 (show w.heap.size ≤ w2.heap.size ∧ ∀ k, K k → w2.heap[k]? = w.heap[k]? from ⟨Nat.le_trans HW1.out.1 hb2.size, fun k hk => (hb2.block k (Nat.lt_of_lt_of_le (HKK.out k hk).1 HW1.out.1)).trans (HW1.out.2 k hk)⟩)
      clear hb2 A2 HS1 HW1 hfo
      go_wp2
      go_ret
      exact ⟨rfl, (fun cl' fr' e => by cases e), HS2.out.b, HW2.out.1, HW2.out.2⟩
    · rw [hso]
      have A2 := K0 (learn_last.calls gm lm egm may wb gX bP B N A0 c0 L pl Q _ vF1 cl1 fr1 w1 HS1.out (fun W hW x hx => HM.out W (HS1.out.below hW).b (Nat.le_trans HW1.out.1 hW.size) (fun k hk => (hW.block k (Nat.lt_of_lt_of_le (HKK.out k hk).1 HW1.out.1)).trans (HW1.out.2 k hk)) x))
      obtain ⟨l, hl⟩ : ∃ l, (lastP pl may cl1 (0, false)).1 = l := ⟨_, rfl⟩
      rw [hl] at hst hoo A2
      have HST := K0 hst
      have HOO := K0 hoo
      clear hso HO hst hoo hl
      go_wp2_with fail
      refine A2.out.mono ?_
      rintro e' w2 ⟨rfl, hb2⟩
      rw [hfo]
      have HS2 := K0 (HS1.out.below hb2)
      have HW2 := K0 (show w.heap.size ≤ w2.heap.size ∧ ∀ k, K k → w2.heap[k]? = w.heap[k]? from ⟨Nat.le_trans HW1.out.1 hb2.size, fun k hk => (hb2.block k (Nat.lt_of_lt_of_le (HKK.out k hk).1 HW1.out.1)).trans (HW1.out.2 k hk)⟩)
      clear hb2 A2 HS1 HW1 hfo
      obtain ⟨hwv, r, ok, has, e0, hn, hc, hres, hR⟩ := HST.out
      have A3 := K0 (learn_step.calls k E T p wb gX bP B N A0 c0 L pl Q _ vF1 cl1 fr1 l (varW l) r next ok has e0 R w2 HS2.out HE.out HL.out (by have := HMF.out; omega) rfl hwv hn hc hres hR)
      clear hwv hn hc hres hR HST
      go_wp2_with fail
      refine A3.out.mono ?_
      rintro e' w3 ⟨rfl, hR1, hR0, hk3⟩
      have HW3 := K0 (show w.heap.size ≤ w3.heap.size ∧ ∀ k, K k → w3.heap[k]? = w.heap[k]? from ⟨Nat.le_trans HW2.out.1 hk3.1, fun k hk => (hk3.2 k (Nat.lt_of_lt_of_le (HKK.out k hk).1 HW2.out.1) (HKK.out k hk).2.1 (fun e => (HKK.out k hk).2.2 (HS2.out.f.1 k e.symm).1.2.2)).trans (HW2.out.2 k hk)⟩)
      cases R with
      | false =>
        have HS3 := K0 (hR0 rfl)
        have ho : o = none := HOO.out.elim (fun q => q.2) (fun q => by cases q.1)
        subst ho
        clear hR1 hR0 hk3 HOO
        go_wp2
        go_ret
        exact ⟨rfl, (fun cl' fr' e => by cases e), HS3.out.b, HW3.out.1, HW3.out.2⟩
      | true =>
        obtain ⟨vC3, vF3, hs3⟩ := hR1 rfl
        have HS3 := K0 hs3
        have HO3 := K0 (HOO.out.elim (fun q => by cases q.1) (fun q => q.2))
        clear hR1 hR0 hk3 HOO hs3
        go_wp2
        go_roundg gg'
        case measure => have := hg.out; omega
        case rel => exact ⟨gg', next, _, vC3, vF3, ⟨rfl⟩, HS3, HO3, ⟨by have := HMF.out; simp; omega⟩, HW3⟩
theorem ResIn.toQ {wb w w1 : World} {gX bP B : Nat} {N : Int} {A0 : Option Addr} {c0 : Nat} {L : List (List Int)} {pl : Int → Option Int} {Q Q' : Nat → Prop} {vC vF : Value} {cl fr : List Int} (h : ResIn wb w gX bP B N A0 c0 L pl Q vC vF cl fr) (hb : Below w.heap.size w w1) (h1 : ∀ k, wb.heap.size ≤ k → k < w.heap.size → Q' k) (h2 : ∀ k, w1.heap.size ≤ k → Q' k) : ResIn wb w1 gX bP B N A0 c0 L pl Q' vC vF cl fr :=
  ⟨below_step h.b hb, blk_below h.x hb, h.m.block (hb.block _ h.m.lt), Kd.R_mono (Kd.R_below (Kd.R_bound h.c) hb) (fun k hk => ⟨⟨hk.1.1.1, hk.1.1.2.1, h1 k hk.2.1 hk.2.2.1⟩, hk.1.2⟩), Kd.R_mono (Kd.R_below (Kd.R_bound h.f) hb) (fun k hk => ⟨⟨hk.1.1.1, hk.1.1.2.1, h1 k hk.2.1 hk.2.2.1⟩, hk.1.2⟩), h.hi, h2⟩
def Eng.lev (E : Eng) (x : Int) : Int := E.level (varW x)
def absW (x : Int) : Int := if x < 0 then wrap64 (-x) else x
def Eng.whys (F : Eng) : List Int := F.tr.map fun x => F.why (absW x)
def Eng.levs (F : Eng) : List Int := F.tr.map fun x => F.level (absW x)
set_option maxRecDepth 100000 in
theorem learn_First_1.calls (ge : Nat) (E : Eng) (B : Nat) (T : Tag) (p : EngP) (x : Int) (w : World) (hE : EngIn w B T E p) (he : w.cell? ⟨ge, 0, none⟩ = some (.pointer (some ⟨B, 0, none⟩))) (hx : (Lit.int .i64 (varW x)).wf = true) :
    Calls Try.prog 50 #[.int .i64 x, .pointer (some ⟨ge, 0, none⟩)] w fun e w' => e = .returned (.int .i64 (E.lev x)) ∧ Below w.heap.size w w' := by
  have HE := K0 hE
  have HX := K0 hx
  have hv : (if x < wrap64 (-x) then wrap64 (-x) else x) = varW x := rfl
  obtain ⟨v, hv2⟩ : ∃ v, varW x = v := ⟨_, rfl⟩
  unfold Eng.lev
  rw [hv2] at hv HX ⊢
  have A1 := K0 (eng_Level.calls E B T p v w HE.out HX.out)
  clear hE hx hv2
  go_enter Try.func50, Try.ntmps50
  go_wp2_with fail
  refine A1.out.mono ?_
  rintro e' w1 ⟨rfl, hb1⟩
  have HB := K0 hb1
  clear hb1 he A1 hv
  go_wp2
  go_ret
  exact ⟨rfl, HB.out⟩
set_option maxRecDepth 100000 in
theorem learn_First_3.calls (x : Int) (w : World) :
    Calls Try.prog 53 #[.int .i64 x] w fun e w' => e = .returned (.bool true) ∧ Below w.heap.size w w' := by
  go_enter Try.func53, Try.ntmps53
  go_wp2
  go_ret
  exact ⟨rfl, Below.refl _ _⟩
def lvN (E : Eng) (top : Int) : List Int → Nat → Nat
  | [], n => n
  | x :: t, n => lvN E top t (if E.lev x = top then n + 1 else n)
def soF (E : Eng) (top : Int) (cl : List Int) : Bool := (decide (lvN E top cl 0 = 0) && (decide (0 < top) || decide (cl.length = 0))) || (decide (lvN E top cl 0 = 1) && decide (0 < top))
set_option maxRecDepth 100000 in
set_option maxHeartbeats 4000000 in
theorem learn_First_2.calls (ge gl gt : Nat) (top : Int) (E : Eng) (B : Nat) (T : Tag) (p : EngP) (A : Option Addr) (c : Nat) (cl : List Int) (w : World) (hE : EngIn w B T E p) (he : w.cell? ⟨ge, 0, none⟩ = some (.pointer (some ⟨B, 0, none⟩)))
    (hlv : w.cell? ⟨gl, 0, none⟩ = some (.func (.func 50) #[] #[.pointer (some ⟨ge, 0, none⟩)])) (ht : w.cell? ⟨gt, 0, none⟩ = some (.int .i64 top)) (hx : WfC cl) (hC : Kd.C (Kd.int .i64) w A cl.length cl) :
    Calls Try.prog 51 #[.slice A cl.length c, .pointer (some ⟨gl, 0, none⟩), .pointer (some ⟨gt, 0, none⟩)] w fun e w' => e = .returned (.bool (soF E top cl)) ∧ Below w.heap.size w w' := by
  have hbig := hC.2.1
  have HE := K0 hE
  have HC := K0 hC
  have HX := K0 hx
  have HCE := K0 he
  have HCL := K0 hlv
  have HCT := K0 ht
  have HB0 := K0 (Below.refl w.heap.size w)
  have eg : ∀ args w, (callFunc 50 args).run Try.prog w = .ok (.enter 50 args) w := enters_of Try.func50 (by kernel_rfl) rfl
  clear hE hC hx he hlv ht
  go_enter Try.func51, Try.ntmps51
  go_wp2
  go_loopg [5, 7, 10] cl.length (fun gg v5 v7 v10 wr => ∃ (j n : Nat), v10 = .int .i64 (j : Int) ∧ v5 = .int .i64 (n : Int) ∧ Aside0 (j + gg = cl.length) ∧ Aside0 (n ≤ j) ∧ Aside0 (Below w.heap.size w wr) ∧ Aside0 (lvN E top (cl.drop j) n = lvN E top cl 0))
  case atStart => exact ⟨0, 0, rfl, rfl, ⟨by simp⟩, ⟨Nat.le_refl _⟩, HB0, ⟨rfl⟩⟩
  case round =>
    clear HB0
    obtain ⟨j, n, rfl, rfl, hg, HN, HB, HL⟩ := hrel
    by_cases hlt : j < cl.length
    · obtain ⟨ad, e1, x1⟩ := Kd.at_int (Kd.C_below HC.out HB.out) (j : Int) (by omega) (by omega)
      cases e1
      obtain ⟨x, hxx⟩ : ∃ x, cl[j] = x := ⟨_, rfl⟩
      have hrd : rd cl (j : Int) = x := by simp [rd, hlt, hxx]
      rw [hrd] at x1
      simp only [Int.toNat_natCast] at x1
      have hl := HL.out
      rw [List.drop_eq_getElem_cons hlt, hxx, lvN] at hl
      have HWX := K0 (HX.out x (by rw [← hxx]; exact List.getElem_mem hlt))
      have Q0 : ((0 : Int) ≤ (j : Int)) = True := eq_true (by omega)
      have Q1 : ((j : Int) < (cl.length : Int)) = True := eq_true (by omega)
      have Q2 : (j < cl.length) = True := eq_true hlt
      have hd2 : decide ((j : Int) < (cl.length : Int)) = true := decide_eq_true (by omega)
      have HJ := K0 hlt
      have HLL := K0 hl
      clear hxx hrd hl HL
      go_upto_region 5 with fail
      clear x1
      have p0 := (HB.out.cell (World.block_lt_of_cell? w _ HCL.out)).trans HCL.out
      have p1 := (HB.out.cell (World.block_lt_of_cell? w _ HCT.out)).trans HCT.out
      have hlx := HLL.out
      obtain ⟨lv, hlv⟩ : ∃ lv, E.lev x = lv := ⟨_, rfl⟩
      rw [hlv] at hlx
      refine start_ (n := 5) (S := fun w' => w'.cell? ⟨gl, 0, none⟩ = some (.func (.func 50) #[] #[.pointer (some ⟨ge, 0, none⟩)]) ∧ w'.cell? ⟨gt, 0, none⟩ = some (.int .i64 top)) (ds := []) #[false, false, false, false, false] (by kernel_rfl) rfl rfl ⟨p0, p1⟩ (fun hHeld => ?_)
      refine pure_ (i := 1) (N := some 15) (v := ?_) (a' := ?_) #[false, true, false, false, false] rfl rfl (by kernel_rfl) (fun _ _ _ h => h) (Or.inl ⟨by rfl, ?_⟩) ?_ ?_
      rotate_left
      · intro w'
        go_simp
        with_reducible rfl
      rotate_left
      · simp only [Act.put, List.setIfInBounds_toArray, List.set_cons_zero, List.set_cons_succ, i64_w, i32_w]
        rfl
      refine take_ (i := 0) (N := some 14) (v := ?_) (a' := ?_) #[true, true, false, false, false] rfl rfl (by kernel_rfl) (fun _ _ _ h => h) (Or.inl ⟨by rfl, ?_⟩) hHeld ?_ ?_
      rotate_left
      · rintro w' ⟨s0, s1⟩
        go_simp
        with_reducible rfl
      rotate_left
      · simp only [Act.put, List.setIfInBounds_toArray, List.set_cons_zero, List.set_cons_succ, i64_w, i32_w]
        rfl
      refine take_ (i := 3) (N := some 17) (v := ?_) (a' := ?_) #[true, true, false, true, false] rfl rfl (by kernel_rfl) (fun _ _ _ h => h) (Or.inl ⟨by rfl, ?_⟩) hHeld ?_ ?_
      rotate_left
      · rintro w' ⟨s0, s1⟩
        go_simp
        with_reducible rfl
      rotate_left
      · simp only [Act.put, List.setIfInBounds_toArray, List.set_cons_zero, List.set_cons_succ, i64_w, i32_w]
        rfl
      refine one_ (i := 2) (N := some 16) #[true, true, true, true, false] rfl rfl (by kernel_rfl) (by decide) (fun K hK => ?_)
      refine call_ 50 (#[.int .i64 x] ++ #[.pointer (some ⟨ge, 0, none⟩)]) (by rfl) rfl (by unfold execOp; simp [resolve, Deferred.ofValue, invoke, Act.eval, Act.put, eg]) ?_
      refine (learn_First_1.calls ge E B T p x _ (HE.out.below (below_drew HB.out)) (((below_drew HB.out).cell (World.block_lt_of_cell? w _ HCE.out)).trans HCE.out) HWX.out).mono ?_
      rintro e' w5 ⟨rfl, hb5⟩
      refine ⟨_, rfl, ?_⟩
      have HB5 := K0 (below_step (show Below w.heap.size w wr.drew from below_drew HB.out) hb5)
      rw [hlv]
      clear hb5
      refine hK.out _ _ ⟨((HB5.out.cell (World.block_lt_of_cell? w _ HCL.out)).trans HCL.out), ((HB5.out.cell (World.block_lt_of_cell? w _ HCT.out)).trans HCT.out)⟩ (fun hHeld => ?_)
      clear hK K
      refine norm_ (a' := ?_) ?_ ?_
      rotate_left
      · show Act.put _ (some 16) _ = _
        simp only [Act.put, List.setIfInBounds_toArray, List.set_cons_zero, List.set_cons_succ, i64_w, i32_w]
        rfl
      refine pure_ (i := 4) (N := some 18) (v := ?_) (a' := ?_) #[true, true, true, true, true] rfl rfl (by kernel_rfl) (fun _ _ _ h => h) (Or.inl ⟨by rfl, ?_⟩) ?_ ?_
      rotate_left
      · intro w'
        go_simp
        with_reducible rfl
      rotate_left
      · simp only [Act.put, List.setIfInBounds_toArray, List.set_cons_zero, List.set_cons_succ, i64_w, i32_w]
        rfl
      refine done_ (by kernel_rfl) ?_
      have HB6 := K0 (show Below w.heap.size w w5 from HB5.out)
      clear hlv hHeld p0 p1
      by_cases e0 : lv = top
      · rw [if_pos e0] at hlx
        have HL3 := K0 hlx
        have d5 : (lv == top) = true := by rw [e0]; simp
        have PW : wrap64 ((n : Int) + 1) = (n : Int) + 1 := by have := HN.out; have := HJ.out; unfold wrap64; omega
        clear e0 hlx HLL
        go_wp2
        go_roundg (cl.length - (j + 1))
        case measure => have := hg.out; have := HJ.out; omega
        case rel => exact ⟨j + 1, n + 1, by simp, by simp [PW], ⟨by have := hg.out; have := HJ.out; omega⟩, ⟨by have := HN.out; omega⟩, HB6, HL3⟩
      · rw [if_neg e0] at hlx
        have HL3 := K0 hlx
        have d5 : (lv == top) = false := beq_eq_false_iff_ne.2 e0
        clear e0 hlx HLL
        go_wp2
        go_roundg (cl.length - (j + 1))
        case measure => have := hg.out; have := HJ.out; omega
        case rel => exact ⟨j + 1, n, by simp, rfl, ⟨by have := hg.out; have := HJ.out; omega⟩, ⟨by have := HN.out; omega⟩, HB6, HL3⟩
    · have hd2 : decide ((j : Int) < (cl.length : Int)) = false := decide_eq_false (by omega)
      have Q2 : (j < cl.length) = False := eq_false hlt
      have hl := HL.out
      rw [List.drop_of_length_le (by omega), lvN] at hl
      have HNL := K0 hl
      have p0 := (HB.out.cell (World.block_lt_of_cell? w _ HCL.out)).trans HCL.out
      have p1 := (HB.out.cell (World.block_lt_of_cell? w _ HCT.out)).trans HCT.out
      obtain ⟨rs, hrs⟩ : ∃ rs, soF E top cl = rs := ⟨_, rfl⟩
      have HSO := K0 hrs
      unfold soF at hrs
      rw [← hl] at hrs
      have HRS := K0 hrs
      clear hl hlt HL hg HN hrs
      by_cases e0 : n = 0
      · subst e0
        by_cases e1 : 0 < top
        · have d1 : decide (0 < top) = true := decide_eq_true e1
          have hr := HRS.out
          rw [d1] at hr
          have hr2 : rs = true := hr.symm
          subst hr2
          clear hr e1 HRS
          go_wp2
          go_ret
          exact ⟨by rw [HSO.out]; rfl, HB.out⟩
        · have d1 : decide (0 < top) = false := decide_eq_false e1
          by_cases e2 : cl.length = 0
          · have d2 : decide ((cl.length : Int) = 0) = true := decide_eq_true (by omega)
            have d3 : ((cl.length : Int) == 0) = true := by rw [e2]; rfl
            have hr := HRS.out
            rw [d1, decide_eq_true e2] at hr
            have hr2 : rs = true := hr.symm
            subst hr2
            clear hr e1 HRS
            go_wp2
            go_ret
            exact ⟨by rw [HSO.out]; rfl, HB.out⟩
          · have d2 : decide ((cl.length : Int) = 0) = false := decide_eq_false (by omega)
            have d3 : ((cl.length : Int) == 0) = false := beq_eq_false_iff_ne.2 (by omega)
            have hr := HRS.out
            rw [d1, decide_eq_false e2] at hr
            have hr2 : rs = false := hr.symm
            subst hr2
            clear hr e1 HRS
            go_wp2
            go_ret
            exact ⟨by rw [HSO.out]; rfl, HB.out⟩
      · have d0 : ((n : Int) == 0) = false := beq_eq_false_iff_ne.2 (by omega)
        by_cases e1 : n = 1
        · subst e1
          obtain ⟨b, hb⟩ : ∃ b, decide (0 < top) = b := ⟨_, rfl⟩
          have hr := HRS.out
          rw [hb] at hr
          have hr2 : rs = b := hr.symm.trans (by cases b <;> rfl)
          subst hr2
          clear hr HRS
          go_wp2
          go_ret
          exact ⟨by rw [HSO.out, ← hb]; first | rfl | (congr 2; simp) | simp, HB.out⟩
        · have d1 : ((n : Int) == 1) = false := beq_eq_false_iff_ne.2 (by omega)
          have hr := HRS.out
          rw [decide_eq_false e0, decide_eq_false e1] at hr
          have hr2 : rs = false := hr.symm
          subst hr2
          clear hr HRS
          go_wp2
          go_ret
          exact ⟨by rw [HSO.out]; rfl, HB.out⟩
def Eng.wput (E : Eng) (n x : Int) : Eng := { E with wt := fun y => if y = x then E.wt x ++ [n] else E.wt y, ws := E.ws + 1 }
def Eng.layW (E : Eng) (n : Int) (c : List Int) : Eng := c.foldl (fun E x => E.wput n x) E
def Eng.laid (E : Eng) (c : List Int) : Eng := { E.layW (E.cls.length : Int) c with cls := E.cls ++ [c] }
theorem Eng.layW_same (n : Int) : ∀ (c : List Int) (E : Eng), (E.layW n c).cls = E.cls ∧ (E.layW n c).tr = E.tr ∧ (E.layW n c).st = E.st ∧ (E.layW n c).ms = E.ms ∧ (E.layW n c).n = E.n ∧ (E.layW n c).br = E.br ∧ (E.layW n c).ws = E.ws + c.length
  | [], E => ⟨rfl, rfl, rfl, rfl, rfl, rfl, rfl⟩
  | x :: c, E => by
    obtain ⟨h1, h2, h3, h4, h5, h6, h7⟩ := Eng.layW_same n c (E.wput n x)
    exact ⟨h1, h2, h3, h4, h5, h6, by have : (Eng.layW E n (x :: c)).ws = (Eng.layW (E.wput n x) n c).ws := rfl; rw [this, h7]; show E.ws + 1 + c.length = E.ws + (c.length + 1); omega⟩
theorem Eng.layW_snoc (E : Eng) (n : Int) (c : List Int) (x : Int) : E.layW n (c ++ [x]) = (E.layW n c).wput n x := by
  unfold Eng.layW; rw [List.foldl_append]; rfl
set_option maxRecDepth 100000 in
set_option maxHeartbeats 4000000 in
theorem eng_lay.calls (E : Eng) (B : Nat) (T : Tag) (p : EngP) (A0 : Option Addr) (c0 : Nat) (l0 r1 : List Int) (r2 : Bool) (w : World) (h : EngIn w B T E p) (hr0 : Kd.C (Kd.int .i64) w A0 l0.length l0) (hc0 : l0.length ≤ c0) (hcl : lit_Clean.f l0 = some (r1, r2)) (hwf : ∀ x ∈ r1, (Lit.int .i64 x).wf = true) (hws : E.ws + r1.length < 4398046511104) (hcn : E.cls.length + 1 < 5864062014805) :
    Calls Try.prog 36 #[.pointer (some ⟨B, 0, none⟩), .slice A0 l0.length c0] w fun e w' => e = .returned (.tuple #[]) ∧ ∃ T' p', EngIn w' B T' (E.laid r1) p' ∧ Moved T T' w w' := by
  have HE := K0 h; have HWF := K0 hwf; have HSZ := K0 hws; have HCN := K0 hcn
  have HCL := K0 (lit_Clean.calls A0 c0 l0 r1 r2 w hr0 hc0 hcl)
  clear h hwf hws hcn hr0 hcl
  go_enter Try.func36, Try.ntmps36
  go_wp2_with fail
  refine HCL.out.mono ?_
  rintro e' w1 ⟨v0, rfl, hR0, hb0⟩
  obtain ⟨h1, m1, hR1⟩ := HE.out.newrow hb0 hR0
  obtain ⟨T1, hT1⟩ : ∃ T1, retag T w v0 (3, 0) = T1 := ⟨_, rfl⟩
  rw [hT1] at h1 m1 hR1
  obtain ⟨A4, k4, rfl⟩ := Kd.R_slice hR1
  have H1 := K0 h1; have M1 := K0 m1; have R1 := K0 hR1
  have hbig := (Kd.R_reads' hR1).2.2.2.1
  clear h1 m1 hR1 hR0 hb0 HE HCL hT1
  obtain ⟨n, hn⟩ : ∃ n, E.cls.length = n := ⟨_, rfl⟩
  have HN := K0 hn
  go_wp2
  go_loopg [7, 15] r1.length (fun gg _ v15 wr => ∃ (j : Nat) (T1 : Tag) (p1 : EngP), v15 = .int .i64 (j : Int) ∧ Aside0 (j + gg = r1.length) ∧ Aside0 (EngIn wr B T1 (E.layW (n : Int) (r1.take j)) p1) ∧ Aside0 (Moved T T1 w wr) ∧ Aside0 (Kd.R (Kd.int .i64) 3 wr 0 (fun k => T1 k = (3, 0)) (.slice A4 r1.length k4) r1))
  case atStart => exact ⟨0, T1, p, rfl, ⟨by simp⟩, H1, M1, R1⟩
  case round =>
    clear H1 M1 R1
    obtain ⟨j, T1, p1, rfl, hg, HE, HM, HR⟩ := hrel
    obtain ⟨E1, hE1⟩ : ∃ E1, E.layW (n : Int) (r1.take j) = E1 := ⟨_, rfl⟩
    rw [hE1] at HE
    obtain ⟨s1, s2, s3, s4, s5, s6, s7⟩ := E.layW_same (n : Int) (r1.take j)
    rw [hE1] at s1 s7
    have HE1 := K0 hE1
    by_cases hlt : j < r1.length
    case neg =>
      have hd : decide ((j : Int) < (r1.length : Int)) = false := decide_eq_false (by omega)
      have P2 : (j < r1.length) = False := eq_false hlt
      have htk : r1.take j = r1 := List.take_of_length_le (by omega)
      rw [htk] at hE1
      clear s1 s2 s3 s4 s5 s6 s7 HE1
      obtain ⟨s1, s2, s3, s4, s5, s6, s7⟩ := E.layW_same (n : Int) r1
      rw [hE1] at s1 s7
      have c1 := HE.out.cells.2.1
      have f1 := HE.out.cells.2.2.2.2.2.2.2 1
      have HE1 := K0 hE1; have HS1 := K0 s1
      have hcn := HCN.out
      have hl : p1.hs.length + 1 < 5864062014805 := by rw [HE.out.len, s1]; exact hcn
      have HLN := K0 hl; clear s1 s2 s3 s4 s5 s6 s7 hE1 htk hl
      go_wp2_with (at_builtin; refine Kd.R_append kH (w0 := wr) 0 rfl (.tmp 42) (.tmp 44) 22 37 (.slice none 0 0) 24 rfl Try.underlying22 (by kernel_rfl) rfl (by decide) (by decide) p1.vC p1.hs ((A4, r1.length, k4) : Hd) [.slice A4 r1.length k4] (fun k => T1 k = (2, 0) ∨ wr.heap.size ≤ k) (fun _ => False) rfl rfl rfl (fun _ h => h.elim) (fun k hk => .inr hk) (Kd.R_mono HE.out.cls (fun _ hk => .inl hk)) (Below.refl 0 _) (Nat.zero_le _) (by have := HLN.out; omega) ?_; intro v1 w1 rr hb1 hg1 hat1; obtain ⟨A1, k1, e1⟩ := Kd.R_slice rr; rw [List.length_append, List.length_singleton] at e1; subst e1; obtain ⟨c31, f31⟩ : w1.cell? ⟨B, 1, none⟩ = some p1.vC ∧ w1.frozen? ⟨B, 1, none⟩ = false := HE.out.after HE.out.cls.1 (by decide) hg1 1)
      go_end0
      obtain ⟨a1, a2⟩ := HE.out.turn_cls (a := (A4, r1.length, k4)) HR.out rr hg1
      have e : ({ E1 with cls := E1.cls ++ [r1] } : Eng) = E.laid r1 := by
        unfold Eng.laid
        rw [HN.out, HE1.out, HS1.out]
      rw [e] at a1
      exact ⟨rfl, _, _, a1, HM.out.trans a2⟩
    obtain ⟨ad, e1, x1⟩ := Kd.at_int (Kd.R_reads' HR.out).2.2 (j : Int) (by omega) (by omega)
    cases e1
    obtain ⟨y, hy⟩ : ∃ y, r1[j] = y := ⟨_, rfl⟩
    have hrd : rd r1 (j : Int) = y := by simp [rd, hlt, hy]
    rw [hrd] at x1
    simp only [Int.toNat_natCast] at x1
    have HY := K0 (show r1.take (j + 1) = r1.take j ++ [y] by rw [List.take_add_one, List.getElem?_eq_getElem hlt, hy]; rfl)
    have HWF := K0 (HWF.out y (by rw [← hy]; exact List.getElem_mem hlt))
    have hb0 : Below wr.heap.size wr wr.drew := below_drew (Below.refl _ _)
    have hD := HE.out.below hb0
    have hRD := Kd.R_below HR.out hb0
    obtain ⟨A1, k1, e1⟩ := Kd.R_slice hD.cls
    have c2 := hD.cells.2.2.1
    have c1 := hD.cells.2.1
    rw [e1, hD.len, s1, hn] at c1
    have hgr := hD.grp y
    obtain ⟨Ag, kg, eg⟩ := Kd.R_slice hgr
    have cq := hD.wt.look Try.underlying3 Try.underlying68 (zero_rowL wr.drew) HWF.out
    rw [eg] at cq hgr
    have hws := hD.wsz y
    obtain ⟨ws, hws0⟩ : ∃ ws, E1.wt y = ws := ⟨_, rfl⟩
    rw [hws0] at cq hgr hws
    obtain ⟨N1, hN1⟩ : ∃ N1 : Nat, n = N1 := ⟨_, rfl⟩
    rw [hN1] at c1
    obtain ⟨L, hL, hLl⟩ := hD.cov
    have hsz := HSZ.out
    have htl : (r1.take j).length ≤ j := List.length_take_le _ _
    have HWS := K0 (show ws.length < 4398046511104 by omega)
    have hLn : L.length < 4398046511104 := by omega
    have haft : ∀ w1, wr.drew.grownBy w1 (Value.slice Ag ws.length kg).ownBlock → w1.cell? ⟨B, 2, none⟩ = some (.map (some p1.bw)) ∧ w1.cell? ⟨B, 1, none⟩ = some (.slice A1 N1 k1) ∧ (Instr.lookup 68 (.map (some p1.bw)) (.int .i64 y) false).run Try.prog w1 = .ok (.slice Ag ws.length kg) w1 ∧ MapI Try.prog 3 w1 p1.bw p1.fw := fun w1 hg1 => by
      have hv := hgr.1
      have a2 := hD.after hv (tag_ne (by decide) _ _) hg1 2
      have a1 := hD.after hv (tag_ne (by decide) _ _) hg1 1
      have hM : MapI Try.prog 3 w1 p1.bw p1.fw := hD.wt.block (hg1.block _ hD.wt.lt (fun e => by have this : T1 p1.bw = (8, y) := hv _ e.symm; rw [hD.tW] at this; exact absurd (congrArg Prod.fst this) (show (7 : Int) ≠ 8 by decide)))
      refine ⟨a2.1, ?_, ?_, hM⟩
      · rw [a1.1]
        show some p1.vC = _
        rw [e1, hD.len, s1, hn, hN1]
      · have := hM.look Try.underlying3 Try.underlying68 (zero_rowL w1) HWF.out
        rw [this, eg, hws0]
    have hba : Below wr.drew.heap.size wr.drew (wr.drew.alloc (.cells #[.int .i64 (N1 : Int)] 3)) := below_alloc (Below.refl _ _) _
    have d2 := pw_cell_below hba c2
    have d1 := pw_cell_below hba c1
    have dq : (Instr.lookup 68 (.map (some p1.bw)) (.int .i64 y) false).run Try.prog (wr.drew.alloc (.cells #[.int .i64 (N1 : Int)] 3)) = .ok (.slice Ag ws.length kg) (wr.drew.alloc (.cells #[.int .i64 (N1 : Int)] 3)) := by
      have := (hD.below hba).wt.look Try.underlying3 Try.underlying68 (zero_rowL _) HWF.out
      rw [this, eg, hws0]
    have HAFT := K0 haft; have HD := K0 hD; have HG := K0 hgr; have HRD := K0 hRD
    have HMD := K0 (HM.out.trans (Moved.of_below hb0))
    have HEG := K0 eg; have HW0 := K0 hws0; have HN1 := K0 hN1
    have P0 : ((0 : Int) ≤ (j : Int)) = True := eq_true (by omega)
    have P1 : ((j : Int) < (r1.length : Int)) = True := eq_true (by omega)
    have P2 : (j < r1.length) = True := eq_true hlt
    have hd : decide ((j : Int) < (r1.length : Int)) = true := decide_eq_true (by omega)
    clear haft hD hgr hRD eg hws0 hN1 hy hrd hba hb0 e1 hws s1 s2 s3 s4 s5 s6 s7 hE1 HE HM HR; have HL := K0 hL; clear hL
    go_wp2
    refine start_ (n := 19) (S := fun w' => w'.cell? ⟨B, 2, none⟩ = some (.map (some p1.bw)) ∧ w'.cell? ⟨B, 1, none⟩ = some (.slice A1 N1 k1) ∧ (Instr.lookup 68 (.map (some p1.bw)) (.int .i64 y) false).run Try.prog w' = .ok (.slice Ag ws.length kg) w') (ds := [18]) #[false, false, false, false, false, false, false, false, false, false, false, false, false, false, false, false, false, false, false] (by kernel_rfl) rfl rfl ⟨c2, c1, cq⟩ (fun hHeld => ?_)
    refine pure_ (i := 0) (N := some 19) (v := ?_) (a' := ?_) #[true, false, false, false, false, false, false, false, false, false, false, false, false, false, false, false, false, false, false] rfl rfl (by kernel_rfl) (fun _ _ _ h => h) (Or.inl ⟨by rfl, ?_⟩) ?_ ?_
    rotate_left
    · intro w'
      go_simp
      with_reducible rfl
    rotate_left
    · simp only [Act.put, List.setIfInBounds_toArray, List.set_cons_zero, List.set_cons_succ, i64_w, i32_w]
      rfl
    refine pure_ (i := 1) (N := some 20) (v := ?_) (a' := ?_) #[true, true, false, false, false, false, false, false, false, false, false, false, false, false, false, false, false, false, false] rfl rfl (by kernel_rfl) (fun _ _ _ h => h) (Or.inl ⟨by rfl, ?_⟩) ?_ ?_
    rotate_left
    · intro w'
      go_simp
      with_reducible rfl
    rotate_left
    · simp only [Act.put, List.setIfInBounds_toArray, List.set_cons_zero, List.set_cons_succ, i64_w, i32_w]
      rfl
    refine pure_ (i := 2) (N := some 21) (v := ?_) (a' := ?_) #[true, true, true, false, false, false, false, false, false, false, false, false, false, false, false, false, false, false, false] rfl rfl (by kernel_rfl) (fun _ _ _ h => h) (Or.inl ⟨by rfl, ?_⟩) ?_ ?_
    rotate_left
    · intro w'
      go_simp
      with_reducible rfl
    rotate_left
    · simp only [Act.put, List.setIfInBounds_toArray, List.set_cons_zero, List.set_cons_succ, i64_w, i32_w]
      rfl
    refine pure_ (i := 4) (N := some 23) (v := ?_) (a' := ?_) #[true, true, true, false, true, false, false, false, false, false, false, false, false, false, false, false, false, false, false] rfl rfl (by kernel_rfl) (fun _ _ _ h => h) (Or.inl ⟨by rfl, ?_⟩) ?_ ?_
    rotate_left
    · intro w'
      go_simp
      with_reducible rfl
    rotate_left
    · simp only [Act.put, List.setIfInBounds_toArray, List.set_cons_zero, List.set_cons_succ, i64_w, i32_w]
      rfl
    refine pure_ (i := 5) (N := some 24) (v := ?_) (a' := ?_) #[true, true, true, false, true, true, false, false, false, false, false, false, false, false, false, false, false, false, false] rfl rfl (by kernel_rfl) (fun _ _ _ h => h) (Or.inl ⟨by rfl, ?_⟩) ?_ ?_
    rotate_left
    · intro w'
      go_simp
      with_reducible rfl
    rotate_left
    · simp only [Act.put, List.setIfInBounds_toArray, List.set_cons_zero, List.set_cons_succ, i64_w, i32_w]
      rfl
    refine pure_ (i := 6) (N := some 25) (v := ?_) (a' := ?_) #[true, true, true, false, true, true, true, false, false, false, false, false, false, false, false, false, false, false, false] rfl rfl (by kernel_rfl) (fun _ _ _ h => h) (Or.inl ⟨by rfl, ?_⟩) ?_ ?_
    rotate_left
    · intro w'
      go_simp
      with_reducible rfl
    rotate_left
    · simp only [Act.put, List.setIfInBounds_toArray, List.set_cons_zero, List.set_cons_succ, i64_w, i32_w]
      rfl
    refine pure_ (i := 7) (N := some 26) (v := ?_) (a' := ?_) #[true, true, true, false, true, true, true, true, false, false, false, false, false, false, false, false, false, false, false] rfl rfl (by kernel_rfl) (fun _ _ _ h => h) (Or.inl ⟨by rfl, ?_⟩) ?_ ?_
    rotate_left
    · intro w'
      go_simp
      with_reducible rfl
    rotate_left
    · simp only [Act.put, List.setIfInBounds_toArray, List.set_cons_zero, List.set_cons_succ, i64_w, i32_w]
      rfl
    refine pure_ (i := 9) (N := some 28) (v := ?_) (a' := ?_) #[true, true, true, false, true, true, true, true, false, true, false, false, false, false, false, false, false, false, false] rfl rfl (by kernel_rfl) (fun _ _ _ h => h) (Or.inl ⟨by rfl, ?_⟩) ?_ ?_
    rotate_left
    · intro w'
      go_simp
      with_reducible rfl
    rotate_left
    · simp only [Act.put, List.setIfInBounds_toArray, List.set_cons_zero, List.set_cons_succ, i64_w, i32_w]
      rfl
    refine pure_ (i := 11) (N := some 30) (v := ?_) (a' := ?_) #[true, true, true, false, true, true, true, true, false, true, false, true, false, false, false, false, false, false, false] rfl rfl (by kernel_rfl) (fun _ _ _ h => h) (Or.inl ⟨by rfl, ?_⟩) ?_ ?_
    rotate_left
    · intro w'
      go_simp
      with_reducible rfl
    rotate_left
    · simp only [Act.put, List.setIfInBounds_toArray, List.set_cons_zero, List.set_cons_succ, i64_w, i32_w]
      rfl
    refine pure_ (i := 12) (N := some 31) (v := ?_) (a' := ?_) #[true, true, true, false, true, true, true, true, false, true, false, true, true, false, false, false, false, false, false] rfl rfl (by kernel_rfl) (fun _ _ _ h => h) (Or.inl ⟨by rfl, ?_⟩) ?_ ?_
    rotate_left
    · intro w'
      go_simp
      with_reducible rfl
    rotate_left
    · simp only [Act.put, List.setIfInBounds_toArray, List.set_cons_zero, List.set_cons_succ, i64_w, i32_w]
      rfl
    refine pure_ (i := 13) (N := some 32) (v := ?_) (a' := ?_) #[true, true, true, false, true, true, true, true, false, true, false, true, true, true, false, false, false, false, false] rfl rfl (by kernel_rfl) (fun _ _ _ h => h) (Or.inl ⟨by rfl, ?_⟩) ?_ ?_
    rotate_left
    · intro w'
      go_simp
      with_reducible rfl
    rotate_left
    · simp only [Act.put, List.setIfInBounds_toArray, List.set_cons_zero, List.set_cons_succ, i64_w, i32_w]
      rfl
    refine take_ (i := 3) (N := some 22) (v := ?_) (a' := ?_) #[true, true, true, true, true, true, true, true, false, true, false, true, true, true, false, false, false, false, false] rfl rfl (by kernel_rfl) (fun _ _ _ h => h) (Or.inl ⟨by rfl, ?_⟩) hHeld ?_ ?_
    rotate_left
    · rintro w' ⟨s0, s1, s2⟩
      go_simp
      with_reducible rfl
    rotate_left
    · simp only [Act.put, List.setIfInBounds_toArray, List.set_cons_zero, List.set_cons_succ, i64_w, i32_w]
      rfl
    refine take_ (i := 8) (N := some 27) (v := ?_) (a' := ?_) #[true, true, true, true, true, true, true, true, true, true, false, true, true, true, false, false, false, false, false] rfl rfl (by kernel_rfl) (fun _ _ _ h => h) (Or.inl ⟨by rfl, ?_⟩) hHeld ?_ ?_
    rotate_left
    · rintro w' ⟨s0, s1, s2⟩
      go_simp
      with_reducible rfl
    rotate_left
    · simp only [Act.put, List.setIfInBounds_toArray, List.set_cons_zero, List.set_cons_succ, i64_w, i32_w]
      rfl
    refine take_ (i := 10) (N := some 29) (v := ?_) (a' := ?_) #[true, true, true, true, true, true, true, true, true, true, true, true, true, true, false, false, false, false, false] rfl rfl (by kernel_rfl) (fun _ _ _ h => h) (Or.inl ⟨by rfl, ?_⟩) hHeld ?_ ?_
    rotate_left
    · rintro w' ⟨s0, s1, s2⟩
      go_simp
      with_reducible rfl
    rotate_left
    · simp only [Act.put, List.setIfInBounds_toArray, List.set_cons_zero, List.set_cons_succ, i64_w, i32_w]
      rfl
    refine take_ (i := 14) (N := some 33) (v := ?_) (a' := ?_) #[true, true, true, true, true, true, true, true, true, true, true, true, true, true, true, false, false, false, false] rfl rfl (by kernel_rfl) (fun _ _ _ h => h) (Or.inl ⟨by rfl, ?_⟩) hHeld ?_ ?_
    rotate_left
    · rintro w' ⟨s0, s1, s2⟩
      go_simp
      with_reducible rfl
    rotate_left
    · simp only [Act.put, List.setIfInBounds_toArray, List.set_cons_zero, List.set_cons_succ, i64_w, i32_w]
      rfl
    refine pure_ (i := 15) (N := some 34) (v := ?_) (a' := ?_) #[true, true, true, true, true, true, true, true, true, true, true, true, true, true, true, true, false, false, false] rfl rfl (by kernel_rfl) (fun _ _ _ h => h) (Or.inl ⟨by rfl, ?_⟩) ?_ ?_
    rotate_left
    · intro w'
      go_simp
      with_reducible rfl
    rotate_left
    · simp only [Act.put, List.setIfInBounds_toArray, List.set_cons_zero, List.set_cons_succ, i64_w, i32_w]
      rfl
    refine one_ (i := 16) (N := some 35) #[true, true, true, true, true, true, true, true, true, true, true, true, true, true, true, true, true, false, false] rfl rfl (by kernel_rfl) (by decide) (fun K hK => ?_)
    refine value_ (w1 := ?_) (v := ?_) (by rfl) rfl ?_ ?_
    rotate_left 2
    · go_simp
      constructor
      · rfl
      rfl
    refine hK.out _ _ ⟨d2, d1, dq⟩ (fun hHeld => ?_)
    clear hK K
    refine norm_ (a' := ?_) ?_ ?_
    rotate_left
    · show Act.put _ (some 35) _ = _
      simp only [Act.put, List.setIfInBounds_toArray, List.set_cons_zero, List.set_cons_succ, i64_w, i32_w]
      rfl
    refine one_ (i := 17) (N := some 36) #[true, true, true, true, true, true, true, true, true, true, true, true, true, true, true, true, true, true, false] rfl rfl (by kernel_rfl) (by decide) (fun K hK => ?_)
    refine Kd.R_append_step (Kd.int .i64) (w0 := wr.drew) (W := wr.drew) 0 (by rfl) (.tmp 29) (.tmp 35) 37 3 (.int .i64 0) 8 rfl Try.underlying37 (by kernel_rfl) rfl (by decide) (by decide) (.slice Ag ws.length kg) ws (N1 : Int) [.int .i64 (N1 : Int)] (fun k => T1 k = (8, y) ∨ wr.drew.heap.size ≤ k) (fun _ => False) (by rfl) (by rfl) rfl (fun _ h => h.elim) (fun k hk => .inr hk) (Kd.R_mono HG.out (fun _ hk => .inl hk)) (Below.refl 0 _) (Nat.zero_le _) (by have := HWS.out; omega) ?_
    intro v1 w1 r1' hb1 hg1 hat1
    obtain ⟨f2, f1, fq, hMw⟩ := HAFT.out w1 hg1
    refine hK.out _ _ ⟨f2, f1, fq⟩ (fun hHeld => ?_)
    clear hK K
    refine norm_ (a' := ?_) ?_ ?_
    rotate_left
    · show Act.put _ (some 36) _ = _
      simp only [Act.put, List.setIfInBounds_toArray, List.set_cons_zero, List.set_cons_succ, i64_w, i32_w]
      rfl
    refine last_ (i := 18) (N := none) #[true, true, true, true, true, true, true, true, true, true, true, true, true, true, true, true, true, true, true] rfl rfl (by kernel_rfl) (by decide) (fun K hK => ?_)
    refine step_store_I (by rfl) (.tmp 22) (.tmp 23) (.tmp 36) 68 rfl 3 37 Try.underlying3 Try.underlying68 p1.bw p1.fw (by rfl) hMw y v1 (by rfl) (by rfl) HWF.out L HL.out (by omega) ?_
    intro w2 hM2 hg2
    refine hK.out _ _ ?_
    clear hK K
    refine done_ (by kernel_rfl) ?_
    have hgw : wr.drew.grownBy w1 ((p1.fw y).getD (.slice none 0 0)).ownBlock := by rw [HEG.out, HW0.out]; exact hg1
    obtain ⟨T2, p2, h2, m2, hk2⟩ : ∃ T2 p2, EngIn w2 B T2 { E1 with wt := fun y' => if y' = y then ws ++ [(N1 : Int)] else E1.wt y', ws := E1.ws + 1 } p2 ∧ Moved T1 T2 wr.drew w2 ∧ (∀ {v : Value} {zs : List Int}, Kd.R (Kd.int .i64) 3 wr.drew 0 (fun k => T1 k = (3, 0)) v zs → Kd.R (Kd.int .i64) 3 w2 0 (fun k => T2 k = (3, 0)) v zs) := ⟨_, _, HD.out.turn_wt r1' hgw hM2 hg2 (by have := HD.out.wsz y; rw [HW0.out] at this; simp; omega)⟩
    have H2 := K0 h2
    have M2 := K0 (HMD.out.trans m2)
    have R2 := K0 (hk2 HRD.out)
    clear h2 m2 hk2 r1' hgw hM2 hg2 hg1 hb1 hat1 hMw f2 f1 fq
    go_wp2
    go_roundg (r1.length - (j + 1))
    case measure => have := hg.out; omega
    case rel =>
      refine ⟨j + 1, T2, p2, by simp, ⟨by have := hg.out; omega⟩, ?_, M2, R2⟩
      have h := H2.out
      rw [HY.out, Eng.layW_snoc, HE1.out]
      refine ⟨?_⟩
      unfold Eng.wput
      rw [HW0.out, HN1.out]
      exact h
theorem Eng.laid_same (E : Eng) (c : List Int) : (E.laid c).br = E.br ∧ (E.laid c).tr = E.tr ∧ (E.laid c).cls = E.cls ++ [c] ∧ (E.laid c).st = E.st ∧ (E.laid c).n = E.n ∧ (E.laid c).ms = E.ms ∧ (E.laid c).ws = E.ws + c.length := by
  obtain ⟨h1, h2, h3, h4, h5, h6, h7⟩ := E.layW_same (E.cls.length : Int) c
  exact ⟨h6, h2, rfl, h3, h5, h4, h7⟩
theorem Eng.laid_lits {E : Eng} {c : List Int} (h : E.Lits) (hc : ∀ x ∈ c, (Lit.int .i64 x).wf = true) : (E.laid c).Lits := fun d hd => by
  rw [(E.laid_same c).2.2.1] at hd
  rcases List.mem_append.1 hd with hd | hd
  · exact h d hd
  rw [List.mem_singleton.1 hd]; exact hc
def Eng.fresh (n : Int) : Eng := ⟨n, [], fun _ => [], 0, [], fun _ => none, [], -1⟩
def Eng.lays : List (List Int) → Eng → Option Eng
  | [], E => some E
  | c :: l, E => (lit_Clean.f c).bind fun r => if E.ws + r.1.length < 4398046511104 ∧ E.cls.length + 1 < 5864062014805 then Eng.lays l (E.laid r.1) else none
def Eng.new (k : Nat) (n : Int) (l : List (List Int)) : Option (Eng × Int) :=
  (cnf_Right.f k n l).bind fun r => if r.2 ≠ 0 then some (Eng.fresh n, r.2) else (Eng.lays l (Eng.fresh n)).bind fun E => (Eng.settle k E).bind fun E2 => some (E2, 0)
def NewPost (E : Eng) (B : Nat) (w w' : World) : Prop := ∃ T p, EngIn w' B T E p ∧ Below w.heap.size w w' ∧ ∀ k, k < w.heap.size → T k = (0, 0)
def newT (B : Nat) : Tag := fun k => if k = B then (1, 0) else if k + 1 = B then (6, 0) else if k + 2 = B then (7, 0) else (0, 0)
theorem EngIn.new {W W' : World} (n : Int) (hb : Below (W.heap.size + 2) ((W.alloc (.map #[] 0)).alloc (.map #[] 0)) W') (hx : W'.heap[W.heap.size + 2]? = some (.cells #[.int .i64 n, .slice none 0 0, .map (some W.heap.size), .slice none 0 0, .map (some (W.heap.size + 1)), .slice none 0 0, .int .i64 (-1)] 71 (0, 0))) :
    EngIn W' (W.heap.size + 2) (newT (W.heap.size + 2)) (Eng.fresh n) ⟨.slice none 0 0, [], .slice none 0 0, .slice none 0 0, W.heap.size, W.heap.size + 1, fun _ => none⟩ := by
  have hlt := blk_lt hx
  have m1 : MapI Try.prog 3 W' W.heap.size (fun _ => none) := by
    have h0 := MapI.made W Try.prog 3
    have h1 := h0.block (w' := (W.alloc (.map #[] 0)).alloc (.map #[] 0)) ((below_alloc (Below.refl _ _) _).block _ h0.lt)
    exact h1.block (hb.block _ (by have := h0.lt; omega))
  have m2 : MapI Try.prog 3 W' (W.heap.size + 1) (fun _ => none) := by
    have h0 := MapI.made (W.alloc (.map #[] 0)) Try.prog 3
    have e1 : (W.alloc (.map #[] 0)).heap.size = W.heap.size + 1 := by simp
    rw [e1] at h0
    exact h0.block (hb.block _ (by omega))
  have t2 : newT (W.heap.size + 2) (W.heap.size + 1) = (6, 0) := by unfold newT; rw [if_neg (by omega), if_pos (by omega)]
  have t3 : newT (W.heap.size + 2) W.heap.size = (7, 0) := by unfold newT; rw [if_neg (by omega), if_neg (by omega), if_pos rfl]
  exact { fresh := fun k hk => by unfold newT; rw [if_neg (by omega), if_neg (by omega), if_neg (by omega)], blk := hx, tB := by unfold newT; rw [if_pos rfl], cls := Kd.R_nil _ _ _ _ _, len := rfl, rows := fun i a c ha => by simp at ha, tr := Kd.R_nil _ _ _ _ _, st := Kd.R_nil _ _ _ _ _, ms := m2, tM := t2, mst := fun x hx => by simp [Eng.fresh] at hx, wt := m1, tW := t3, grp := fun x => Kd.R_nil _ _ _ _ _, cov := ⟨[], fun x hx => by simp at hx, by simp [Eng.fresh]⟩, wsz := fun x => by simp [Eng.fresh] }
set_option maxRecDepth 100000 in
set_option maxHeartbeats 4000000 in
theorem eng_New.calls (k : Nat) (n : Int) (A0 : Option Addr) (c0 : Nat) (l0 : List (List Int)) (E2 : Eng) (w : World) (hr0 : Kd.C (Kd.slice 3 (Kd.int .i64)) w A0 l0.length l0) (hc0 : l0.length ≤ c0) (hwf : ∀ c ∈ l0, ∀ r, lit_Clean.f c = some r → ∀ x ∈ r.1, (Lit.int .i64 x).wf = true) (hf : Eng.new k n l0 = some (E2, 0)) :
    Calls Try.prog 10 #[.agg #[.int .i64 n, .slice A0 l0.length c0]] w fun e w' => ∃ B, e = .returned (.tuple #[.pointer (some ⟨B, 0, none⟩), .int .i64 0]) ∧ NewPost E2 B w w' := by
  unfold Eng.new at hf
  obtain ⟨⟨ra, re⟩, hcr, hf⟩ := Option.bind_eq_some_iff.mp hf
  have hre : re = 0 := by
    by_cases h : re = 0
    · exact h
    · replace hf : (if re ≠ 0 then some (Eng.fresh n, re) else (Eng.lays l0 (Eng.fresh n)).bind fun E => (Eng.settle k E).bind fun E2 => some (E2, 0)) = some (E2, (0 : Int)) := hf
      rw [if_pos h] at hf
      simp only [Option.some.injEq, Prod.mk.injEq] at hf
      exact hf.2
  subst hre
  replace hf : ((Eng.lays l0 (Eng.fresh n)).bind fun E => (Eng.settle k E).bind fun E2 => some (E2, 0)) = some (E2, (0 : Int)) := hf
  obtain ⟨E3, hl, hf⟩ := Option.bind_eq_some_iff.mp hf
  obtain ⟨E4, hs, hf⟩ := Option.bind_eq_some_iff.mp hf
  simp only [Option.some.injEq, Prod.mk.injEq] at hf
  obtain ⟨rfl, -⟩ := hf
  have HR := K0 hr0
  have HC := K0 hc0
  have HWF := K0 hwf
  have HL := K0 hl
  have HS := K0 hs
  have HCR := K0 hcr
  have hu24 := Try.underlying24
  have hu93 := Try.underlying71
  clear hr0 hc0 hwf hl hs hcr
  have HB := K0 (Below.refl w.heap.size w)
  go_enter Try.func10, Try.ntmps10
  go_upto_region 1 with (first | ((with_reducible refine gate_dst (N := 1) rfl ?_); refine box_event ?hg (N := 1) ?hd (cs := #[.int .i64 n, .slice A0 l0.length c0]) (t := 24) ?hr ?_; (case hd => rfl); (case hg => rfl); (case hr => first | (go_simp; done) | (go_simp; rfl)); intro gb108 hg w3 hbox hb; have n0_ := K0 (below_step HB.out hb); have BK := K0 hbox; have GE := K0 (by rw [hg]; exact (below_size HB.out) : w.heap.size ≤ gb108); clear HB; have HB := n0_; clear n0_; clear hb hbox hg))
  (try simp only [Act.put, List.setIfInBounds_toArray, List.set_cons_zero, List.set_cons_succ])
  have cb0 : w3.cell? ⟨gb108, 0, none⟩ = some (.int .i64 n) := (blk_cell BK.out 0).trans rfl
  have cb1 : w3.cell? ⟨gb108, 1, none⟩ = some (.slice A0 l0.length c0) := (blk_cell BK.out 1).trans rfl
  have HCALL := K0 (cnf_Right.calls k n A0 c0 l0 ra 0 w3 (Kd.C_below HR.out HB.out) HC.out HCR.out)
  go_wp2_with fail
  refine HCALL.out.mono ?_
  rintro e' w1 ⟨rfl, hb1⟩
  have BK1 := K0 (blk_below BK.out hb1)
  have HB1 := K0 (below_step HB.out hb1)
  clear hb1 HCALL BK HB cb0 cb1
  have cb0 : w1.cell? ⟨gb108, 0, none⟩ = some (.int .i64 n) := (blk_cell BK1.out 0).trans rfl
  have cb1 : w1.cell? ⟨gb108, 1, none⟩ = some (.slice A0 l0.length c0) := (blk_cell BK1.out 1).trans rfl
  have hmm := @run_makeMap Try.prog
  have e2 : ((w1.alloc (.map #[] 0)).alloc (.map #[] 0)).heap.size = w1.heap.size + 1 + 1 := by simp
  have hx := blk_new ((w1.alloc (.map #[] 0)).alloc (.map #[] 0)) (.cells #[.int .i64 n, .slice none 0 0, .map (some w1.heap.size), .slice none 0 0, .map (some (w1.heap.size + 1)), .slice none 0 0, .int .i64 (-1)] 71)
  rw [e2] at hx
  obtain ⟨W4, hW4⟩ : ∃ W4, ((w1.alloc (.map #[] 0)).alloc (.map #[] 0)).alloc (.cells #[.int .i64 n, .slice none 0 0, .map (some w1.heap.size), .slice none 0 0, .map (some (w1.heap.size + 1)), .slice none 0 0, .int .i64 (-1)] 71) = W4 := ⟨_, rfl⟩
  have hb4 : Below w1.heap.size w1 W4 := by rw [← hW4]; exact below_alloc (below_alloc (below_alloc (Below.refl _ _) _) _) _
  have hb3 : Below (w1.heap.size + 2) ((w1.alloc (.map #[] 0)).alloc (.map #[] 0)) W4 := by
    have := below_alloc (Below.refl ((w1.alloc (.map #[] 0)).alloc (.map #[] 0)).heap.size ((w1.alloc (.map #[] 0)).alloc (.map #[] 0))) (.cells #[.int .i64 n, .slice none 0 0, .map (some w1.heap.size), .slice none 0 0, .map (some (w1.heap.size + 1)), .slice none 0 0, .int .i64 (-1)] 71)
    rw [e2, hW4] at this
    exact this
  rw [hW4] at hx
  have cb2 := (blk_cell (blk_below BK1.out hb4) 1).trans rfl
  rw [← hW4] at cb2
  have H0 := K0 (EngIn.new n hb3 hx)
  have HB4 := K0 (below_step HB1.out hb4)
  have T0 : Aside0 (∀ k, k < w.heap.size → newT (w1.heap.size + 2) k = (0, 0)) := ⟨fun k hk => by
    have := HB1.out.size
    unfold newT
    rw [if_neg (by omega), if_neg (by omega), if_neg (by omega)]⟩
  rw [← hW4] at H0 HB4
  clear hx hb3 hb4 e2 hW4
  have hbig : l0.length ≤ 9223372036854775807 := HR.out.2.1
  go_wp2
  go_loopg [8, 26] l0.length (fun gg _ v26 wr => ∃ (j : Nat) (E1 : Eng) (T1 : Tag) (p1 : EngP), v26 = .int .i64 (j : Int) ∧ Aside0 (j + gg = l0.length) ∧ Aside0 (EngIn wr (w1.heap.size + 1 + 1) T1 E1 p1) ∧ Aside0 (Below w.heap.size w wr) ∧ Aside0 (∀ k, k < w.heap.size → T1 k = (0, 0)) ∧ Aside0 E1.Lits ∧ Aside0 (Eng.lays (l0.drop j) E1 = some E3))
  case atStart => exact ⟨0, _, _, _, rfl, ⟨by simp⟩, H0, HB4, T0, ⟨fun c hc => by simp [Eng.fresh] at hc⟩, HL⟩
  case round =>
    clear H0 HB4 T0 HL cb0 cb1 cb2 hmm
    obtain ⟨j, E1, T1, p1, rfl, hg, HE, HBw, HT, HLI, HLY⟩ := hrel
    by_cases hlt : j < l0.length
    · obtain ⟨c, hc⟩ : ∃ c, l0[j] = c := ⟨_, rfl⟩
      have hrd : rd_L3 l0 (j : Int) = c := by unfold rd_L3; rw [Int.toNat_natCast, List.getD_eq_getElem?_getD, List.getElem?_eq_getElem hlt, hc]; rfl
      have hly := HLY.out
      rw [List.drop_eq_getElem_cons hlt, hc] at hly
      replace hly : ((lit_Clean.f c).bind fun r => if E1.ws + r.1.length < 4398046511104 ∧ E1.cls.length + 1 < 5864062014805 then Eng.lays (l0.drop (j + 1)) (E1.laid r.1) else none) = some E3 := hly
      obtain ⟨⟨q1, q2⟩, hcl, hly⟩ := Option.bind_eq_some_iff.mp hly
      replace hly : (if E1.ws + q1.length < 4398046511104 ∧ E1.cls.length + 1 < 5864062014805 then Eng.lays (l0.drop (j + 1)) (E1.laid q1) else none) = some E3 := hly
      by_cases hq : E1.ws + q1.length < 4398046511104 ∧ E1.cls.length + 1 < 5864062014805
      · rw [if_pos hq] at hly
        obtain ⟨ad, A1, c1, e1, x1, l1, i1⟩ := at_L3 HR.out (j : Int) (by omega) (by omega)
        cases e1
        rw [hrd] at x1 l1 i1
        have x2 := (HBw.out.cell (World.block_lt_of_cell? w _ x1)).trans x1
        simp only [Int.toNat_natCast] at x2
        have hwfc := HWF.out c (by rw [← hc]; exact List.getElem_mem hlt) (q1, q2) hcl
        have HCALL := K0 (eng_lay.calls E1 _ T1 p1 A1 c1 c q1 q2 wr HE.out (Kd.C_below i1 HBw.out) l1 hcl hwfc hq.1 hq.2)
        have P0 : ((0 : Int) ≤ (j : Int)) = True := eq_true (by omega)
        have P1 : ((j : Int) < (l0.length : Int)) = True := eq_true (by omega)
        have P2 : (j < l0.length) = True := eq_true hlt
        have hd : decide ((j : Int) < (l0.length : Int)) = true := decide_eq_true (by omega)
        have HLY2 := K0 hly
        have HLI2 := K0 (Eng.laid_lits HLI.out hwfc)
        clear hly hq x1 l1 i1 hrd hwfc hcl hc HLY
        go_wp2_with fail
        refine HCALL.out.mono ?_
        rintro e' w5 ⟨rfl, T5, p5, h5, m5⟩
        have H5 := K0 h5
        have HB5 := K0 (Below.trans HBw.out (m5.below _ HBw.out.size HT.out))
        have HT5 := K0 (show ∀ k, k < w.heap.size → T5 k = (0, 0) from fun k hk => ((m5.old k (Nat.lt_of_lt_of_le hk HBw.out.size)).1.trans (HT.out k hk)))
        clear h5 m5 HCALL x2
        go_wp2
        go_roundg (l0.length - (j + 1))
        case measure => have := hg.out; omega
        case rel => exact ⟨j + 1, _, T5, p5, by simp, ⟨by have := hg.out; omega⟩, H5, HB5, HT5, HLI2, HLY2⟩
      · rw [if_neg hq] at hly; cases hly
    · have hj : l0.drop j = [] := List.drop_eq_nil_of_le (by omega)
      have hly := HLY.out
      rw [hj] at hly
      have hE : E1 = E3 := Option.some.inj hly
      have HCALL := K0 (eng_settle.calls k E1 _ T1 p1 E4 wr HE.out HLI.out (by rw [hE]; exact HS.out))
      have hd : decide ((j : Int) < (l0.length : Int)) = false := decide_eq_false (by omega)
      have P2 : (j < l0.length) = False := eq_false hlt
      clear hly hj HLY hE
      go_wp2_with fail
      refine HCALL.out.mono ?_
      rintro e' w5 ⟨rfl, T5, p5, h5, m5, f5⟩
      have H5 := K0 h5
      have HB5 := K0 (Below.trans HBw.out (m5.below _ HBw.out.size HT.out))
      have HT5 := K0 (show ∀ k, k < w.heap.size → T5 k = (0, 0) from fun k hk => ((m5.old k (Nat.lt_of_lt_of_le hk HBw.out.size)).1.trans (HT.out k hk)))
      clear h5 m5 f5 HCALL
      go_wp2
      go_ret2
      exact ⟨_, rfl, T5, p5, H5.out, HB5.out, HT5.out⟩
set_option maxRecDepth 100000 in
set_option maxHeartbeats 2000000 in
theorem eng_New.fails (k : Nat) (n : Int) (A0 : Option Addr) (c0 : Nat) (l0 : List (List Int)) (ra re : Int) (w : World) (hr0 : Kd.C (Kd.slice 3 (Kd.int .i64)) w A0 l0.length l0) (hc0 : l0.length ≤ c0) (hcr : cnf_Right.f k n l0 = some (ra, re)) (hre : re ≠ 0) :
    Calls Try.prog 10 #[.agg #[.int .i64 n, .slice A0 l0.length c0]] w fun e w' => e = .returned (.tuple #[.pointer none, .int .i64 re]) ∧ Below w.heap.size w w' := by
  have HR := K0 hr0
  have HC := K0 hc0
  have HCR := K0 hcr
  have hu24 := Try.underlying24
  have q1 : (re != 0) = true := by simpa using hre
  have q2 : (re == 0) = false := by simpa using hre
  clear hr0 hc0 hcr hre
  have HB := K0 (Below.refl w.heap.size w)
  go_enter Try.func10, Try.ntmps10
  go_upto_region 1 with (first | ((with_reducible refine gate_dst (N := 1) rfl ?_); refine box_event ?hg (N := 1) ?hd (cs := #[.int .i64 n, .slice A0 l0.length c0]) (t := 24) ?hr ?_; (case hd => rfl); (case hg => rfl); (case hr => first | (go_simp; done) | (go_simp; rfl)); intro gb108 hg w3 hbox hb; have n0_ := K0 (below_step HB.out hb); have BK := K0 hbox; have GE := K0 (by rw [hg]; exact (below_size HB.out) : w.heap.size ≤ gb108); clear HB; have HB := n0_; clear n0_; clear hb hbox hg))
  (try simp only [Act.put, List.setIfInBounds_toArray, List.set_cons_zero, List.set_cons_succ])
  have cb0 : w3.cell? ⟨gb108, 0, none⟩ = some (.int .i64 n) := (blk_cell BK.out 0).trans rfl
  have cb1 : w3.cell? ⟨gb108, 1, none⟩ = some (.slice A0 l0.length c0) := (blk_cell BK.out 1).trans rfl
  have HCALL := K0 (cnf_Right.calls k n A0 c0 l0 ra re w3 (Kd.C_below HR.out HB.out) HC.out HCR.out)
  go_wp2_with fail
  refine HCALL.out.mono ?_
  rintro e' w1 ⟨rfl, hb1⟩
  have HB1 := K0 (below_step HB.out hb1)
  clear hb1 HCALL BK HB cb0 cb1
  go_wp2
  go_ret2
  exact ⟨rfl, HB1.out⟩
end Go.Proofs.Ytkmlekfmccghjaa.P
