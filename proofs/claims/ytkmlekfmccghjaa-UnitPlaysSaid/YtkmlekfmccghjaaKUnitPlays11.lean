import Derived.Lib.SliceRun
import Derived.Deep.DeepCutAuto
import Derived.Deep.RegionLaw
import Derived.Shelf.RegionOpenPlain
import Derived.StillTailTactics
import Derived.Shelf.Abstract
import Derived.Test.YtkmlekfmccghjaaKUnitPlays1
import Derived.Test.YtkmlekfmccghjaaKUnitPlays9
import Derived.Test.YtkmlekfmccghjaaKUnitPlays10
import Derived.Test.YtkmlekfmccghjaaKUnitPlays2
import Derived.Test.YtkmlekfmccghjaaKUnitPlays8
import Derived.Test.YtkmlekfmccghjaaKUnitPlays5
import Derived.Test.YtkmlekfmccghjaaKUnitPlays6
namespace Go.Proofs.Ytkmlekfmccghjaa.P
open Go.RowKit Go.Proofs.YtkmlekfmccghjaaW.PrintWords Go.Proofs.YtkmlekfmccghjaaW.PrintLast Go.Proofs.YtkmlekfmccghjaaW.PrintMore
attribute [local go_sem] max2_int min2_int max_two min_two max_three min_three max_four min_four
set_option linter.unusedVariables false
set_option linter.unusedSimpArgs false
def cmpI (a b : Int) : Int := if a < b then -1 else if b < a then 1 else 0
set_option maxRecDepth 100000 in
theorem cmp_isNaN.calls (a : Int) (W : World) : Calls Try.prog 101 #[.int .i64 a] W fun e W' => e = .returned (.bool false) ∧ W' = W := by
  go_enter Try.func101, Try.ntmps101
  go_wp2
  all_goals (go_ret; exact ⟨by simp, rfl⟩)
set_option maxRecDepth 100000 in
theorem cmp_Compare.calls (a b : Int) (W : World) : Calls Try.prog 95 #[.int .i64 a, .int .i64 b] W fun e W' => e = .returned (.int .i64 (cmpI a b)) ∧ W' = W := by
  unfold cmpI
  by_cases h1 : a < b
  case pos =>
    rw [if_pos h1]
    go_enter Try.func95, Try.ntmps95
    go_wp2_with fail
    refine (cmp_isNaN.calls a W).mono ?_
    rintro e w' ⟨rfl, rfl⟩
    go_wp2_with fail
    refine (cmp_isNaN.calls b _).mono ?_
    rintro e w' ⟨rfl, rfl⟩
    go_wp2
    go_ret
    exact ⟨rfl, rfl⟩
  rw [if_neg h1]
  by_cases h2 : b < a
  case neg =>
    rw [if_neg h2]
    go_enter Try.func95, Try.ntmps95
    go_wp2_with fail
    refine (cmp_isNaN.calls a W).mono ?_
    rintro e w' ⟨rfl, rfl⟩
    go_wp2_with fail
    refine (cmp_isNaN.calls b _).mono ?_
    rintro e w' ⟨rfl, rfl⟩
    go_wp2
    go_ret
    exact ⟨rfl, rfl⟩
  rw [if_pos h2]
  go_enter Try.func95, Try.ntmps95
  go_wp2_with fail
  refine (cmp_isNaN.calls a W).mono ?_
  rintro e w' ⟨rfl, rfl⟩
  go_wp2_with fail
  refine (cmp_isNaN.calls b _).mono ?_
  rintro e w' ⟨rfl, rfl⟩
  go_wp2
  go_ret
  exact ⟨rfl, rfl⟩
set_option maxRecDepth 100000 in
theorem cmp_Or.calls (a b : Int) (g : Nat) (W : World) (h0 : W.cell? ⟨g, 0, none⟩ = some (.int .i64 a)) (h1 : W.cell? ⟨g, 1, none⟩ = some (.int .i64 b)) :
    Calls Try.prog 94 #[.slice (some ⟨g, 0, none⟩) 2 2] W fun e W' => e = .returned (.int .i64 (if a ≠ 0 then a else b)) ∧ W' = W := by
  go_enter Try.func94, Try.ntmps94
  go_wp2
  go_loopg [5, 8] 2 (fun gg _ v8 wr => ∃ j : Nat, v8 = .int .i64 (j : Int) ∧ wr = W ∧ Aside0 (j + gg = 2) ∧ Aside0 (0 < j → a = 0) ∧ Aside0 (1 < j → b = 0))
  case atStart => exact ⟨0, rfl, rfl, ⟨rfl⟩, ⟨fun h => by omega⟩, ⟨fun h => by omega⟩⟩
  case round =>
    obtain ⟨j, rfl, rfl, hg, ha, hb⟩ := hrel
    rcases Nat.lt_or_ge j 2 with hj | hj
    · rcases Nat.lt_or_ge j 1 with hj1 | hj1
      · obtain rfl : j = 0 := by omega
        by_cases hz : a = 0
        case neg =>
          have c1 : (a != 0) = true := by simpa using hz
          go_wp2
          go_ret
          exact ⟨rfl, rfl⟩
        subst hz
        go_wp2
        go_roundg 1
        case measure => have := hg.out; omega
        case rel => exact ⟨1, rfl, rfl, ⟨rfl⟩, ⟨by simp⟩, ⟨fun h => by omega⟩⟩
      obtain rfl : j = 1 := by omega
      have hz := ha.out (by omega)
      subst hz
      by_cases hy : b = 0
      case neg =>
        have c1 : (b != 0) = true := by simpa using hy
        go_wp2
        go_ret
        exact ⟨by simp, rfl⟩
      subst hy
      go_wp2
      go_roundg 0
      case measure => have := hg.out; omega
      case rel => exact ⟨2, rfl, rfl, ⟨rfl⟩, ⟨by simp⟩, ⟨by simp⟩⟩
    obtain rfl : j = 2 := by have := hg.out; omega
    have hz := ha.out (by omega)
    have hy := hb.out (by omega)
    subst hz hy
    go_wp2
    go_ret
    exact ⟨by simp, rfl⟩
theorem drewN_drewN (W : World) (m n : Nat) : (W.drewN m).drewN n = W.drewN (m + n) := by
  show ({ W with drawn := W.drawn + m + n } : World) = { W with drawn := W.drawn + (m + n) }
  rw [Nat.add_assoc]
open Go.Sort in
set_option maxRecDepth 100000 in
theorem lit_Clean_1.calls (a b : Int) (W : World) :
    Calls Try.prog 93 #[.int .i64 a, .int .i64 b] W fun e W' => e = .returned (.int .i64 (if cmpI (mx a (wrap64 (-a))) (mx b (wrap64 (-b))) ≠ 0 then cmpI (mx a (wrap64 (-a))) (mx b (wrap64 (-b))) else cmpI a b)) ∧ ∃ q os, W' = grow (W.drewN q) os := by
  have H1 := K0 (lit_variable.calls a (mx a (wrap64 (-a))) W rfl)
  obtain ⟨x, hx⟩ : ∃ x, mx a (wrap64 (-a)) = x := ⟨_, rfl⟩
  obtain ⟨y, hy⟩ : ∃ y, mx b (wrap64 (-b)) = y := ⟨_, rfl⟩
  rw [hx] at H1
  have HY := K0 hy
  rw [hx, hy]
  clear hx hy
  obtain ⟨p, hp⟩ : ∃ p, cmpI x y = p := ⟨_, rfl⟩
  obtain ⟨r, hr⟩ : ∃ r, cmpI a b = r := ⟨_, rfl⟩
  have HP := K0 hp; have HR := K0 hr
  rw [hp, hr]
  obtain ⟨u, hu⟩ : ∃ u, (if p ≠ 0 then p else r) = u := ⟨_, rfl⟩
  have HU := K0 hu
  rw [hu]
  clear hp hr hu
  go_enter Try.func93, Try.ntmps93
  go_wp2_with fail
  refine H1.out.mono ?_
  rintro e w1 ⟨rfl, ⟨⟨n1, rfl⟩⟩⟩
  go_wp2_with fail
  refine (lit_variable.calls b y (W.drewN n1) (by rw [← HY.out]; rfl)).mono ?_
  rintro e w2 ⟨rfl, ⟨⟨n2, rfl⟩⟩⟩
  go_wp2_with fail
  refine (cmp_Compare.calls x y _).mono ?_
  rintro e w3 ⟨rfl, rfl⟩
  rw [HP.out]
  go_wp2_with fail
  refine (cmp_Compare.calls a b _).mono ?_
  rintro e w4 ⟨rfl, rfl⟩
  rw [HR.out]
  go_wp2_with fail
  refine (cmp_Or.calls p r _ _ (by have := blk_cell (blk_new (W.drewN (n1 + n2)) (.cells #[.int .i64 p, .int .i64 r] 3)) 0; exact this) (by have := blk_cell (blk_new (W.drewN (n1 + n2)) (.cells #[.int .i64 p, .int .i64 r] 3)) 1; exact this)).mono ?_
  rintro e w5 ⟨he, rfl⟩
  rw [HU.out] at he
  subst he
  go_wp2
  go_ret
  exact ⟨rfl, n1 + n2, #[.cells #[.int .i64 p, .int .i64 r] 3], by rw [alloc_eq_grow]⟩
def cfL (a b : Int) : Int := if cmpI (mx a (wrap64 (-a))) (mx b (wrap64 (-b))) ≠ 0 then cmpI (mx a (wrap64 (-a))) (mx b (wrap64 (-b))) else cmpI a b
theorem cmpI_lt {a b : Int} : cmpI a b < 0 ↔ a < b := by unfold cmpI; split <;> (try split) <;> omega
theorem cmpI_ne {a b : Int} : cmpI a b ≠ 0 ↔ a ≠ b := by unfold cmpI; split <;> (try split) <;> omega
theorem cfL_lt {a b : Int} : cfL a b < 0 ↔ mx a (wrap64 (-a)) < mx b (wrap64 (-b)) ∨ (mx a (wrap64 (-a)) = mx b (wrap64 (-b)) ∧ a < b) := by
  unfold cfL
  by_cases h : mx a (wrap64 (-a)) = mx b (wrap64 (-b))
  case neg =>
    rw [if_pos (cmpI_ne.2 h), cmpI_lt]; omega
  rw [if_neg (by rw [cmpI_ne]; simpa using h), cmpI_lt]; omega
open Go.Sort Go.Proofs in
theorem cfL_swo : SWO (ltOf cfL) := by
  refine ⟨fun x => ?_, fun x y z h1 h2 => ?_, fun x y z h1 h2 => ?_⟩
  · exact decide_eq_false (by rw [cfL_lt]; omega)
  · have h1 := of_decide_eq_true h1
    have h2 := of_decide_eq_true h2
    exact decide_eq_true (by rw [cfL_lt] at h1 h2 ⊢; omega)
  have h1 := of_decide_eq_false h1
  have h2 := of_decide_eq_false h2
  exact decide_eq_false (by rw [cfL_lt] at h1 h2 ⊢; omega)
open Go.Sort Go.Lib Go.Proofs in
set_option maxRecDepth 100000 in
theorem slices_SortFunc_lits.calls (xs : List Int) (g n cap base : Nat) (ok : Nat → Prop) (W : World) (h : Kd.R (Kd.int .i64) 3 W base ok (.slice (some ⟨g, 0, none⟩) n cap) xs) (hlen : xs.length < 4611686018427387904) :
    Calls Try.prog 92 #[.slice (some ⟨g, 0, none⟩) n cap, .func (.func 93) #[] #[]] W fun e W' => e = .returned (.tuple #[]) ∧ Kd.R (Kd.int .i64) 3 W' base ok (.slice (some ⟨g, 0, none⟩) n cap) (xs.mergeSort fun x y => !(ltOf cfL) y x) ∧
      (∃ W1, (∃ q, W1 = W.drewN q) ∧ ∃ W2, W1.grownBy W2 (some g) ∧ Below W2.heap.size W2 W') := by
  obtain ⟨hn, hnc, hC⟩ := Kd.R_reads' h
  have hbig := hC.2.1
  have hblk : g < W.heap.size := by
    obtain ⟨inner, ho⟩ := Kd.R_own h
    exact own_lt ho g rfl
  have key := Try.slices_SortFunc_total (Value.int .i64) (fun _ => rfl) cfL cfL_swo 93 #[] g 0 cap xs.toArray W (enters_of Try.func93 (by kernel_rfl) rfl)
    (fun m os dk hs x y => calls_of_args (args := #[.int .i64 x, .int .i64 y]) rfl (lit_Clean_1.calls x y _)) (R_holds h) hblk (by simp; omega) (fun x y h1 h2 => by
      have h1 := of_decide_eq_false h1
      have h2 := of_decide_eq_false h2
      rw [cfL_lt] at h1 h2
      omega)
  have hsz : xs.toArray.size = n := by simp [hn]
  rw [hsz] at key
  refine key.mono ?_
  rintro e W' ⟨rfl, q, os, rfl⟩
  obtain ⟨hR, hg⟩ := R_rowPut (xs.mergeSort fun x y => !(ltOf cfL) y x) (by rw [List.length_mergeSort]) q h
  obtain ⟨hR2, hb2⟩ := R_grow os hR
  exact ⟨rfl, hR2, _, ⟨q, rfl⟩, _, hg, hb2⟩
open Go.Sort Go.Lib Go.Proofs in
theorem slices_Compact_R.calls (xs : List Int) (g n cap base : Nat) (ok : Nat → Prop) (W : World) (h : Kd.R (Kd.int .i64) 3 W base ok (.slice (some ⟨g, 0, none⟩) n cap) xs) (hle : (Lib.compact xs).length ≤ xs.length) :
    Calls Try.prog 96 #[.slice (some ⟨g, 0, none⟩) n cap] W fun e W' => e = .returned (.slice (some ⟨g, 0, none⟩) (Lib.compact xs).length cap) ∧ Kd.R (Kd.int .i64) 3 W' base ok (.slice (some ⟨g, 0, none⟩) (Lib.compact xs).length cap) (Lib.compact xs) ∧
      ∃ q, (W.drewN q).grownBy W' (some g) := by
  obtain ⟨hn, hnc, hC⟩ := Kd.R_reads' h
  have hbig := hC.2.1
  have key := Try.slices_Compact_int g 0 cap xs W (R_holds h) (by omega) (by omega)
  rw [← hn] at key
  refine key.mono ?_
  rintro e W' ⟨rfl, q, rfl⟩
  obtain ⟨hR, hg⟩ := R_rowPut (Lib.compact xs ++ List.replicate (n - (Lib.compact xs).length) 0) (by simp; omega) q h
  have hT := Kd.R_take hR (m := (Lib.compact xs).length) (by simp)
  rw [List.take_left'  rfl] at hT
  exact ⟨rfl, hT, q, hg⟩
def adjB : List Int → Bool
  | x :: y :: t => (y == wrap64 (-x)) || adjB (y :: t)
  | _ => false
def lit_Clean.out (c : List Int) : List Int := Lib.compact ((c.filter fun l => (lit_is.f l).getD false).mergeSort fun x y => !(Go.Proofs.ltOf cfL) y x)
def lit_Clean.f (l0 : List Int) : Option (List Int × Bool) := if l0.length < 17592186044416 ∧ (lit_Clean.out l0).length ≤ l0.length then some (lit_Clean.out l0, !adjB (lit_Clean.out l0)) else none
set_option maxRecDepth 100000 in
set_option maxHeartbeats 4000000 in
theorem lit_Clean.calls (A0 : Option Addr) (c0 : Nat) (l0 : List Int) (r1 : List Int) (r2 : Bool) (w : World) (hr0 : Kd.C (Kd.int .i64) w A0 l0.length l0) (hc0 : l0.length ≤ c0) (h : lit_Clean.f l0 = some (r1, r2)) :
    Calls Try.prog 74 #[.slice A0 l0.length c0] w fun e w' => ∃ v0_ : Value, e = .returned (.tuple #[v0_, .bool r2]) ∧ Kd.R (Kd.int .i64) 3 w' w.heap.size (fun _ => True) v0_ r1 ∧ Below w.heap.size w w' := by
  unfold lit_Clean.f at h
  by_cases hlen0 : ¬ (l0.length < 17592186044416 ∧ (lit_Clean.out l0).length ≤ l0.length)
  · rw [if_neg hlen0] at h; cases h
  obtain ⟨hlen, hle⟩ := Decidable.not_not.1 hlen0
  rw [if_pos ⟨hlen, hle⟩] at h
  simp only [Option.some.injEq, Prod.mk.injEq] at h
  obtain ⟨rfl, rfl⟩ := h
  have HR := K0 hr0
  obtain ⟨p, hp⟩ : ∃ p : Int → Bool, p = fun l => (lit_is.f l).getD false := ⟨_, rfl⟩
  have his : ∀ a, lit_is.f a = some (p a) := fun a => by
    rw [hp]
    unfold lit_is.f
    dsimp only
    split <;> rfl
  have HIS := K0 his; have HLN := K0 hlen; have HLE := K0 hle
  have HO := K0 (show lit_Clean.out l0 = Lib.compact ((l0.filter p).mergeSort fun x y => !(Go.Proofs.ltOf cfL) y x) from by rw [hp]; rfl)
  clear hr0 hlen0 hlen hle hp his
  go_enter Try.func74, Try.ntmps74
  go_wp2
  go_loopg [4, 6, 10] l0.length (fun gg v4 _ v10 wr => ∃ i : Nat, v10 = .int .i64 (i : Int) ∧ Aside0 (i + gg = l0.length) ∧ Aside0 (Kd.R (Kd.int .i64) 3 wr w.heap.size (fun _ => True) v4 ((l0.take i).filter p)) ∧ Aside0 (Below w.heap.size w wr))
  case atStart => exact ⟨0, rfl, ⟨by simp⟩, ⟨Kd.R_nil _ _ _ _ _⟩, ⟨Below.refl _ _⟩⟩
  case round =>
    obtain ⟨i, rfl, hg, hR, hB⟩ := hrel
    obtain ⟨A4, c4, rfl⟩ := Kd.R_slice hR.out
    by_cases hlt : i < l0.length
    case pos =>
      obtain ⟨ad, e1, x1⟩ := Kd.at_int (Kd.C_below HR.out hB.out) (i : Int) (by omega) (by omega)
      cases e1
      obtain ⟨y, hy⟩ : ∃ y, l0[i] = y := ⟨_, rfl⟩
      have hrd : rd l0 (i : Int) = y := by simp [rd, hlt, hy]
      rw [hrd] at x1
      simp only [Int.toNat_natCast] at x1
      have htk : (l0.take (i + 1)).filter p = (l0.take i).filter p ++ if p y = true then [y] else [] := by
        rw [List.take_add_one, List.getElem?_eq_getElem hlt, hy, List.filter_append]
        cases hpy : p y <;> simp [hpy]
      have HT := K0 htk
      have hfl : ((l0.take i).filter p).length ≤ i := Nat.le_trans (List.length_filter_le _ _) (by simp; omega)
      have P0 : ((0 : Int) ≤ (i : Int)) = True := eq_true (by omega)
      have P1 : ((i : Int) < (l0.length : Int)) = True := eq_true (by omega)
      have P2 : (i < l0.length) = True := eq_true hlt
      have hd : decide ((i : Int) < (l0.length : Int)) = true := decide_eq_true (by omega)
      have hln := HLN.out
      clear hrd htk hy
      cases hq : p y with
      | true =>
        have hcall := K0 (lit_is.calls y true wr (by rw [HIS.out, hq]))
        have hz := HT.out
        rw [if_pos hq] at hz
        have HZ := K0 hz; clear hz HT hq
        go_wp2_with fail
        refine hcall.out.mono ?_
        rintro e' w1 ⟨rfl, ⟨⟨n1, rfl⟩⟩⟩
        have hR1 := K0 (Kd.R_drewN hR.out n1)
        have hB1 := K0 (pw_below_drewN hB.out n1)
        go_wp2_with (at_builtin; refine Kd.R_append (Kd.int .i64) (w0 := w) w.heap.size rfl (.tmp 16) (.tmp 18) 37 3 (.int .i64 0) 8 rfl Try.underlying37 (by kernel_rfl) rfl (by decide) (by decide) _ ((l0.take i).filter p) y [.int .i64 y] (fun _ => True) (fun _ => False) rfl rfl rfl (fun _ h => h.elim) (fun _ _ => trivial) hR1.out hB1.out hB1.out.size (by omega) ?_; intro v1 w3 r1 hb3 hg3 hat3)
        go_roundg (l0.length - (i + 1))
        case measure => have := hg.out; omega
        case rel => exact ⟨i + 1, by simp, ⟨by have := hg.out; omega⟩, ⟨by rw [HZ.out]; exact r1⟩, ⟨hb3⟩⟩
      | false =>
        have hcall := K0 (lit_is.calls y false wr (by rw [HIS.out, hq]))
        have hz := HT.out
        rw [if_neg (by rw [hq]; decide), List.append_nil] at hz
        have HZ := K0 hz; clear hz HT hq
        go_wp2_with fail
        refine hcall.out.mono ?_
        rintro e' w1 ⟨rfl, ⟨⟨n1, rfl⟩⟩⟩
        go_wp2
        go_roundg (l0.length - (i + 1))
        case measure => have := hg.out; omega
        case rel => exact ⟨i + 1, by simp, ⟨by have := hg.out; omega⟩, ⟨by rw [HZ.out]; exact Kd.R_drewN hR.out n1⟩, ⟨pw_below_drewN hB.out n1⟩⟩
    have hd : decide ((i : Int) < (l0.length : Int)) = false := decide_eq_false (by omega)
    have P2 : (i < l0.length) = False := eq_false hlt
    have htake : (l0.take i).filter p = l0.filter p := by rw [List.take_of_length_le (by omega)]
    have hRf := hR.out
    rw [htake] at hRf ⊢
    obtain ⟨fl, hfl⟩ : ∃ fl, l0.filter p = fl := ⟨_, rfl⟩
    have hflen : fl.length ≤ l0.length := by rw [← hfl]; exact List.length_filter_le _ _
    have hout := HO.out
    rw [hfl] at hRf hout ⊢
    have HRF := K0 hRf; have HOUT := K0 hout
    have HB := hB
    have hln := HLN.out
    clear hRf hR htake hfl hout hB HO hg HIS
    have fin : ∀ (v : Value) (W : World), Kd.R (Kd.int .i64) 3 W w.heap.size (fun _ => True) v (lit_Clean.out l0) → True := fun _ _ _ => trivial
    by_cases hz : fl.length = 0
    case pos =>
      have hnil : fl = [] := List.length_eq_zero_iff.1 hz
      subst hnil
      have hce : Lib.compact (([] : List Int).mergeSort fun x y => !(Go.Proofs.ltOf cfL) y x) = [] := List.length_eq_zero_iff.1 (Nat.le_zero.1 (Nat.le_trans (Lib.compact_length_le _) (by simp)))
      have HO2 := K0 (HOUT.out.trans hce)
      clear HOUT hce HLE hz
      go_wp2_with fail
      refine (Try.slices_SortFunc_none (α := Int) A4 c4 _ wr).mono ?_
      rintro e' w1 ⟨rfl, rfl⟩
      go_wp2_with fail
      refine (Try.slices_Compact_int_empty A4 c4 _).mono ?_
      rintro e' w2 ⟨rfl, rfl⟩
      go_wp2
      go_loopg [7] 0 (fun gg v7 wr2 => v7 = .int .i64 1 ∧ wr2 = w2)
      case atStart => exact ⟨rfl, rfl⟩
      case round =>
        obtain ⟨rfl, rfl⟩ := hrel
        go_wp2
        go_ret2
        rw [HO2.out]
        exact ⟨_, rfl, HRF.out, HB.out⟩
    obtain ⟨inner, ho⟩ := Kd.R_own HRF.out
    obtain ⟨g, rfl⟩ : ∃ g, A4 = some ⟨g, 0, none⟩ := by
      rcases ho.2 with ⟨e1, e2⟩ | ⟨g, cap, cur, e1, _⟩
      · omega
      · injection e1 with e1 _ _; exact ⟨g, e1⟩
    have hgb : w.heap.size ≤ g := own_base ho g rfl
    clear ho
    have hle : (Lib.compact (fl.mergeSort fun x y => !(Go.Proofs.ltOf cfL) y x)).length ≤ (fl.mergeSort fun x y => !(Go.Proofs.ltOf cfL) y x).length := Lib.compact_length_le _
    have HLE2 := K0 hle; clear hle
    go_wp2_with fail
    refine (slices_SortFunc_lits.calls fl g fl.length c4 w.heap.size (fun _ => True) wr HRF.out (by omega)).mono ?_
    rintro e' w1 ⟨rfl, hR1, W1, ⟨q1, rfl⟩, W2, hg1, hb1⟩
    have HR1 := K0 hR1
    have hB2 : Below w.heap.size w W2 := (pw_below_drewN HB.out q1).grown hg1 (pw_below_drewN HB.out q1).size (fun k e => by cases e; exact hgb)
    have HB1 := K0 (hB2.trans (hb1.mono hB2.size))
    clear hR1 hB2 hg1 hb1
    go_wp2_with fail
    refine (slices_Compact_R.calls _ g fl.length c4 w.heap.size (fun _ => True) w1 HR1.out HLE2.out).mono ?_
    rintro e' w2 ⟨rfl, hR2, q2, hg2⟩
    rw [← HOUT.out] at hR2
    try rw [← HOUT.out]
    have HR2 := K0 hR2
    have HB2 := K0 ((pw_below_drewN HB1.out q2).grown hg2 (pw_below_drewN HB1.out q2).size (fun k e => by cases e; exact hgb))
    clear hR2 hg2 HR1 HRF HB1
    obtain ⟨out, hout⟩ : ∃ out, lit_Clean.out l0 = out := ⟨_, rfl⟩
    rw [hout] at HR2 HLE ⊢
    have HO2 := K0 hout; clear hout HOUT HLE2
    have hol := HLE.out
    go_wp2
    go_loopg [7] out.length (fun gg v7 wr => ∃ j : Nat, v7 = .int .i64 (j : Int) ∧ 1 ≤ j ∧ Aside0 (out.length ≤ j + gg) ∧ Aside0 (Kd.R (Kd.int .i64) 3 wr w.heap.size (fun _ => True) (.slice (some ⟨g, 0, none⟩) out.length c4) out) ∧ Aside0 (Below w.heap.size w wr) ∧ Aside0 (adjB (out.drop (j - 1)) = adjB out))
    case atStart => exact ⟨1, rfl, Nat.le_refl _, ⟨by omega⟩, HR2, HB2, ⟨rfl⟩⟩
    case round =>
      clear HR2 HB2 HB
      obtain ⟨j, rfl, hj1, hg, hR, hB, hA⟩ := hrel
      by_cases hjt : j < out.length
      case neg =>
        have hd : decide ((j : Int) < (out.length : Int)) = false := decide_eq_false (by omega)
        have P2 : (j < out.length) = False := eq_false hjt
        have hz : adjB out = false := by
          rw [← hA.out]
          have hl : (out.drop (j - 1)).length ≤ 1 := by rw [List.length_drop]; omega
          match out.drop (j - 1), hl with
          | [], _ => rfl
          | [_], _ => rfl
          | _ :: _ :: _, hl => exact absurd hl (by simp)
        have HZ := K0 hz; clear hz
        go_wp2
        go_ret2
        rw [HO2.out, HZ.out]
        exact ⟨_, rfl, hR.out, hB.out⟩
      obtain ⟨y, hy⟩ : ∃ y, out[j] = y := ⟨_, rfl⟩
      obtain ⟨x, hx⟩ : ∃ x, out[j - 1] = x := ⟨_, rfl⟩
      obtain ⟨c1, _⟩ := Kd.R_celln (0 : Int) hR.out (j : Int) (by omega) (by omega)
      obtain ⟨c2, _⟩ := Kd.R_celln (0 : Int) hR.out ((j : Int) - 1) (by omega) (by omega)
      have ej : rdOf 0 out (j : Int) = y := by simp [rdOf, hjt, hy]
      have ex : rdOf 0 out ((j : Int) - 1) = x := by rw [show (j : Int) - 1 = ((j - 1 : Nat) : Int) by omega]; simp [rdOf, show j - 1 < out.length by omega, hx]
      rw [ej] at c1
      rw [ex] at c2
      simp only [Int.toNat_natCast] at c1
      rw [show ((j : Int) - 1).toNat = j - 1 by omega] at c2
      have hA2 := hA.out
      rw [List.drop_eq_getElem_cons (show j - 1 < out.length by omega), hx, show j - 1 + 1 = j by omega, List.drop_eq_getElem_cons hjt, hy, adjB] at hA2
      have HA2 := K0 hA2
      have HY := K0 (show out.drop j = y :: out.drop (j + 1) by rw [List.drop_eq_getElem_cons hjt, hy])
      have P0 : ((0 : Int) ≤ (j : Int)) = True := eq_true (by omega)
      have P1 : ((j : Int) < (out.length : Int)) = True := eq_true (by omega)
      have P2 : (j < out.length) = True := eq_true hjt
      have P3 : ((1 : Int) ≤ (j : Int)) = True := eq_true (by omega)
      have P4 : ((j : Int) - 1 < (out.length : Int)) = True := eq_true (by omega)
      have hd : decide ((j : Int) < (out.length : Int)) = true := decide_eq_true (by omega)
      have P5 : IntKind.i64.wrap ((j : Int) - 1) = (j : Int) - 1 := Go.IntWalk.i64_in _ (by omega)
      have P6 : IntKind.i64.wrap (-x) = wrap64 (-x) := Go.IntWalk.i64_left _
      have mixed : Try.prog.follows .mixedOrders = true := by kernel_rfl
      clear hA hA2 ej ex hx hy
      go_wp2_with fail
      go_cut [41] (fun v41 wc => v41 = .bool (y == wrap64 (-x)) ∧ wc = wr.drew)
      case first =>
        go_region_law_o (fail)
        all_goals (go_wp2_with fail; go_meet; exact ⟨rfl, rfl⟩)
      case rest =>
      obtain ⟨rfl, rfl⟩ := hcut
      have HRd := K0 (Kd.R_drew hR.out)
      have HBd := K0 (below_drew hB.out)
      cases hq : (y == wrap64 (-x)) with
      | true =>
        have hz := HA2.out
        rw [hq, Bool.true_or] at hz
        have HZ := K0 hz; clear hz
        go_wp2
        go_ret2
        rw [HO2.out, ← HZ.out]
        exact ⟨_, rfl, HRd.out, HBd.out⟩
      | false =>
        have hz := HA2.out
        rw [hq, Bool.false_or] at hz
        have HZ := K0 hz; clear hz
        go_wp2
        go_roundg (out.length - j - 1)
        case measure => have := hg.out; omega
        case rel => exact ⟨j + 1, by simp, by omega, ⟨by omega⟩, HRd, HBd, ⟨by rw [show j + 1 - 1 = j by omega, HY.out]; exact HZ.out⟩⟩
def Eng.wput (E : Eng) (n x : Int) : Eng := { E with wt := fun y => if y = x then E.wt x ++ [n] else E.wt y, ws := E.ws + 1 }
def Eng.layW (E : Eng) (n : Int) (c : List Int) : Eng := c.foldl (fun E x => E.wput n x) E
def Eng.laid (E : Eng) (c : List Int) : Eng := { E.layW (E.cls.length : Int) c with cls := E.cls ++ [c] }
theorem Eng.layW_same (n : Int) : ∀ (c : List Int) (E : Eng), (E.layW n c).cls = E.cls ∧ (E.layW n c).tr = E.tr ∧ (E.layW n c).st = E.st ∧ (E.layW n c).ms = E.ms ∧ (E.layW n c).n = E.n ∧ (E.layW n c).br = E.br ∧ (E.layW n c).ws = E.ws + c.length
  | [], E => ⟨rfl, rfl, rfl, rfl, rfl, rfl, rfl⟩
  | x :: c, E => by
    obtain ⟨h1, h2, h3, h4, h5, h6, h7⟩ := Eng.layW_same n c (E.wput n x)
    exact ⟨h1, h2, h3, h4, h5, h6, by have : (Eng.layW E n (x :: c)).ws = (Eng.layW (E.wput n x) n c).ws := rfl; rw [this, h7]; show E.ws + 1 + c.length = E.ws + (c.length + 1); omega⟩
theorem Eng.layW_snoc (E : Eng) (n : Int) (c : List Int) (x : Int) : E.layW n (c ++ [x]) = (E.layW n c).wput n x := by
  unfold Eng.layW; rw [List.foldl_append]; rfl
set_option maxRecDepth 100000 in
set_option maxHeartbeats 4000000 in
theorem eng_lay.calls (E : Eng) (B : Nat) (T : Tag) (p : EngP) (A0 : Option Addr) (c0 : Nat) (l0 r1 : List Int) (r2 : Bool) (w : World) (h : EngIn w B T E p) (hr0 : Kd.C (Kd.int .i64) w A0 l0.length l0) (hc0 : l0.length ≤ c0) (hcl : lit_Clean.f l0 = some (r1, r2)) (hwf : ∀ x ∈ r1, (Lit.int .i64 x).wf = true) (hws : E.ws + r1.length < 4398046511104) (hcn : E.cls.length + 1 < 5864062014805) :
    Calls Try.prog 36 #[.pointer (some ⟨B, 0, none⟩), .slice A0 l0.length c0] w fun e w' => e = .returned (.tuple #[]) ∧ ∃ T' p', EngIn w' B T' (E.laid r1) p' ∧ Moved T T' w w' := by
  have HE := K0 h; have HWF := K0 hwf; have HSZ := K0 hws; have HCN := K0 hcn
  have HCL := K0 (lit_Clean.calls A0 c0 l0 r1 r2 w hr0 hc0 hcl)
  clear h hwf hws hcn hr0 hcl
  go_enter Try.func36, Try.ntmps36
  go_wp2_with fail
  refine HCL.out.mono ?_
  rintro e' w1 ⟨v0, rfl, hR0, hb0⟩
  obtain ⟨h1, m1, hR1⟩ := HE.out.newrow hb0 hR0
  obtain ⟨T1, hT1⟩ : ∃ T1, retag T w v0 (3, 0) = T1 := ⟨_, rfl⟩
  rw [hT1] at h1 m1 hR1
  obtain ⟨A4, k4, rfl⟩ := Kd.R_slice hR1
  have H1 := K0 h1; have M1 := K0 m1; have R1 := K0 hR1
  have hbig := (Kd.R_reads' hR1).2.2.2.1
  clear h1 m1 hR1 hR0 hb0 HE HCL hT1
  obtain ⟨n, hn⟩ : ∃ n, E.cls.length = n := ⟨_, rfl⟩
  have HN := K0 hn
  go_wp2
  go_loopg [7, 15] r1.length (fun gg _ v15 wr => ∃ (j : Nat) (T1 : Tag) (p1 : EngP), v15 = .int .i64 (j : Int) ∧ Aside0 (j + gg = r1.length) ∧ Aside0 (EngIn wr B T1 (E.layW (n : Int) (r1.take j)) p1) ∧ Aside0 (Moved T T1 w wr) ∧ Aside0 (Kd.R (Kd.int .i64) 3 wr 0 (fun k => T1 k = (3, 0)) (.slice A4 r1.length k4) r1))
  case atStart => exact ⟨0, T1, p, rfl, ⟨by simp⟩, H1, M1, R1⟩
  case round =>
    clear H1 M1 R1
    obtain ⟨j, T1, p1, rfl, hg, HE, HM, HR⟩ := hrel
    obtain ⟨E1, hE1⟩ : ∃ E1, E.layW (n : Int) (r1.take j) = E1 := ⟨_, rfl⟩
    rw [hE1] at HE
    obtain ⟨s1, s2, s3, s4, s5, s6, s7⟩ := E.layW_same (n : Int) (r1.take j)
    rw [hE1] at s1 s7
    have HE1 := K0 hE1
    by_cases hlt : j < r1.length
    case neg =>
      have hd : decide ((j : Int) < (r1.length : Int)) = false := decide_eq_false (by omega)
      have P2 : (j < r1.length) = False := eq_false hlt
      have htk : r1.take j = r1 := List.take_of_length_le (by omega)
      rw [htk] at hE1
      clear s1 s2 s3 s4 s5 s6 s7 HE1
      obtain ⟨s1, s2, s3, s4, s5, s6, s7⟩ := E.layW_same (n : Int) r1
      rw [hE1] at s1 s7
      have c1 := HE.out.cells.2.1
      have f1 := HE.out.cells.2.2.2.2.2.2.2 1
      have HE1 := K0 hE1; have HS1 := K0 s1
      have hcn := HCN.out
      have hl : p1.hs.length + 1 < 5864062014805 := by rw [HE.out.len, s1]; exact hcn
      have HLN := K0 hl; clear s1 s2 s3 s4 s5 s6 s7 hE1 htk hl
      go_wp2_with (at_builtin; refine Kd.R_append kH (w0 := wr) 0 rfl (.tmp 42) (.tmp 44) 22 37 (.slice none 0 0) 24 rfl Try.underlying22 (by kernel_rfl) rfl (by decide) (by decide) p1.vC p1.hs ((A4, r1.length, k4) : Hd) [.slice A4 r1.length k4] (fun k => T1 k = (2, 0) ∨ wr.heap.size ≤ k) (fun _ => False) rfl rfl rfl (fun _ h => h.elim) (fun k hk => .inr hk) (Kd.R_mono HE.out.cls (fun _ hk => .inl hk)) (Below.refl 0 _) (Nat.zero_le _) (by have := HLN.out; omega) ?_; intro v1 w1 rr hb1 hg1 hat1; obtain ⟨A1, k1, e1⟩ := Kd.R_slice rr; rw [List.length_append, List.length_singleton] at e1; subst e1; obtain ⟨c31, f31⟩ : w1.cell? ⟨B, 1, none⟩ = some p1.vC ∧ w1.frozen? ⟨B, 1, none⟩ = false := HE.out.after HE.out.cls.1 (by decide) hg1 1)
      go_end0
      obtain ⟨a1, a2⟩ := HE.out.turn_cls (a := (A4, r1.length, k4)) HR.out rr hg1
      have e : ({ E1 with cls := E1.cls ++ [r1] } : Eng) = E.laid r1 := by
        unfold Eng.laid
        rw [HN.out, HE1.out, HS1.out]
      rw [e] at a1
      exact ⟨rfl, _, _, a1, HM.out.trans a2⟩
    obtain ⟨ad, e1, x1⟩ := Kd.at_int (Kd.R_reads' HR.out).2.2 (j : Int) (by omega) (by omega)
    cases e1
    obtain ⟨y, hy⟩ : ∃ y, r1[j] = y := ⟨_, rfl⟩
    have hrd : rd r1 (j : Int) = y := by simp [rd, hlt, hy]
    rw [hrd] at x1
    simp only [Int.toNat_natCast] at x1
    have HY := K0 (show r1.take (j + 1) = r1.take j ++ [y] by rw [List.take_add_one, List.getElem?_eq_getElem hlt, hy]; rfl)
    have HWF := K0 (HWF.out y (by rw [← hy]; exact List.getElem_mem hlt))
    have hb0 : Below wr.heap.size wr wr.drew := below_drew (Below.refl _ _)
    have hD := HE.out.below hb0
    have hRD := Kd.R_below HR.out hb0
    obtain ⟨A1, k1, e1⟩ := Kd.R_slice hD.cls
    have c2 := hD.cells.2.2.1
    have c1 := hD.cells.2.1
    rw [e1, hD.len, s1, hn] at c1
    have hgr := hD.grp y
    obtain ⟨Ag, kg, eg⟩ := Kd.R_slice hgr
    have cq := hD.wt.look Try.underlying3 Try.underlying68 (zero_rowL wr.drew) HWF.out
    rw [eg] at cq hgr
    have hws := hD.wsz y
    obtain ⟨ws, hws0⟩ : ∃ ws, E1.wt y = ws := ⟨_, rfl⟩
    rw [hws0] at cq hgr hws
    obtain ⟨N1, hN1⟩ : ∃ N1 : Nat, n = N1 := ⟨_, rfl⟩
    rw [hN1] at c1
    obtain ⟨L, hL, hLl⟩ := hD.cov
    have hsz := HSZ.out
    have htl : (r1.take j).length ≤ j := List.length_take_le _ _
    have HWS := K0 (show ws.length < 4398046511104 by omega)
    have hLn : L.length < 4398046511104 := by omega
    have haft : ∀ w1, wr.drew.grownBy w1 (Value.slice Ag ws.length kg).ownBlock → w1.cell? ⟨B, 2, none⟩ = some (.map (some p1.bw)) ∧ w1.cell? ⟨B, 1, none⟩ = some (.slice A1 N1 k1) ∧ (Instr.lookup 68 (.map (some p1.bw)) (.int .i64 y) false).run Try.prog w1 = .ok (.slice Ag ws.length kg) w1 ∧ MapI Try.prog 3 w1 p1.bw p1.fw := fun w1 hg1 => by
      have hv := hgr.1
      have a2 := hD.after hv (tag_ne (by decide) _ _) hg1 2
      have a1 := hD.after hv (tag_ne (by decide) _ _) hg1 1
      have hM : MapI Try.prog 3 w1 p1.bw p1.fw := hD.wt.block (hg1.block _ hD.wt.lt (fun e => by have this : T1 p1.bw = (8, y) := hv _ e.symm; rw [hD.tW] at this; exact absurd (congrArg Prod.fst this) (show (7 : Int) ≠ 8 by decide)))
      refine ⟨a2.1, ?_, ?_, hM⟩
      · rw [a1.1]
        show some p1.vC = _
        rw [e1, hD.len, s1, hn, hN1]
      · have := hM.look Try.underlying3 Try.underlying68 (zero_rowL w1) HWF.out
        rw [this, eg, hws0]
    have hba : Below wr.drew.heap.size wr.drew (wr.drew.alloc (.cells #[.int .i64 (N1 : Int)] 3)) := below_alloc (Below.refl _ _) _
    have d2 := pw_cell_below hba c2
    have d1 := pw_cell_below hba c1
    have dq : (Instr.lookup 68 (.map (some p1.bw)) (.int .i64 y) false).run Try.prog (wr.drew.alloc (.cells #[.int .i64 (N1 : Int)] 3)) = .ok (.slice Ag ws.length kg) (wr.drew.alloc (.cells #[.int .i64 (N1 : Int)] 3)) := by
      have := (hD.below hba).wt.look Try.underlying3 Try.underlying68 (zero_rowL _) HWF.out
      rw [this, eg, hws0]
    have HAFT := K0 haft; have HD := K0 hD; have HG := K0 hgr; have HRD := K0 hRD
    have HMD := K0 (HM.out.trans (Moved.of_below hb0))
    have HEG := K0 eg; have HW0 := K0 hws0; have HN1 := K0 hN1
    have P0 : ((0 : Int) ≤ (j : Int)) = True := eq_true (by omega)
    have P1 : ((j : Int) < (r1.length : Int)) = True := eq_true (by omega)
    have P2 : (j < r1.length) = True := eq_true hlt
    have hd : decide ((j : Int) < (r1.length : Int)) = true := decide_eq_true (by omega)
    clear haft hD hgr hRD eg hws0 hN1 hy hrd hba hb0 e1 hws s1 s2 s3 s4 s5 s6 s7 hE1 HE HM HR; have HL := K0 hL; clear hL
    go_wp2
    refine start_ (n := 19) (S := fun w' => w'.cell? ⟨B, 2, none⟩ = some (.map (some p1.bw)) ∧ w'.cell? ⟨B, 1, none⟩ = some (.slice A1 N1 k1) ∧ (Instr.lookup 68 (.map (some p1.bw)) (.int .i64 y) false).run Try.prog w' = .ok (.slice Ag ws.length kg) w') (ds := [18]) #[false, false, false, false, false, false, false, false, false, false, false, false, false, false, false, false, false, false, false] (by kernel_rfl) rfl rfl ⟨c2, c1, cq⟩ (fun hHeld => ?_)
    refine pure_ (i := 0) (N := some 19) (v := ?_) (a' := ?_) #[true, false, false, false, false, false, false, false, false, false, false, false, false, false, false, false, false, false, false] rfl rfl (by kernel_rfl) (fun _ _ _ h => h) (Or.inl ⟨by rfl, ?_⟩) ?_ ?_
    rotate_left
    · intro w'
      go_simp
      with_reducible rfl
    rotate_left
    · simp only [Act.put, List.setIfInBounds_toArray, List.set_cons_zero, List.set_cons_succ, i64_w, i32_w]
      rfl
    refine pure_ (i := 1) (N := some 20) (v := ?_) (a' := ?_) #[true, true, false, false, false, false, false, false, false, false, false, false, false, false, false, false, false, false, false] rfl rfl (by kernel_rfl) (fun _ _ _ h => h) (Or.inl ⟨by rfl, ?_⟩) ?_ ?_
    rotate_left
    · intro w'
      go_simp
      with_reducible rfl
    rotate_left
    · simp only [Act.put, List.setIfInBounds_toArray, List.set_cons_zero, List.set_cons_succ, i64_w, i32_w]
      rfl
    refine pure_ (i := 2) (N := some 21) (v := ?_) (a' := ?_) #[true, true, true, false, false, false, false, false, false, false, false, false, false, false, false, false, false, false, false] rfl rfl (by kernel_rfl) (fun _ _ _ h => h) (Or.inl ⟨by rfl, ?_⟩) ?_ ?_
    rotate_left
    · intro w'
      go_simp
      with_reducible rfl
    rotate_left
    · simp only [Act.put, List.setIfInBounds_toArray, List.set_cons_zero, List.set_cons_succ, i64_w, i32_w]
      rfl
    refine pure_ (i := 4) (N := some 23) (v := ?_) (a' := ?_) #[true, true, true, false, true, false, false, false, false, false, false, false, false, false, false, false, false, false, false] rfl rfl (by kernel_rfl) (fun _ _ _ h => h) (Or.inl ⟨by rfl, ?_⟩) ?_ ?_
    rotate_left
    · intro w'
      go_simp
      with_reducible rfl
    rotate_left
    · simp only [Act.put, List.setIfInBounds_toArray, List.set_cons_zero, List.set_cons_succ, i64_w, i32_w]
      rfl
    refine pure_ (i := 5) (N := some 24) (v := ?_) (a' := ?_) #[true, true, true, false, true, true, false, false, false, false, false, false, false, false, false, false, false, false, false] rfl rfl (by kernel_rfl) (fun _ _ _ h => h) (Or.inl ⟨by rfl, ?_⟩) ?_ ?_
    rotate_left
    · intro w'
      go_simp
      with_reducible rfl
    rotate_left
    · simp only [Act.put, List.setIfInBounds_toArray, List.set_cons_zero, List.set_cons_succ, i64_w, i32_w]
      rfl
    refine pure_ (i := 6) (N := some 25) (v := ?_) (a' := ?_) #[true, true, true, false, true, true, true, false, false, false, false, false, false, false, false, false, false, false, false] rfl rfl (by kernel_rfl) (fun _ _ _ h => h) (Or.inl ⟨by rfl, ?_⟩) ?_ ?_
    rotate_left
    · intro w'
      go_simp
      with_reducible rfl
    rotate_left
    · simp only [Act.put, List.setIfInBounds_toArray, List.set_cons_zero, List.set_cons_succ, i64_w, i32_w]
      rfl
    refine pure_ (i := 7) (N := some 26) (v := ?_) (a' := ?_) #[true, true, true, false, true, true, true, true, false, false, false, false, false, false, false, false, false, false, false] rfl rfl (by kernel_rfl) (fun _ _ _ h => h) (Or.inl ⟨by rfl, ?_⟩) ?_ ?_
    rotate_left
    · intro w'
      go_simp
      with_reducible rfl
    rotate_left
    · simp only [Act.put, List.setIfInBounds_toArray, List.set_cons_zero, List.set_cons_succ, i64_w, i32_w]
      rfl
    refine pure_ (i := 9) (N := some 28) (v := ?_) (a' := ?_) #[true, true, true, false, true, true, true, true, false, true, false, false, false, false, false, false, false, false, false] rfl rfl (by kernel_rfl) (fun _ _ _ h => h) (Or.inl ⟨by rfl, ?_⟩) ?_ ?_
    rotate_left
    · intro w'
      go_simp
      with_reducible rfl
    rotate_left
    · simp only [Act.put, List.setIfInBounds_toArray, List.set_cons_zero, List.set_cons_succ, i64_w, i32_w]
      rfl
    refine pure_ (i := 11) (N := some 30) (v := ?_) (a' := ?_) #[true, true, true, false, true, true, true, true, false, true, false, true, false, false, false, false, false, false, false] rfl rfl (by kernel_rfl) (fun _ _ _ h => h) (Or.inl ⟨by rfl, ?_⟩) ?_ ?_
    rotate_left
    · intro w'
      go_simp
      with_reducible rfl
    rotate_left
    · simp only [Act.put, List.setIfInBounds_toArray, List.set_cons_zero, List.set_cons_succ, i64_w, i32_w]
      rfl
    refine pure_ (i := 12) (N := some 31) (v := ?_) (a' := ?_) #[true, true, true, false, true, true, true, true, false, true, false, true, true, false, false, false, false, false, false] rfl rfl (by kernel_rfl) (fun _ _ _ h => h) (Or.inl ⟨by rfl, ?_⟩) ?_ ?_
    rotate_left
    · intro w'
      go_simp
      with_reducible rfl
    rotate_left
    · simp only [Act.put, List.setIfInBounds_toArray, List.set_cons_zero, List.set_cons_succ, i64_w, i32_w]
      rfl
    refine pure_ (i := 13) (N := some 32) (v := ?_) (a' := ?_) #[true, true, true, false, true, true, true, true, false, true, false, true, true, true, false, false, false, false, false] rfl rfl (by kernel_rfl) (fun _ _ _ h => h) (Or.inl ⟨by rfl, ?_⟩) ?_ ?_
    rotate_left
    · intro w'
      go_simp
      with_reducible rfl
    rotate_left
    · simp only [Act.put, List.setIfInBounds_toArray, List.set_cons_zero, List.set_cons_succ, i64_w, i32_w]
      rfl
    refine take_ (i := 3) (N := some 22) (v := ?_) (a' := ?_) #[true, true, true, true, true, true, true, true, false, true, false, true, true, true, false, false, false, false, false] rfl rfl (by kernel_rfl) (fun _ _ _ h => h) (Or.inl ⟨by rfl, ?_⟩) hHeld ?_ ?_
    rotate_left
    · rintro w' ⟨s0, s1, s2⟩
      go_simp
      with_reducible rfl
    rotate_left
    · simp only [Act.put, List.setIfInBounds_toArray, List.set_cons_zero, List.set_cons_succ, i64_w, i32_w]
      rfl
    refine take_ (i := 8) (N := some 27) (v := ?_) (a' := ?_) #[true, true, true, true, true, true, true, true, true, true, false, true, true, true, false, false, false, false, false] rfl rfl (by kernel_rfl) (fun _ _ _ h => h) (Or.inl ⟨by rfl, ?_⟩) hHeld ?_ ?_
    rotate_left
    · rintro w' ⟨s0, s1, s2⟩
      go_simp
      with_reducible rfl
    rotate_left
    · simp only [Act.put, List.setIfInBounds_toArray, List.set_cons_zero, List.set_cons_succ, i64_w, i32_w]
      rfl
    refine take_ (i := 10) (N := some 29) (v := ?_) (a' := ?_) #[true, true, true, true, true, true, true, true, true, true, true, true, true, true, false, false, false, false, false] rfl rfl (by kernel_rfl) (fun _ _ _ h => h) (Or.inl ⟨by rfl, ?_⟩) hHeld ?_ ?_
    rotate_left
    · rintro w' ⟨s0, s1, s2⟩
      go_simp
      with_reducible rfl
    rotate_left
    · simp only [Act.put, List.setIfInBounds_toArray, List.set_cons_zero, List.set_cons_succ, i64_w, i32_w]
      rfl
    refine take_ (i := 14) (N := some 33) (v := ?_) (a' := ?_) #[true, true, true, true, true, true, true, true, true, true, true, true, true, true, true, false, false, false, false] rfl rfl (by kernel_rfl) (fun _ _ _ h => h) (Or.inl ⟨by rfl, ?_⟩) hHeld ?_ ?_
    rotate_left
    · rintro w' ⟨s0, s1, s2⟩
      go_simp
      with_reducible rfl
    rotate_left
    · simp only [Act.put, List.setIfInBounds_toArray, List.set_cons_zero, List.set_cons_succ, i64_w, i32_w]
      rfl
    refine pure_ (i := 15) (N := some 34) (v := ?_) (a' := ?_) #[true, true, true, true, true, true, true, true, true, true, true, true, true, true, true, true, false, false, false] rfl rfl (by kernel_rfl) (fun _ _ _ h => h) (Or.inl ⟨by rfl, ?_⟩) ?_ ?_
    rotate_left
    · intro w'
      go_simp
      with_reducible rfl
    rotate_left
    · simp only [Act.put, List.setIfInBounds_toArray, List.set_cons_zero, List.set_cons_succ, i64_w, i32_w]
      rfl
    refine one_ (i := 16) (N := some 35) #[true, true, true, true, true, true, true, true, true, true, true, true, true, true, true, true, true, false, false] rfl rfl (by kernel_rfl) (by decide) (fun K hK => ?_)
    refine value_ (w1 := ?_) (v := ?_) (by rfl) rfl ?_ ?_
    rotate_left 2
    · go_simp
      constructor
      · rfl
      rfl
    refine hK.out _ _ ⟨d2, d1, dq⟩ (fun hHeld => ?_)
    clear hK K
    refine norm_ (a' := ?_) ?_ ?_
    rotate_left
    · show Act.put _ (some 35) _ = _
      simp only [Act.put, List.setIfInBounds_toArray, List.set_cons_zero, List.set_cons_succ, i64_w, i32_w]
      rfl
    refine one_ (i := 17) (N := some 36) #[true, true, true, true, true, true, true, true, true, true, true, true, true, true, true, true, true, true, false] rfl rfl (by kernel_rfl) (by decide) (fun K hK => ?_)
    refine Kd.R_append_step (Kd.int .i64) (w0 := wr.drew) (W := wr.drew) 0 (by rfl) (.tmp 29) (.tmp 35) 37 3 (.int .i64 0) 8 rfl Try.underlying37 (by kernel_rfl) rfl (by decide) (by decide) (.slice Ag ws.length kg) ws (N1 : Int) [.int .i64 (N1 : Int)] (fun k => T1 k = (8, y) ∨ wr.drew.heap.size ≤ k) (fun _ => False) (by rfl) (by rfl) rfl (fun _ h => h.elim) (fun k hk => .inr hk) (Kd.R_mono HG.out (fun _ hk => .inl hk)) (Below.refl 0 _) (Nat.zero_le _) (by have := HWS.out; omega) ?_
    intro v1 w1 r1' hb1 hg1 hat1
    obtain ⟨f2, f1, fq, hMw⟩ := HAFT.out w1 hg1
    refine hK.out _ _ ⟨f2, f1, fq⟩ (fun hHeld => ?_)
    clear hK K
    refine norm_ (a' := ?_) ?_ ?_
    rotate_left
    · show Act.put _ (some 36) _ = _
      simp only [Act.put, List.setIfInBounds_toArray, List.set_cons_zero, List.set_cons_succ, i64_w, i32_w]
      rfl
    refine last_ (i := 18) (N := none) #[true, true, true, true, true, true, true, true, true, true, true, true, true, true, true, true, true, true, true] rfl rfl (by kernel_rfl) (by decide) (fun K hK => ?_)
    refine step_store_I (by rfl) (.tmp 22) (.tmp 23) (.tmp 36) 68 rfl 3 37 Try.underlying3 Try.underlying68 p1.bw p1.fw (by rfl) hMw y v1 (by rfl) (by rfl) HWF.out L HL.out (by omega) ?_
    intro w2 hM2 hg2
    refine hK.out _ _ ?_
    clear hK K
    refine done_ (by kernel_rfl) ?_
    have hgw : wr.drew.grownBy w1 ((p1.fw y).getD (.slice none 0 0)).ownBlock := by rw [HEG.out, HW0.out]; exact hg1
    obtain ⟨T2, p2, h2, m2, hk2⟩ : ∃ T2 p2, EngIn w2 B T2 { E1 with wt := fun y' => if y' = y then ws ++ [(N1 : Int)] else E1.wt y', ws := E1.ws + 1 } p2 ∧ Moved T1 T2 wr.drew w2 ∧ (∀ {v : Value} {zs : List Int}, Kd.R (Kd.int .i64) 3 wr.drew 0 (fun k => T1 k = (3, 0)) v zs → Kd.R (Kd.int .i64) 3 w2 0 (fun k => T2 k = (3, 0)) v zs) := ⟨_, _, HD.out.turn_wt r1' hgw hM2 hg2 (by have := HD.out.wsz y; rw [HW0.out] at this; simp; omega)⟩
    have H2 := K0 h2
    have M2 := K0 (HMD.out.trans m2)
    have R2 := K0 (hk2 HRD.out)
    clear h2 m2 hk2 r1' hgw hM2 hg2 hg1 hb1 hat1 hMw f2 f1 fq
    go_wp2
    go_roundg (r1.length - (j + 1))
    case measure => have := hg.out; omega
    case rel =>
      refine ⟨j + 1, T2, p2, by simp, ⟨by have := hg.out; omega⟩, ?_, M2, R2⟩
      have h := H2.out
      rw [HY.out, Eng.layW_snoc, HE1.out]
      refine ⟨?_⟩
      unfold Eng.wput
      rw [HW0.out, HN1.out]
      exact h
theorem Eng.laid_same (E : Eng) (c : List Int) : (E.laid c).br = E.br ∧ (E.laid c).tr = E.tr ∧ (E.laid c).cls = E.cls ++ [c] ∧ (E.laid c).st = E.st ∧ (E.laid c).n = E.n ∧ (E.laid c).ms = E.ms ∧ (E.laid c).ws = E.ws + c.length := by
  obtain ⟨h1, h2, h3, h4, h5, h6, h7⟩ := E.layW_same (E.cls.length : Int) c
  exact ⟨h6, h2, rfl, h3, h5, h4, h7⟩
theorem Eng.laid_lits {E : Eng} {c : List Int} (h : E.Lits) (hc : ∀ x ∈ c, (Lit.int .i64 x).wf = true) : (E.laid c).Lits := fun d hd => by
  rw [(E.laid_same c).2.2.1] at hd
  rcases List.mem_append.1 hd with hd | hd
  · exact h d hd
  rw [List.mem_singleton.1 hd]; exact hc
def Eng.fresh (n : Int) : Eng := ⟨n, [], fun _ => [], 0, [], fun _ => none, [], -1⟩
def Eng.lays : List (List Int) → Eng → Option Eng
  | [], E => some E
  | c :: l, E => (lit_Clean.f c).bind fun r => if E.ws + r.1.length < 4398046511104 ∧ E.cls.length + 1 < 5864062014805 then Eng.lays l (E.laid r.1) else none
def Eng.new (k : Nat) (n : Int) (l : List (List Int)) : Option (Eng × Int) :=
  (cnf_Right.f k n l).bind fun r => if r.2 ≠ 0 then some (Eng.fresh n, r.2) else (Eng.lays l (Eng.fresh n)).bind fun E => (Eng.settle k E).bind fun E2 => some (E2, 0)
def NewPost (E : Eng) (B : Nat) (w w' : World) : Prop := ∃ T p, EngIn w' B T E p ∧ Below w.heap.size w w' ∧ ∀ k, k < w.heap.size → T k = (0, 0)
def newT (B : Nat) : Tag := fun k => if k = B then (1, 0) else if k + 1 = B then (6, 0) else if k + 2 = B then (7, 0) else (0, 0)
theorem EngIn.new {W W' : World} (n : Int) (hb : Below (W.heap.size + 2) ((W.alloc (.map #[] 0)).alloc (.map #[] 0)) W') (hx : W'.heap[W.heap.size + 2]? = some (.cells #[.int .i64 n, .slice none 0 0, .map (some W.heap.size), .slice none 0 0, .map (some (W.heap.size + 1)), .slice none 0 0, .int .i64 (-1)] 71 (0, 0))) :
    EngIn W' (W.heap.size + 2) (newT (W.heap.size + 2)) (Eng.fresh n) ⟨.slice none 0 0, [], .slice none 0 0, .slice none 0 0, W.heap.size, W.heap.size + 1, fun _ => none⟩ := by
  have hlt := blk_lt hx
  have m1 : MapI Try.prog 3 W' W.heap.size (fun _ => none) := by
    have h0 := MapI.made W Try.prog 3
    have h1 := h0.block (w' := (W.alloc (.map #[] 0)).alloc (.map #[] 0)) ((below_alloc (Below.refl _ _) _).block _ h0.lt)
    exact h1.block (hb.block _ (by have := h0.lt; omega))
  have m2 : MapI Try.prog 3 W' (W.heap.size + 1) (fun _ => none) := by
    have h0 := MapI.made (W.alloc (.map #[] 0)) Try.prog 3
    have e1 : (W.alloc (.map #[] 0)).heap.size = W.heap.size + 1 := by simp
    rw [e1] at h0
    exact h0.block (hb.block _ (by omega))
  have t2 : newT (W.heap.size + 2) (W.heap.size + 1) = (6, 0) := by unfold newT; rw [if_neg (by omega), if_pos (by omega)]
  have t3 : newT (W.heap.size + 2) W.heap.size = (7, 0) := by unfold newT; rw [if_neg (by omega), if_neg (by omega), if_pos rfl]
  exact { fresh := fun k hk => by unfold newT; rw [if_neg (by omega), if_neg (by omega), if_neg (by omega)], blk := hx, tB := by unfold newT; rw [if_pos rfl], cls := Kd.R_nil _ _ _ _ _, len := rfl, rows := fun i a c ha => by simp at ha, tr := Kd.R_nil _ _ _ _ _, st := Kd.R_nil _ _ _ _ _, ms := m2, tM := t2, mst := fun x hx => by simp [Eng.fresh] at hx, wt := m1, tW := t3, grp := fun x => Kd.R_nil _ _ _ _ _, cov := ⟨[], fun x hx => by simp at hx, by simp [Eng.fresh]⟩, wsz := fun x => by simp [Eng.fresh] }
set_option maxRecDepth 100000 in
set_option maxHeartbeats 4000000 in
theorem eng_New.calls (k : Nat) (n : Int) (A0 : Option Addr) (c0 : Nat) (l0 : List (List Int)) (E2 : Eng) (w : World) (hr0 : Kd.C (Kd.slice 3 (Kd.int .i64)) w A0 l0.length l0) (hc0 : l0.length ≤ c0) (hwf : ∀ c ∈ l0, ∀ r, lit_Clean.f c = some r → ∀ x ∈ r.1, (Lit.int .i64 x).wf = true) (hf : Eng.new k n l0 = some (E2, 0)) :
    Calls Try.prog 10 #[.agg #[.int .i64 n, .slice A0 l0.length c0]] w fun e w' => ∃ B, e = .returned (.tuple #[.pointer (some ⟨B, 0, none⟩), .int .i64 0]) ∧ NewPost E2 B w w' := by
  unfold Eng.new at hf
  obtain ⟨⟨ra, re⟩, hcr, hf⟩ := Option.bind_eq_some_iff.mp hf
  have hre : re = 0 := by
    by_cases h : re = 0
    · exact h
    · replace hf : (if re ≠ 0 then some (Eng.fresh n, re) else (Eng.lays l0 (Eng.fresh n)).bind fun E => (Eng.settle k E).bind fun E2 => some (E2, 0)) = some (E2, (0 : Int)) := hf
      rw [if_pos h] at hf
      simp only [Option.some.injEq, Prod.mk.injEq] at hf
      exact hf.2
  subst hre
  replace hf : ((Eng.lays l0 (Eng.fresh n)).bind fun E => (Eng.settle k E).bind fun E2 => some (E2, 0)) = some (E2, (0 : Int)) := hf
  obtain ⟨E3, hl, hf⟩ := Option.bind_eq_some_iff.mp hf
  obtain ⟨E4, hs, hf⟩ := Option.bind_eq_some_iff.mp hf
  simp only [Option.some.injEq, Prod.mk.injEq] at hf
  obtain ⟨rfl, -⟩ := hf
  have HR := K0 hr0
  have HC := K0 hc0
  have HWF := K0 hwf
  have HL := K0 hl
  have HS := K0 hs
  have HCR := K0 hcr
  have hu24 := Try.underlying24
  have hu93 := Try.underlying71
  clear hr0 hc0 hwf hl hs hcr
  have HB := K0 (Below.refl w.heap.size w)
  go_enter Try.func10, Try.ntmps10
  go_upto_region 1 with (first | ((with_reducible refine gate_dst (N := 1) rfl ?_); refine box_event ?hg (N := 1) ?hd (cs := #[.int .i64 n, .slice A0 l0.length c0]) (t := 24) ?hr ?_; (case hd => rfl); (case hg => rfl); (case hr => first | (go_simp; done) | (go_simp; rfl)); intro gb108 hg w3 hbox hb; have n0_ := K0 (below_step HB.out hb); have BK := K0 hbox; have GE := K0 (by rw [hg]; exact (below_size HB.out) : w.heap.size ≤ gb108); clear HB; have HB := n0_; clear n0_; clear hb hbox hg))
  (try simp only [Act.put, List.setIfInBounds_toArray, List.set_cons_zero, List.set_cons_succ])
  have cb0 : w3.cell? ⟨gb108, 0, none⟩ = some (.int .i64 n) := (blk_cell BK.out 0).trans rfl
  have cb1 : w3.cell? ⟨gb108, 1, none⟩ = some (.slice A0 l0.length c0) := (blk_cell BK.out 1).trans rfl
  have HCALL := K0 (cnf_Right.calls k n A0 c0 l0 ra 0 w3 (Kd.C_below HR.out HB.out) HC.out HCR.out)
  go_wp2_with fail
  refine HCALL.out.mono ?_
  rintro e' w1 ⟨rfl, hb1⟩
  have BK1 := K0 (blk_below BK.out hb1)
  have HB1 := K0 (below_step HB.out hb1)
  clear hb1 HCALL BK HB cb0 cb1
  have cb0 : w1.cell? ⟨gb108, 0, none⟩ = some (.int .i64 n) := (blk_cell BK1.out 0).trans rfl
  have cb1 : w1.cell? ⟨gb108, 1, none⟩ = some (.slice A0 l0.length c0) := (blk_cell BK1.out 1).trans rfl
  have hmm := @run_makeMap Try.prog
  have e2 : ((w1.alloc (.map #[] 0)).alloc (.map #[] 0)).heap.size = w1.heap.size + 1 + 1 := by simp
  have hx := blk_new ((w1.alloc (.map #[] 0)).alloc (.map #[] 0)) (.cells #[.int .i64 n, .slice none 0 0, .map (some w1.heap.size), .slice none 0 0, .map (some (w1.heap.size + 1)), .slice none 0 0, .int .i64 (-1)] 71)
  rw [e2] at hx
  obtain ⟨W4, hW4⟩ : ∃ W4, ((w1.alloc (.map #[] 0)).alloc (.map #[] 0)).alloc (.cells #[.int .i64 n, .slice none 0 0, .map (some w1.heap.size), .slice none 0 0, .map (some (w1.heap.size + 1)), .slice none 0 0, .int .i64 (-1)] 71) = W4 := ⟨_, rfl⟩
  have hb4 : Below w1.heap.size w1 W4 := by rw [← hW4]; exact below_alloc (below_alloc (below_alloc (Below.refl _ _) _) _) _
  have hb3 : Below (w1.heap.size + 2) ((w1.alloc (.map #[] 0)).alloc (.map #[] 0)) W4 := by
    have := below_alloc (Below.refl ((w1.alloc (.map #[] 0)).alloc (.map #[] 0)).heap.size ((w1.alloc (.map #[] 0)).alloc (.map #[] 0))) (.cells #[.int .i64 n, .slice none 0 0, .map (some w1.heap.size), .slice none 0 0, .map (some (w1.heap.size + 1)), .slice none 0 0, .int .i64 (-1)] 71)
    rw [e2, hW4] at this
    exact this
  rw [hW4] at hx
  have cb2 := (blk_cell (blk_below BK1.out hb4) 1).trans rfl
  rw [← hW4] at cb2
  have H0 := K0 (EngIn.new n hb3 hx)
  have HB4 := K0 (below_step HB1.out hb4)
  have T0 : Aside0 (∀ k, k < w.heap.size → newT (w1.heap.size + 2) k = (0, 0)) := ⟨fun k hk => by
    have := HB1.out.size
    unfold newT
    rw [if_neg (by omega), if_neg (by omega), if_neg (by omega)]⟩
  rw [← hW4] at H0 HB4
  clear hx hb3 hb4 e2 hW4
  have hbig : l0.length ≤ 9223372036854775807 := HR.out.2.1
  go_wp2
  go_loopg [8, 26] l0.length (fun gg _ v26 wr => ∃ (j : Nat) (E1 : Eng) (T1 : Tag) (p1 : EngP), v26 = .int .i64 (j : Int) ∧ Aside0 (j + gg = l0.length) ∧ Aside0 (EngIn wr (w1.heap.size + 1 + 1) T1 E1 p1) ∧ Aside0 (Below w.heap.size w wr) ∧ Aside0 (∀ k, k < w.heap.size → T1 k = (0, 0)) ∧ Aside0 E1.Lits ∧ Aside0 (Eng.lays (l0.drop j) E1 = some E3))
  case atStart => exact ⟨0, _, _, _, rfl, ⟨by simp⟩, H0, HB4, T0, ⟨fun c hc => by simp [Eng.fresh] at hc⟩, HL⟩
  case round =>
    clear H0 HB4 T0 HL cb0 cb1 cb2 hmm
    obtain ⟨j, E1, T1, p1, rfl, hg, HE, HBw, HT, HLI, HLY⟩ := hrel
    by_cases hlt : j < l0.length
    · obtain ⟨c, hc⟩ : ∃ c, l0[j] = c := ⟨_, rfl⟩
      have hrd : rd_L3 l0 (j : Int) = c := by unfold rd_L3; rw [Int.toNat_natCast, List.getD_eq_getElem?_getD, List.getElem?_eq_getElem hlt, hc]; rfl
      have hly := HLY.out
      rw [List.drop_eq_getElem_cons hlt, hc] at hly
      replace hly : ((lit_Clean.f c).bind fun r => if E1.ws + r.1.length < 4398046511104 ∧ E1.cls.length + 1 < 5864062014805 then Eng.lays (l0.drop (j + 1)) (E1.laid r.1) else none) = some E3 := hly
      obtain ⟨⟨q1, q2⟩, hcl, hly⟩ := Option.bind_eq_some_iff.mp hly
      replace hly : (if E1.ws + q1.length < 4398046511104 ∧ E1.cls.length + 1 < 5864062014805 then Eng.lays (l0.drop (j + 1)) (E1.laid q1) else none) = some E3 := hly
      by_cases hq : E1.ws + q1.length < 4398046511104 ∧ E1.cls.length + 1 < 5864062014805
      · rw [if_pos hq] at hly
        obtain ⟨ad, A1, c1, e1, x1, l1, i1⟩ := at_L3 HR.out (j : Int) (by omega) (by omega)
        cases e1
        rw [hrd] at x1 l1 i1
        have x2 := (HBw.out.cell (World.block_lt_of_cell? w _ x1)).trans x1
        simp only [Int.toNat_natCast] at x2
        have hwfc := HWF.out c (by rw [← hc]; exact List.getElem_mem hlt) (q1, q2) hcl
        have HCALL := K0 (eng_lay.calls E1 _ T1 p1 A1 c1 c q1 q2 wr HE.out (Kd.C_below i1 HBw.out) l1 hcl hwfc hq.1 hq.2)
        have P0 : ((0 : Int) ≤ (j : Int)) = True := eq_true (by omega)
        have P1 : ((j : Int) < (l0.length : Int)) = True := eq_true (by omega)
        have P2 : (j < l0.length) = True := eq_true hlt
        have hd : decide ((j : Int) < (l0.length : Int)) = true := decide_eq_true (by omega)
        have HLY2 := K0 hly
        have HLI2 := K0 (Eng.laid_lits HLI.out hwfc)
        clear hly hq x1 l1 i1 hrd hwfc hcl hc HLY
        go_wp2_with fail
        refine HCALL.out.mono ?_
        rintro e' w5 ⟨rfl, T5, p5, h5, m5⟩
        have H5 := K0 h5
        have HB5 := K0 (Below.trans HBw.out (m5.below _ HBw.out.size HT.out))
        have HT5 := K0 (show ∀ k, k < w.heap.size → T5 k = (0, 0) from fun k hk => ((m5.old k (Nat.lt_of_lt_of_le hk HBw.out.size)).1.trans (HT.out k hk)))
        clear h5 m5 HCALL x2
        go_wp2
        go_roundg (l0.length - (j + 1))
        case measure => have := hg.out; omega
        case rel => exact ⟨j + 1, _, T5, p5, by simp, ⟨by have := hg.out; omega⟩, H5, HB5, HT5, HLI2, HLY2⟩
      · rw [if_neg hq] at hly; cases hly
    · have hj : l0.drop j = [] := List.drop_eq_nil_of_le (by omega)
      have hly := HLY.out
      rw [hj] at hly
      have hE : E1 = E3 := Option.some.inj hly
      have HCALL := K0 (eng_settle.calls k E1 _ T1 p1 E4 wr HE.out HLI.out (by rw [hE]; exact HS.out))
      have hd : decide ((j : Int) < (l0.length : Int)) = false := decide_eq_false (by omega)
      have P2 : (j < l0.length) = False := eq_false hlt
      clear hly hj HLY hE
      go_wp2_with fail
      refine HCALL.out.mono ?_
      rintro e' w5 ⟨rfl, T5, p5, h5, m5, f5⟩
      have H5 := K0 h5
      have HB5 := K0 (Below.trans HBw.out (m5.below _ HBw.out.size HT.out))
      have HT5 := K0 (show ∀ k, k < w.heap.size → T5 k = (0, 0) from fun k hk => ((m5.old k (Nat.lt_of_lt_of_le hk HBw.out.size)).1.trans (HT.out k hk)))
      clear h5 m5 f5 HCALL
      go_wp2
      go_ret2
      exact ⟨_, rfl, T5, p5, H5.out, HB5.out, HT5.out⟩
set_option maxRecDepth 100000 in
set_option maxHeartbeats 2000000 in
theorem eng_New.fails (k : Nat) (n : Int) (A0 : Option Addr) (c0 : Nat) (l0 : List (List Int)) (ra re : Int) (w : World) (hr0 : Kd.C (Kd.slice 3 (Kd.int .i64)) w A0 l0.length l0) (hc0 : l0.length ≤ c0) (hcr : cnf_Right.f k n l0 = some (ra, re)) (hre : re ≠ 0) :
    Calls Try.prog 10 #[.agg #[.int .i64 n, .slice A0 l0.length c0]] w fun e w' => e = .returned (.tuple #[.pointer none, .int .i64 re]) ∧ Below w.heap.size w w' := by
  have HR := K0 hr0
  have HC := K0 hc0
  have HCR := K0 hcr
  have hu24 := Try.underlying24
  have q1 : (re != 0) = true := by simpa using hre
  have q2 : (re == 0) = false := by simpa using hre
  clear hr0 hc0 hcr hre
  have HB := K0 (Below.refl w.heap.size w)
  go_enter Try.func10, Try.ntmps10
  go_upto_region 1 with (first | ((with_reducible refine gate_dst (N := 1) rfl ?_); refine box_event ?hg (N := 1) ?hd (cs := #[.int .i64 n, .slice A0 l0.length c0]) (t := 24) ?hr ?_; (case hd => rfl); (case hg => rfl); (case hr => first | (go_simp; done) | (go_simp; rfl)); intro gb108 hg w3 hbox hb; have n0_ := K0 (below_step HB.out hb); have BK := K0 hbox; have GE := K0 (by rw [hg]; exact (below_size HB.out) : w.heap.size ≤ gb108); clear HB; have HB := n0_; clear n0_; clear hb hbox hg))
  (try simp only [Act.put, List.setIfInBounds_toArray, List.set_cons_zero, List.set_cons_succ])
  have cb0 : w3.cell? ⟨gb108, 0, none⟩ = some (.int .i64 n) := (blk_cell BK.out 0).trans rfl
  have cb1 : w3.cell? ⟨gb108, 1, none⟩ = some (.slice A0 l0.length c0) := (blk_cell BK.out 1).trans rfl
  have HCALL := K0 (cnf_Right.calls k n A0 c0 l0 ra re w3 (Kd.C_below HR.out HB.out) HC.out HCR.out)
  go_wp2_with fail
  refine HCALL.out.mono ?_
  rintro e' w1 ⟨rfl, hb1⟩
  have HB1 := K0 (below_step HB.out hb1)
  clear hb1 HCALL BK HB cb0 cb1
  go_wp2
  go_ret2
  exact ⟨rfl, HB1.out⟩
def sequiturlaw20_alive.P (k : Nat) : Prop := ∃ E2 E3, Eng.new k 3 [[1, 2], [-1, 3]] = some (E2, 0) ∧ Eng.push k E2 (-2) = some (E3, true) ∧ E3.tr = [-2, 1, 3] ∧ E3.br < 0 ∧ sequiturbase_Ints.f k [-2, 1, 3] [-2, 1, 3] = some true ∧ E2.Lits ∧ ∀ c ∈ [[1, 2], [(-1 : Int), 3]], ∀ r, lit_Clean.f c = some r → ∀ x ∈ r.1, (Lit.int .i64 x).wf = true
set_option maxRecDepth 100000 in
set_option maxHeartbeats 4000000 in
theorem sequiturlaw20_alive.calls (k : Nat) (w : World) (h : sequiturlaw20_alive.P k) :
    Calls Try.prog 9 #[] w fun e w' => e = .returned (.bool true) ∧ Below w.heap.size w w' := by
  obtain ⟨E2, E3, h1, h2, h3, h4, h5, h6, h7⟩ := h
  have hu24 := Try.underlying24
  have HB := K0 (Below.refl w.heap.size w)
  obtain ⟨y129, hy129⟩ : ∃ y_ : List Int, y_ = (([1, 2] : List Int)) := ⟨_, rfl⟩
  have Ny129 := K0 hy129
  obtain ⟨y132, hy132⟩ : ∃ y_ : List Int, y_ = (([(-1), 3] : List Int)) := ⟨_, rfl⟩
  have Ny132 := K0 hy132
  obtain ⟨y135, hy135⟩ : ∃ y_ : List (List Int), y_ = (([y129, y132] : List (List Int))) := ⟨_, rfl⟩
  have Ny135 := K0 hy135
  have e135 : ([[1, 2], [-1, 3]] : List (List Int)) = y135 := by rw [hy135, hy129, hy132]
  rw [e135] at h1 h7
  obtain ⟨y144, hy144⟩ : ∃ y_ : List Int, y_ = (([(-2), 1, 3] : List Int)) := ⟨_, rfl⟩
  have Ny144 := K0 hy144
  rw [← hy144] at h3 h5
  have H1 := K0 h1
  have H2 := K0 h2
  have H3 := K0 h3
  have H4 := K0 h4
  have H5 := K0 h5
  have H6 := K0 h6
  have H7 := K0 h7
  clear h1 h2 h3 h4 h5 h6 h7 hy129 hy132 hy135 hy144 e135
  go_enter Try.func9, Try.ntmps9
  go_wp2_with (first | ((with_reducible refine gate_dst (N := 4) rfl ?_); (try (refine gate_guard (by rfl) ?_; dsimp only)); refine Kd.R_lit (Kd.int .i64) _ 3 ?hg (N := 4) ?hd (xs := ([1, 2] : List Int)) (inner := [.int .i64 1, .int .i64 2]) (ok := fun _ => True) (okp := fun _ => True) ?hr ?hp (fun _ hk => hk) trivial (Below.refl _ _) (Nat.le_refl _) (by simp) ?_; (case hd => rfl); (case hg => rfl); (case hr => first | (go_simp; done) | (go_simp; rfl)); (case hp => exact (Reps.one (show Kd.M (Kd.int .i64) _ _ _ 1 [.int .i64 1] from rfl) (Reps.one (show Kd.M (Kd.int .i64) _ _ _ 2 [.int .i64 2] from rfl) (Reps.none _ _)))); intro v130 w9 ho10 hb hg_ hnew_; clear hg_ hnew_; (first | rw [← Ny129.out] at ho10 | (simp only [Int.reduceToNat] at ho10; rw [← Ny129.out] at ho10)); have n0_ := K0 (Kd.R_lower ho10 (below_size (by repeat (first | (with_reducible first | exact HB.out | apply below_alloc | apply pw_below_drewN | apply below_drew1) | exact HB.out)))); have n1_ := K0 (below_step (by repeat (first | (with_reducible first | exact HB.out | apply below_alloc | apply pw_below_drewN | apply below_drew1) | exact HB.out)) hb); clear HB; have HO131 := n0_; have HB := n1_; clear n0_ n1_; clear hb ho10) | ((with_reducible refine gate_dst (N := 5) rfl ?_); (try (refine gate_guard (by rfl) ?_; dsimp only)); refine Kd.R_lit (Kd.int .i64) _ 3 ?hg (N := 5) ?hd (xs := ([(-1), 3] : List Int)) (inner := [.int .i64 (-1), .int .i64 3]) (ok := fun _ => True) (okp := fun _ => True) ?hr ?hp (fun _ hk => hk) trivial (Below.refl _ _) (Nat.le_refl _) (by simp) ?_; (case hd => rfl); (case hg => rfl); (case hr => first | (go_simp; done) | (go_simp; rfl)); (case hp => exact (Reps.one (show Kd.M (Kd.int .i64) _ _ _ (-1) [.int .i64 (-1)] from rfl) (Reps.one (show Kd.M (Kd.int .i64) _ _ _ 3 [.int .i64 3] from rfl) (Reps.none _ _)))); intro v133 w11 ho12 hb hg_ hnew_; clear hg_ hnew_; (first | rw [← Ny132.out] at ho12 | (simp only [Int.reduceToNat] at ho12; rw [← Ny132.out] at ho12)); have n0_ := K0 (Kd.R_elder' (by (with_reducible repeat (first | apply Kd.R_alloc | apply Kd.R_drewN | apply Kd.R_drew)); exact HO131.out) (Kd.R_base ho12) hb); have n1_ := K0 (Kd.R_lower (Kd.R_new' ho12 (Kd.R_lt (by (with_reducible repeat (first | apply Kd.R_alloc | apply Kd.R_drewN | apply Kd.R_drew)); exact HO131.out))) (below_size (by repeat (first | (with_reducible first | exact HB.out | apply below_alloc | apply pw_below_drewN | apply below_drew1) | exact HB.out)))); have n2_ := K0 (below_step (by repeat (first | (with_reducible first | exact HB.out | apply below_alloc | apply pw_below_drewN | apply below_drew1) | exact HB.out)) hb); clear HO131; clear HB; have HO131 := n0_; have HO134 := n1_; have HB := n2_; clear n0_ n1_ n2_; clear hb ho12; obtain ⟨Ao13, co13, eo13⟩ := Kd.R_slice HO131.out; subst eo13; obtain ⟨Ao14, co14, eo14⟩ := Kd.R_slice HO134.out; subst eo14) | ((with_reducible refine gate_dst (N := 6) rfl ?_); (try (refine gate_guard (by rfl) ?_; dsimp only)); refine Kd.N_lit (Kd.slice 3 (Kd.int .i64)) _ 37 ?hg (N' := 6) ?hd (xs := ([y129, y132] : List (List Int))) (inner := [.slice Ao13 y129.length co13, .slice Ao14 y132.length co14]) (ok := (fun _ => True)) (okp := (fun _ => True)) ?hr ?hp (fun _ hk => hk) ((show ∀ k_, w11.heap.size ≤ k_ → (fun _ => True) k_ from fun k_ hk => trivial) _ (Nat.le_refl _)) (Below.refl _ _) (Nat.le_refl _) (by simp) ?_; (case hd => rfl); (case hg => rfl); (case hr => first | (go_simp; done) | (go_simp; rfl)); (case hp => exact (Reps.one (show Kd.FK (Kd.slice 3 (Kd.int .i64)) _ _ y129 [.slice Ao13 y129.length co13] from (Kd.FK_slice_mk (Kd.R_reads' (Kd.R_mono (ok' := (fun _ => True)) (HO131.out) (fun k_ hk => trivial))).2.1 (Kd.R_F (Kd.R_mono (ok' := (fun _ => True)) (HO131.out) (fun k_ hk => trivial))))) (Reps.one (show Kd.FK (Kd.slice 3 (Kd.int .i64)) _ _ y132 [.slice Ao14 y132.length co14] from (Kd.FK_slice_mk (Kd.R_reads' (Kd.R_mono (ok' := (fun _ => True)) (HO134.out) (fun k_ hk => trivial))).2.1 (Kd.R_F (Kd.R_mono (ok' := (fun _ => True)) (HO134.out) (fun k_ hk => trivial))))) (Reps.none _ _)))); intro v136 w15 ho16 hb hg_ hnew_; clear hg_ hnew_; (first | rw [← Ny135.out] at ho16 | (simp only [Int.reduceToNat] at ho16; rw [← Ny135.out] at ho16)); have n0_ := K0 (Kd.N_lower ho16 (below_size (by repeat (first | (with_reducible first | exact HB.out | apply below_alloc | apply pw_below_drewN | apply below_drew1) | exact HB.out)))); have n1_ := K0 (below_step (by repeat (first | (with_reducible first | exact HB.out | apply below_alloc | apply pw_below_drewN | apply below_drew1) | exact HB.out)) hb); clear HB; clear HO131; clear HO134; have HO137 := n0_; have HB := n1_; clear n0_ n1_; clear hb ho16; obtain ⟨Ao17, co17, eo17⟩ := Kd.N_slice HO137.out; subst eo17))
  refine (eng_New.calls k 3 _ _ y135 E2 _ (Kd.N_reads' HO137.out).2.2 (Kd.N_reads' HO137.out).2.1 H7.out H1.out).mono ?_
  rintro e' w2 ⟨B, rfl, T, p, h, hb, hT⟩
  have HE := K0 h
  have HT := K0 (show ∀ k, k < w.heap.size → T k = (0, 0) from fun k hk => hT k (Nat.lt_of_lt_of_le hk (below_size (by repeat (first | (with_reducible first | exact HB.out | apply below_alloc | apply pw_below_drewN | apply below_drew1) | exact HB.out)))))
  have n_ := K0 (below_step (by repeat (first | (with_reducible first | exact HB.out | apply below_alloc | apply pw_below_drewN | apply below_drew1) | exact HB.out)) hb)
  clear HB HO137 h hb hT
  have HB := n_
  clear n_
  have hd1 : ((-2 : Int) == 0) = false := by decide
  go_wp2_with fail
  refine (eng_Push.calls k E2 B T p (-2) E3 true _ HE.out (by decide) H6.out H2.out).mono ?_
  rintro e' w3 ⟨rfl, T3, p3, h3, m3, f3⟩
  have n_ := K0 (Below.trans HB.out (m3.below _ HB.out.size HT.out))
  clear HB HE
  have HB := n_
  have HE := K0 h3
  clear n_ h3 m3 f3
  go_wp2_with fail
  refine (eng_Trail.calls E3 B T3 p3 _ HE.out (by rw [H3.out, Ny144.out]; decide)).mono ?_
  rintro e' w4 ⟨v142, rfl, ho0, hb⟩
  have HO143 := K0 (Kd.R_lower ho0 (below_size (by repeat (first | (with_reducible first | exact HB.out | apply below_alloc | apply pw_below_drewN | apply below_drew1) | exact HB.out))))
  have n0_ := K0 (HE.out.below hb)
  have n1_ := K0 (below_step (by repeat (first | (with_reducible first | exact HB.out | apply below_alloc | apply pw_below_drewN | apply below_drew1) | exact HB.out)) hb)
  clear HB HE ho0 hb
  have HE := n0_
  have HB := n1_
  clear n0_ n1_
  rw [H3.out] at HO143
  go_wp2_with (first | ((with_reducible refine gate_dst (N := 20) rfl ?_); (try (refine gate_guard (by rfl) ?_; dsimp only)); refine Kd.R_lit (Kd.int .i64) _ 3 ?hg (N := 20) ?hd (xs := ([(-2), 1, 3] : List Int)) (inner := [.int .i64 (-2), .int .i64 1, .int .i64 3]) (ok := fun _ => True) (okp := fun _ => True) ?hr ?hp (fun _ hk => hk) trivial (Below.refl _ _) (Nat.le_refl _) (by simp) ?_; (case hd => rfl); (case hg => rfl); (case hr => first | (go_simp; done) | (go_simp; rfl)); (case hp => exact (Reps.one (show Kd.M (Kd.int .i64) _ _ _ (-2) [.int .i64 (-2)] from rfl) (Reps.one (show Kd.M (Kd.int .i64) _ _ _ 1 [.int .i64 1] from rfl) (Reps.one (show Kd.M (Kd.int .i64) _ _ _ 3 [.int .i64 3] from rfl) (Reps.none _ _))))); intro v145 w21 ho22 hb hg_ hnew_; clear hg_ hnew_; (first | rw [← Ny144.out] at ho22 | (simp only [Int.reduceToNat] at ho22; rw [← Ny144.out] at ho22)); have n0_ := K0 (HE.out.below hb); have n1_ := K0 (Kd.R_elder' (by (with_reducible repeat (first | apply Kd.R_alloc | apply Kd.R_drewN | apply Kd.R_drew)); exact HO143.out) (Kd.R_base ho22) hb); have n2_ := K0 (Kd.R_lower (Kd.R_new' ho22 (Kd.R_lt (by (with_reducible repeat (first | apply Kd.R_alloc | apply Kd.R_drewN | apply Kd.R_drew)); exact HO143.out))) (below_size (by repeat (first | (with_reducible first | exact HB.out | apply below_alloc | apply pw_below_drewN | apply below_drew1) | exact HB.out)))); have n3_ := K0 (below_step (by repeat (first | (with_reducible first | exact HB.out | apply below_alloc | apply pw_below_drewN | apply below_drew1) | exact HB.out)) hb); clear HE; clear HO143; clear HB; have HE := n0_; have HO143 := n1_; have HO146 := n2_; have HB := n3_; clear n0_ n1_ n2_ n3_; clear hb ho22; obtain ⟨Ao23, co23, eo23⟩ := Kd.R_slice HO143.out; subst eo23; obtain ⟨Ao24, co24, eo24⟩ := Kd.R_slice HO146.out; subst eo24))
  refine (sequiturbase_Ints.calls k _ _ y144 _ _ y144 true _ (Kd.R_reads' HO143.out).2.2 (Kd.R_reads' HO143.out).2.1 (Kd.R_reads' HO146.out).2.2 (Kd.R_reads' HO146.out).2.1 H5.out).mono ?_
  rintro e' w5 ⟨rfl, ⟨nd, rfl⟩⟩
  have n0_ := K0 (HE.out.below (pw_below_drewN (Below.refl _ _) nd))
  have n1_ := K0 (pw_below_drewN HB.out nd)
  clear HB HE HO143 HO146
  have HE := n0_
  have HB := n1_
  clear n0_ n1_
  go_wp2_with fail
  refine (eng_Broken.calls E3 B T3 p3 _ HE.out).mono ?_
  rintro e' w6 ⟨rfl, rfl⟩
  have hd2 : decide (E3.br < 0) = true := decide_eq_true H4.out
  go_wp2
  go_ret
  exact ⟨by simp [H4.out], HB.out⟩
def Eng.add (k : Nat) (E : Eng) (c : List Int) : Option (Eng × Int) :=
  (lit_Right.f k c E.n).bind fun e => if e ≠ 0 then some (E, e) else if E.cls.length ≥ 4096 then some (E, 2) else (lit_Clean.f c).bind fun r =>
    if E.ws + r.1.length < 4398046511104 ∧ E.tr.length < 4398046511104 then (if E.br < 0 then (Eng.follow k ((E.laid r.1).look E.cls.length) E.tr.length).bind fun E' => some (E', 0) else some (E.laid r.1, 0)) else none
set_option maxRecDepth 100000 in
set_option maxHeartbeats 4000000 in
theorem eng_Add.calls (k : Nat) (E : Eng) (B : Nat) (T : Tag) (p : EngP) (A0 : Option Addr) (c0 : Nat) (l0 : List Int) (E2 : Eng) (r : Int) (w : World) (h : EngIn w B T E p) (hr0 : Kd.C (Kd.int .i64) w A0 l0.length l0) (hc0 : l0.length ≤ c0) (hlit : E.Lits) (hwf : ∀ r, lit_Clean.f l0 = some r → ∀ x ∈ r.1, (Lit.int .i64 x).wf = true) (hf : Eng.add k E l0 = some (E2, r)) :
    Calls Try.prog 32 #[.pointer (some ⟨B, 0, none⟩), .slice A0 l0.length c0] w fun e w' => e = .returned (.int .i64 r) ∧ ∃ T' p', EngIn w' B T' E2 p' ∧ Moved T T' w w' := by
  unfold Eng.add at hf
  obtain ⟨e, he, hf⟩ := Option.bind_eq_some_iff.mp hf
  have c0' := h.cells.1
  have HE := K0 h
  have HR := K0 (lit_Right.calls k A0 c0 l0 E.n e w hr0 hc0 he)
  clear he
  by_cases h0 : e = 0
  · subst h0
    rw [if_neg (by decide)] at hf
    obtain ⟨A1, k1, e1⟩ := Kd.R_slice h.cls
    obtain ⟨N, hN⟩ : ∃ N, E.cls.length = N := ⟨_, rfl⟩
    have hcc : ∀ {W : World}, Below w.heap.size w W → W.cell? ⟨B, 1, none⟩ = some (.slice A1 N k1) := fun hb => by
      rw [(h.below hb).cells.2.1, e1, h.len, hN]
    have HCC := K0 @hcc
    rw [hN] at hf
    by_cases h4 : N ≥ 4096
    · rw [if_pos h4] at hf
      simp only [Option.some.injEq, Prod.mk.injEq] at hf
      obtain ⟨h1, h2⟩ := hf
      subst h2
      have H2 := K0 h1
      have d1 : decide ((4096 : Int) ≤ (N : Int)) = true := decide_eq_true (by omega)
      have d2 : (4096 ≤ N) = True := eq_true h4
      clear h1 h hlit hwf hr0 hN hcc e1
      go_enter Try.func32, Try.ntmps32
      go_wp2_with fail
      refine HR.out.mono ?_
      rintro e' w1 ⟨rfl, ⟨⟨n1, rfl⟩⟩⟩
      have hb1 := pw_below_drewN (Below.refl w.heap.size w) n1
      have c1 := HCC.out hb1
      have HB1 := K0 hb1
      clear hb1
      go_wp2
      go_ret
      rw [← H2.out]
      exact ⟨rfl, T, p, HE.out.below HB1.out, Moved.of_below HB1.out⟩
    · rw [if_neg h4] at hf
      obtain ⟨⟨r1, r2⟩, hcl, hf⟩ := Option.bind_eq_some_iff.mp hf
      dsimp only at hf
      by_cases hbd : E.ws + r1.length < 4398046511104 ∧ E.tr.length < 4398046511104
      · rw [if_pos hbd] at hf
        have d1 : decide ((4096 : Int) ≤ (N : Int)) = false := decide_eq_false (by omega)
        have d2 : (4096 ≤ N) = False := eq_false h4
        have hw1 := hwf _ hcl
        have HCALL := K0 (fun W (hW : Below w.heap.size w W) => eng_lay.calls E B T p A0 c0 l0 r1 r2 W (h.below hW) (Kd.C_below hr0 hW) hc0 hcl hw1 hbd.1 (by rw [hN]; omega))
        obtain ⟨s1, s2, s3, s4, s5, s6, s7⟩ := E.laid_same r1
        have HS1 := K0 s1
        have HS2 := K0 s2
        have HS3 := K0 (show (E.laid r1).cls.length = N + 1 by rw [s3, List.length_append, hN]; rfl)
        have HLL := K0 (Eng.laid_lits hlit hw1)
        have HBD := K0 hbd
        have HF := K0 hf
        have hNb : N < 4096 := by omega
        clear h hlit hwf hr0 hN hcc e1 hcl hw1 s1 s2 s3 s4 s5 s6 s7 hbd hf h4
        go_enter Try.func32, Try.ntmps32
        go_wp2_with fail
        refine HR.out.mono ?_
        rintro e' w1 ⟨rfl, ⟨⟨n1, rfl⟩⟩⟩
        have hb1 := pw_below_drewN (Below.refl w.heap.size w) n1
        have c1 := HCC.out hb1
        have HB1 := K0 hb1
        clear hb1
        go_wp2_with fail
        refine (HCALL.out _ HB1.out).mono ?_
        rintro e' w2 ⟨rfl, T2, p2, h2, m2⟩
        have c6 := h2.cells.2.2.2.2.2.2.1
        rw [HS1.out] at c6
        have HM2 := K0 ((Moved.of_below HB1.out).trans m2)
        by_cases hbr : E.br < 0
        · have hf := HF.out
          rw [if_pos hbr] at hf
          obtain ⟨E5, hf5, hr⟩ := Option.bind_eq_some_iff.mp hf
          simp only [Option.some.injEq, Prod.mk.injEq] at hr
          obtain ⟨h1, h3⟩ := hr
          subst h3
          have H2 := K0 h1
          have d3 : decide (E.br < 0) = true := decide_eq_true hbr
          have c3 := h2.cells.2.2.2.1
          obtain ⟨A3, k3, e3⟩ := Kd.R_slice h2.tr
          obtain ⟨n3, hn3⟩ : ∃ n3, E.tr.length = n3 := ⟨_, rfl⟩
          rw [e3, HS2.out, hn3] at c3
          have c1' := h2.cells.2.1
          obtain ⟨A1', k1', e1'⟩ := Kd.R_slice h2.cls
          rw [e1', h2.len, HS3.out] at c1'
          have HLK := K0 (eng_look.calls (E.laid r1) B T2 p2 N w2 h2 (by rw [HS3.out]; omega) (HLL.out _ (List.getElem_mem _)) (by rw [HS2.out]; exact HBD.out.2))
          have HF5 := K0 hf5
          have HN3 := K0 hn3
          clear hf hf5 h1 hbr e3 hn3 e1' h2 m2 HCALL
          go_wp2_with fail
          refine HLK.out.mono ?_
          rintro e' w4 ⟨rfl, T4, p4, h4, m4, f4⟩
          have HM4 := K0 (HM2.out.trans m4)
          obtain ⟨l1, l2, _⟩ := (E.laid r1).look_cls N
          have HFO := K0 (eng_follow.calls k _ B T4 p4 n3 E5 w4 h4 (by unfold Eng.Lits; rw [l1]; exact HLL.out) (by rw [← HN3.out]; exact HF5.out))
          clear h4 m4 f4 l1 l2 HLK
          go_wp2_with fail
          refine HFO.out.mono ?_
          rintro e' w5 ⟨rfl, T5, p5, h5, m5, f5⟩
          have H5 := K0 h5
          have M5 := K0 (HM4.out.trans m5)
          clear h5 m5 f5 HFO
          go_wp2
          go_ret
          rw [← H2.out]
          exact ⟨rfl, T5, p5, H5.out, M5.out⟩
        · have hf := HF.out
          rw [if_neg hbr] at hf
          simp only [Option.some.injEq, Prod.mk.injEq] at hf
          obtain ⟨h1, h3⟩ := hf
          subst h3
          have H2 := K0 h1
          have d3 : decide (E.br < 0) = false := decide_eq_false hbr
          have H3 := K0 h2
          clear h1 hbr h2 m2 HCALL
          go_wp2
          go_ret
          rw [← H2.out]
          exact ⟨rfl, T2, p2, H3.out, HM2.out⟩
      · rw [if_neg hbd] at hf; cases hf
  · rw [if_pos h0] at hf
    simp only [Option.some.injEq, Prod.mk.injEq] at hf
    obtain ⟨h1, h2⟩ := hf
    subst h2
    have H2 := K0 h1
    have q1 : (e != 0) = true := by simpa using h0
    have q2 : (e == 0) = false := by simpa using h0
    clear h1 h hlit hwf hr0 h0
    go_enter Try.func32, Try.ntmps32
    go_wp2_with fail
    refine HR.out.mono ?_
    rintro e' w1 ⟨rfl, ⟨⟨n1, rfl⟩⟩⟩
    have HB1 := K0 (pw_below_drewN (Below.refl w.heap.size w) n1)
    go_wp2
    go_ret
    rw [← H2.out]
    exact ⟨rfl, T, p, HE.out.below HB1.out, Moved.of_below HB1.out⟩
def Eng.act (k : Nat) (E : Eng) (kind x : Int) (l : List Int) : Option (Eng × Bool × Int) :=
  if kind = 1 then (Eng.pop k E).map fun r => (r.1, r.2, 0) else if kind = 2 then (Eng.add k E l).map fun r => (r.1, decide (r.2 = 0), r.2) else (Eng.push k E x).map fun r => (r.1, r.2, 0)
def ActPost (B : Nat) (T : Tag) (E' : Eng) (W W' : World) : Prop := ∃ T' p', EngIn W' B T' E' p' ∧ Moved T T' W W'
set_option maxRecDepth 100000 in
set_option maxHeartbeats 4000000 in
theorem sequiturlaw20_act.calls (k : Nat) (E : Eng) (B : Nat) (T : Tag) (p : EngP) (kind x : Int) (A0 : Option Addr) (c0 : Nat) (l0 : List Int) (E2 : Eng) (r : Bool) (f : Int) (w : World) (h : EngIn w B T E p) (hr0 : Kd.C (Kd.int .i64) w A0 l0.length l0) (hc0 : l0.length ≤ c0) (hlit : E.Lits) (htr : ∀ x ∈ E.tr, (Lit.int .i64 x).wf = true) (hx : (Lit.int .i64 x).wf = true)
    (hwf : ∀ r, lit_Clean.f l0 = some r → ∀ x ∈ r.1, (Lit.int .i64 x).wf = true) (hf : Eng.act k E kind x l0 = some (E2, r, f)) :
    Calls Try.prog 15 #[.pointer (some ⟨B, 0, none⟩), .agg #[.int .i64 kind, .int .i64 x, .slice A0 l0.length c0]] w fun e w' => e = .returned (.tuple #[.bool r, .int .i64 f]) ∧ ActPost B T E2 w w' := by
  have hu35 := Try.underlying39
  have HE := K0 h
  have HR := K0 hr0
  have HC := K0 hc0
  have HL := K0 hlit
  have HTR := K0 htr
  have HX := K0 hx
  have HWF := K0 hwf
  clear h hr0 hc0 hlit htr hx hwf
  have HB := K0 (Below.refl w.heap.size w)
  unfold Eng.act at hf
  by_cases h1 : kind = 1
  · rw [if_pos h1] at hf
    obtain ⟨⟨E3, b⟩, hp, hq⟩ := Option.map_eq_some_iff.1 hf
    simp only [Prod.mk.injEq] at hq
    obtain ⟨rfl, rfl, rfl⟩ := hq
    have HP := K0 hp
    subst h1
    clear hf hp
    go_enter Try.func15, Try.ntmps15
    go_upto_region 1 with (first | ((with_reducible refine gate_dst (N := 3) rfl ?_); refine box_event ?hg (N := 3) ?hd (cs := #[.int .i64 1, .int .i64 x, .slice A0 l0.length c0]) (t := 39) ?hr ?_; (case hd => rfl); (case hg => rfl); (case hr => first | (go_simp; done) | (go_simp; rfl)); intro gb hg w3 hbox hb; have n0_ := K0 (below_step HB.out hb); have BK := K0 hbox; clear HB; have HB := n0_; clear n0_; clear hb hbox hg))
    (try simp only [Act.put, List.setIfInBounds_toArray, List.set_cons_zero, List.set_cons_succ])
    have cb0 : w3.cell? ⟨gb, 0, none⟩ = some (.int .i64 1) := (blk_cell BK.out 0).trans rfl
    have cb1 : w3.cell? ⟨gb, 1, none⟩ = some (.int .i64 x) := (blk_cell BK.out 1).trans rfl
    have cb2 : w3.cell? ⟨gb, 2, none⟩ = some (.slice A0 l0.length c0) := (blk_cell BK.out 2).trans rfl
    have HCALL := K0 (eng_Pop.calls k E B T p E3 b w3 (HE.out.below HB.out) HL.out HTR.out HP.out)
    go_wp2_with fail
    refine HCALL.out.mono ?_
    rintro e' w1 ⟨rfl, T1, p1, h1, m1, f1⟩
    have H1 := K0 h1
    have M1 := K0 ((Moved.of_below (T := T) HB.out).trans m1)
    clear h1 m1 f1 HCALL
    go_wp2
    go_ret2
    exact ⟨rfl, T1, p1, H1.out, M1.out⟩
  · rw [if_neg h1] at hf
    have d1 : (kind == 1) = false := beq_eq_false_iff_ne.2 h1
    by_cases h2 : kind = 2
    · rw [if_pos h2] at hf
      obtain ⟨⟨E3, b⟩, hp, hq⟩ := Option.map_eq_some_iff.1 hf
      simp only [Prod.mk.injEq] at hq
      obtain ⟨rfl, rfl, rfl⟩ := hq
      have HP := K0 hp
      subst h2
      have hbq : (b == 0) = decide (b = 0) := by by_cases hb : b = 0 <;> simp [hb]
      clear hf hp h1 d1
      go_enter Try.func15, Try.ntmps15
      go_upto_region 1 with (first | ((with_reducible refine gate_dst (N := 3) rfl ?_); refine box_event ?hg (N := 3) ?hd (cs := #[.int .i64 2, .int .i64 x, .slice A0 l0.length c0]) (t := 39) ?hr ?_; (case hd => rfl); (case hg => rfl); (case hr => first | (go_simp; done) | (go_simp; rfl)); intro gb hg w3 hbox hb; have n0_ := K0 (below_step HB.out hb); have BK := K0 hbox; clear HB; have HB := n0_; clear n0_; clear hb hbox hg))
      (try simp only [Act.put, List.setIfInBounds_toArray, List.set_cons_zero, List.set_cons_succ])
      have cb0 : w3.cell? ⟨gb, 0, none⟩ = some (.int .i64 2) := (blk_cell BK.out 0).trans rfl
      have cb1 : w3.cell? ⟨gb, 1, none⟩ = some (.int .i64 x) := (blk_cell BK.out 1).trans rfl
      have cb2 : w3.cell? ⟨gb, 2, none⟩ = some (.slice A0 l0.length c0) := (blk_cell BK.out 2).trans rfl
      have HCALL := K0 (eng_Add.calls k E B T p A0 c0 l0 E3 b w3 (HE.out.below HB.out) (Kd.C_below HR.out HB.out) HC.out HL.out HWF.out HP.out)
      go_wp2_with fail
      refine HCALL.out.mono ?_
      rintro e' w1 ⟨rfl, T1, p1, h1, m1⟩
      have H1 := K0 h1
      have M1 := K0 ((Moved.of_below (T := T) HB.out).trans m1)
      clear h1 m1 HCALL
      go_wp2
      go_ret2
      exact ⟨by simp [hbq], T1, p1, H1.out, M1.out⟩
    · rw [if_neg h2] at hf
      have d2 : (kind == 2) = false := beq_eq_false_iff_ne.2 h2
      obtain ⟨⟨E3, b⟩, hp, hq⟩ := Option.map_eq_some_iff.1 hf
      simp only [Prod.mk.injEq] at hq
      obtain ⟨rfl, rfl, rfl⟩ := hq
      have HP := K0 hp
      clear hf hp h1 h2
      go_enter Try.func15, Try.ntmps15
      go_upto_region 1 with (first | ((with_reducible refine gate_dst (N := 3) rfl ?_); refine box_event ?hg (N := 3) ?hd (cs := #[.int .i64 kind, .int .i64 x, .slice A0 l0.length c0]) (t := 39) ?hr ?_; (case hd => rfl); (case hg => rfl); (case hr => first | (go_simp; done) | (go_simp; rfl)); intro gb hg w3 hbox hb; have n0_ := K0 (below_step HB.out hb); have BK := K0 hbox; clear HB; have HB := n0_; clear n0_; clear hb hbox hg))
      (try simp only [Act.put, List.setIfInBounds_toArray, List.set_cons_zero, List.set_cons_succ])
      have cb0 : w3.cell? ⟨gb, 0, none⟩ = some (.int .i64 kind) := (blk_cell BK.out 0).trans rfl
      have cb1 : w3.cell? ⟨gb, 1, none⟩ = some (.int .i64 x) := (blk_cell BK.out 1).trans rfl
      have cb2 : w3.cell? ⟨gb, 2, none⟩ = some (.slice A0 l0.length c0) := (blk_cell BK.out 2).trans rfl
      have HCALL := K0 (eng_Push.calls k E B T p x E3 b w3 (HE.out.below HB.out) HX.out HL.out HP.out)
      go_wp2_with fail
      refine HCALL.out.mono ?_
      rintro e' w1 ⟨rfl, T1, p1, h1, m1, f1⟩
      have H1 := K0 h1
      have M1 := K0 ((Moved.of_below (T := T) HB.out).trans m1)
      clear h1 m1 f1 HCALL
      go_wp2
      go_ret2
      exact ⟨rfl, T1, p1, H1.out, M1.out⟩
def up20Acts (k : Nat) : List S39 → Eng → Int → List (List Int) → List (List Int) → Bool → Prop
  | [], _, _, _, _, _ => True
  | x :: l, E, N, L, Ls, Br => E.Lits ∧ (∀ y ∈ E.tr, (Lit.int .i64 y).wf = true) ∧ (Lit.int .i64 x.f1).wf = true ∧ (∀ r, lit_Clean.f x.f2 = some r → ∀ y ∈ r.1, (Lit.int .i64 y).wf = true) ∧ ∃ E2 N2 L2 Ls2 Br2 r f lv, Eng.act k E x.f0 x.f1 x.f2 = some (E2, r, f) ∧ sequiturlaw20_model.f k N L Ls Br x.f0 x.f1 x.f2 = some (N2, L2, Ls2, Br2, r, f) ∧ LikeP k E2 N2 L2 Ls2 Br2 lv ∧ up20Acts k l E2 N2 L2 Ls2 Br2
def sequiturlaw20_UnitPlays.Fact (k : Nat) (n : Int) (l : List (List Int)) (acts : List S39) : Prop :=
  sequiturlaw20_alive.P k ∧ ∃ fw, sequiturlaw20_Few.f k n l acts = some fw ∧ (fw = true → ∃ ra re, cnf_Right.f k n l = some (ra, re) ∧ sequiturref20_Right.f k n l = some re ∧ (re = 0 → ∃ E, Eng.new k n l = some (E, 0) ∧ (∀ c ∈ l, ∀ r, lit_Clean.f c = some r → ∀ x ∈ r.1, (Lit.int .i64 x).wf = true) ∧
    ∃ N L Ls Br lv, sequiturref20_New.f k n l = some (N, L, Ls, Br) ∧ LikeP k E N L Ls Br lv ∧ up20Acts k acts E N L Ls Br))
theorem V_moved {α : Type} {d : Kd α} {e base : Nat} {W W' : World} {T T' : Tag} {Q : Nat → Prop} {v : Value} {xs : List α} (h : Kd.V d e W base (fun k => T k = (0, 0) ∧ Q k) v xs) (m : Moved T T' W W') : Kd.V d e W' base (fun k => T' k = (0, 0) ∧ Q k) v xs :=
  Kd.V_mono (Kd.V_step (Kd.V_bound h) (fun k hk hlt => (m.old k hlt).2 hk.1.1)) (fun k hk => ⟨(m.old k hk.2).1.trans hk.1.1, hk.1.2⟩)
structure Up20 (w : World) (B : Nat) (cur : World) (T : Tag) (E : Eng) (p : EngP) (g : Nat) (N : Int) (A1 : Option Addr) (c1 : Nat) (L : List (List Int)) (A2 : Option Addr) (c2 : Nat) (Ls : List (List Int)) (Br : Bool) : Prop where
  e : EngIn cur B T E p
  b : Below w.heap.size w cur
  t : ∀ k, k < w.heap.size → T k = (0, 0)
  x : cur.heap[g]? = some (.cells #[.int .i64 N, .slice A1 L.length c1, .slice A2 Ls.length c2, .bool Br] 34 (0, 0))
  tx : T g = (0, 0)
  gx : w.heap.size ≤ g
  l : Kd.V (Kd.slice 3 (Kd.int .i64)) 37 cur 0 (fun k => T k = (0, 0) ∧ k ≠ g) (.slice A1 L.length c1) L
  ls : Kd.V (Kd.slice 3 (Kd.int .i64)) 37 cur 0 (fun k => T k = (0, 0) ∧ k ≠ g) (.slice A2 Ls.length c2) Ls
section
variable {w : World} {B : Nat} {cur nxt : World} {T T' : Tag} {E E' : Eng} {p p' : EngP} {g : Nat} {N : Int} {A1 A2 : Option Addr} {c1 c2 : Nat} {L Ls : List (List Int)} {Br : Bool}
theorem Up20.below (h : Up20 w B cur T E p g N A1 c1 L A2 c2 Ls Br) (hb : Below cur.heap.size cur nxt) : Up20 w B nxt T E p g N A1 c1 L A2 c2 Ls Br :=
  ⟨h.e.below hb, below_step h.b hb, h.t, blk_below h.x hb, h.tx, h.gx, Kd.V_below h.l hb, Kd.V_below h.ls hb⟩
theorem Up20.moved (h : Up20 w B cur T E p g N A1 c1 L A2 c2 Ls Br) (he : EngIn nxt B T' E' p') (m : Moved T T' cur nxt) : Up20 w B nxt T' E' p' g N A1 c1 L A2 c2 Ls Br :=
  ⟨he, Below.trans h.b (m.below _ h.b.size h.t), fun k hk => (m.old k (Nat.lt_of_lt_of_le hk h.b.size)).1.trans (h.t k hk), ((m.old g (blk_lt h.x)).2 h.tx).trans h.x, (m.old g (blk_lt h.x)).1.trans h.tx, h.gx, V_moved h.l m, V_moved h.ls m⟩
theorem Up20.turn (h : Up20 w B cur T E p g N A1 c1 L A2 c2 Ls Br) (hb : Below cur.heap.size cur nxt) {N' : Int} {A1' A2' : Option Addr} {c1' c2' : Nat} {L' Ls' : List (List Int)} {Br' : Bool}
    (h1 : Kd.V (Kd.slice 3 (Kd.int .i64)) 37 nxt 0 (fun k => T k = (0, 0) ∧ k ≠ g) (.slice A1' L'.length c1') L') (h2 : Kd.V (Kd.slice 3 (Kd.int .i64)) 37 nxt 0 (fun k => T k = (0, 0) ∧ k ≠ g) (.slice A2' Ls'.length c2') Ls') :
    Up20 w B (put4 nxt g (.int .i64 N') (.slice A1' L'.length c1') (.slice A2' Ls'.length c2') (.bool Br')) T E p g N' A1' c1' L' A2' c2' Ls' Br' := by
  have hn := h.below hb
  have hx := put4_facts hn.x (.int .i64 N') (.slice A1' L'.length c1') (.slice A2' Ls'.length c2') (.bool Br')
  have hfar : ∀ k, k ≠ g → (put4 nxt g (.int .i64 N') (.slice A1' L'.length c1') (.slice A2' Ls'.length c2') (.bool Br')).heap[k]? = nxt.heap[k]? := fun k hk => put4_far _ _ _ _ k hk
  refine ⟨?_, put4_below hn.b h.gx _ _ _ _, h.t, hx.2.2.2.2, h.tx, h.gx, Kd.V_step h1 (fun k hk _ => hfar k hk.2), Kd.V_step h2 (fun k hk _ => hfar k hk.2)⟩
  exact hn.e.aside (by rw [put4_size]; exact Nat.le_refl _) (fun k hk hne => hfar k (fun e => hne (e ▸ h.tx)))
end
set_option maxRecDepth 100000 in
set_option maxHeartbeats 8000000 in
theorem sequiturlaw20_UnitPlays.walk (k : Nat) (n : Int) (A0 : Option Addr) (c0 : Nat) (l0 : List (List Int)) (A1 : Option Addr) (c1 : Nat) (l1 : List S39) (w : World)
    (hr0 : Kd.C (Kd.slice 3 (Kd.int .i64)) w A0 l0.length l0) (hc0 : l0.length ≤ c0) (hr1 : Kd.C k39 w A1 l1.length l1) (hc1 : l1.length ≤ c1) (h : sequiturlaw20_UnitPlays.Fact k n l0 l1) :
    Calls Try.prog 3 #[.agg #[.int .i64 n, .slice A0 l0.length c0], .slice A1 l1.length c1] w fun e w' => e = .returned (.bool true) ∧ Below w.heap.size w w' := by
  obtain ⟨hal, fw, hfw, hh⟩ := h
  have HAL := K0 hal; have HFW := K0 hfw; have HH := K0 hh; have HR0 := K0 hr0; have HC0 := K0 hc0; have HR1 := K0 hr1; have HC1 := K0 hc1
  have hu24 := Try.underlying24
  have hu34 := Try.underlying34
  have hu39 := Try.underlying39
  clear hal hfw hh hr0 hc0 hr1 hc1
  have HB := K0 (Below.refl w.heap.size w)
  go_enter Try.func3, Try.ntmps3
  go_upto_region 1 with (first | ((with_reducible refine gate_dst (N := 2) rfl ?_); refine box_event ?hg (N := 2) ?hd (cs := #[.int .i64 n, .slice A0 l0.length c0]) (t := 24) ?hr ?_; (case hd => rfl); (case hg => rfl); (case hr => first | (go_simp; done) | (go_simp; rfl)); intro gb hg w3 hbox hb; have n0_ := K0 (below_step HB.out hb); have BK := K0 hbox; clear HB; have HB := n0_; clear n0_; clear hb hbox hg))
  (try simp only [Act.put, List.setIfInBounds_toArray, List.set_cons_zero, List.set_cons_succ])
  have cb0 : w3.cell? ⟨gb, 0, none⟩ = some (.int .i64 n) := (blk_cell BK.out 0).trans rfl
  have cb1 : w3.cell? ⟨gb, 1, none⟩ = some (.slice A0 l0.length c0) := (blk_cell BK.out 1).trans rfl
  have HCF := K0 (sequiturlaw20_Few.calls k n A0 c0 l0 A1 c1 l1 fw w3 (Kd.C_below HR0.out HB.out) HC0.out (Kd.C_below HR1.out HB.out) HC1.out HFW.out)
  cases fw with
  | false =>
    clear HH
    go_wp2_with fail
    refine HCF.out.mono ?_
    rintro e' w4 ⟨rfl, hb4⟩
    have n_ := K0 (below_step HB.out hb4); clear HB HCF hb4; have HB := n_; clear n_
    go_wp2_with fail
    refine (sequiturlaw20_alive.calls k _ HAL.out).mono ?_
    rintro e' w6 ⟨rfl, hb6⟩
    have n_ := K0 (below_step HB.out hb6); clear hb6
    go_wp2
    go_ret
    exact ⟨rfl, n_.out⟩
  | true =>
    obtain ⟨ra, re, hcr, hrr, hh⟩ := HH.out rfl
    have HCR := K0 hcr
    have HRR := K0 (fun (W : World) (hb : Below w.heap.size w W) => sequiturref20_Right.calls k n A0 c0 l0 re W (Kd.C_below HR0.out hb) HC0.out hrr)
    clear HH hcr hrr
    go_wp2_with fail
    refine HCF.out.mono ?_
    rintro e' w4 ⟨rfl, hb4⟩
    have n_ := K0 (below_step HB.out hb4)
    have BK4 := K0 (blk_below BK.out hb4)
    clear HB BK HCF hb4 cb0 cb1; have HB := n_; clear n_
    have cb0 : w4.cell? ⟨gb, 0, none⟩ = some (.int .i64 n) := (blk_cell BK4.out 0).trans rfl
    have cb1 : w4.cell? ⟨gb, 1, none⟩ = some (.slice A0 l0.length c0) := (blk_cell BK4.out 1).trans rfl
    by_cases hre : re = 0
    case neg =>
      have q1 : (re != 0) = true := by simpa using hre
      have q2 : (re == 0) = false := by simpa using hre
      have HCN := K0 (eng_New.fails k n A0 c0 l0 ra re w4 (Kd.C_below HR0.out HB.out) HC0.out HCR.out hre)
      clear hh hre
      go_wp2_with fail
      refine HCN.out.mono ?_
      rintro e' w5 ⟨rfl, hb5⟩
      have n_ := K0 (below_step HB.out hb5)
      have BK5 := K0 (blk_below BK4.out hb5)
      clear HB HCN hb5 BK4 cb0 cb1; have HB := n_; clear n_
      have cb0 : w5.cell? ⟨gb, 0, none⟩ = some (.int .i64 n) := (blk_cell BK5.out 0).trans rfl
      have cb1 : w5.cell? ⟨gb, 1, none⟩ = some (.slice A0 l0.length c0) := (blk_cell BK5.out 1).trans rfl
      go_wp2_with fail
      refine (HRR.out _ HB.out).mono ?_
      rintro e' w6 ⟨rfl, hb6⟩
      have n_ := K0 (below_step HB.out hb6); clear HB HRR hb6 cb0 cb1; have HB := n_; clear n_
      go_wp2_with fail
      refine (sequiturlaw20_alive.calls k _ HAL.out).mono ?_
      rintro e' w7 ⟨rfl, hb7⟩
      have n_ := K0 (below_step HB.out hb7); clear hb7
      go_wp2
      go_ret
      exact ⟨rfl, n_.out⟩
    subst hre
    obtain ⟨E, hnew, hwf, N, L, Ls, Br, lv, hrn, hlk, hh⟩ := hh rfl
    have HCN := K0 (eng_New.calls k n A0 c0 l0 E w4 (Kd.C_below HR0.out HB.out) HC0.out hwf hnew)
    have HRN := K0 (fun (W : World) (hb : Below w.heap.size w W) => sequiturref20_New.calls k n A0 c0 l0 N L Ls Br W (Kd.C_below HR0.out hb) HC0.out hrn)
    have HLK := K0 hlk; have HGO := K0 hh; clear hnew hwf hh hrn hlk
    go_wp2_with fail
    refine HCN.out.mono ?_
    rintro e' w5 ⟨B, rfl, T, p, h5, hb5, hT5⟩
    have n_ := K0 (below_step HB.out hb5)
    have BK5 := K0 (blk_below BK4.out hb5)
    have HE := K0 h5
    have HT := K0 (show ∀ k, k < w.heap.size → T k = (0, 0) from fun k hk => hT5 k (Nat.lt_of_lt_of_le hk (below_size HB.out)))
    clear HB BK4 HCN h5 hb5 hT5 cb0 cb1; have HB := n_; clear n_
    have cb0 : w5.cell? ⟨gb, 0, none⟩ = some (.int .i64 n) := (blk_cell BK5.out 0).trans rfl
    have cb1 : w5.cell? ⟨gb, 1, none⟩ = some (.slice A0 l0.length c0) := (blk_cell BK5.out 1).trans rfl
    go_wp2_with fail
    refine (HRR.out _ HB.out).mono ?_
    rintro e' w6 ⟨rfl, hb6⟩
    have n_ := K0 (below_step HB.out hb6)
    have BK6 := K0 (blk_below BK5.out hb6)
    have HE6 := K0 (HE.out.below hb6)
    clear HB BK5 HRR hb6 cb0 cb1 HE; have HB := n_; clear n_
    have cb0 : w6.cell? ⟨gb, 0, none⟩ = some (.int .i64 n) := (blk_cell BK6.out 0).trans rfl
    have cb1 : w6.cell? ⟨gb, 1, none⟩ = some (.slice A0 l0.length c0) := (blk_cell BK6.out 1).trans rfl
    go_wp2_with fail
    refine (HRN.out _ HB.out).mono ?_
    rintro e' w7 ⟨v1, v2, rfl, q1, q2, hb7⟩
    obtain ⟨B1, k1, e1⟩ := Kd.V_slice q1
    obtain ⟨B2, k2, e2⟩ := Kd.V_slice q2
    subst e1 e2
    have HE7 := K0 (HE6.out.below hb7)
    have HB7 := K0 (below_step HB.out hb7)
    have Q1 := K0 q1; have Q2 := K0 q2
    have HFR := K0 HE6.out.fresh
    clear q1 q2 hb7 HE6 HB HRN cb0 cb1 BK6
    go_upto_region 10 with fail
    obtain ⟨W8, hW8⟩ : ∃ W : World, w7.alloc (.cells #[.int .i64 N, .slice B1 L.length k1, .slice B2 Ls.length k2, .bool Br] 34) = W := ⟨_, rfl⟩
    have hb8 : Below w7.heap.size w7 W8 := by rw [← hW8]; exact below_alloc (Below.refl _ _) _
    have n8 := blk_new w7 (.cells #[.int .i64 N, .slice B1 L.length k1, .slice B2 Ls.length k2, .bool Br] 34)
    rw [hW8] at n8 ⊢
    have HS8 := K0 (show Up20 w B W8 T E p w7.heap.size N B1 k1 L B2 k2 Ls Br from ⟨HE7.out.below hb8, below_step HB7.out hb8, HT.out, n8, HE7.out.fresh _ (Nat.le_refl _), HB7.out.size, Kd.V_map (Kd.V_mono (Kd.V_below (Kd.V_bound Q1.out) hb8) (fun k hk => (⟨HFR.out k hk.1, by omega⟩ : T k = (0, 0) ∧ k ≠ w7.heap.size))) (fun _ hf => hf), Kd.V_map (Kd.V_mono (Kd.V_below (Kd.V_bound Q2.out) hb8) (fun k hk => (⟨HFR.out k hk.1, by omega⟩ : T k = (0, 0) ∧ k ≠ w7.heap.size))) (fun _ hf => hf)⟩)
    obtain ⟨g8, hg8⟩ : ∃ g, w7.heap.size = g := ⟨_, rfl⟩
    rw [hg8] at HS8 ⊢
    clear hW8 hb8 n8 hg8 HE7 HB7 Q1 Q2 HFR HT
    have x0 : W8.cell? ⟨g8, 0, none⟩ = some (.int .i64 N) := (blk_cell HS8.out.x 0).trans rfl
    have x1 : W8.cell? ⟨g8, 1, none⟩ = some (.slice B1 L.length k1) := (blk_cell HS8.out.x 1).trans rfl
    have x2 : W8.cell? ⟨g8, 2, none⟩ = some (.slice B2 Ls.length k2) := (blk_cell HS8.out.x 2).trans rfl
    have x3 : W8.cell? ⟨g8, 3, none⟩ = some (.bool Br) := (blk_cell HS8.out.x 3).trans rfl
    go_wp2_with fail
    refine (sequiturlaw20_like.calls k E B T p N B1 k1 L B2 k2 Ls Br lv W8 HS8.out.e (Kd.V_reads' HS8.out.l).2.2 (Kd.V_reads' HS8.out.ls).2.2 HLK.out).mono ?_
    rintro e' w9 ⟨rfl, hb9⟩
    have HS9 := K0 (HS8.out.below hb9)
    have hlb : l1.length ≤ 9223372036854775807 := HR1.out.2.1
    clear hb9 HS8 x0 x1 x2 x3 HLK
    go_wp2
    go_loopg [10, 11, 12, 13, 14, 15, 55] l1.length (fun gg v10 v11 v12 v13 v14 v15 v55 wr => ∃ (j : Nat) (E1 : Eng) (N1 : Int) (L1 Ls1 : List (List Int)) (Br1 : Bool) (T1 : Tag) (p1 : EngP) (D1 : Option Addr) (m1 : Nat) (D2 : Option Addr) (m2 : Nat), v55 = .int .i64 (j : Int) ∧ Aside0 (j + gg = l1.length) ∧ Aside0 (Up20 w B wr T1 E1 p1 g8 N1 D1 m1 L1 D2 m2 Ls1 Br1) ∧ Aside0 (up20Acts k (l1.drop j) E1 N1 L1 Ls1 Br1))
    case atStart => exact ⟨0, E, N, L, Ls, Br, T, p, B1, k1, B2, k2, rfl, ⟨by simp⟩, HS9, HGO⟩
    case round =>
      clear HS9 HGO
      obtain ⟨j, E1, N1, L1, Ls1, Br1, T1, p1, D1, m1, D2, m2, rfl, hg, HS, HGO⟩ := hrel
      by_cases hlt : j < l1.length
      case neg =>
        have hd : decide ((j : Int) < (l1.length : Int)) = false := decide_eq_false (by omega)
        have P2 : (j < l1.length) = False := eq_false hlt
        go_wp2_with fail
        refine (sequiturlaw20_alive.calls k _ HAL.out).mono ?_
        rintro e' w12 ⟨rfl, hb12⟩
        have n_ := K0 (below_step HS.out.b hb12); clear hb12
        go_wp2
        go_ret
        exact ⟨rfl, n_.out⟩
      obtain ⟨a, hx⟩ : ∃ a, l1[j] = a := ⟨_, rfl⟩
      have hrd : rd_T39 l1 (j : Int) = a := by unfold rd_T39; rw [Int.toNat_natCast, List.getD_eq_getElem?_getD, List.getElem?_eq_getElem hlt, hx]; rfl
      have hgo := HGO.out
      rw [List.drop_eq_getElem_cons hlt, hx] at hgo
      obtain ⟨g1, g2, g3, g4, E2, N2, L2, Ls2, Br2, r, f, lv2, hact, hmod, hlk, hgo2⟩ := hgo
      obtain ⟨ad, A3, c3, e1, y1, y2, y3, l3, iw⟩ := at_T39 HR1.out (j : Int) (by omega) (by omega)
      cases e1
      rw [hrd] at y1 y2 y3 l3 iw
      simp only [Int.toNat_natCast] at y1 y2 y3
      replace y1 := (HS.out.b.cell (World.block_lt_of_cell? w _ y1)).trans y1
      replace y2 := (HS.out.b.cell (World.block_lt_of_cell? w _ y2)).trans y2
      replace y3 := (HS.out.b.cell (World.block_lt_of_cell? w _ y3)).trans y3
      have IW := K0 iw
      have P0 : ((0 : Int) ≤ (j : Int)) = True := eq_true (by omega)
      have P1 : ((j : Int) < (l1.length : Int)) = True := eq_true (by omega)
      have P2 : (j < l1.length) = True := eq_true hlt
      have hd : decide ((j : Int) < (l1.length : Int)) = true := decide_eq_true (by omega)
      have G1 := K0 g1; have G2 := K0 g2; have G3 := K0 g3; have G4 := K0 g4; have HA := K0 hact; have HM := K0 hmod; have HK := K0 hlk; have HG2 := K0 hgo2; clear hgo2 g1 g2 g3 g4 hact hmod hlk HGO hrd hx iw
      go_upto_region 15 with fail
      clear y1 y2 y3
      obtain ⟨Wa, hWa⟩ : ∃ W : World, wr.alloc (.cells #[.int .i64 a.f0, .int .i64 a.f1, .slice A3 a.f2.length c3] 39) = W := ⟨_, rfl⟩
      have hba : Below wr.heap.size wr Wa := by rw [← hWa]; exact below_alloc (Below.refl _ _) _
      have na := blk_new wr (.cells #[.int .i64 a.f0, .int .i64 a.f1, .slice A3 a.f2.length c3] 39)
      rw [hWa] at na ⊢
      have HSA := K0 (HS.out.below hba)
      have HGA := K0 (show wr.heap.size ≠ g8 by have := blk_lt HS.out.x; omega)
      obtain ⟨gA, hgA⟩ : ∃ g, wr.heap.size = g := ⟨_, rfl⟩
      rw [hgA] at na HGA ⊢
      have HNA := K0 na; clear hWa hba na hgA HS
      have x0 : Wa.cell? ⟨g8, 0, none⟩ = some (.int .i64 N1) := (blk_cell HSA.out.x 0).trans rfl
      have x1 : Wa.cell? ⟨g8, 1, none⟩ = some (.slice D1 L1.length m1) := (blk_cell HSA.out.x 1).trans rfl
      have x2 : Wa.cell? ⟨g8, 2, none⟩ = some (.slice D2 Ls1.length m2) := (blk_cell HSA.out.x 2).trans rfl
      have x3 : Wa.cell? ⟨g8, 3, none⟩ = some (.bool Br1) := (blk_cell HSA.out.x 3).trans rfl
      have y1 : Wa.cell? ⟨gA, 0, none⟩ = some (.int .i64 a.f0) := (blk_cell HNA.out 0).trans rfl
      have y2 : Wa.cell? ⟨gA, 1, none⟩ = some (.int .i64 a.f1) := (blk_cell HNA.out 1).trans rfl
      have y3 : Wa.cell? ⟨gA, 2, none⟩ = some (.slice A3 a.f2.length c3) := (blk_cell HNA.out 2).trans rfl
      go_wp2_with fail
      refine (sequiturlaw20_model.calls k N1 (fun k => T1 k = (0, 0) ∧ k ≠ g8) D1 m1 L1 D2 m2 Ls1 Br1 a.f0 a.f1 A3 c3 a.f2 N2 L2 Ls2 Br2 r f Wa (Kd.V_map HSA.out.l (fun _ hf => hf)) (Kd.V_map HSA.out.ls (fun _ hf => hf)) (Kd.C_below IW.out HSA.out.b) l3 HM.out).mono ?_
      rintro e' w7 ⟨v1, v2, rfl, q1, q2, hb7⟩
      obtain ⟨C1, n1, e1⟩ := Kd.V_slice q1
      obtain ⟨C2, n2, e2⟩ := Kd.V_slice q2
      subst e1 e2; have HB7 := K0 hb7
      have hz : ∀ k, ((T1 k = (0, 0) ∧ k ≠ g8) ∨ Wa.heap.size ≤ k) → T1 k = (0, 0) ∧ k ≠ g8 := fun k hk => hk.elim id (fun hk => ⟨HSA.out.e.fresh k hk, by have := blk_lt HSA.out.x; omega⟩)
      have Q1 := K0 (Kd.V_mono q1 hz)
      have Q2 := K0 (Kd.V_mono q2 hz)
      clear q1 q2 hb7 hz x0 x1 x2 x3 y1 y2 y3
      go_upto_region 16 with fail
      obtain ⟨W6, hW6⟩ : ∃ W : World, w7.alloc (.cells #[.int .i64 N2, .slice C1 L2.length n1, .slice C2 Ls2.length n2, .bool Br2] 34) = W := ⟨_, rfl⟩
      have hb6 : Below w7.heap.size w7 W6 := by rw [← hW6]; exact below_alloc (Below.refl _ _) _
      have n6 := blk_new w7 (.cells #[.int .i64 N2, .slice C1 L2.length n1, .slice C2 Ls2.length n2, .bool Br2] 34)
      rw [hW6] at n6 ⊢
      have HB6 := K0 (below_step HB7.out hb6)
      have HS6 := K0 (HSA.out.turn (Br' := Br2) (N' := N2) HB6.out (Kd.V_below Q1.out hb6) (Kd.V_below Q2.out hb6))
      have HX6 := K0 (HSA.out.below HB6.out).x
      obtain ⟨g6, hg6⟩ : ∃ g, w7.heap.size = g := ⟨_, rfl⟩
      rw [hg6] at n6 ⊢
      have x0 : W6.cell? ⟨g6, 0, none⟩ = some (.int .i64 N2) := (blk_cell n6 0).trans rfl
      have x1 : W6.cell? ⟨g6, 1, none⟩ = some (.slice C1 L2.length n1) := (blk_cell n6 1).trans rfl
      have x2 : W6.cell? ⟨g6, 2, none⟩ = some (.slice C2 Ls2.length n2) := (blk_cell n6 2).trans rfl
      have x3 : W6.cell? ⟨g6, 3, none⟩ = some (.bool Br2) := (blk_cell n6 3).trans rfl
      have HNA6 := K0 (blk_below HNA.out HB6.out)
      clear hW6 hb6 n6 hg6 Q1 Q2 HB7
      obtain ⟨⟨u0, z0⟩, ⟨u1, z1⟩, ⟨u2, z2⟩, ⟨u3, z3⟩, u4⟩ := put4_facts HX6.out (.int .i64 N2) (.slice C1 L2.length n1) (.slice C2 Ls2.length n2) (.bool Br2)
      clear u4
      go_upto_region 17 with fail
      clear x0 x1 x2 x3 u0 u1 u2 u3 z0 z1 z2 z3
      obtain ⟨W9, hW9⟩ : ∃ W : World, (((W6.setCell ⟨g8, 0, none⟩ (.int .i64 N2)).setCell ⟨g8, 1, none⟩ (.slice C1 L2.length n1)).setCell ⟨g8, 2, none⟩ (.slice C2 Ls2.length n2)).setCell ⟨g8, 3, none⟩ (.bool Br2) = W := ⟨_, rfl⟩
      have HS9 := K0 (show Up20 w B W9 T1 E1 p1 g8 N2 C1 n1 L2 C2 n2 Ls2 Br2 by rw [← hW9]; exact HS6.out)
      have HNA9 := K0 (show W9.heap[gA]? = some (.cells #[.int .i64 a.f0, .int .i64 a.f1, .slice A3 a.f2.length c3] 39 (0, 0)) by rw [← hW9]; exact (put4_far _ _ _ _ gA HGA.out).trans HNA6.out)
      rw [hW9]
      clear hW9 HS6 HNA6 HX6
      have y1 : W9.cell? ⟨gA, 0, none⟩ = some (.int .i64 a.f0) := (blk_cell HNA9.out 0).trans rfl
      have y2 : W9.cell? ⟨gA, 1, none⟩ = some (.int .i64 a.f1) := (blk_cell HNA9.out 1).trans rfl
      have y3 : W9.cell? ⟨gA, 2, none⟩ = some (.slice A3 a.f2.length c3) := (blk_cell HNA9.out 2).trans rfl
      go_wp2_with fail
      refine (sequiturlaw20_act.calls k E1 B T1 p1 a.f0 a.f1 A3 c3 a.f2 E2 r f W9 HS9.out.e (Kd.C_below IW.out HS9.out.b) l3 G1.out G2.out G3.out G4.out HA.out).mono ?_
      rintro e' w10 ⟨rfl, T7, p7, h7, m7⟩
      have HS7 := K0 (HS9.out.moved h7 m7)
      clear h7 m7 HS9 HNA9 y1 y2 y3
      have x0 : w10.cell? ⟨g8, 0, none⟩ = some (.int .i64 N2) := (blk_cell HS7.out.x 0).trans rfl
      have x1 : w10.cell? ⟨g8, 1, none⟩ = some (.slice C1 L2.length n1) := (blk_cell HS7.out.x 1).trans rfl
      have x2 : w10.cell? ⟨g8, 2, none⟩ = some (.slice C2 Ls2.length n2) := (blk_cell HS7.out.x 2).trans rfl
      have x3 : w10.cell? ⟨g8, 3, none⟩ = some (.bool Br2) := (blk_cell HS7.out.x 3).trans rfl
      go_wp2_with fail
      refine (sequiturlaw20_like.calls k E2 B T7 p7 N2 C1 n1 L2 C2 n2 Ls2 Br2 lv2 w10 HS7.out.e (Kd.V_reads' HS7.out.l).2.2 (Kd.V_reads' HS7.out.ls).2.2 HK.out).mono ?_
      rintro e' w11 ⟨rfl, hb11⟩
      have HS11 := K0 (HS7.out.below hb11)
      clear hb11 HS7 x0 x1 x2 x3
      go_wp2
      go_roundg (l1.length - (j + 1))
      case measure => have := hg.out; omega
      case rel => exact ⟨j + 1, E2, N2, L2, Ls2, Br2, T7, p7, C1, n1, C2, n2, by simp, ⟨by have := hg.out; omega⟩, HS11, HG2⟩
theorem sequiturlaw20_UnitPlays.calls (k : Nat) (a0_0 : Int) (A0_1 : Option Addr) (c0_1 : Nat) (l0_1 : List (List Int)) (A1 : Option Addr) (c1 : Nat) (l1 : List S39) (w : World)
    (hr0_1 : Kd.C (Kd.slice 3 (Kd.int .i64)) w A0_1 l0_1.length l0_1) (hc0_1 : l0_1.length ≤ c0_1) (hr1 : Kd.C k39 w A1 l1.length l1) (hc1 : l1.length ≤ c1) (h : sequiturlaw20_UnitPlays.Fact k a0_0 l0_1 l1) :
    Calls Try.prog 3 #[.agg #[.int .i64 a0_0, .slice A0_1 l0_1.length c0_1], .slice A1 l1.length c1] w fun e w' => e = .returned (.bool true) ∧ Below w.heap.size w w' := by
  exact sequiturlaw20_UnitPlays.walk k a0_0 A0_1 c0_1 l0_1 A1 c1 l1 w hr0_1 hc0_1 hr1 hc1 h
end Go.Proofs.Ytkmlekfmccghjaa.P
