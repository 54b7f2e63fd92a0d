import Derived.Lib.SliceRun
import Derived.Deep.DeepCutAuto
import Derived.Deep.RegionLaw
import Derived.Shelf.RegionOpenPlain
import Derived.ArgAppend
import Derived.Test.YtppkeonhbkahmaaKCoreTrims1
import Derived.Test.YtppkeonhbkahmaaKCoreTrims7
import Derived.Test.YtppkeonhbkahmaaKCoreTrims8
import Derived.Test.YtppkeonhbkahmaaKCoreTrims3
namespace Go.Proofs.Ytppkeonhbkahmaa.P
open Go.RowKit Go.Proofs.YtppkeonhbkahmaaW.PrintWords Go.Proofs.YtppkeonhbkahmaaW.PrintLast Go.Proofs.YtppkeonhbkahmaaW.PrintMore
attribute [local go_sem] max2_int min2_int max_two min_two max_three min_three max_four min_four
set_option linter.unusedVariables false
set_option linter.unusedSimpArgs false
def cmpI (a b : Int) : Int := if a < b then -1 else if b < a then 1 else 0
set_option maxRecDepth 100000 in
theorem cmp_isNaN.calls (a : Int) (W : World) : Calls Try.prog 74 #[.int .i64 a] W fun e W' => e = .returned (.bool false) ∧ W' = W := by
  go_enter Try.func74, Try.ntmps74
  go_wp2
  all_goals (go_ret; exact ⟨by simp, rfl⟩)
set_option maxRecDepth 100000 in
theorem cmp_Compare.calls (a b : Int) (W : World) : Calls Try.prog 68 #[.int .i64 a, .int .i64 b] W fun e W' => e = .returned (.int .i64 (cmpI a b)) ∧ W' = W := by
  unfold cmpI
  by_cases h1 : a < b
  case pos =>
    rw [if_pos h1]
    go_enter Try.func68, Try.ntmps68
    go_wp2_with fail
    refine (cmp_isNaN.calls a W).mono ?_
    rintro e w' ⟨rfl, rfl⟩
    go_wp2_with fail
    refine (cmp_isNaN.calls b _).mono ?_
    rintro e w' ⟨rfl, rfl⟩
    go_wp2
    go_ret
    exact ⟨rfl, rfl⟩
  rw [if_neg h1]
  by_cases h2 : b < a
  case neg =>
    rw [if_neg h2]
    go_enter Try.func68, Try.ntmps68
    go_wp2_with fail
    refine (cmp_isNaN.calls a W).mono ?_
    rintro e w' ⟨rfl, rfl⟩
    go_wp2_with fail
    refine (cmp_isNaN.calls b _).mono ?_
    rintro e w' ⟨rfl, rfl⟩
    go_wp2
    go_ret
    exact ⟨rfl, rfl⟩
  rw [if_pos h2]
  go_enter Try.func68, Try.ntmps68
  go_wp2_with fail
  refine (cmp_isNaN.calls a W).mono ?_
  rintro e w' ⟨rfl, rfl⟩
  go_wp2_with fail
  refine (cmp_isNaN.calls b _).mono ?_
  rintro e w' ⟨rfl, rfl⟩
  go_wp2
  go_ret
  exact ⟨rfl, rfl⟩
set_option maxRecDepth 100000 in
theorem cmp_Or.calls (a b : Int) (g : Nat) (W : World) (h0 : W.cell? ⟨g, 0, none⟩ = some (.int .i64 a)) (h1 : W.cell? ⟨g, 1, none⟩ = some (.int .i64 b)) :
    Calls Try.prog 67 #[.slice (some ⟨g, 0, none⟩) 2 2] W fun e W' => e = .returned (.int .i64 (if a ≠ 0 then a else b)) ∧ W' = W := by
  go_enter Try.func67, Try.ntmps67
  go_wp2
  go_loopg [5, 8] 2 (fun gg _ v8 wr => ∃ j : Nat, v8 = .int .i64 (j : Int) ∧ wr = W ∧ Aside0 (j + gg = 2) ∧ Aside0 (0 < j → a = 0) ∧ Aside0 (1 < j → b = 0))
  case atStart => exact ⟨0, rfl, rfl, ⟨rfl⟩, ⟨fun h => by omega⟩, ⟨fun h => by omega⟩⟩
  case round =>
    obtain ⟨j, rfl, rfl, hg, ha, hb⟩ := hrel
    rcases Nat.lt_or_ge j 2 with hj | hj
    · rcases Nat.lt_or_ge j 1 with hj1 | hj1
      · obtain rfl : j = 0 := by omega
        by_cases hz : a = 0
        case neg =>
          have c1 : (a != 0) = true := by simpa using hz
          go_wp2
          go_ret
          exact ⟨rfl, rfl⟩
        subst hz
        go_wp2
        go_roundg 1
        case measure => have := hg.out; omega
        case rel => exact ⟨1, rfl, rfl, ⟨rfl⟩, ⟨by simp⟩, ⟨fun h => by omega⟩⟩
      obtain rfl : j = 1 := by omega
      have hz := ha.out (by omega)
      subst hz
      by_cases hy : b = 0
      case neg =>
        have c1 : (b != 0) = true := by simpa using hy
        go_wp2
        go_ret
        exact ⟨by simp, rfl⟩
      subst hy
      go_wp2
      go_roundg 0
      case measure => have := hg.out; omega
      case rel => exact ⟨2, rfl, rfl, ⟨rfl⟩, ⟨by simp⟩, ⟨by simp⟩⟩
    obtain rfl : j = 2 := by have := hg.out; omega
    have hz := ha.out (by omega)
    have hy := hb.out (by omega)
    subst hz hy
    go_wp2
    go_ret
    exact ⟨by simp, rfl⟩
theorem drewN_drewN (W : World) (m n : Nat) : (W.drewN m).drewN n = W.drewN (m + n) := by
  show ({ W with drawn := W.drawn + m + n } : World) = { W with drawn := W.drawn + (m + n) }
  rw [Nat.add_assoc]
open Go.Sort in
set_option maxRecDepth 100000 in
theorem lit_Clean_1.calls (a b : Int) (W : World) :
    Calls Try.prog 66 #[.int .i64 a, .int .i64 b] W fun e W' => e = .returned (.int .i64 (if cmpI (mx a (wrap64 (-a))) (mx b (wrap64 (-b))) ≠ 0 then cmpI (mx a (wrap64 (-a))) (mx b (wrap64 (-b))) else cmpI a b)) ∧ ∃ q os, W' = grow (W.drewN q) os := by
  have H1 := K0 (lit_variable.calls a (mx a (wrap64 (-a))) W rfl)
  obtain ⟨x, hx⟩ : ∃ x, mx a (wrap64 (-a)) = x := ⟨_, rfl⟩
  obtain ⟨y, hy⟩ : ∃ y, mx b (wrap64 (-b)) = y := ⟨_, rfl⟩
  rw [hx] at H1
  have HY := K0 hy
  rw [hx, hy]
  clear hx hy
  obtain ⟨p, hp⟩ : ∃ p, cmpI x y = p := ⟨_, rfl⟩
  obtain ⟨r, hr⟩ : ∃ r, cmpI a b = r := ⟨_, rfl⟩
  have HP := K0 hp; have HR := K0 hr
  rw [hp, hr]
  obtain ⟨u, hu⟩ : ∃ u, (if p ≠ 0 then p else r) = u := ⟨_, rfl⟩
  have HU := K0 hu
  rw [hu]
  clear hp hr hu
  go_enter Try.func66, Try.ntmps66
  go_wp2_with fail
  refine H1.out.mono ?_
  rintro e w1 ⟨rfl, ⟨⟨n1, rfl⟩⟩⟩
  go_wp2_with fail
  refine (lit_variable.calls b y (W.drewN n1) (by rw [← HY.out]; rfl)).mono ?_
  rintro e w2 ⟨rfl, ⟨⟨n2, rfl⟩⟩⟩
  go_wp2_with fail
  refine (cmp_Compare.calls x y _).mono ?_
  rintro e w3 ⟨rfl, rfl⟩
  rw [HP.out]
  go_wp2_with fail
  refine (cmp_Compare.calls a b _).mono ?_
  rintro e w4 ⟨rfl, rfl⟩
  rw [HR.out]
  go_wp2_with fail
  refine (cmp_Or.calls p r _ _ (by have := blk_cell (blk_new (W.drewN (n1 + n2)) (.cells #[.int .i64 p, .int .i64 r] 3)) 0; exact this) (by have := blk_cell (blk_new (W.drewN (n1 + n2)) (.cells #[.int .i64 p, .int .i64 r] 3)) 1; exact this)).mono ?_
  rintro e w5 ⟨he, rfl⟩
  rw [HU.out] at he
  subst he
  go_wp2
  go_ret
  exact ⟨rfl, n1 + n2, #[.cells #[.int .i64 p, .int .i64 r] 3], by rw [alloc_eq_grow]⟩
def cfL (a b : Int) : Int := if cmpI (mx a (wrap64 (-a))) (mx b (wrap64 (-b))) ≠ 0 then cmpI (mx a (wrap64 (-a))) (mx b (wrap64 (-b))) else cmpI a b
theorem cmpI_lt {a b : Int} : cmpI a b < 0 ↔ a < b := by unfold cmpI; split <;> (try split) <;> omega
theorem cmpI_ne {a b : Int} : cmpI a b ≠ 0 ↔ a ≠ b := by unfold cmpI; split <;> (try split) <;> omega
theorem cfL_lt {a b : Int} : cfL a b < 0 ↔ mx a (wrap64 (-a)) < mx b (wrap64 (-b)) ∨ (mx a (wrap64 (-a)) = mx b (wrap64 (-b)) ∧ a < b) := by
  unfold cfL
  by_cases h : mx a (wrap64 (-a)) = mx b (wrap64 (-b))
  case neg =>
    rw [if_pos (cmpI_ne.2 h), cmpI_lt]; omega
  rw [if_neg (by rw [cmpI_ne]; simpa using h), cmpI_lt]; omega
open Go.Sort Go.Proofs in
theorem cfL_swo : SWO (ltOf cfL) := by
  refine ⟨fun x => ?_, fun x y z h1 h2 => ?_, fun x y z h1 h2 => ?_⟩
  · exact decide_eq_false (by rw [cfL_lt]; omega)
  · have h1 := of_decide_eq_true h1
    have h2 := of_decide_eq_true h2
    exact decide_eq_true (by rw [cfL_lt] at h1 h2 ⊢; omega)
  have h1 := of_decide_eq_false h1
  have h2 := of_decide_eq_false h2
  exact decide_eq_false (by rw [cfL_lt] at h1 h2 ⊢; omega)
open Go.Sort Go.Lib Go.Proofs in
set_option maxRecDepth 100000 in
theorem slices_SortFunc_lits.calls (xs : List Int) (g n cap base : Nat) (ok : Nat → Prop) (W : World) (h : Kd.R (Kd.int .i64) 3 W base ok (.slice (some ⟨g, 0, none⟩) n cap) xs) (hlen : xs.length < 4611686018427387904) :
    Calls Try.prog 65 #[.slice (some ⟨g, 0, none⟩) n cap, .func (.func 66) #[] #[]] W fun e W' => e = .returned (.tuple #[]) ∧ Kd.R (Kd.int .i64) 3 W' base ok (.slice (some ⟨g, 0, none⟩) n cap) (xs.mergeSort fun x y => !(ltOf cfL) y x) ∧
      (∃ W1, (∃ q, W1 = W.drewN q) ∧ ∃ W2, W1.grownBy W2 (some g) ∧ Below W2.heap.size W2 W') := by
  obtain ⟨hn, hnc, hC⟩ := Kd.R_reads' h
  have hbig := hC.2.1
  have hblk : g < W.heap.size := by
    obtain ⟨inner, ho⟩ := Kd.R_own h
    exact own_lt ho g rfl
  have key := Try.slices_SortFunc_total (Value.int .i64) (fun _ => rfl) cfL cfL_swo 66 #[] g 0 cap xs.toArray W (enters_of Try.func66 (by kernel_rfl) rfl)
    (fun m os dk hs x y => calls_of_args (args := #[.int .i64 x, .int .i64 y]) rfl (lit_Clean_1.calls x y _)) (R_holds h) hblk (by simp; omega) (fun x y h1 h2 => by
      have h1 := of_decide_eq_false h1
      have h2 := of_decide_eq_false h2
      rw [cfL_lt] at h1 h2
      omega)
  have hsz : xs.toArray.size = n := by simp [hn]
  rw [hsz] at key
  refine key.mono ?_
  rintro e W' ⟨rfl, q, os, rfl⟩
  obtain ⟨hR, hg⟩ := R_rowPut (xs.mergeSort fun x y => !(ltOf cfL) y x) (by rw [List.length_mergeSort]) q h
  obtain ⟨hR2, hb2⟩ := R_grow os hR
  exact ⟨rfl, hR2, _, ⟨q, rfl⟩, _, hg, hb2⟩
open Go.Sort Go.Lib Go.Proofs in
theorem slices_Compact_R.calls (xs : List Int) (g n cap base : Nat) (ok : Nat → Prop) (W : World) (h : Kd.R (Kd.int .i64) 3 W base ok (.slice (some ⟨g, 0, none⟩) n cap) xs) (hle : (Lib.compact xs).length ≤ xs.length) :
    Calls Try.prog 69 #[.slice (some ⟨g, 0, none⟩) n cap] W fun e W' => e = .returned (.slice (some ⟨g, 0, none⟩) (Lib.compact xs).length cap) ∧ Kd.R (Kd.int .i64) 3 W' base ok (.slice (some ⟨g, 0, none⟩) (Lib.compact xs).length cap) (Lib.compact xs) ∧
      ∃ q, (W.drewN q).grownBy W' (some g) := by
  obtain ⟨hn, hnc, hC⟩ := Kd.R_reads' h
  have hbig := hC.2.1
  have key := Try.slices_Compact_int g 0 cap xs W (R_holds h) (by omega) (by omega)
  rw [← hn] at key
  refine key.mono ?_
  rintro e W' ⟨rfl, q, rfl⟩
  obtain ⟨hR, hg⟩ := R_rowPut (Lib.compact xs ++ List.replicate (n - (Lib.compact xs).length) 0) (by simp; omega) q h
  have hT := Kd.R_take hR (m := (Lib.compact xs).length) (by simp)
  rw [List.take_left'  rfl] at hT
  exact ⟨rfl, hT, q, hg⟩
def adjB : List Int → Bool
  | x :: y :: t => (y == wrap64 (-x)) || adjB (y :: t)
  | _ => false
def lit_Clean.out (c : List Int) : List Int := Lib.compact ((c.filter fun l => (lit_is.f l).getD false).mergeSort fun x y => !(Go.Proofs.ltOf cfL) y x)
def lit_Clean.f (l0 : List Int) : Option (List Int × Bool) := if l0.length < 17592186044416 ∧ (lit_Clean.out l0).length ≤ l0.length then some (lit_Clean.out l0, !adjB (lit_Clean.out l0)) else none
set_option maxRecDepth 100000 in
set_option maxHeartbeats 4000000 in
theorem lit_Clean.calls (A0 : Option Addr) (c0 : Nat) (l0 : List Int) (r1 : List Int) (r2 : Bool) (w : World) (hr0 : Kd.C (Kd.int .i64) w A0 l0.length l0) (hc0 : l0.length ≤ c0) (h : lit_Clean.f l0 = some (r1, r2)) :
    Calls Try.prog 55 #[.slice A0 l0.length c0] w fun e w' => ∃ v0_ : Value, e = .returned (.tuple #[v0_, .bool r2]) ∧ Kd.R (Kd.int .i64) 3 w' w.heap.size (fun _ => True) v0_ r1 ∧ Below w.heap.size w w' := by
  unfold lit_Clean.f at h
  by_cases hlen0 : ¬ (l0.length < 17592186044416 ∧ (lit_Clean.out l0).length ≤ l0.length)
  · rw [if_neg hlen0] at h; cases h
  obtain ⟨hlen, hle⟩ := Decidable.not_not.1 hlen0
  rw [if_pos ⟨hlen, hle⟩] at h
  simp only [Option.some.injEq, Prod.mk.injEq] at h
  obtain ⟨rfl, rfl⟩ := h
  have HR := K0 hr0
  obtain ⟨p, hp⟩ : ∃ p : Int → Bool, p = fun l => (lit_is.f l).getD false := ⟨_, rfl⟩
  have his : ∀ a, lit_is.f a = some (p a) := fun a => by
    rw [hp]
    unfold lit_is.f
    dsimp only
    split <;> rfl
  have HIS := K0 his; have HLN := K0 hlen; have HLE := K0 hle
  have HO := K0 (show lit_Clean.out l0 = Lib.compact ((l0.filter p).mergeSort fun x y => !(Go.Proofs.ltOf cfL) y x) from by rw [hp]; rfl)
  clear hr0 hlen0 hlen hle hp his
  go_enter Try.func55, Try.ntmps55
  go_wp2
  go_loopg [4, 6, 10] l0.length (fun gg v4 _ v10 wr => ∃ i : Nat, v10 = .int .i64 (i : Int) ∧ Aside0 (i + gg = l0.length) ∧ Aside0 (Kd.R (Kd.int .i64) 3 wr w.heap.size (fun _ => True) v4 ((l0.take i).filter p)) ∧ Aside0 (Below w.heap.size w wr))
  case atStart => exact ⟨0, rfl, ⟨by simp⟩, ⟨Kd.R_nil _ _ _ _ _⟩, ⟨Below.refl _ _⟩⟩
  case round =>
    obtain ⟨i, rfl, hg, hR, hB⟩ := hrel
    obtain ⟨A4, c4, rfl⟩ := Kd.R_slice hR.out
    by_cases hlt : i < l0.length
    case pos =>
      obtain ⟨ad, e1, x1⟩ := Kd.at_int (Kd.C_below HR.out hB.out) (i : Int) (by omega) (by omega)
      cases e1
      obtain ⟨y, hy⟩ : ∃ y, l0[i] = y := ⟨_, rfl⟩
      have hrd : rd l0 (i : Int) = y := by simp [rd, hlt, hy]
      rw [hrd] at x1
      simp only [Int.toNat_natCast] at x1
      have htk : (l0.take (i + 1)).filter p = (l0.take i).filter p ++ if p y = true then [y] else [] := by
        rw [List.take_add_one, List.getElem?_eq_getElem hlt, hy, List.filter_append]
        cases hpy : p y <;> simp [hpy]
      have HT := K0 htk
      have hfl : ((l0.take i).filter p).length ≤ i := Nat.le_trans (List.length_filter_le _ _) (by simp; omega)
      have P0 : ((0 : Int) ≤ (i : Int)) = True := eq_true (by omega)
      have P1 : ((i : Int) < (l0.length : Int)) = True := eq_true (by omega)
      have P2 : (i < l0.length) = True := eq_true hlt
      have hd : decide ((i : Int) < (l0.length : Int)) = true := decide_eq_true (by omega)
      have hln := HLN.out
      clear hrd htk hy
      cases hq : p y with
      | true =>
        have hcall := K0 (lit_is.calls y true wr (by rw [HIS.out, hq]))
        have hz := HT.out
        rw [if_pos hq] at hz
        have HZ := K0 hz; clear hz HT hq
        go_wp2_with fail
        refine hcall.out.mono ?_
        rintro e' w1 ⟨rfl, ⟨⟨n1, rfl⟩⟩⟩
        have hR1 := K0 (Kd.R_drewN hR.out n1)
        have hB1 := K0 (pw_below_drewN hB.out n1)
        go_wp2_with (at_builtin; refine Kd.R_append (Kd.int .i64) (w0 := w) w.heap.size rfl (.tmp 16) (.tmp 18) 29 3 (.int .i64 0) 8 rfl Try.underlying29 (by kernel_rfl) rfl (by decide) (by decide) _ ((l0.take i).filter p) y [.int .i64 y] (fun _ => True) (fun _ => False) rfl rfl rfl (fun _ h => h.elim) (fun _ _ => trivial) hR1.out hB1.out hB1.out.size (by omega) ?_; intro v1 w3 r1 hb3 hg3 hat3)
        go_roundg (l0.length - (i + 1))
        case measure => have := hg.out; omega
        case rel => exact ⟨i + 1, by simp, ⟨by have := hg.out; omega⟩, ⟨by rw [HZ.out]; exact r1⟩, ⟨hb3⟩⟩
      | false =>
        have hcall := K0 (lit_is.calls y false wr (by rw [HIS.out, hq]))
        have hz := HT.out
        rw [if_neg (by rw [hq]; decide), List.append_nil] at hz
        have HZ := K0 hz; clear hz HT hq
        go_wp2_with fail
        refine hcall.out.mono ?_
        rintro e' w1 ⟨rfl, ⟨⟨n1, rfl⟩⟩⟩
        go_wp2
        go_roundg (l0.length - (i + 1))
        case measure => have := hg.out; omega
        case rel => exact ⟨i + 1, by simp, ⟨by have := hg.out; omega⟩, ⟨by rw [HZ.out]; exact Kd.R_drewN hR.out n1⟩, ⟨pw_below_drewN hB.out n1⟩⟩
    have hd : decide ((i : Int) < (l0.length : Int)) = false := decide_eq_false (by omega)
    have P2 : (i < l0.length) = False := eq_false hlt
    have htake : (l0.take i).filter p = l0.filter p := by rw [List.take_of_length_le (by omega)]
    have hRf := hR.out
    rw [htake] at hRf ⊢
    obtain ⟨fl, hfl⟩ : ∃ fl, l0.filter p = fl := ⟨_, rfl⟩
    have hflen : fl.length ≤ l0.length := by rw [← hfl]; exact List.length_filter_le _ _
    have hout := HO.out
    rw [hfl] at hRf hout ⊢
    have HRF := K0 hRf; have HOUT := K0 hout
    have HB := hB
    have hln := HLN.out
    clear hRf hR htake hfl hout hB HO hg HIS
    have fin : ∀ (v : Value) (W : World), Kd.R (Kd.int .i64) 3 W w.heap.size (fun _ => True) v (lit_Clean.out l0) → True := fun _ _ _ => trivial
    by_cases hz : fl.length = 0
    case pos =>
      have hnil : fl = [] := List.length_eq_zero_iff.1 hz
      subst hnil
      have hce : Lib.compact (([] : List Int).mergeSort fun x y => !(Go.Proofs.ltOf cfL) y x) = [] := List.length_eq_zero_iff.1 (Nat.le_zero.1 (Nat.le_trans (Lib.compact_length_le _) (by simp)))
      have HO2 := K0 (HOUT.out.trans hce)
      clear HOUT hce HLE hz
      go_wp2_with fail
      refine (Try.slices_SortFunc_none (α := Int) A4 c4 _ wr).mono ?_
      rintro e' w1 ⟨rfl, rfl⟩
      go_wp2_with fail
      refine (Try.slices_Compact_int_empty A4 c4 _).mono ?_
      rintro e' w2 ⟨rfl, rfl⟩
      go_wp2
      go_loopg [7] 0 (fun gg v7 wr2 => v7 = .int .i64 1 ∧ wr2 = w2)
      case atStart => exact ⟨rfl, rfl⟩
      case round =>
        obtain ⟨rfl, rfl⟩ := hrel
        go_wp2
        go_ret2
        rw [HO2.out]
        exact ⟨_, rfl, HRF.out, HB.out⟩
    obtain ⟨inner, ho⟩ := Kd.R_own HRF.out
    obtain ⟨g, rfl⟩ : ∃ g, A4 = some ⟨g, 0, none⟩ := by
      rcases ho.2 with ⟨e1, e2⟩ | ⟨g, cap, cur, e1, _⟩
      · omega
      · injection e1 with e1 _ _; exact ⟨g, e1⟩
    have hgb : w.heap.size ≤ g := own_base ho g rfl
    clear ho
    have hle : (Lib.compact (fl.mergeSort fun x y => !(Go.Proofs.ltOf cfL) y x)).length ≤ (fl.mergeSort fun x y => !(Go.Proofs.ltOf cfL) y x).length := Lib.compact_length_le _
    have HLE2 := K0 hle; clear hle
    go_wp2_with fail
    refine (slices_SortFunc_lits.calls fl g fl.length c4 w.heap.size (fun _ => True) wr HRF.out (by omega)).mono ?_
    rintro e' w1 ⟨rfl, hR1, W1, ⟨q1, rfl⟩, W2, hg1, hb1⟩
    have HR1 := K0 hR1
    have hB2 : Below w.heap.size w W2 := (pw_below_drewN HB.out q1).grown hg1 (pw_below_drewN HB.out q1).size (fun k e => by cases e; exact hgb)
    have HB1 := K0 (hB2.trans (hb1.mono hB2.size))
    clear hR1 hB2 hg1 hb1
    go_wp2_with fail
    refine (slices_Compact_R.calls _ g fl.length c4 w.heap.size (fun _ => True) w1 HR1.out HLE2.out).mono ?_
    rintro e' w2 ⟨rfl, hR2, q2, hg2⟩
    rw [← HOUT.out] at hR2
    try rw [← HOUT.out]
    have HR2 := K0 hR2
    have HB2 := K0 ((pw_below_drewN HB1.out q2).grown hg2 (pw_below_drewN HB1.out q2).size (fun k e => by cases e; exact hgb))
    clear hR2 hg2 HR1 HRF HB1
    obtain ⟨out, hout⟩ : ∃ out, lit_Clean.out l0 = out := ⟨_, rfl⟩
    rw [hout] at HR2 HLE ⊢
    have HO2 := K0 hout; clear hout HOUT HLE2
    have hol := HLE.out
    go_wp2
    go_loopg [7] out.length (fun gg v7 wr => ∃ j : Nat, v7 = .int .i64 (j : Int) ∧ 1 ≤ j ∧ Aside0 (out.length ≤ j + gg) ∧ Aside0 (Kd.R (Kd.int .i64) 3 wr w.heap.size (fun _ => True) (.slice (some ⟨g, 0, none⟩) out.length c4) out) ∧ Aside0 (Below w.heap.size w wr) ∧ Aside0 (adjB (out.drop (j - 1)) = adjB out))
    case atStart => exact ⟨1, rfl, Nat.le_refl _, ⟨by omega⟩, HR2, HB2, ⟨rfl⟩⟩
    case round =>
      clear HR2 HB2 HB
      obtain ⟨j, rfl, hj1, hg, hR, hB, hA⟩ := hrel
      by_cases hjt : j < out.length
      case neg =>
        have hd : decide ((j : Int) < (out.length : Int)) = false := decide_eq_false (by omega)
        have P2 : (j < out.length) = False := eq_false hjt
        have hz : adjB out = false := by
          rw [← hA.out]
          have hl : (out.drop (j - 1)).length ≤ 1 := by rw [List.length_drop]; omega
          match out.drop (j - 1), hl with
          | [], _ => rfl
          | [_], _ => rfl
          | _ :: _ :: _, hl => exact absurd hl (by simp)
        have HZ := K0 hz; clear hz
        go_wp2
        go_ret2
        rw [HO2.out, HZ.out]
        exact ⟨_, rfl, hR.out, hB.out⟩
      obtain ⟨y, hy⟩ : ∃ y, out[j] = y := ⟨_, rfl⟩
      obtain ⟨x, hx⟩ : ∃ x, out[j - 1] = x := ⟨_, rfl⟩
      obtain ⟨c1, _⟩ := Kd.R_celln (0 : Int) hR.out (j : Int) (by omega) (by omega)
      obtain ⟨c2, _⟩ := Kd.R_celln (0 : Int) hR.out ((j : Int) - 1) (by omega) (by omega)
      have ej : rdOf 0 out (j : Int) = y := by simp [rdOf, hjt, hy]
      have ex : rdOf 0 out ((j : Int) - 1) = x := by rw [show (j : Int) - 1 = ((j - 1 : Nat) : Int) by omega]; simp [rdOf, show j - 1 < out.length by omega, hx]
      rw [ej] at c1
      rw [ex] at c2
      simp only [Int.toNat_natCast] at c1
      rw [show ((j : Int) - 1).toNat = j - 1 by omega] at c2
      have hA2 := hA.out
      rw [List.drop_eq_getElem_cons (show j - 1 < out.length by omega), hx, show j - 1 + 1 = j by omega, List.drop_eq_getElem_cons hjt, hy, adjB] at hA2
      have HA2 := K0 hA2
      have HY := K0 (show out.drop j = y :: out.drop (j + 1) by rw [List.drop_eq_getElem_cons hjt, hy])
      have P0 : ((0 : Int) ≤ (j : Int)) = True := eq_true (by omega)
      have P1 : ((j : Int) < (out.length : Int)) = True := eq_true (by omega)
      have P2 : (j < out.length) = True := eq_true hjt
      have P3 : ((1 : Int) ≤ (j : Int)) = True := eq_true (by omega)
      have P4 : ((j : Int) - 1 < (out.length : Int)) = True := eq_true (by omega)
      have hd : decide ((j : Int) < (out.length : Int)) = true := decide_eq_true (by omega)
      have P5 : IntKind.i64.wrap ((j : Int) - 1) = (j : Int) - 1 := Go.IntWalk.i64_in _ (by omega)
      have P6 : IntKind.i64.wrap (-x) = wrap64 (-x) := Go.IntWalk.i64_left _
      have mixed : Try.prog.follows .mixedOrders = true := by kernel_rfl
      clear hA hA2 ej ex hx hy
      go_wp2_with fail
      go_cut [41] (fun v41 wc => v41 = .bool (y == wrap64 (-x)) ∧ wc = wr.drew)
      case first =>
        go_region_law_o (fail)
        all_goals (go_wp2_with fail; go_meet; exact ⟨rfl, rfl⟩)
      case rest =>
      obtain ⟨rfl, rfl⟩ := hcut
      have HRd := K0 (Kd.R_drew hR.out)
      have HBd := K0 (below_drew hB.out)
      cases hq : (y == wrap64 (-x)) with
      | true =>
        have hz := HA2.out
        rw [hq, Bool.true_or] at hz
        have HZ := K0 hz; clear hz
        go_wp2
        go_ret2
        rw [HO2.out, ← HZ.out]
        exact ⟨_, rfl, HRd.out, HBd.out⟩
      | false =>
        have hz := HA2.out
        rw [hq, Bool.false_or] at hz
        have HZ := K0 hz; clear hz
        go_wp2
        go_roundg (out.length - j - 1)
        case measure => have := hg.out; omega
        case rel => exact ⟨j + 1, by simp, by omega, ⟨by omega⟩, HRd, HBd, ⟨by rw [show j + 1 - 1 = j by omega, HY.out]; exact HZ.out⟩⟩
mutual
def lit_Resolve.j0 : Nat → List Int → List Int → Int → Bool → Option (List Int × Int)
  | 0, _, _, _, _ => none
  | k + 1, x0, x1, x2, x25 => if x25 = true then (some (([] : List Int), 1)) else (lit_Resolve.l0 k x1 x2 ([] : List Int) x0 (x0.length : Int) 0)
def lit_Resolve.l0 : Nat → List Int → Int → List Int → List Int → Int → Int → Option (List Int × Int)
  | 0, _, _, _, _, _, _ => none
  | k + 1, x1, x2, x8, x26, x27, x28 => if x28 < x27 then (if 0 ≤ x28 then (if x28 < (x26.length : Int) then (if (rd x26 x28) = x2 then (lit_Resolve.l0 k x1 x2 x8 x26 x27 (wrap64 (x28 + 1))) else (if x8.length < 17592186044416 then (lit_Resolve.l0 k x1 x2 (x8 ++ [rd x26 x28]) x26 x27 (wrap64 (x28 + 1))) else (none))) else (none)) else (none)) else (lit_Resolve.l1 k x2 x8 x1 (x1.length : Int) 0)
def lit_Resolve.l1 : Nat → Int → List Int → List Int → Int → Int → Option (List Int × Int)
  | 0, _, _, _, _, _ => none
  | k + 1, x2, x8, x40, x41, x42 => if x42 < x41 then (if 0 ≤ x42 then (if x42 < (x40.length : Int) then (if (rd x40 x42) = (wrap64 (-x2)) then (lit_Resolve.l1 k x2 x8 x40 x41 (wrap64 (x42 + 1))) else (if x8.length < 17592186044416 then (lit_Resolve.l1 k x2 (x8 ++ [rd x40 x42]) x40 x41 (wrap64 (x42 + 1))) else (none))) else (none)) else (none)) else ((lit_Clean.f x8).bind fun bt184 => (if bt184.2 = true then (some (bt184.1, 0)) else (some (([] : List Int), 4))))
end
def lit_Resolve.f (k : Nat) (l0 : List Int) (l1 : List Int) (a2 : Int) : Option (List Int × Int) := (lit_Has.f k l0 a2).bind fun t174 => (if t174 = true then ((lit_Has.f k l1 (wrap64 (-a2))).bind fun t175 => (lit_Resolve.j0 k l0 l1 a2 (!t175))) else (lit_Resolve.j0 k l0 l1 a2 true))
set_option maxHeartbeats 8000000 in
set_option maxRecDepth 100000 in
theorem lit_Resolve.calls (k : Nat) (A0 : Option Addr) (c0 : Nat) (l0 : List Int) (A1 : Option Addr) (c1 : Nat) (l1 : List Int) (a2 : Int) (r1 : List Int) (r2 : Int) (w : World) (hr0 : Kd.C (Kd.int .i64) w A0 l0.length l0) (hc0 : l0.length ≤ c0) (hr1 : Kd.C (Kd.int .i64) w A1 l1.length l1) (hc1 : l1.length ≤ c1) (h : lit_Resolve.f k l0 l1 a2 = some (r1, r2)) :
    Calls Try.prog 58 #[.slice A0 l0.length c0, .slice A1 l1.length c1, .int .i64 a2] w fun e w' => ∃ v0_ : Value, e = .returned (.tuple #[v0_, .int .i64 r2]) ∧ Kd.R (Kd.int .i64) 3 w' w.heap.size (fun _ => True) v0_ r1 ∧ Below w.heap.size w w' := by
  have HR0 := K0 hr0; have HC0 := K0 hc0; clear hr0 hc0; have HR1 := K0 hr1; have HC1 := K0 hc1; clear hr1 hc1
  have HB := K0 (Below.refl w.heap.size w)
  have H : ((lit_Has.f k l0 a2).bind fun t174 => (if t174 = true then ((lit_Has.f k l1 (wrap64 (-a2))).bind fun t175 => (lit_Resolve.j0 k l0 l1 a2 (!t175))) else (lit_Resolve.j0 k l0 l1 a2 true))) = some (r1, r2) := h
  clear h; have HC4 := K0 H; clear H
  go_enter Try.func58, Try.ntmps58
  go_upto_region 1 with (fail)
  go_cut [25] (fun v25 wc => ∃ (kq : Nat) (x25_3 : Bool), v25 = .bool x25_3 ∧ Aside0 (lit_Resolve.j0 kq l0 l1 a2 x25_3 = some (r1, r2)) ∧ Aside0 (kq ≤ k) ∧ Aside0 (Below w.heap.size w wc))
  case first =>
    have H := HC4.out
    clear HC4
    replace H := Option.bind_eq_some_iff.mp H
    obtain ⟨t174, A50, H⟩ := H
    replace H : (if t174 = true then ((lit_Has.f k l1 (wrap64 (-a2))).bind fun t175 => (lit_Resolve.j0 k l0 l1 a2 (!t175))) else (lit_Resolve.j0 k l0 l1 a2 true)) = some (r1, r2) := H
    have A5 := K0 A50; clear A50
    by_cases c6 : t174 = true
    case neg =>
      replace c6 := Bool.eq_false_iff.mpr c6
      subst c6
      have H1 : (lit_Resolve.j0 k l0 l1 a2 true) = some (r1, r2) := by rw [if_neg (show ¬ (false = true) by decide)] at H; exact H
      clear H
      have H := H1
      clear H1
      as_aux_lemma =>
        have H' := K0 H
        clear H
        go_wp2_with (first | ((with_reducible refine gate_callee (f := 57) rfl ?_); refine goesL_ (some 17) rfl rfl Try.func57 (by kernel_rfl) rfl #[.slice A0 l0.length c0, .int .i64 a2] rfl (by (try simp only [List.map_toArray, List.map_cons, List.map_nil]); first | done | rfl | (simp only [List.length_drop, List.length_take]; rfl)) ?_; (with_reducible refine (lit_Has.calls k _ _ l0 a2 false _ ?side1 ?side2 A5.out).mono ?_); (case side1 => repeat (first | exact (Kd.C_below HR0.out HB.out) | (with_reducible refine Kd.C_alloc ?_ _) | (with_reducible refine Kd.C_drewN ?_ _) | (with_reducible refine Kd.C_drew ?_))); (case side2 => exact HC0.out); rintro e w' ⟨rfl, ⟨nd, rfl⟩⟩; refine ⟨_, rfl, ?_⟩))
        go_meet
        case rel => exact ⟨_, (true), (by first | rfl | (simp; done) | (simp [*]; done)), H', ⟨by first | omega | exact Nat.le_refl _⟩, ⟨by repeat (first | (with_reducible first | exact HB.out | apply below_alloc | apply pw_below_drewN | apply below_drew1) | exact HB.out)⟩⟩
    subst c6
    have H1 : ((lit_Has.f k l1 (wrap64 (-a2))).bind fun t175 => (lit_Resolve.j0 k l0 l1 a2 (!t175))) = some (r1, r2) := by rw [if_pos rfl] at H; exact H
    clear H
    have H := H1
    clear H1
    replace H := Option.bind_eq_some_iff.mp H
    obtain ⟨t175, A70, H⟩ := H
    replace H : (lit_Resolve.j0 k l0 l1 a2 (!t175)) = some (r1, r2) := H
    have A7 := K0 A70; clear A70
    as_aux_lemma =>
      have H' := K0 H
      clear H
      go_wp2_with (first | ((with_reducible refine gate_callee (f := 57) rfl ?_); refine goesL_ (some 17) rfl rfl Try.func57 (by kernel_rfl) rfl #[.slice A0 l0.length c0, .int .i64 a2] rfl (by (try simp only [List.map_toArray, List.map_cons, List.map_nil]); first | done | rfl | (simp only [List.length_drop, List.length_take]; rfl)) ?_; (with_reducible refine (lit_Has.calls k _ _ l0 a2 true _ ?side1 ?side2 A5.out).mono ?_); (case side1 => repeat (first | exact (Kd.C_below HR0.out HB.out) | (with_reducible refine Kd.C_alloc ?_ _) | (with_reducible refine Kd.C_drewN ?_ _) | (with_reducible refine Kd.C_drew ?_))); (case side2 => exact HC0.out); rintro e w' ⟨rfl, ⟨nd, rfl⟩⟩; refine ⟨_, rfl, ?_⟩) | (go_at_call 57; (with_reducible refine (lit_Has.calls k _ _ l1 (wrap64 (-a2)) t175 _ ?side1 ?side2 A7.out).mono ?_); (case side1 => repeat (first | exact (Kd.C_below HR1.out (by repeat (first | (with_reducible first | exact HB.out | apply below_alloc | apply pw_below_drewN | apply below_drew1) | exact HB.out))) | (with_reducible refine Kd.C_alloc ?_ _) | (with_reducible refine Kd.C_drewN ?_ _) | (with_reducible refine Kd.C_drew ?_))); (case side2 => exact HC1.out); rintro e w' ⟨rfl, ⟨nd, rfl⟩⟩))
      go_meet
      case rel => exact ⟨_, (!t175), (by first | rfl | (simp; done) | (simp [*]; done)), H', ⟨by first | omega | exact Nat.le_refl _⟩, ⟨by repeat (first | (with_reducible first | exact HB.out | apply below_alloc | apply pw_below_drewN | apply below_drew1) | exact HB.out)⟩⟩
  case rest =>
    clear HC4; try clear c1; try clear p2; try clear c5; try clear c6; try clear p6
    obtain ⟨kq, x25_3, rfl, HA, HJ3, HB⟩ := hcut
    cases kq with
    | zero => exact absurd HA.out (by simp [lit_Resolve.j0])
    | succ kj3 =>
      have H := HA.out
      clear HA
      simp only [lit_Resolve.j0] at H
      by_cases c8 : x25_3 = true
      case pos =>
        subst c8
        have H1 : (some (([] : List Int), 1)) = some (r1, r2) := by rw [if_pos rfl] at H; exact H
        clear H
        have H := H1
        clear H1
        as_aux_lemma =>
          simp only [Option.some.injEq, Prod.mk.injEq] at H
          obtain ⟨rfl, rfl⟩ := H
          go_wp2
          go_ret2
          exact ⟨_, by first | rfl | (simp [errW_none, errW_some] <;> rfl) | (simp [*, errW_none, errW_some] <;> rfl), by first | exact Kd.R_nil _ _ _ _ _ | exact Kd.N_nil _ _ _ _ _ | exact Kd.V_nil _ _ _ _ _ | exact Kd.Q_nil _ _ _ _ _ | exact Kd.S_nil _ _ _ _ _, by repeat (first | (with_reducible first | exact HB.out | apply below_alloc | apply pw_below_drewN | apply below_drew1) | exact HB.out)⟩
      replace c8 := Bool.eq_false_iff.mpr c8
      subst c8
      have H1 : (lit_Resolve.l0 kj3 l1 a2 ([] : List Int) l0 (l0.length : Int) 0) = some (r1, r2) := by rw [if_neg (show ¬ (false = true) by decide)] at H; exact H
      clear H
      have H := H1
      clear H1
      have H' := K0 H
      clear H
      go_wp2
      go_loopg [8, 28] kj3 (fun kq v8 v28 w' => ∃ (x8_2 : List Int) (x28_2 : Int), v28 = .int .i64 x28_2 ∧ Aside0 (lit_Resolve.l0 kq l1 a2 x8_2 l0 (l0.length : Int) x28_2 = some (r1, r2)) ∧ Aside0 (kq ≤ kj3) ∧ Aside0 (Kd.R (Kd.int .i64) 3 w' w.heap.size (fun _ => True) v8 x8_2) ∧ Aside0 (Below w.heap.size w w'))
      case atStart => exact ⟨(([] : List Int)), (0), (by first | rfl | (simp; done) | (simp [*]; done)), H', ⟨Nat.le_refl _⟩, ⟨by first | exact Kd.R_nil _ _ _ _ _ | exact Kd.N_nil _ _ _ _ _ | exact Kd.V_nil _ _ _ _ _ | exact Kd.Q_nil _ _ _ _ _ | exact Kd.S_nil _ _ _ _ _⟩, ⟨by repeat (first | (with_reducible first | exact HB.out | apply below_alloc | apply pw_below_drewN | apply below_drew1) | exact HB.out)⟩⟩
      case round =>
        clear H'; try clear c1; try clear p2; try clear c5; try clear c6; try clear p6; try clear c8; try clear p2; try clear p6
        obtain ⟨x8_2, x28_2, rfl, HA, HK2, HO_8, HB⟩ := hrel
        cases gk with
        | zero => exact absurd HA.out (by simp [lit_Resolve.l0])
        | succ k2 =>
          have H := HA.out
          clear HA
          simp only [lit_Resolve.l0] at H
          by_cases c9 : x28_2 < (l0.length : Int)
          case pos =>
            rw [if_pos c9] at H
            have c9b0 : decide (x28_2 < (l0.length : Int)) = true := decide_eq_true c9
            clear c9
            by_cases c10 : 0 ≤ x28_2
            case neg =>
              rw [if_neg c10] at H
              exact absurd H (by simp)
            rw [if_pos c10] at H
            have c10b0 : decide (0 ≤ x28_2) = true := decide_eq_true c10
            clear c10
            by_cases c11 : x28_2 < (l0.length : Int)
            case neg =>
              rw [if_neg c11] at H
              exact absurd H (by simp)
            rw [if_pos c11] at H
            have c11b0 : decide (x28_2 < (l0.length : Int)) = true := decide_eq_true c11
            clear c11
            by_cases c12 : (rd l0 x28_2) = a2
            case pos =>
              rw [if_pos c12] at H
              have c12b0 : ((rd l0 x28_2) == a2) = true := beq_iff_eq.mpr c12
              have c12b1 : ((rd l0 x28_2) != a2) = false := bne_eq_false_iff_eq.mpr c12
              clear c12
              as_aux_lemma =>
                have H' := K0 H
                clear H
                have p176 : 0 ≤ (x28_2 : Int) := of_decide_eq_true (by first | (with_reducible assumption) | assumption)
                have q176 : x28_2 < (l0.length : Int) := of_decide_eq_true (by first | (with_reducible assumption) | assumption)
                obtain ⟨ad176, e176, hx176_0⟩ := Kd.at_int HR0.out x28_2 p176 q176
                cases e176
                replace hx176_0 := (HB.out.cell (World.block_lt_of_cell? w _ hx176_0)).trans hx176_0
                replace p176 := eq_true p176; replace q176 := eq_true q176
                go_wp2
                go_roundg k2
                case measure => have := HJ3.out; have := HK2.out; omega
                case rel => exact ⟨(x8_2), (wrap64 (x28_2 + 1)), (by first | rfl | (simp; done) | (simp [*]; done)), H', ⟨by have := HJ3.out; have := HK2.out; omega⟩, ⟨by (with_reducible repeat (first | apply Kd.R_alloc | apply Kd.R_drewN | apply Kd.R_drew)); exact HO_8.out⟩, ⟨by repeat (first | (with_reducible first | exact HB.out | apply below_alloc | apply pw_below_drewN | apply below_drew1) | exact HB.out)⟩⟩
            rw [if_neg c12] at H
            have c12b0 : ((rd l0 x28_2) == a2) = false := beq_eq_false_iff_ne.mpr c12
            have c12b1 : ((rd l0 x28_2) != a2) = true := bne_iff_ne.mpr c12
            by_cases c13 : x8_2.length < 17592186044416
            case neg =>
              rw [if_neg c13] at H
              exact absurd H (by simp)
            rw [if_pos c13] at H
            have LMc13 := K0 c13; clear c13
            obtain ⟨y177, hy177⟩ : ∃ y_ : List Int, y_ = (x8_2 ++ [rd l0 x28_2]) := ⟨_, rfl⟩
            replace H : (lit_Resolve.l0 k2 l1 a2 y177 l0 (l0.length : Int) (wrap64 (x28_2 + 1))) = some (r1, r2) := by first | (rw [hy177]; with_reducible exact H) | (have H2_ := (Option.bind_some _ _).symm.trans H; rw [hy177]; with_reducible exact H2_) | (have H2_ := (Option.bind_some _ _).symm.trans H; with_reducible exact H2_) | with_reducible exact H | (rw [hy177]; exact H) | exact H
            have Ny177 := K0 hy177; clear hy177
            as_aux_lemma =>
              have H' := K0 H
              clear H
              have p176 : 0 ≤ (x28_2 : Int) := of_decide_eq_true (by first | (with_reducible assumption) | assumption)
              have q176 : x28_2 < (l0.length : Int) := of_decide_eq_true (by first | (with_reducible assumption) | assumption)
              obtain ⟨ad176, e176, hx176_0⟩ := Kd.at_int HR0.out x28_2 p176 q176
              cases e176
              replace hx176_0 := (HB.out.cell (World.block_lt_of_cell? w _ hx176_0)).trans hx176_0
              replace p176 := eq_true p176; replace q176 := eq_true q176
              go_wp2_with (first | ((with_reducible refine gate_builtin (b := .append) (xs := #[.tmp 35, .tmp 37]) rfl ?_); at_builtin; refine Kd.R_append (Kd.int .i64) (w0 := w) w.heap.size rfl (.tmp 35) (.tmp 37) 29 3 (.int .i64 0) 8 rfl Try.underlying29 info3 rfl (by decide) (by omega) u8 x8_2 (rd l0 x28_2) [.int .i64 (rd l0 x28_2)] (fun _ => True) (fun _ => False) rfl rfl ?aP (fun _ hk => hk.elim) ?aF ?aO ?aB ?aS ?aL ?_; (case aP => exact rfl); (case aB => exact (by repeat (first | (with_reducible first | exact HB.out | apply below_alloc | apply pw_below_drewN | apply below_drew1) | exact HB.out))); (case aF => exact (fun _ _ => trivial)); (case aO => exact (by (with_reducible repeat (first | apply Kd.R_alloc | apply Kd.R_drewN | apply Kd.R_drew)); exact HO_8.out)); (case aS => exact (below_size (by repeat (first | (with_reducible first | exact HB.out | apply below_alloc | apply pw_below_drewN | apply below_drew1) | exact HB.out)))); (case aL => have := LMc13.out; omega); intro v178 w14 ho hb hg hat; rw [← Ny177.out] at ho; have n0_ := K0 (hb); have n1_ := K0 (ho); clear HB; clear HO_8; have HB := n0_; have HO179 := n1_; clear n0_ n1_; clear ho hb hg hat))
              go_roundg k2
              case measure => have := HJ3.out; have := HK2.out; omega
              case rel => exact ⟨(y177), (wrap64 (x28_2 + 1)), (by first | rfl | (simp; done) | (simp [*]; done)), H', ⟨by have := HJ3.out; have := HK2.out; omega⟩, ⟨by (with_reducible repeat (first | apply Kd.R_alloc | apply Kd.R_drewN | apply Kd.R_drew)); exact HO179.out⟩, ⟨by repeat (first | (with_reducible first | exact HB.out | apply below_alloc | apply pw_below_drewN | apply below_drew1) | exact HB.out)⟩⟩
          rw [if_neg c9] at H
          have c9b0 : decide (x28_2 < (l0.length : Int)) = false := decide_eq_false c9
          clear c9
          have H' := K0 H
          clear H
          go_wp2
          go_loopg [8, 42] k2 (fun kq v8 v42 w' => ∃ (x8_3 : List Int) (x42_3 : Int), v42 = .int .i64 x42_3 ∧ Aside0 (lit_Resolve.l1 kq a2 x8_3 l1 (l1.length : Int) x42_3 = some (r1, r2)) ∧ Aside0 (kq ≤ k2) ∧ Aside0 (Kd.R (Kd.int .i64) 3 w' w.heap.size (fun _ => True) v8 x8_3) ∧ Aside0 (Below w.heap.size w w'))
          case atStart => exact ⟨(x8_2), (0), (by first | rfl | (simp; done) | (simp [*]; done)), H', ⟨Nat.le_refl _⟩, ⟨by (with_reducible repeat (first | apply Kd.R_alloc | apply Kd.R_drewN | apply Kd.R_drew)); exact HO_8.out⟩, ⟨by repeat (first | (with_reducible first | exact HB.out | apply below_alloc | apply pw_below_drewN | apply below_drew1) | exact HB.out)⟩⟩
          case round =>
            clear H'; try clear c1; try clear p1; try clear q1; try clear hx1; try clear p2; try clear c5; try clear c6; try clear p6; try clear c8; try clear c9; try clear c9b0; try clear c10; try clear c10b0; try clear c11; try clear c11b0; try clear c12; try clear c12b0; try clear c12b1; try clear c13; try clear hx176_0; try clear p176; try clear p2; try clear p6; try clear q176
            obtain ⟨x8_3, x42_3, rfl, HA, HK3, HO_8, HB⟩ := hrel
            cases gk with
            | zero => exact absurd HA.out (by simp [lit_Resolve.l1])
            | succ k3 =>
              have H := HA.out
              clear HA
              simp only [lit_Resolve.l1] at H
              by_cases c15 : x42_3 < (l1.length : Int)
              case neg =>
                rw [if_neg c15] at H
                have c15b0 : decide (x42_3 < (l1.length : Int)) = false := decide_eq_false c15
                clear c15
                replace H := Option.bind_eq_some_iff.mp H
                obtain ⟨⟨t184, t185⟩, A210, H⟩ := H
                replace H : (if t185 = true then (some (t184, 0)) else (some (([] : List Int), 4))) = some (r1, r2) := H
                have A21 := K0 A210; clear A210
                by_cases c22 : t185 = true
                case pos =>
                  subst c22
                  have H1 : (some (t184, 0)) = some (r1, r2) := by rw [if_pos rfl] at H; exact H
                  clear H
                  have H := H1
                  clear H1
                  as_aux_lemma =>
                    simp only [Option.some.injEq, Prod.mk.injEq] at H
                    obtain ⟨rfl, rfl⟩ := H
                    obtain ⟨Ao23, co23, eo23⟩ := Kd.R_slice HO_8.out
                    subst eo23
                    go_wp2_with (first | ((with_reducible refine gate_callee (f := 55) rfl ?_); refine goesL_ (some 57) rfl rfl Try.func55 (by kernel_rfl) rfl #[.slice Ao23 x8_3.length co23] rfl (by (try simp only [List.map_toArray, List.map_cons, List.map_nil]); first | done | rfl | (simp only [List.length_drop, List.length_take]; rfl)) ?_; (with_reducible refine (lit_Clean.calls _ _ x8_3 t184 true _ ?side1 ?side2 A21.out).mono ?_); (case side1 => repeat (first | exact (Kd.R_reads' HO_8.out).2.2 | (with_reducible refine Kd.C_alloc ?_ _) | (with_reducible refine Kd.C_drewN ?_ _) | (with_reducible refine Kd.C_drew ?_))); (case side2 => exact (Kd.R_reads' HO_8.out).2.1); rintro e w24 ⟨v186, rfl, ho0, hb⟩; refine ⟨_, rfl, ?_⟩; have n0_ := K0 (Kd.R_elder' (by (with_reducible repeat (first | apply Kd.R_alloc | apply Kd.R_drewN | apply Kd.R_drew)); exact HO_8.out) (Kd.R_base ho0) hb); have n1_ := K0 (Kd.R_lower (Kd.R_new' ho0 (Kd.R_lt (by (with_reducible repeat (first | apply Kd.R_alloc | apply Kd.R_drewN | apply Kd.R_drew)); exact HO_8.out))) (below_size (by repeat (first | (with_reducible first | exact HB.out | apply below_alloc | apply pw_below_drewN | apply below_drew1) | exact HB.out)))); have n2_ := K0 (below_step (by repeat (first | (with_reducible first | exact HB.out | apply below_alloc | apply pw_below_drewN | apply below_drew1) | exact HB.out)) hb); clear HO_8; clear HB; have HO_8 := n0_; have HO187 := n1_; have HB := n2_; clear n0_ n1_ n2_; (try clear hb); (try clear hb2); (try clear hk); (try clear hi); (try clear ho0)))
                    go_ret2
                    exact ⟨_, by first | rfl | (simp [errW_none, errW_some] <;> rfl) | (simp [*, errW_none, errW_some] <;> rfl), by (with_reducible repeat (first | apply Kd.R_alloc | apply Kd.R_drewN | apply Kd.R_drew)); exact Kd.R_mono HO187.out (fun _ hk => trivial), by repeat (first | (with_reducible first | exact HB.out | apply below_alloc | apply pw_below_drewN | apply below_drew1) | exact HB.out)⟩
                replace c22 := Bool.eq_false_iff.mpr c22
                subst c22
                have H1 : (some (([] : List Int), 4)) = some (r1, r2) := by rw [if_neg (show ¬ (false = true) by decide)] at H; exact H
                clear H
                have H := H1
                clear H1
                as_aux_lemma =>
                  simp only [Option.some.injEq, Prod.mk.injEq] at H
                  obtain ⟨rfl, rfl⟩ := H
                  obtain ⟨Ao25, co25, eo25⟩ := Kd.R_slice HO_8.out
                  subst eo25
                  go_wp2_with (first | ((with_reducible refine gate_callee (f := 55) rfl ?_); refine goesL_ (some 57) rfl rfl Try.func55 (by kernel_rfl) rfl #[.slice Ao25 x8_3.length co25] rfl (by (try simp only [List.map_toArray, List.map_cons, List.map_nil]); first | done | rfl | (simp only [List.length_drop, List.length_take]; rfl)) ?_; (with_reducible refine (lit_Clean.calls _ _ x8_3 t184 false _ ?side1 ?side2 A21.out).mono ?_); (case side1 => repeat (first | exact (Kd.R_reads' HO_8.out).2.2 | (with_reducible refine Kd.C_alloc ?_ _) | (with_reducible refine Kd.C_drewN ?_ _) | (with_reducible refine Kd.C_drew ?_))); (case side2 => exact (Kd.R_reads' HO_8.out).2.1); rintro e w26 ⟨v186, rfl, ho0, hb⟩; refine ⟨_, rfl, ?_⟩; have n0_ := K0 (Kd.R_elder' (by (with_reducible repeat (first | apply Kd.R_alloc | apply Kd.R_drewN | apply Kd.R_drew)); exact HO_8.out) (Kd.R_base ho0) hb); have n1_ := K0 (Kd.R_lower (Kd.R_new' ho0 (Kd.R_lt (by (with_reducible repeat (first | apply Kd.R_alloc | apply Kd.R_drewN | apply Kd.R_drew)); exact HO_8.out))) (below_size (by repeat (first | (with_reducible first | exact HB.out | apply below_alloc | apply pw_below_drewN | apply below_drew1) | exact HB.out)))); have n2_ := K0 (below_step (by repeat (first | (with_reducible first | exact HB.out | apply below_alloc | apply pw_below_drewN | apply below_drew1) | exact HB.out)) hb); clear HO_8; clear HB; have HO_8 := n0_; have HO187 := n1_; have HB := n2_; clear n0_ n1_ n2_; (try clear hb); (try clear hb2); (try clear hk); (try clear hi); (try clear ho0)))
                  go_ret2
                  exact ⟨_, by first | rfl | (simp [errW_none, errW_some] <;> rfl) | (simp [*, errW_none, errW_some] <;> rfl), by first | exact Kd.R_nil _ _ _ _ _ | exact Kd.N_nil _ _ _ _ _ | exact Kd.V_nil _ _ _ _ _ | exact Kd.Q_nil _ _ _ _ _ | exact Kd.S_nil _ _ _ _ _, by repeat (first | (with_reducible first | exact HB.out | apply below_alloc | apply pw_below_drewN | apply below_drew1) | exact HB.out)⟩
              rw [if_pos c15] at H
              have c15b0 : decide (x42_3 < (l1.length : Int)) = true := decide_eq_true c15
              clear c15
              by_cases c16 : 0 ≤ x42_3
              case neg =>
                rw [if_neg c16] at H
                exact absurd H (by simp)
              rw [if_pos c16] at H
              have c16b0 : decide (0 ≤ x42_3) = true := decide_eq_true c16
              clear c16
              by_cases c17 : x42_3 < (l1.length : Int)
              case neg =>
                rw [if_neg c17] at H
                exact absurd H (by simp)
              rw [if_pos c17] at H
              have c17b0 : decide (x42_3 < (l1.length : Int)) = true := decide_eq_true c17
              clear c17
              by_cases c18 : (rd l1 x42_3) = (wrap64 (-a2))
              case pos =>
                rw [if_pos c18] at H
                have c18b0 : ((rd l1 x42_3) == (wrap64 (-a2))) = true := beq_iff_eq.mpr c18
                have c18b1 : ((rd l1 x42_3) != (wrap64 (-a2))) = false := bne_eq_false_iff_eq.mpr c18
                clear c18
                as_aux_lemma =>
                  have H' := K0 H
                  clear H
                  have p180 : 0 ≤ (x42_3 : Int) := of_decide_eq_true (by first | (with_reducible assumption) | assumption)
                  have q180 : x42_3 < (l1.length : Int) := of_decide_eq_true (by first | (with_reducible assumption) | assumption)
                  obtain ⟨ad180, e180, hx180_0⟩ := Kd.at_int HR1.out x42_3 p180 q180
                  cases e180
                  replace hx180_0 := (HB.out.cell (World.block_lt_of_cell? w _ hx180_0)).trans hx180_0
                  replace p180 := eq_true p180; replace q180 := eq_true q180
                  go_wp2
                  go_roundg k3
                  case measure => have := HJ3.out; have := HK2.out; have := HK3.out; omega
                  case rel => exact ⟨(x8_3), (wrap64 (x42_3 + 1)), (by first | rfl | (simp; done) | (simp [*]; done)), H', ⟨by have := HJ3.out; have := HK2.out; have := HK3.out; omega⟩, ⟨by (with_reducible repeat (first | apply Kd.R_alloc | apply Kd.R_drewN | apply Kd.R_drew)); exact HO_8.out⟩, ⟨by repeat (first | (with_reducible first | exact HB.out | apply below_alloc | apply pw_below_drewN | apply below_drew1) | exact HB.out)⟩⟩
              rw [if_neg c18] at H
              have c18b0 : ((rd l1 x42_3) == (wrap64 (-a2))) = false := beq_eq_false_iff_ne.mpr c18
              have c18b1 : ((rd l1 x42_3) != (wrap64 (-a2))) = true := bne_iff_ne.mpr c18
              by_cases c19 : x8_3.length < 17592186044416
              case neg =>
                rw [if_neg c19] at H
                exact absurd H (by simp)
              rw [if_pos c19] at H
              have LMc19 := K0 c19; clear c19
              obtain ⟨y181, hy181⟩ : ∃ y_ : List Int, y_ = (x8_3 ++ [rd l1 x42_3]) := ⟨_, rfl⟩
              replace H : (lit_Resolve.l1 k3 a2 y181 l1 (l1.length : Int) (wrap64 (x42_3 + 1))) = some (r1, r2) := by first | (rw [hy181]; with_reducible exact H) | (have H2_ := (Option.bind_some _ _).symm.trans H; rw [hy181]; with_reducible exact H2_) | (have H2_ := (Option.bind_some _ _).symm.trans H; with_reducible exact H2_) | with_reducible exact H | (rw [hy181]; exact H) | exact H
              have Ny181 := K0 hy181; clear hy181
              as_aux_lemma =>
                have H' := K0 H
                clear H
                have p180 : 0 ≤ (x42_3 : Int) := of_decide_eq_true (by first | (with_reducible assumption) | assumption)
                have q180 : x42_3 < (l1.length : Int) := of_decide_eq_true (by first | (with_reducible assumption) | assumption)
                obtain ⟨ad180, e180, hx180_0⟩ := Kd.at_int HR1.out x42_3 p180 q180
                cases e180
                replace hx180_0 := (HB.out.cell (World.block_lt_of_cell? w _ hx180_0)).trans hx180_0
                replace p180 := eq_true p180; replace q180 := eq_true q180
                go_wp2_with (first | ((with_reducible refine gate_builtin (b := .append) (xs := #[.tmp 50, .tmp 52]) rfl ?_); at_builtin; refine Kd.R_append (Kd.int .i64) (w0 := w) w.heap.size rfl (.tmp 50) (.tmp 52) 29 3 (.int .i64 0) 8 rfl Try.underlying29 info3 rfl (by decide) (by omega) u8 x8_3 (rd l1 x42_3) [.int .i64 (rd l1 x42_3)] (fun _ => True) (fun _ => False) rfl rfl ?aP (fun _ hk => hk.elim) ?aF ?aO ?aB ?aS ?aL ?_; (case aP => exact rfl); (case aB => exact (by repeat (first | (with_reducible first | exact HB.out | apply below_alloc | apply pw_below_drewN | apply below_drew1) | exact HB.out))); (case aF => exact (fun _ _ => trivial)); (case aO => exact (by (with_reducible repeat (first | apply Kd.R_alloc | apply Kd.R_drewN | apply Kd.R_drew)); exact HO_8.out)); (case aS => exact (below_size (by repeat (first | (with_reducible first | exact HB.out | apply below_alloc | apply pw_below_drewN | apply below_drew1) | exact HB.out)))); (case aL => have := LMc19.out; omega); intro v182 w20 ho hb hg hat; rw [← Ny181.out] at ho; have n0_ := K0 (hb); have n1_ := K0 (ho); clear HB; clear HO_8; have HB := n0_; have HO183 := n1_; clear n0_ n1_; clear ho hb hg hat))
                go_roundg k3
                case measure => have := HJ3.out; have := HK2.out; have := HK3.out; omega
                case rel => exact ⟨(y181), (wrap64 (x42_3 + 1)), (by first | rfl | (simp; done) | (simp [*]; done)), H', ⟨by have := HJ3.out; have := HK2.out; have := HK3.out; omega⟩, ⟨by (with_reducible repeat (first | apply Kd.R_alloc | apply Kd.R_drewN | apply Kd.R_drew)); exact HO183.out⟩, ⟨by repeat (first | (with_reducible first | exact HB.out | apply below_alloc | apply pw_below_drewN | apply below_drew1) | exact HB.out)⟩⟩
mutual
def chain_Step.l0 : Nat → List (List Int) → List Int → List Int → Int → Int → List Int → List Int → Option (List Int × Int × Int)
  | 0, _, _, _, _, _, _, _ => none
  | k + 1, x0, x10, x29, x30, x31, x192000, x192001 => if x31 < x30 then (if 0 ≤ x31 then (if x31 < (x29.length : Int) then (if (rd x29 x31) < 0 then (chain_Step.j1 k x0 x10 x31 (rd x29 x31) x29 x30 x31 true x192000 x192001) else (chain_Step.j1 k x0 x10 x31 (rd x29 x31) x29 x30 x31 (decide ((rd x29 x31) ≥ (x0.length : Int))) x192000 x192001)) else (none)) else (none)) else ((lit_Within.f k x10 x192000).bind fun t193 => (if t193 = true then (some (x10, 0, 0)) else (some (([] : List Int), 0, 30))))
def chain_Step.j1 : Nat → List (List Int) → List Int → Int → Int → List Int → Int → Int → Bool → List Int → List Int → Option (List Int × Int × Int)
  | 0, _, _, _, _, _, _, _, _, _, _ => none
  | k + 1, x0, x10, x11, x12, x29, x30, x31, x43, x192000, x192001 => if x43 = true then (some (([] : List Int), x11, 3)) else (if x11 = 0 then (if 0 ≤ x12 then (if x12 < (x0.length : Int) then ((lit_Clean.f (rd_L3 x0 x12)).bind fun bt196 => (chain_Step.l0 k x0 bt196.1 x29 x30 (wrap64 (x31 + 1)) x192000 x192001)) else (none)) else (none)) else (if 0 ≤ x12 then (if x12 < (x0.length : Int) then ((lit_Pivot.f k x10 (rd_L3 x0 x12)).bind fun bt201 => (if bt201.2 = true then ((lit_Has.f k x10 bt201.1).bind fun t203 => (if t203 = true then ((lit_Has.f k (rd_L3 x0 x12) (wrap64 (-bt201.1))).bind fun t205 => (chain_Step.j2 k x0 x10 x11 x12 bt201.1 x29 x30 x31 (!t205) x192000 x192001)) else (chain_Step.j2 k x0 x10 x11 x12 bt201.1 x29 x30 x31 true x192000 x192001))) else (some (([] : List Int), x11, 30)))) else (none)) else (none)))
def chain_Step.j2 : Nat → List (List Int) → List Int → Int → Int → Int → List Int → Int → Int → Bool → List Int → List Int → Option (List Int × Int × Int)
  | 0, _, _, _, _, _, _, _, _, _, _, _ => none
  | k + 1, x0, x10, x11, x12, x13, x29, x30, x31, x80, x192000, x192001 => if x80 = true then (if 0 ≤ x12 then (if x12 < (x0.length : Int) then ((lit_Resolve.f k x10 (rd_L3 x0 x12) (wrap64 (-x13))).bind fun bt207 => (if bt207.2 = 0 then (chain_Step.l0 k x0 bt207.1 x29 x30 (wrap64 (x31 + 1)) x192000 x192001) else (some (([] : List Int), x11, 30)))) else (none)) else (none)) else (if 0 ≤ x12 then (if x12 < (x0.length : Int) then ((lit_Resolve.f k x10 (rd_L3 x0 x12) x13).bind fun bt212 => (if bt212.2 = 0 then (chain_Step.l0 k x0 bt212.1 x29 x30 (wrap64 (x31 + 1)) x192000 x192001) else (some (([] : List Int), x11, 30)))) else (none)) else (none))
end
def chain_Step.f (k : Nat) (l0 : List (List Int)) (a1 : Int) (l2_0 : List Int) (l2_1 : List Int) : Option (List Int × Int × Int) := (lit_Right.f k l2_0 a1).bind fun t192 => (if t192 = 0 then (if (l2_1.length : Int) = 0 then (some (([] : List Int), 0, 3)) else (chain_Step.l0 k l0 ([] : List Int) l2_1 (l2_1.length : Int) 0 l2_0 l2_1)) else (some (([] : List Int), 0, t192)))
set_option maxHeartbeats 8000000 in
set_option maxRecDepth 100000 in
theorem chain_Step.calls (k : Nat) (A0 : Option Addr) (c0 : Nat) (l0 : List (List Int)) (a1 : Int) (A2_0 : Option Addr) (c2_0 : Nat) (l2_0 : List Int) (A2_1 : Option Addr) (c2_1 : Nat) (l2_1 : List Int) (r1 : List Int) (r2 : Int) (r3 : Int) (w : World) (hr0 : Kd.C (Kd.slice 3 (Kd.int .i64)) w A0 l0.length l0) (hc0 : l0.length ≤ c0) (hr2_0 : Kd.C (Kd.int .i64) w A2_0 l2_0.length l2_0) (hc2_0 : l2_0.length ≤ c2_0) (hr2_1 : Kd.C (Kd.int .i64) w A2_1 l2_1.length l2_1) (hc2_1 : l2_1.length ≤ c2_1) (h : chain_Step.f k l0 a1 l2_0 l2_1 = some (r1, r2, r3)) :
    Calls Try.prog 48 #[.slice A0 l0.length c0, .int .i64 a1, .agg #[.slice A2_0 l2_0.length c2_0, .slice A2_1 l2_1.length c2_1]] w fun e w' => ∃ v0_ : Value, e = .returned (.tuple #[v0_, .int .i64 r2, .int .i64 r3]) ∧ Kd.R (Kd.int .i64) 3 w' w.heap.size (fun _ => True) v0_ r1 ∧ Below w.heap.size w w' := by
  have hu48 := Try.underlying48
  have HR0 := K0 hr0; have HC0 := K0 hc0; clear hr0 hc0; have HR2_0 := K0 hr2_0; have HC2_0 := K0 hc2_0; clear hr2_0 hc2_0; have HR2_1 := K0 hr2_1; have HC2_1 := K0 hc2_1; clear hr2_1 hc2_1
  have HB := K0 (Below.refl w.heap.size w)
  have H : ((lit_Right.f k l2_0 a1).bind fun t192 => (if t192 = 0 then (if (l2_1.length : Int) = 0 then (some (([] : List Int), 0, 3)) else (chain_Step.l0 k l0 ([] : List Int) l2_1 (l2_1.length : Int) 0 l2_0 l2_1)) else (some (([] : List Int), 0, t192)))) = some (r1, r2, r3) := h
  clear h
  replace H := Option.bind_eq_some_iff.mp H
  obtain ⟨t192, A40, H⟩ := H
  replace H : (if t192 = 0 then (if (l2_1.length : Int) = 0 then (some (([] : List Int), 0, 3)) else (chain_Step.l0 k l0 ([] : List Int) l2_1 (l2_1.length : Int) 0 l2_0 l2_1)) else (some (([] : List Int), 0, t192))) = some (r1, r2, r3) := H
  have A4 := K0 A40; clear A40
  by_cases c5 : t192 = 0
  case neg =>
    rw [if_neg c5] at H
    have c5b0 : (t192 == 0) = false := beq_eq_false_iff_ne.mpr c5
    have c5b1 : (t192 != 0) = true := bne_iff_ne.mpr c5
    as_aux_lemma =>
      simp only [Option.some.injEq, Prod.mk.injEq] at H
      obtain ⟨rfl, rfl, rfl⟩ := H
      go_enter Try.func48, Try.ntmps48
      go_wp2_with (first | ((with_reducible refine gate_dst (N := 5) rfl ?_); (try (refine gate_guard (by rfl) ?_; dsimp only)); refine box_event ?hg (N := 5) ?hd (cs := #[.slice A2_0 l2_0.length c2_0, .slice A2_1 l2_1.length c2_1]) (t := 48) ?hr ?_; (case hd => rfl); (case hg => rfl); (case hr => first | (go_simp; done) | (go_simp; rfl)); intro gb191 hg w51 hbox hb; have n0_ := K0 (below_step (by repeat (first | (with_reducible first | exact HB.out | apply below_alloc | apply pw_below_drewN | apply below_drew1) | exact HB.out)) hb); have n1_ := K0 (hbox); have n2_ := K0 ((by rw [hg]; exact (below_size (by repeat (first | (with_reducible first | exact HB.out | apply below_alloc | apply pw_below_drewN | apply below_drew1) | exact HB.out))) : w.heap.size ≤ gb191)); have n3_ := K0 ((by rw [hg]; exact (below_size (by repeat (first | (with_reducible first | exact HB.out | apply below_alloc | apply pw_below_drewN | apply below_drew1) | exact HB.out))) : w.heap.size ≤ gb191)); clear HB; have HB := n0_; have BK191 := n1_; have GW191 := n2_; have GE191 := n3_; clear n0_ n1_ n2_ n3_; clear hb hbox hg; have hcz52_0 : w51.cell? ⟨gb191, 0, none⟩ = some (.slice A2_0 l2_0.length c2_0) := (blk_cell BK191.out 0).trans rfl; have hcz52_1 : w51.cell? ⟨gb191, 1, none⟩ = some (.slice A2_1 l2_1.length c2_1) := (blk_cell BK191.out 1).trans rfl; have hfz52_0 := blk_frozen BK191.out 0; have hfz52_1 := blk_frozen BK191.out 1) | ((with_reducible refine gate_callee (f := 50) rfl ?_); refine goesL_ (some 20) rfl rfl Try.func50 (by kernel_rfl) rfl #[.slice A2_0 l2_0.length c2_0, .int .i64 a1] rfl (by (try simp only [List.map_toArray, List.map_cons, List.map_nil]); first | done | rfl | (simp only [List.length_drop, List.length_take]; rfl)) ?_; (with_reducible refine (lit_Right.calls k _ _ l2_0 a1 t192 _ ?side1 ?side2 A4.out).mono ?_); (case side1 => repeat (first | exact (Kd.C_below HR2_0.out HB.out) | (with_reducible refine Kd.C_alloc ?_ _) | (with_reducible refine Kd.C_drewN ?_ _) | (with_reducible refine Kd.C_drew ?_))); (case side2 => exact HC2_0.out); rintro e w' ⟨rfl, ⟨nd, rfl⟩⟩; refine ⟨_, rfl, ?_⟩))
      go_ret3
      exact ⟨_, by first | rfl | (simp [errW_none, errW_some] <;> rfl) | (simp [*, errW_none, errW_some] <;> rfl), by first | exact Kd.R_nil _ _ _ _ _ | exact Kd.N_nil _ _ _ _ _ | exact Kd.V_nil _ _ _ _ _ | exact Kd.Q_nil _ _ _ _ _ | exact Kd.S_nil _ _ _ _ _, by repeat (first | (with_reducible first | exact HB.out | apply below_alloc | apply pw_below_drewN | apply below_drew1 | refine below_set ?_ GE191.out) | exact HB.out)⟩
  rw [if_pos c5] at H
  have c5b0 : (t192 == 0) = true := beq_iff_eq.mpr c5
  have c5b1 : (t192 != 0) = false := bne_eq_false_iff_eq.mpr c5
  clear c5
  by_cases c6 : (l2_1.length : Int) = 0
  case pos =>
    rw [if_pos c6] at H
    have c6b0 : ((l2_1.length : Int) == 0) = true := beq_iff_eq.mpr c6
    have c6b1 : ((l2_1.length : Int) != 0) = false := bne_eq_false_iff_eq.mpr c6
    clear c6
    as_aux_lemma =>
      simp only [Option.some.injEq, Prod.mk.injEq] at H
      obtain ⟨rfl, rfl, rfl⟩ := H
      go_enter Try.func48, Try.ntmps48
      go_wp2_with (first | ((with_reducible refine gate_dst (N := 5) rfl ?_); (try (refine gate_guard (by rfl) ?_; dsimp only)); refine box_event ?hg (N := 5) ?hd (cs := #[.slice A2_0 l2_0.length c2_0, .slice A2_1 l2_1.length c2_1]) (t := 48) ?hr ?_; (case hd => rfl); (case hg => rfl); (case hr => first | (go_simp; done) | (go_simp; rfl)); intro gb191 hg w7 hbox hb; have n0_ := K0 (below_step (by repeat (first | (with_reducible first | exact HB.out | apply below_alloc | apply pw_below_drewN | apply below_drew1) | exact HB.out)) hb); have n1_ := K0 (hbox); have n2_ := K0 ((by rw [hg]; exact (below_size (by repeat (first | (with_reducible first | exact HB.out | apply below_alloc | apply pw_below_drewN | apply below_drew1) | exact HB.out))) : w.heap.size ≤ gb191)); have n3_ := K0 ((by rw [hg]; exact (below_size (by repeat (first | (with_reducible first | exact HB.out | apply below_alloc | apply pw_below_drewN | apply below_drew1) | exact HB.out))) : w.heap.size ≤ gb191)); clear HB; have HB := n0_; have BK191 := n1_; have GW191 := n2_; have GE191 := n3_; clear n0_ n1_ n2_ n3_; clear hb hbox hg; have hcz8_0 : w7.cell? ⟨gb191, 0, none⟩ = some (.slice A2_0 l2_0.length c2_0) := (blk_cell BK191.out 0).trans rfl; have hcz8_1 : w7.cell? ⟨gb191, 1, none⟩ = some (.slice A2_1 l2_1.length c2_1) := (blk_cell BK191.out 1).trans rfl; have hfz8_0 := blk_frozen BK191.out 0; have hfz8_1 := blk_frozen BK191.out 1) | ((with_reducible refine gate_callee (f := 50) rfl ?_); refine goesL_ (some 20) rfl rfl Try.func50 (by kernel_rfl) rfl #[.slice A2_0 l2_0.length c2_0, .int .i64 a1] rfl (by (try simp only [List.map_toArray, List.map_cons, List.map_nil]); first | done | rfl | (simp only [List.length_drop, List.length_take]; rfl)) ?_; (with_reducible refine (lit_Right.calls k _ _ l2_0 a1 t192 _ ?side1 ?side2 A4.out).mono ?_); (case side1 => repeat (first | exact (Kd.C_below HR2_0.out HB.out) | (with_reducible refine Kd.C_alloc ?_ _) | (with_reducible refine Kd.C_drewN ?_ _) | (with_reducible refine Kd.C_drew ?_))); (case side2 => exact HC2_0.out); rintro e w' ⟨rfl, ⟨nd, rfl⟩⟩; refine ⟨_, rfl, ?_⟩))
      go_ret3
      exact ⟨_, by first | rfl | (simp [errW_none, errW_some] <;> rfl) | (simp [*, errW_none, errW_some] <;> rfl), by first | exact Kd.R_nil _ _ _ _ _ | exact Kd.N_nil _ _ _ _ _ | exact Kd.V_nil _ _ _ _ _ | exact Kd.Q_nil _ _ _ _ _ | exact Kd.S_nil _ _ _ _ _, by repeat (first | (with_reducible first | exact HB.out | apply below_alloc | apply pw_below_drewN | apply below_drew1 | refine below_set ?_ GE191.out) | exact HB.out)⟩
  rw [if_neg c6] at H
  have c6b0 : ((l2_1.length : Int) == 0) = false := beq_eq_false_iff_ne.mpr c6
  have c6b1 : ((l2_1.length : Int) != 0) = true := bne_iff_ne.mpr c6
  have c6b2 : ¬ (l2_1 = []) := fun h_ => c6 (by rw [h_]; rfl)
  have H' := K0 H
  clear H
  go_enter Try.func48, Try.ntmps48
  go_wp2_with (first | ((with_reducible refine gate_dst (N := 5) rfl ?_); (try (refine gate_guard (by rfl) ?_; dsimp only)); refine box_event ?hg (N := 5) ?hd (cs := #[.slice A2_0 l2_0.length c2_0, .slice A2_1 l2_1.length c2_1]) (t := 48) ?hr ?_; (case hd => rfl); (case hg => rfl); (case hr => first | (go_simp; done) | (go_simp; rfl)); intro gb191 hg w9 hbox hb; have n0_ := K0 (below_step (by repeat (first | (with_reducible first | exact HB.out | apply below_alloc | apply pw_below_drewN | apply below_drew1) | exact HB.out)) hb); have n1_ := K0 (hbox); have n2_ := K0 ((by rw [hg]; exact (below_size (by repeat (first | (with_reducible first | exact HB.out | apply below_alloc | apply pw_below_drewN | apply below_drew1) | exact HB.out))) : w.heap.size ≤ gb191)); have n3_ := K0 ((by rw [hg]; exact (below_size (by repeat (first | (with_reducible first | exact HB.out | apply below_alloc | apply pw_below_drewN | apply below_drew1) | exact HB.out))) : w.heap.size ≤ gb191)); clear HB; have HB := n0_; have BK191 := n1_; have GW191 := n2_; have GE191 := n3_; clear n0_ n1_ n2_ n3_; clear hb hbox hg; have hcz10_0 : w9.cell? ⟨gb191, 0, none⟩ = some (.slice A2_0 l2_0.length c2_0) := (blk_cell BK191.out 0).trans rfl; have hcz10_1 : w9.cell? ⟨gb191, 1, none⟩ = some (.slice A2_1 l2_1.length c2_1) := (blk_cell BK191.out 1).trans rfl; have hfz10_0 := blk_frozen BK191.out 0; have hfz10_1 := blk_frozen BK191.out 1) | ((with_reducible refine gate_callee (f := 50) rfl ?_); refine goesL_ (some 20) rfl rfl Try.func50 (by kernel_rfl) rfl #[.slice A2_0 l2_0.length c2_0, .int .i64 a1] rfl (by (try simp only [List.map_toArray, List.map_cons, List.map_nil]); first | done | rfl | (simp only [List.length_drop, List.length_take]; rfl)) ?_; (with_reducible refine (lit_Right.calls k _ _ l2_0 a1 t192 _ ?side1 ?side2 A4.out).mono ?_); (case side1 => repeat (first | exact (Kd.C_below HR2_0.out HB.out) | (with_reducible refine Kd.C_alloc ?_ _) | (with_reducible refine Kd.C_drewN ?_ _) | (with_reducible refine Kd.C_drew ?_))); (case side2 => exact HC2_0.out); rintro e w' ⟨rfl, ⟨nd, rfl⟩⟩; refine ⟨_, rfl, ?_⟩))
  go_loopg [10, 31] k (fun kq v10 v31 w' => ∃ (x10_1 : List Int) (x31_1 : Int), v31 = .int .i64 x31_1 ∧ Aside0 (chain_Step.l0 kq l0 x10_1 l2_1 (l2_1.length : Int) x31_1 l2_0 l2_1 = some (r1, r2, r3)) ∧ Aside0 (kq ≤ k) ∧ Aside0 (Kd.R (Kd.int .i64) 3 w' w.heap.size (fun _ => True) v10 x10_1) ∧ Aside0 (w'.heap[gb191]? = some (.cells #[(.slice A2_0 l2_0.length c2_0), (.slice A2_1 l2_1.length c2_1)] 48 (0, 0))) ∧ Aside0 (Below w.heap.size w w'))
  case atStart => exact ⟨(([] : List Int)), (0), (by first | rfl | (simp; done) | (simp [*]; done)), H', ⟨Nat.le_refl _⟩, ⟨by first | exact Kd.R_nil _ _ _ _ _ | exact Kd.N_nil _ _ _ _ _ | exact Kd.V_nil _ _ _ _ _ | exact Kd.Q_nil _ _ _ _ _ | exact Kd.S_nil _ _ _ _ _⟩, ⟨by (with_reducible repeat (first | refine blk_drewN ?_ _ | refine blk_drew ?_ | refine blk_alloc ?_ _)); exact BK191.out⟩, ⟨by repeat (first | (with_reducible first | exact HB.out | apply below_alloc | apply pw_below_drewN | apply below_drew1 | refine below_set ?_ GE191.out) | exact HB.out)⟩⟩
  case round =>
    clear H'; try clear c2; try clear p2; try clear c4; try clear c5; try clear c5b0; try clear c5b1; try clear c6; try clear c6b0; try clear c6b1; try clear c6b2; try clear hcz10_0; try clear hcz10_1; try clear hcz8_0; try clear hcz8_1; try clear hfz10_0; try clear hfz10_1; try clear hfz8_0; try clear hfz8_1
    obtain ⟨x10_1, x31_1, rfl, HA, HK1, HO_10, BK191, HB⟩ := hrel
    cases gk with
    | zero => exact absurd HA.out (by simp [chain_Step.l0])
    | succ k1 =>
      have H := HA.out
      clear HA
      simp only [chain_Step.l0] at H
      by_cases c11 : x31_1 < (l2_1.length : Int)
      case neg =>
        rw [if_neg c11] at H
        have c11b0 : decide (x31_1 < (l2_1.length : Int)) = false := decide_eq_false c11
        clear c11
        replace H := Option.bind_eq_some_iff.mp H
        obtain ⟨t193, A450, H⟩ := H
        replace H : (if t193 = true then (some (x10_1, 0, 0)) else (some (([] : List Int), 0, 30))) = some (r1, r2, r3) := H
        have A45 := K0 A450; clear A450
        by_cases c46 : t193 = true
        case pos =>
          subst c46
          have H1 : (some (x10_1, 0, 0)) = some (r1, r2, r3) := by rw [if_pos rfl] at H; exact H
          clear H
          have H := H1
          clear H1
          as_aux_lemma =>
            simp only [Option.some.injEq, Prod.mk.injEq] at H
            obtain ⟨rfl, rfl, rfl⟩ := H
            have hcz47_0 : wr.cell? ⟨gb191, 0, none⟩ = some (.slice A2_0 l2_0.length c2_0) := (blk_cell BK191.out 0).trans rfl
            have hcz47_1 : wr.cell? ⟨gb191, 1, none⟩ = some (.slice A2_1 l2_1.length c2_1) := (blk_cell BK191.out 1).trans rfl
            have hfz47_0 := blk_frozen BK191.out 0; have hfz47_1 := blk_frozen BK191.out 1
            obtain ⟨Ao48, co48, eo48⟩ := Kd.R_slice HO_10.out
            subst eo48
            go_wp2_with (first | ((with_reducible refine gate_callee (f := 59) rfl ?_); refine goesL_ (some 101) rfl rfl Try.func59 (by kernel_rfl) rfl #[.slice Ao48 x10_1.length co48, .slice A2_0 l2_0.length c2_0] rfl (by (try simp only [List.map_toArray, List.map_cons, List.map_nil]); first | done | rfl | (simp only [List.length_drop, List.length_take]; rfl)) ?_; (with_reducible refine (lit_Within.calls k1 _ _ x10_1 _ _ l2_0 true _ ?side1 ?side2 ?side3 ?side4 A45.out).mono ?_); (case side1 => repeat (first | exact (Kd.R_reads' HO_10.out).2.2 | (with_reducible refine Kd.C_alloc ?_ _) | (with_reducible refine Kd.C_drewN ?_ _) | (with_reducible refine Kd.C_drew ?_))); (case side2 => exact (Kd.R_reads' HO_10.out).2.1); (case side3 => repeat (first | exact (Kd.C_below HR2_0.out HB.out) | (with_reducible refine Kd.C_alloc ?_ _) | (with_reducible refine Kd.C_drewN ?_ _) | (with_reducible refine Kd.C_drew ?_))); (case side4 => exact HC2_0.out); rintro e w' ⟨rfl, ⟨nd, rfl⟩⟩; refine ⟨_, rfl, ?_⟩))
            go_ret3
            exact ⟨_, by first | rfl | (simp [errW_none, errW_some] <;> rfl) | (simp [*, errW_none, errW_some] <;> rfl), by (with_reducible repeat (first | apply Kd.R_alloc | apply Kd.R_drewN | apply Kd.R_drew)); exact HO_10.out, by repeat (first | (with_reducible first | exact HB.out | apply below_alloc | apply pw_below_drewN | apply below_drew1 | refine below_set ?_ GE191.out) | exact HB.out)⟩
        replace c46 := Bool.eq_false_iff.mpr c46
        subst c46
        have H1 : (some (([] : List Int), 0, 30)) = some (r1, r2, r3) := by rw [if_neg (show ¬ (false = true) by decide)] at H; exact H
        clear H
        have H := H1
        clear H1
        as_aux_lemma =>
          simp only [Option.some.injEq, Prod.mk.injEq] at H
          obtain ⟨rfl, rfl, rfl⟩ := H
          have hcz49_0 : wr.cell? ⟨gb191, 0, none⟩ = some (.slice A2_0 l2_0.length c2_0) := (blk_cell BK191.out 0).trans rfl
          have hcz49_1 : wr.cell? ⟨gb191, 1, none⟩ = some (.slice A2_1 l2_1.length c2_1) := (blk_cell BK191.out 1).trans rfl
          have hfz49_0 := blk_frozen BK191.out 0; have hfz49_1 := blk_frozen BK191.out 1
          obtain ⟨Ao50, co50, eo50⟩ := Kd.R_slice HO_10.out
          subst eo50
          go_wp2_with (first | ((with_reducible refine gate_callee (f := 59) rfl ?_); refine goesL_ (some 101) rfl rfl Try.func59 (by kernel_rfl) rfl #[.slice Ao50 x10_1.length co50, .slice A2_0 l2_0.length c2_0] rfl (by (try simp only [List.map_toArray, List.map_cons, List.map_nil]); first | done | rfl | (simp only [List.length_drop, List.length_take]; rfl)) ?_; (with_reducible refine (lit_Within.calls k1 _ _ x10_1 _ _ l2_0 false _ ?side1 ?side2 ?side3 ?side4 A45.out).mono ?_); (case side1 => repeat (first | exact (Kd.R_reads' HO_10.out).2.2 | (with_reducible refine Kd.C_alloc ?_ _) | (with_reducible refine Kd.C_drewN ?_ _) | (with_reducible refine Kd.C_drew ?_))); (case side2 => exact (Kd.R_reads' HO_10.out).2.1); (case side3 => repeat (first | exact (Kd.C_below HR2_0.out HB.out) | (with_reducible refine Kd.C_alloc ?_ _) | (with_reducible refine Kd.C_drewN ?_ _) | (with_reducible refine Kd.C_drew ?_))); (case side4 => exact HC2_0.out); rintro e w' ⟨rfl, ⟨nd, rfl⟩⟩; refine ⟨_, rfl, ?_⟩))
          go_ret3
          exact ⟨_, by first | rfl | (simp [errW_none, errW_some] <;> rfl) | (simp [*, errW_none, errW_some] <;> rfl), by first | exact Kd.R_nil _ _ _ _ _ | exact Kd.N_nil _ _ _ _ _ | exact Kd.V_nil _ _ _ _ _ | exact Kd.Q_nil _ _ _ _ _ | exact Kd.S_nil _ _ _ _ _, by repeat (first | (with_reducible first | exact HB.out | apply below_alloc | apply pw_below_drewN | apply below_drew1 | refine below_set ?_ GE191.out) | exact HB.out)⟩
      rw [if_pos c11] at H
      have c11b0 : decide (x31_1 < (l2_1.length : Int)) = true := decide_eq_true c11
      clear c11
      by_cases c12 : 0 ≤ x31_1
      case neg =>
        rw [if_neg c12] at H
        exact absurd H (by simp)
      rw [if_pos c12] at H
      have c12b0 : decide (0 ≤ x31_1) = true := decide_eq_true c12
      clear c12
      by_cases c13 : x31_1 < (l2_1.length : Int)
      case neg =>
        rw [if_neg c13] at H
        exact absurd H (by simp)
      rw [if_pos c13] at H
      have c13b0 : decide (x31_1 < (l2_1.length : Int)) = true := decide_eq_true c13
      clear c13; have HC14 := K0 H; clear H
      have p194 : 0 ≤ (x31_1 : Int) := of_decide_eq_true (by first | (with_reducible assumption) | assumption)
      have q194 : x31_1 < (l2_1.length : Int) := of_decide_eq_true (by first | (with_reducible assumption) | assumption)
      obtain ⟨ad194, e194, hx194_0⟩ := Kd.at_int HR2_1.out x31_1 p194 q194
      cases e194
      replace hx194_0 := (HB.out.cell (World.block_lt_of_cell? w _ hx194_0)).trans hx194_0
      replace p194 := eq_true p194; replace q194 := eq_true q194
      go_upto_region 10 with (fail)
      go_cut [43] (fun v43 wc => ∃ (kq : Nat) (x43_13 : Bool), v43 = .bool x43_13 ∧ Aside0 (chain_Step.j1 kq l0 x10_1 x31_1 (rd l2_1 x31_1) l2_1 (l2_1.length : Int) x31_1 x43_13 l2_0 l2_1 = some (r1, r2, r3)) ∧ Aside0 (kq ≤ k1) ∧ Aside0 (Kd.R (Kd.int .i64) 3 wc w.heap.size (fun _ => True) u10 x10_1) ∧ Aside0 (wc.heap[gb191]? = some (.cells #[(.slice A2_0 l2_0.length c2_0), (.slice (some ad194) l2_1.length c2_1)] 48 (0, 0))) ∧ Aside0 (Below w.heap.size w wc))
      case first =>
        have H := HC14.out
        clear HC14
        by_cases c15 : (rd l2_1 x31_1) < 0
        case pos =>
          rw [if_pos c15] at H
          have c15b0 : decide ((rd l2_1 x31_1) < 0) = true := decide_eq_true c15
          clear c15
          (first | rw [c15b0] | (simp only [i64_w, i32_w]; rw [c15b0]) | skip)
          as_aux_lemma =>
            have H' := K0 H
            clear H
            go_wp2
            go_meet
            case rel => exact ⟨_, (true), (by first | rfl | (simp; done) | (simp [*]; done)), H', ⟨by have := HK1.out; first | omega | exact Nat.le_refl _⟩, ⟨by (with_reducible repeat (first | apply Kd.R_alloc | apply Kd.R_drewN | apply Kd.R_drew)); exact HO_10.out⟩, ⟨by (with_reducible repeat (first | refine blk_drewN ?_ _ | refine blk_drew ?_ | refine blk_alloc ?_ _)); exact BK191.out⟩, ⟨by repeat (first | (with_reducible first | exact HB.out | apply below_alloc | apply pw_below_drewN | apply below_drew1 | refine below_set ?_ GE191.out) | exact HB.out)⟩⟩
        rw [if_neg c15] at H
        have c15b0 : decide ((rd l2_1 x31_1) < 0) = false := decide_eq_false c15
        clear c15
        (first | rw [c15b0] | (simp only [i64_w, i32_w]; rw [c15b0]) | skip)
        as_aux_lemma =>
          have H' := K0 H
          clear H
          go_wp2
          go_meet
          case rel => exact ⟨_, (decide ((rd l2_1 x31_1) ≥ (l0.length : Int))), (by first | rfl | (simp; done) | (simp [*]; done)), H', ⟨by have := HK1.out; first | omega | exact Nat.le_refl _⟩, ⟨by (with_reducible repeat (first | apply Kd.R_alloc | apply Kd.R_drewN | apply Kd.R_drew)); exact HO_10.out⟩, ⟨by (with_reducible repeat (first | refine blk_drewN ?_ _ | refine blk_drew ?_ | refine blk_alloc ?_ _)); exact BK191.out⟩, ⟨by repeat (first | (with_reducible first | exact HB.out | apply below_alloc | apply pw_below_drewN | apply below_drew1 | refine below_set ?_ GE191.out) | exact HB.out)⟩⟩
      case rest =>
        clear HC14; try clear c1; try clear p1; try clear q1; try clear hx1; try clear c2; try clear p2; try clear c4; try clear c5; try clear c5b0; try clear c5b1; try clear c6; try clear c6b0; try clear c6b1; try clear c6b2; try clear c11; try clear c11b0; try clear c12; try clear c12b0; try clear c13; try clear c13b0; try clear c15; try clear c15b0; try clear hcz10_0; try clear hcz10_1; try clear hcz8_0; try clear hcz8_1; try clear hfz10_0; try clear hfz10_1; try clear hfz8_0; try clear hfz8_1; try clear hx194_0; try clear p194; try clear p2; try clear q194
        obtain ⟨kq, x43_13, rfl, HA, HJ13, HO_10, BK191, HB⟩ := hcut
        cases kq with
        | zero => exact absurd HA.out (by simp [chain_Step.j1])
        | succ kj13 =>
          have H := HA.out
          clear HA
          simp only [chain_Step.j1] at H
          by_cases c16 : x43_13 = true
          case pos =>
            subst c16
            have H1 : (some (([] : List Int), x31_1, 3)) = some (r1, r2, r3) := by rw [if_pos rfl] at H; exact H
            clear H
            have H := H1
            clear H1
            as_aux_lemma =>
              simp only [Option.some.injEq, Prod.mk.injEq] at H
              obtain ⟨rfl, rfl, rfl⟩ := H
              go_wp2
              go_ret3
              exact ⟨_, by first | rfl | (simp [errW_none, errW_some] <;> rfl) | (simp [*, errW_none, errW_some] <;> rfl), by first | exact Kd.R_nil _ _ _ _ _ | exact Kd.N_nil _ _ _ _ _ | exact Kd.V_nil _ _ _ _ _ | exact Kd.Q_nil _ _ _ _ _ | exact Kd.S_nil _ _ _ _ _, by repeat (first | (with_reducible first | exact HB.out | apply below_alloc | apply pw_below_drewN | apply below_drew1 | refine below_set ?_ GE191.out) | exact HB.out)⟩
          replace c16 := Bool.eq_false_iff.mpr c16
          subst c16
          have H1 : (if x31_1 = 0 then (if 0 ≤ (rd l2_1 x31_1) then (if (rd l2_1 x31_1) < (l0.length : Int) then ((lit_Clean.f (rd_L3 l0 (rd l2_1 x31_1))).bind fun bt196 => (chain_Step.l0 kj13 l0 bt196.1 l2_1 (l2_1.length : Int) (wrap64 (x31_1 + 1)) l2_0 l2_1)) else (none)) else (none)) else (if 0 ≤ (rd l2_1 x31_1) then (if (rd l2_1 x31_1) < (l0.length : Int) then ((lit_Pivot.f kj13 x10_1 (rd_L3 l0 (rd l2_1 x31_1))).bind fun bt201 => (if bt201.2 = true then ((lit_Has.f kj13 x10_1 bt201.1).bind fun t203 => (if t203 = true then ((lit_Has.f kj13 (rd_L3 l0 (rd l2_1 x31_1)) (wrap64 (-bt201.1))).bind fun t205 => (chain_Step.j2 kj13 l0 x10_1 x31_1 (rd l2_1 x31_1) bt201.1 l2_1 (l2_1.length : Int) x31_1 (!t205) l2_0 l2_1)) else (chain_Step.j2 kj13 l0 x10_1 x31_1 (rd l2_1 x31_1) bt201.1 l2_1 (l2_1.length : Int) x31_1 true l2_0 l2_1))) else (some (([] : List Int), x31_1, 30)))) else (none)) else (none))) = some (r1, r2, r3) := by rw [if_neg (show ¬ (false = true) by decide)] at H; exact H
          clear H
          have H := H1
          clear H1
          by_cases c17 : x31_1 = 0
          case pos =>
            rw [if_pos c17] at H
            have c17b0 : (x31_1 == 0) = true := beq_iff_eq.mpr c17
            have c17b1 : (x31_1 != 0) = false := bne_eq_false_iff_eq.mpr c17
            clear c17
            by_cases c18 : 0 ≤ (rd l2_1 x31_1)
            case neg =>
              rw [if_neg c18] at H
              exact absurd H (by simp)
            rw [if_pos c18] at H
            have c18b0 : decide (0 ≤ (rd l2_1 x31_1)) = true := decide_eq_true c18
            clear c18
            by_cases c19 : (rd l2_1 x31_1) < (l0.length : Int)
            case neg =>
              rw [if_neg c19] at H
              exact absurd H (by simp)
            rw [if_pos c19] at H
            have c19b0 : decide ((rd l2_1 x31_1) < (l0.length : Int)) = true := decide_eq_true c19
            clear c19
            replace H := Option.bind_eq_some_iff.mp H
            obtain ⟨⟨t196, t197⟩, A200, H⟩ := H
            replace H : (chain_Step.l0 kj13 l0 t196 l2_1 (l2_1.length : Int) (wrap64 (x31_1 + 1)) l2_0 l2_1) = some (r1, r2, r3) := H
            have A20 := K0 A200; clear A200
            as_aux_lemma =>
              have H' := K0 H
              clear H
              have p195 : 0 ≤ ((rd l2_1 x31_1) : Int) := of_decide_eq_true (by first | (with_reducible assumption) | assumption)
              have q195 : (rd l2_1 x31_1) < (l0.length : Int) := of_decide_eq_true (by first | (with_reducible assumption) | assumption)
              obtain ⟨ad195, A195_0, c195_0, e195, hx195_0, hl195_0, hi195_0⟩ := at_L3 HR0.out (rd l2_1 x31_1) p195 q195
              cases e195
              replace hx195_0 := (HB.out.cell (World.block_lt_of_cell? w _ hx195_0)).trans hx195_0
              have HR195_0 := K0 hi195_0; have HC195_0 := K0 hl195_0; clear hi195_0 hl195_0; replace p195 := eq_true p195; replace q195 := eq_true q195
              go_wp2_with (first | ((with_reducible refine gate_callee (f := 55) rfl ?_); refine goesL_ (some 52) rfl rfl Try.func55 (by kernel_rfl) rfl #[.slice A195_0 (rd_L3 l0 (rd l2_1 x31_1)).length c195_0] rfl (by (try simp only [List.map_toArray, List.map_cons, List.map_nil]); first | done | rfl | (simp only [List.length_drop, List.length_take]; rfl)) ?_; (with_reducible refine (lit_Clean.calls _ _ (rd_L3 l0 (rd l2_1 x31_1)) t196 t197 _ ?side1 ?side2 A20.out).mono ?_); (case side1 => repeat (first | exact (Kd.C_below HR195_0.out HB.out) | (with_reducible refine Kd.C_alloc ?_ _) | (with_reducible refine Kd.C_drewN ?_ _) | (with_reducible refine Kd.C_drew ?_))); (case side2 => exact HC195_0.out); rintro e w21 ⟨v198, rfl, ho0, hb⟩; refine ⟨_, rfl, ?_⟩; have n0_ := K0 (Kd.R_elder' (by (with_reducible repeat (first | apply Kd.R_alloc | apply Kd.R_drewN | apply Kd.R_drew)); exact HO_10.out) (Kd.R_base ho0) hb); have n1_ := K0 (Kd.R_lower (Kd.R_new' ho0 (Kd.R_lt (by (with_reducible repeat (first | apply Kd.R_alloc | apply Kd.R_drewN | apply Kd.R_drew)); exact HO_10.out))) (below_size (by repeat (first | (with_reducible first | exact HB.out | apply below_alloc | apply pw_below_drewN | apply below_drew1 | refine below_set ?_ GE191.out) | exact HB.out)))); have n2_ := K0 (blk_below (g := gb191) (o := .cells #[.slice A2_0 l2_0.length c2_0, .slice (some ad194) l2_1.length c2_1] 48 (0, 0)) (by (with_reducible repeat (first | refine blk_drewN ?_ _ | refine blk_drew ?_ | refine blk_alloc ?_ _)); exact BK191.out) hb); have n3_ := K0 (below_step (by repeat (first | (with_reducible first | exact HB.out | apply below_alloc | apply pw_below_drewN | apply below_drew1 | refine below_set ?_ GE191.out) | exact HB.out)) hb); clear HO_10; clear BK191; clear HB; have HO_10 := n0_; have HO199 := n1_; have BK191 := n2_; have HB := n3_; clear n0_ n1_ n2_ n3_; (try clear hb); (try clear hb2); (try clear hk); (try clear hi); (try clear ho0)))
              go_roundg kj13
              case measure => have := HK1.out; have := HJ13.out; omega
              case rel => exact ⟨(t196), (wrap64 (x31_1 + 1)), (by first | rfl | (simp; done) | (simp [*]; done)), H', ⟨by have := HK1.out; have := HJ13.out; omega⟩, ⟨by (with_reducible repeat (first | apply Kd.R_alloc | apply Kd.R_drewN | apply Kd.R_drew)); exact Kd.R_mono HO199.out (fun _ hk => trivial)⟩, ⟨by (with_reducible repeat (first | refine blk_drewN ?_ _ | refine blk_drew ?_ | refine blk_alloc ?_ _)); exact BK191.out⟩, ⟨by repeat (first | (with_reducible first | exact HB.out | apply below_alloc | apply pw_below_drewN | apply below_drew1 | refine below_set ?_ GE191.out) | exact HB.out)⟩⟩
          rw [if_neg c17] at H
          have c17b0 : (x31_1 == 0) = false := beq_eq_false_iff_ne.mpr c17
          have c17b1 : (x31_1 != 0) = true := bne_iff_ne.mpr c17
          by_cases c22 : 0 ≤ (rd l2_1 x31_1)
          case neg =>
            rw [if_neg c22] at H
            exact absurd H (by simp)
          rw [if_pos c22] at H
          have c22b0 : decide (0 ≤ (rd l2_1 x31_1)) = true := decide_eq_true c22
          clear c22
          by_cases c23 : (rd l2_1 x31_1) < (l0.length : Int)
          case neg =>
            rw [if_neg c23] at H
            exact absurd H (by simp)
          rw [if_pos c23] at H
          have c23b0 : decide ((rd l2_1 x31_1) < (l0.length : Int)) = true := decide_eq_true c23
          clear c23
          replace H := Option.bind_eq_some_iff.mp H
          obtain ⟨⟨t201, t202⟩, A240, H⟩ := H
          replace H : (if t202 = true then ((lit_Has.f kj13 x10_1 t201).bind fun t203 => (if t203 = true then ((lit_Has.f kj13 (rd_L3 l0 (rd l2_1 x31_1)) (wrap64 (-t201))).bind fun t205 => (chain_Step.j2 kj13 l0 x10_1 x31_1 (rd l2_1 x31_1) t201 l2_1 (l2_1.length : Int) x31_1 (!t205) l2_0 l2_1)) else (chain_Step.j2 kj13 l0 x10_1 x31_1 (rd l2_1 x31_1) t201 l2_1 (l2_1.length : Int) x31_1 true l2_0 l2_1))) else (some (([] : List Int), x31_1, 30))) = some (r1, r2, r3) := H
          have A24 := K0 A240; clear A240
          by_cases c25 : t202 = true
          case neg =>
            replace c25 := Bool.eq_false_iff.mpr c25
            subst c25
            have H1 : (some (([] : List Int), x31_1, 30)) = some (r1, r2, r3) := by rw [if_neg (show ¬ (false = true) by decide)] at H; exact H
            clear H
            have H := H1
            clear H1
            as_aux_lemma =>
              simp only [Option.some.injEq, Prod.mk.injEq] at H
              obtain ⟨rfl, rfl, rfl⟩ := H
              have p200 : 0 ≤ ((rd l2_1 x31_1) : Int) := of_decide_eq_true (by first | (with_reducible assumption) | assumption)
              have q200 : (rd l2_1 x31_1) < (l0.length : Int) := of_decide_eq_true (by first | (with_reducible assumption) | assumption)
              obtain ⟨ad200, A200_0, c200_0, e200, hx200_0, hl200_0, hi200_0⟩ := at_L3 HR0.out (rd l2_1 x31_1) p200 q200
              cases e200
              replace hx200_0 := (HB.out.cell (World.block_lt_of_cell? w _ hx200_0)).trans hx200_0
              have HR200_0 := K0 hi200_0; have HC200_0 := K0 hl200_0; clear hi200_0 hl200_0; replace p200 := eq_true p200; replace q200 := eq_true q200
              obtain ⟨Ao44, co44, eo44⟩ := Kd.R_slice HO_10.out
              subst eo44
              go_wp2_with (first | ((with_reducible refine gate_callee (f := 56) rfl ?_); refine goesL_ (some 61) rfl rfl Try.func56 (by kernel_rfl) rfl #[.slice Ao44 x10_1.length co44, .slice A200_0 (rd_L3 l0 (rd l2_1 x31_1)).length c200_0] rfl (by (try simp only [List.map_toArray, List.map_cons, List.map_nil]); first | done | rfl | (simp only [List.length_drop, List.length_take]; rfl)) ?_; (with_reducible refine (lit_Pivot.calls kj13 _ _ x10_1 _ _ (rd_L3 l0 (rd l2_1 x31_1)) t201 false _ ?side1 ?side2 ?side3 ?side4 A24.out).mono ?_); (case side1 => repeat (first | exact (Kd.R_reads' HO_10.out).2.2 | (with_reducible refine Kd.C_alloc ?_ _) | (with_reducible refine Kd.C_drewN ?_ _) | (with_reducible refine Kd.C_drew ?_))); (case side2 => exact (Kd.R_reads' HO_10.out).2.1); (case side3 => repeat (first | exact (Kd.C_below HR200_0.out HB.out) | (with_reducible refine Kd.C_alloc ?_ _) | (with_reducible refine Kd.C_drewN ?_ _) | (with_reducible refine Kd.C_drew ?_))); (case side4 => exact HC200_0.out); rintro e w' ⟨rfl, ⟨nd, rfl⟩⟩; refine ⟨_, rfl, ?_⟩))
              go_ret3
              exact ⟨_, by first | rfl | (simp [errW_none, errW_some] <;> rfl) | (simp [*, errW_none, errW_some] <;> rfl), by first | exact Kd.R_nil _ _ _ _ _ | exact Kd.N_nil _ _ _ _ _ | exact Kd.V_nil _ _ _ _ _ | exact Kd.Q_nil _ _ _ _ _ | exact Kd.S_nil _ _ _ _ _, by repeat (first | (with_reducible first | exact HB.out | apply below_alloc | apply pw_below_drewN | apply below_drew1 | refine below_set ?_ GE191.out) | exact HB.out)⟩
          subst c25
          have H1 : ((lit_Has.f kj13 x10_1 t201).bind fun t203 => (if t203 = true then ((lit_Has.f kj13 (rd_L3 l0 (rd l2_1 x31_1)) (wrap64 (-t201))).bind fun t205 => (chain_Step.j2 kj13 l0 x10_1 x31_1 (rd l2_1 x31_1) t201 l2_1 (l2_1.length : Int) x31_1 (!t205) l2_0 l2_1)) else (chain_Step.j2 kj13 l0 x10_1 x31_1 (rd l2_1 x31_1) t201 l2_1 (l2_1.length : Int) x31_1 true l2_0 l2_1))) = some (r1, r2, r3) := by rw [if_pos rfl] at H; exact H
          clear H
          have H := H1
          clear H1; have HC26 := K0 H; clear H
          have p200 : 0 ≤ ((rd l2_1 x31_1) : Int) := of_decide_eq_true (by first | (with_reducible assumption) | assumption)
          have q200 : (rd l2_1 x31_1) < (l0.length : Int) := of_decide_eq_true (by first | (with_reducible assumption) | assumption)
          obtain ⟨ad200, A200_0, c200_0, e200, hx200_0, hl200_0, hi200_0⟩ := at_L3 HR0.out (rd l2_1 x31_1) p200 q200
          cases e200
          replace hx200_0 := (HB.out.cell (World.block_lt_of_cell? w _ hx200_0)).trans hx200_0
          have HR200_0 := K0 hi200_0; have HC200_0 := K0 hl200_0; clear hi200_0 hl200_0; replace p200 := eq_true p200; replace q200 := eq_true q200
          obtain ⟨Ao27, co27, eo27⟩ := Kd.R_slice HO_10.out
          subst eo27
          go_upto_region 17 with (first | ((with_reducible refine gate_callee (f := 56) rfl ?_); refine goesL_ (some 61) rfl rfl Try.func56 (by kernel_rfl) rfl #[.slice Ao27 x10_1.length co27, .slice A200_0 (rd_L3 l0 (rd l2_1 x31_1)).length c200_0] rfl (by (try simp only [List.map_toArray, List.map_cons, List.map_nil]); first | done | rfl | (simp only [List.length_drop, List.length_take]; rfl)) ?_; (with_reducible refine (lit_Pivot.calls kj13 _ _ x10_1 _ _ (rd_L3 l0 (rd l2_1 x31_1)) t201 true _ ?side1 ?side2 ?side3 ?side4 A24.out).mono ?_); (case side1 => repeat (first | exact (Kd.R_reads' HO_10.out).2.2 | (with_reducible refine Kd.C_alloc ?_ _) | (with_reducible refine Kd.C_drewN ?_ _) | (with_reducible refine Kd.C_drew ?_))); (case side2 => exact (Kd.R_reads' HO_10.out).2.1); (case side3 => repeat (first | exact (Kd.C_below HR200_0.out HB.out) | (with_reducible refine Kd.C_alloc ?_ _) | (with_reducible refine Kd.C_drewN ?_ _) | (with_reducible refine Kd.C_drew ?_))); (case side4 => exact HC200_0.out); rintro e w' ⟨rfl, ⟨nd, rfl⟩⟩; refine ⟨_, rfl, ?_⟩))
          (try simp only [Act.put, List.setIfInBounds_toArray, List.set_cons_zero, List.set_cons_succ])
          go_cut [80] (fun v80 wc => ∃ (kq : Nat) (x80_25 : Bool), v80 = .bool x80_25 ∧ Aside0 (chain_Step.j2 kq l0 x10_1 x31_1 (rd l2_1 x31_1) t201 l2_1 (l2_1.length : Int) x31_1 x80_25 l2_0 l2_1 = some (r1, r2, r3)) ∧ Aside0 (kq ≤ kj13) ∧ Aside0 (Kd.R (Kd.int .i64) 3 wc w.heap.size (fun _ => True) (.slice Ao27 x10_1.length co27) x10_1) ∧ Aside0 (wc.heap[gb191]? = some (.cells #[(.slice A2_0 l2_0.length c2_0), (.slice (some ad194) l2_1.length c2_1)] 48 (0, 0))) ∧ Aside0 (Below w.heap.size w wc))
          case first =>
            have H := HC26.out
            clear HC26
            replace H := Option.bind_eq_some_iff.mp H
            obtain ⟨t203, A280, H⟩ := H
            replace H : (if t203 = true then ((lit_Has.f kj13 (rd_L3 l0 (rd l2_1 x31_1)) (wrap64 (-t201))).bind fun t205 => (chain_Step.j2 kj13 l0 x10_1 x31_1 (rd l2_1 x31_1) t201 l2_1 (l2_1.length : Int) x31_1 (!t205) l2_0 l2_1)) else (chain_Step.j2 kj13 l0 x10_1 x31_1 (rd l2_1 x31_1) t201 l2_1 (l2_1.length : Int) x31_1 true l2_0 l2_1)) = some (r1, r2, r3) := H
            have A28 := K0 A280; clear A280
            by_cases c29 : t203 = true
            case neg =>
              replace c29 := Bool.eq_false_iff.mpr c29
              subst c29
              have H1 : (chain_Step.j2 kj13 l0 x10_1 x31_1 (rd l2_1 x31_1) t201 l2_1 (l2_1.length : Int) x31_1 true l2_0 l2_1) = some (r1, r2, r3) := by rw [if_neg (show ¬ (false = true) by decide)] at H; exact H
              clear H
              have H := H1
              clear H1
              as_aux_lemma =>
                have H' := K0 H
                clear H
                go_wp2_with (first | ((with_reducible refine gate_callee (f := 57) rfl ?_); refine goesL_ (some 69) rfl rfl Try.func57 (by kernel_rfl) rfl #[.slice Ao27 x10_1.length co27, .int .i64 t201] rfl (by (try simp only [List.map_toArray, List.map_cons, List.map_nil]); first | done | rfl | (simp only [List.length_drop, List.length_take]; rfl)) ?_; (with_reducible refine (lit_Has.calls kj13 _ _ x10_1 t201 false _ ?side1 ?side2 A28.out).mono ?_); (case side1 => repeat (first | exact (Kd.R_reads' HO_10.out).2.2 | (with_reducible refine Kd.C_alloc ?_ _) | (with_reducible refine Kd.C_drewN ?_ _) | (with_reducible refine Kd.C_drew ?_))); (case side2 => exact (Kd.R_reads' HO_10.out).2.1); rintro e w' ⟨rfl, ⟨nd, rfl⟩⟩; refine ⟨_, rfl, ?_⟩))
                go_meet
                case rel => exact ⟨_, (true), (by first | rfl | (simp; done) | (simp [*]; done)), H', ⟨by have := HK1.out; have := HJ13.out; first | omega | exact Nat.le_refl _⟩, ⟨by (with_reducible repeat (first | apply Kd.R_alloc | apply Kd.R_drewN | apply Kd.R_drew)); exact HO_10.out⟩, ⟨by (with_reducible repeat (first | refine blk_drewN ?_ _ | refine blk_drew ?_ | refine blk_alloc ?_ _)); exact BK191.out⟩, ⟨by repeat (first | (with_reducible first | exact HB.out | apply below_alloc | apply pw_below_drewN | apply below_drew1 | refine below_set ?_ GE191.out) | exact HB.out)⟩⟩
            subst c29
            have H1 : ((lit_Has.f kj13 (rd_L3 l0 (rd l2_1 x31_1)) (wrap64 (-t201))).bind fun t205 => (chain_Step.j2 kj13 l0 x10_1 x31_1 (rd l2_1 x31_1) t201 l2_1 (l2_1.length : Int) x31_1 (!t205) l2_0 l2_1)) = some (r1, r2, r3) := by rw [if_pos rfl] at H; exact H
            clear H
            have H := H1
            clear H1
            replace H := Option.bind_eq_some_iff.mp H
            obtain ⟨t205, A300, H⟩ := H
            replace H : (chain_Step.j2 kj13 l0 x10_1 x31_1 (rd l2_1 x31_1) t201 l2_1 (l2_1.length : Int) x31_1 (!t205) l2_0 l2_1) = some (r1, r2, r3) := H
            have A30 := K0 A300; clear A300
            as_aux_lemma =>
              have H' := K0 H
              clear H
              go_wp2_with (first | ((with_reducible refine gate_callee (f := 57) rfl ?_); refine goesL_ (some 69) rfl rfl Try.func57 (by kernel_rfl) rfl #[.slice Ao27 x10_1.length co27, .int .i64 t201] rfl (by (try simp only [List.map_toArray, List.map_cons, List.map_nil]); first | done | rfl | (simp only [List.length_drop, List.length_take]; rfl)) ?_; (with_reducible refine (lit_Has.calls kj13 _ _ x10_1 t201 true _ ?side1 ?side2 A28.out).mono ?_); (case side1 => repeat (first | exact (Kd.R_reads' HO_10.out).2.2 | (with_reducible refine Kd.C_alloc ?_ _) | (with_reducible refine Kd.C_drewN ?_ _) | (with_reducible refine Kd.C_drew ?_))); (case side2 => exact (Kd.R_reads' HO_10.out).2.1); rintro e w' ⟨rfl, ⟨nd, rfl⟩⟩; refine ⟨_, rfl, ?_⟩; have p204 : 0 ≤ ((rd l2_1 x31_1) : Int) := of_decide_eq_true (by first | (with_reducible assumption) | assumption); have q204 : (rd l2_1 x31_1) < (l0.length : Int) := of_decide_eq_true (by first | (with_reducible assumption) | assumption); replace p204 := eq_true p204; replace q204 := eq_true q204) | (go_at_call 57; (with_reducible refine (lit_Has.calls kj13 _ _ (rd_L3 l0 (rd l2_1 x31_1)) (wrap64 (-t201)) t205 _ ?side1 ?side2 A30.out).mono ?_); (case side1 => repeat (first | exact (Kd.C_below HR200_0.out (by repeat (first | (with_reducible first | exact HB.out | apply below_alloc | apply pw_below_drewN | apply below_drew1 | refine below_set ?_ GE191.out) | exact HB.out))) | (with_reducible refine Kd.C_alloc ?_ _) | (with_reducible refine Kd.C_drewN ?_ _) | (with_reducible refine Kd.C_drew ?_))); (case side2 => exact HC200_0.out); rintro e w' ⟨rfl, ⟨nd, rfl⟩⟩))
              go_meet
              case rel => exact ⟨_, (!t205), (by first | rfl | (simp; done) | (simp [*]; done)), H', ⟨by have := HK1.out; have := HJ13.out; first | omega | exact Nat.le_refl _⟩, ⟨by (with_reducible repeat (first | apply Kd.R_alloc | apply Kd.R_drewN | apply Kd.R_drew)); exact HO_10.out⟩, ⟨by (with_reducible repeat (first | refine blk_drewN ?_ _ | refine blk_drew ?_ | refine blk_alloc ?_ _)); exact BK191.out⟩, ⟨by repeat (first | (with_reducible first | exact HB.out | apply below_alloc | apply pw_below_drewN | apply below_drew1 | refine below_set ?_ GE191.out) | exact HB.out)⟩⟩
          case rest =>
            clear HC26; try clear c1; try clear p1; try clear q1; try clear hx1; try clear c2; try clear p2; try clear q2; try clear hx2; try clear c4; try clear c5; try clear c5b0; try clear c5b1; try clear c6; try clear c6b0; try clear c6b1; try clear c6b2; try clear p6; try clear c11; try clear c11b0; try clear c12; try clear c12b0; try clear c13; try clear c13b0; try clear c15; try clear c15b0; try clear c16; try clear c17; try clear c17b0; try clear c17b1; try clear c18; try clear c18b0; try clear c19; try clear c19b0; try clear p19; try clear q19; try clear hx19; try clear c20; try clear p20; try clear q20; try clear hx20; try clear c22; try clear c22b0; try clear c23; try clear c23b0; try clear c25; try clear c29; try clear hcz10_0; try clear hcz10_1; try clear hcz8_0; try clear hcz8_1; try clear hfz10_0; try clear hfz10_1; try clear hfz8_0; try clear hfz8_1; try clear hx194_0; try clear hx195_0; try clear hx200_0; try clear hx204_0; try clear p1; try clear p194; try clear p195; try clear p2; try clear p200; try clear p204; try clear q1; try clear q194; try clear q195; try clear q200; try clear q204
            obtain ⟨kq, x80_25, rfl, HA, HJ25, HO_10, BK191, HB⟩ := hcut
            cases kq with
            | zero => exact absurd HA.out (by simp [chain_Step.j2])
            | succ kj25 =>
              have H := HA.out
              clear HA
              simp only [chain_Step.j2] at H
              by_cases c31 : x80_25 = true
              case pos =>
                subst c31
                have H1 : (if 0 ≤ (rd l2_1 x31_1) then (if (rd l2_1 x31_1) < (l0.length : Int) then ((lit_Resolve.f kj25 x10_1 (rd_L3 l0 (rd l2_1 x31_1)) (wrap64 (-t201))).bind fun bt207 => (if bt207.2 = 0 then (chain_Step.l0 kj25 l0 bt207.1 l2_1 (l2_1.length : Int) (wrap64 (x31_1 + 1)) l2_0 l2_1) else (some (([] : List Int), x31_1, 30)))) else (none)) else (none)) = some (r1, r2, r3) := by rw [if_pos rfl] at H; exact H
                clear H
                have H := H1
                clear H1
                by_cases c32 : 0 ≤ (rd l2_1 x31_1)
                case neg =>
                  rw [if_neg c32] at H
                  exact absurd H (by simp)
                rw [if_pos c32] at H
                have c32b0 : decide (0 ≤ (rd l2_1 x31_1)) = true := decide_eq_true c32
                clear c32
                by_cases c33 : (rd l2_1 x31_1) < (l0.length : Int)
                case neg =>
                  rw [if_neg c33] at H
                  exact absurd H (by simp)
                rw [if_pos c33] at H
                have c33b0 : decide ((rd l2_1 x31_1) < (l0.length : Int)) = true := decide_eq_true c33
                clear c33
                replace H := Option.bind_eq_some_iff.mp H
                obtain ⟨⟨t207, t208⟩, A340, H⟩ := H
                replace H : (if t208 = 0 then (chain_Step.l0 kj25 l0 t207 l2_1 (l2_1.length : Int) (wrap64 (x31_1 + 1)) l2_0 l2_1) else (some (([] : List Int), x31_1, 30))) = some (r1, r2, r3) := H
                have A34 := K0 A340; clear A340
                by_cases c35 : t208 = 0
                case neg =>
                  rw [if_neg c35] at H
                  have c35b0 : (t208 == 0) = false := beq_eq_false_iff_ne.mpr c35
                  have c35b1 : (t208 != 0) = true := bne_iff_ne.mpr c35
                  as_aux_lemma =>
                    simp only [Option.some.injEq, Prod.mk.injEq] at H
                    obtain ⟨rfl, rfl, rfl⟩ := H
                    have p206 : 0 ≤ ((rd l2_1 x31_1) : Int) := of_decide_eq_true (by first | (with_reducible assumption) | assumption)
                    have q206 : (rd l2_1 x31_1) < (l0.length : Int) := of_decide_eq_true (by first | (with_reducible assumption) | assumption)
                    obtain ⟨ad206, A206_0, c206_0, e206, hx206_0, hl206_0, hi206_0⟩ := at_L3 HR0.out (rd l2_1 x31_1) p206 q206
                    obtain rfl : ad200 = ad206 := (by injection e206)
                    replace hx206_0 := (HB.out.cell (World.block_lt_of_cell? w _ hx206_0)).trans hx206_0
                    have HR206_0 := K0 hi206_0; have HC206_0 := K0 hl206_0; clear hi206_0 hl206_0; replace p206 := eq_true p206; replace q206 := eq_true q206
                    go_wp2_with (first | ((with_reducible refine gate_callee (f := 58) rfl ?_); refine goesL_ (some 90) rfl rfl Try.func58 (by kernel_rfl) rfl #[.slice Ao27 x10_1.length co27, .slice A206_0 (rd_L3 l0 (rd l2_1 x31_1)).length c206_0, .int .i64 (wrap64 (-t201))] rfl (by (try simp only [List.map_toArray, List.map_cons, List.map_nil]); first | done | rfl | (simp only [List.length_drop, List.length_take]; rfl)) ?_; (with_reducible refine (lit_Resolve.calls kj25 _ _ x10_1 _ _ (rd_L3 l0 (rd l2_1 x31_1)) (wrap64 (-t201)) t207 t208 _ ?side1 ?side2 ?side3 ?side4 A34.out).mono ?_); (case side1 => repeat (first | exact (Kd.R_reads' HO_10.out).2.2 | (with_reducible refine Kd.C_alloc ?_ _) | (with_reducible refine Kd.C_drewN ?_ _) | (with_reducible refine Kd.C_drew ?_))); (case side2 => exact (Kd.R_reads' HO_10.out).2.1); (case side3 => repeat (first | exact (Kd.C_below HR206_0.out HB.out) | (with_reducible refine Kd.C_alloc ?_ _) | (with_reducible refine Kd.C_drewN ?_ _) | (with_reducible refine Kd.C_drew ?_))); (case side4 => exact HC206_0.out); rintro e w37 ⟨v209, rfl, ho0, hb⟩; refine ⟨_, rfl, ?_⟩; have n0_ := K0 (Kd.R_elder' (by (with_reducible repeat (first | apply Kd.R_alloc | apply Kd.R_drewN | apply Kd.R_drew)); exact HO_10.out) (Kd.R_base ho0) hb); have n1_ := K0 (Kd.R_lower (Kd.R_new' ho0 (Kd.R_lt (by (with_reducible repeat (first | apply Kd.R_alloc | apply Kd.R_drewN | apply Kd.R_drew)); exact HO_10.out))) (below_size (by repeat (first | (with_reducible first | exact HB.out | apply below_alloc | apply pw_below_drewN | apply below_drew1 | refine below_set ?_ GE191.out) | exact HB.out)))); have n2_ := K0 (blk_below (g := gb191) (o := .cells #[.slice A2_0 l2_0.length c2_0, .slice (some ad194) l2_1.length c2_1] 48 (0, 0)) (by (with_reducible repeat (first | refine blk_drewN ?_ _ | refine blk_drew ?_ | refine blk_alloc ?_ _)); exact BK191.out) hb); have n3_ := K0 (below_step (by repeat (first | (with_reducible first | exact HB.out | apply below_alloc | apply pw_below_drewN | apply below_drew1 | refine below_set ?_ GE191.out) | exact HB.out)) hb); clear HO_10; clear BK191; clear HB; have HO_10 := n0_; have HO210 := n1_; have BK191 := n2_; have HB := n3_; clear n0_ n1_ n2_ n3_; (try clear hb); (try clear hb2); (try clear hk); (try clear hi); (try clear ho0)))
                    go_ret3
                    exact ⟨_, by first | rfl | (simp [errW_none, errW_some] <;> rfl) | (simp [*, errW_none, errW_some] <;> rfl), by first | exact Kd.R_nil _ _ _ _ _ | exact Kd.N_nil _ _ _ _ _ | exact Kd.V_nil _ _ _ _ _ | exact Kd.Q_nil _ _ _ _ _ | exact Kd.S_nil _ _ _ _ _, by repeat (first | (with_reducible first | exact HB.out | apply below_alloc | apply pw_below_drewN | apply below_drew1 | refine below_set ?_ GE191.out) | exact HB.out)⟩
                rw [if_pos c35] at H
                have c35b0 : (t208 == 0) = true := beq_iff_eq.mpr c35
                have c35b1 : (t208 != 0) = false := bne_eq_false_iff_eq.mpr c35
                clear c35
                as_aux_lemma =>
                  have H' := K0 H
                  clear H
                  have p206 : 0 ≤ ((rd l2_1 x31_1) : Int) := of_decide_eq_true (by first | (with_reducible assumption) | assumption)
                  have q206 : (rd l2_1 x31_1) < (l0.length : Int) := of_decide_eq_true (by first | (with_reducible assumption) | assumption)
                  obtain ⟨ad206, A206_0, c206_0, e206, hx206_0, hl206_0, hi206_0⟩ := at_L3 HR0.out (rd l2_1 x31_1) p206 q206
                  obtain rfl : ad200 = ad206 := (by injection e206)
                  replace hx206_0 := (HB.out.cell (World.block_lt_of_cell? w _ hx206_0)).trans hx206_0
                  have HR206_0 := K0 hi206_0; have HC206_0 := K0 hl206_0; clear hi206_0 hl206_0; replace p206 := eq_true p206; replace q206 := eq_true q206
                  go_wp2_with (first | ((with_reducible refine gate_callee (f := 58) rfl ?_); refine goesL_ (some 90) rfl rfl Try.func58 (by kernel_rfl) rfl #[.slice Ao27 x10_1.length co27, .slice A206_0 (rd_L3 l0 (rd l2_1 x31_1)).length c206_0, .int .i64 (wrap64 (-t201))] rfl (by (try simp only [List.map_toArray, List.map_cons, List.map_nil]); first | done | rfl | (simp only [List.length_drop, List.length_take]; rfl)) ?_; (with_reducible refine (lit_Resolve.calls kj25 _ _ x10_1 _ _ (rd_L3 l0 (rd l2_1 x31_1)) (wrap64 (-t201)) t207 t208 _ ?side1 ?side2 ?side3 ?side4 A34.out).mono ?_); (case side1 => repeat (first | exact (Kd.R_reads' HO_10.out).2.2 | (with_reducible refine Kd.C_alloc ?_ _) | (with_reducible refine Kd.C_drewN ?_ _) | (with_reducible refine Kd.C_drew ?_))); (case side2 => exact (Kd.R_reads' HO_10.out).2.1); (case side3 => repeat (first | exact (Kd.C_below HR206_0.out HB.out) | (with_reducible refine Kd.C_alloc ?_ _) | (with_reducible refine Kd.C_drewN ?_ _) | (with_reducible refine Kd.C_drew ?_))); (case side4 => exact HC206_0.out); rintro e w36 ⟨v209, rfl, ho0, hb⟩; refine ⟨_, rfl, ?_⟩; have n0_ := K0 (Kd.R_elder' (by (with_reducible repeat (first | apply Kd.R_alloc | apply Kd.R_drewN | apply Kd.R_drew)); exact HO_10.out) (Kd.R_base ho0) hb); have n1_ := K0 (Kd.R_lower (Kd.R_new' ho0 (Kd.R_lt (by (with_reducible repeat (first | apply Kd.R_alloc | apply Kd.R_drewN | apply Kd.R_drew)); exact HO_10.out))) (below_size (by repeat (first | (with_reducible first | exact HB.out | apply below_alloc | apply pw_below_drewN | apply below_drew1 | refine below_set ?_ GE191.out) | exact HB.out)))); have n2_ := K0 (blk_below (g := gb191) (o := .cells #[.slice A2_0 l2_0.length c2_0, .slice (some ad194) l2_1.length c2_1] 48 (0, 0)) (by (with_reducible repeat (first | refine blk_drewN ?_ _ | refine blk_drew ?_ | refine blk_alloc ?_ _)); exact BK191.out) hb); have n3_ := K0 (below_step (by repeat (first | (with_reducible first | exact HB.out | apply below_alloc | apply pw_below_drewN | apply below_drew1 | refine below_set ?_ GE191.out) | exact HB.out)) hb); clear HO_10; clear BK191; clear HB; have HO_10 := n0_; have HO210 := n1_; have BK191 := n2_; have HB := n3_; clear n0_ n1_ n2_ n3_; (try clear hb); (try clear hb2); (try clear hk); (try clear hi); (try clear ho0)))
                  go_roundg kj25
                  case measure => have := HK1.out; have := HJ13.out; have := HJ25.out; omega
                  case rel => exact ⟨(t207), (wrap64 (x31_1 + 1)), (by first | rfl | (simp; done) | (simp [*]; done)), H', ⟨by have := HK1.out; have := HJ13.out; have := HJ25.out; omega⟩, ⟨by (with_reducible repeat (first | apply Kd.R_alloc | apply Kd.R_drewN | apply Kd.R_drew)); exact Kd.R_mono HO210.out (fun _ hk => trivial)⟩, ⟨by (with_reducible repeat (first | refine blk_drewN ?_ _ | refine blk_drew ?_ | refine blk_alloc ?_ _)); exact BK191.out⟩, ⟨by repeat (first | (with_reducible first | exact HB.out | apply below_alloc | apply pw_below_drewN | apply below_drew1 | refine below_set ?_ GE191.out) | exact HB.out)⟩⟩
              replace c31 := Bool.eq_false_iff.mpr c31
              subst c31
              have H1 : (if 0 ≤ (rd l2_1 x31_1) then (if (rd l2_1 x31_1) < (l0.length : Int) then ((lit_Resolve.f kj25 x10_1 (rd_L3 l0 (rd l2_1 x31_1)) t201).bind fun bt212 => (if bt212.2 = 0 then (chain_Step.l0 kj25 l0 bt212.1 l2_1 (l2_1.length : Int) (wrap64 (x31_1 + 1)) l2_0 l2_1) else (some (([] : List Int), x31_1, 30)))) else (none)) else (none)) = some (r1, r2, r3) := by rw [if_neg (show ¬ (false = true) by decide)] at H; exact H
              clear H
              have H := H1
              clear H1
              by_cases c38 : 0 ≤ (rd l2_1 x31_1)
              case neg =>
                rw [if_neg c38] at H
                exact absurd H (by simp)
              rw [if_pos c38] at H
              have c38b0 : decide (0 ≤ (rd l2_1 x31_1)) = true := decide_eq_true c38
              clear c38
              by_cases c39 : (rd l2_1 x31_1) < (l0.length : Int)
              case neg =>
                rw [if_neg c39] at H
                exact absurd H (by simp)
              rw [if_pos c39] at H
              have c39b0 : decide ((rd l2_1 x31_1) < (l0.length : Int)) = true := decide_eq_true c39
              clear c39
              replace H := Option.bind_eq_some_iff.mp H
              obtain ⟨⟨t212, t213⟩, A400, H⟩ := H
              replace H : (if t213 = 0 then (chain_Step.l0 kj25 l0 t212 l2_1 (l2_1.length : Int) (wrap64 (x31_1 + 1)) l2_0 l2_1) else (some (([] : List Int), x31_1, 30))) = some (r1, r2, r3) := H
              have A40 := K0 A400; clear A400
              by_cases c41 : t213 = 0
              case neg =>
                rw [if_neg c41] at H
                have c41b0 : (t213 == 0) = false := beq_eq_false_iff_ne.mpr c41
                have c41b1 : (t213 != 0) = true := bne_iff_ne.mpr c41
                as_aux_lemma =>
                  simp only [Option.some.injEq, Prod.mk.injEq] at H
                  obtain ⟨rfl, rfl, rfl⟩ := H
                  have p211 : 0 ≤ ((rd l2_1 x31_1) : Int) := of_decide_eq_true (by first | (with_reducible assumption) | assumption)
                  have q211 : (rd l2_1 x31_1) < (l0.length : Int) := of_decide_eq_true (by first | (with_reducible assumption) | assumption)
                  obtain ⟨ad211, A211_0, c211_0, e211, hx211_0, hl211_0, hi211_0⟩ := at_L3 HR0.out (rd l2_1 x31_1) p211 q211
                  obtain rfl : ad200 = ad211 := (by injection e211)
                  replace hx211_0 := (HB.out.cell (World.block_lt_of_cell? w _ hx211_0)).trans hx211_0
                  have HR211_0 := K0 hi211_0; have HC211_0 := K0 hl211_0; clear hi211_0 hl211_0; replace p211 := eq_true p211; replace q211 := eq_true q211
                  go_wp2_with (first | ((with_reducible refine gate_callee (f := 58) rfl ?_); refine goesL_ (some 90) rfl rfl Try.func58 (by kernel_rfl) rfl #[.slice Ao27 x10_1.length co27, .slice A211_0 (rd_L3 l0 (rd l2_1 x31_1)).length c211_0, .int .i64 t201] rfl (by (try simp only [List.map_toArray, List.map_cons, List.map_nil]); first | done | rfl | (simp only [List.length_drop, List.length_take]; rfl)) ?_; (with_reducible refine (lit_Resolve.calls kj25 _ _ x10_1 _ _ (rd_L3 l0 (rd l2_1 x31_1)) t201 t212 t213 _ ?side1 ?side2 ?side3 ?side4 A40.out).mono ?_); (case side1 => repeat (first | exact (Kd.R_reads' HO_10.out).2.2 | (with_reducible refine Kd.C_alloc ?_ _) | (with_reducible refine Kd.C_drewN ?_ _) | (with_reducible refine Kd.C_drew ?_))); (case side2 => exact (Kd.R_reads' HO_10.out).2.1); (case side3 => repeat (first | exact (Kd.C_below HR211_0.out HB.out) | (with_reducible refine Kd.C_alloc ?_ _) | (with_reducible refine Kd.C_drewN ?_ _) | (with_reducible refine Kd.C_drew ?_))); (case side4 => exact HC211_0.out); rintro e w43 ⟨v214, rfl, ho0, hb⟩; refine ⟨_, rfl, ?_⟩; have n0_ := K0 (Kd.R_elder' (by (with_reducible repeat (first | apply Kd.R_alloc | apply Kd.R_drewN | apply Kd.R_drew)); exact HO_10.out) (Kd.R_base ho0) hb); have n1_ := K0 (Kd.R_lower (Kd.R_new' ho0 (Kd.R_lt (by (with_reducible repeat (first | apply Kd.R_alloc | apply Kd.R_drewN | apply Kd.R_drew)); exact HO_10.out))) (below_size (by repeat (first | (with_reducible first | exact HB.out | apply below_alloc | apply pw_below_drewN | apply below_drew1 | refine below_set ?_ GE191.out) | exact HB.out)))); have n2_ := K0 (blk_below (g := gb191) (o := .cells #[.slice A2_0 l2_0.length c2_0, .slice (some ad194) l2_1.length c2_1] 48 (0, 0)) (by (with_reducible repeat (first | refine blk_drewN ?_ _ | refine blk_drew ?_ | refine blk_alloc ?_ _)); exact BK191.out) hb); have n3_ := K0 (below_step (by repeat (first | (with_reducible first | exact HB.out | apply below_alloc | apply pw_below_drewN | apply below_drew1 | refine below_set ?_ GE191.out) | exact HB.out)) hb); clear HO_10; clear BK191; clear HB; have HO_10 := n0_; have HO215 := n1_; have BK191 := n2_; have HB := n3_; clear n0_ n1_ n2_ n3_; (try clear hb); (try clear hb2); (try clear hk); (try clear hi); (try clear ho0)))
                  go_ret3
                  exact ⟨_, by first | rfl | (simp [errW_none, errW_some] <;> rfl) | (simp [*, errW_none, errW_some] <;> rfl), by first | exact Kd.R_nil _ _ _ _ _ | exact Kd.N_nil _ _ _ _ _ | exact Kd.V_nil _ _ _ _ _ | exact Kd.Q_nil _ _ _ _ _ | exact Kd.S_nil _ _ _ _ _, by repeat (first | (with_reducible first | exact HB.out | apply below_alloc | apply pw_below_drewN | apply below_drew1 | refine below_set ?_ GE191.out) | exact HB.out)⟩
              rw [if_pos c41] at H
              have c41b0 : (t213 == 0) = true := beq_iff_eq.mpr c41
              have c41b1 : (t213 != 0) = false := bne_eq_false_iff_eq.mpr c41
              clear c41
              as_aux_lemma =>
                have H' := K0 H
                clear H
                have p211 : 0 ≤ ((rd l2_1 x31_1) : Int) := of_decide_eq_true (by first | (with_reducible assumption) | assumption)
                have q211 : (rd l2_1 x31_1) < (l0.length : Int) := of_decide_eq_true (by first | (with_reducible assumption) | assumption)
                obtain ⟨ad211, A211_0, c211_0, e211, hx211_0, hl211_0, hi211_0⟩ := at_L3 HR0.out (rd l2_1 x31_1) p211 q211
                obtain rfl : ad200 = ad211 := (by injection e211)
                replace hx211_0 := (HB.out.cell (World.block_lt_of_cell? w _ hx211_0)).trans hx211_0
                have HR211_0 := K0 hi211_0; have HC211_0 := K0 hl211_0; clear hi211_0 hl211_0; replace p211 := eq_true p211; replace q211 := eq_true q211
                go_wp2_with (first | ((with_reducible refine gate_callee (f := 58) rfl ?_); refine goesL_ (some 90) rfl rfl Try.func58 (by kernel_rfl) rfl #[.slice Ao27 x10_1.length co27, .slice A211_0 (rd_L3 l0 (rd l2_1 x31_1)).length c211_0, .int .i64 t201] rfl (by (try simp only [List.map_toArray, List.map_cons, List.map_nil]); first | done | rfl | (simp only [List.length_drop, List.length_take]; rfl)) ?_; (with_reducible refine (lit_Resolve.calls kj25 _ _ x10_1 _ _ (rd_L3 l0 (rd l2_1 x31_1)) t201 t212 t213 _ ?side1 ?side2 ?side3 ?side4 A40.out).mono ?_); (case side1 => repeat (first | exact (Kd.R_reads' HO_10.out).2.2 | (with_reducible refine Kd.C_alloc ?_ _) | (with_reducible refine Kd.C_drewN ?_ _) | (with_reducible refine Kd.C_drew ?_))); (case side2 => exact (Kd.R_reads' HO_10.out).2.1); (case side3 => repeat (first | exact (Kd.C_below HR211_0.out HB.out) | (with_reducible refine Kd.C_alloc ?_ _) | (with_reducible refine Kd.C_drewN ?_ _) | (with_reducible refine Kd.C_drew ?_))); (case side4 => exact HC211_0.out); rintro e w42 ⟨v214, rfl, ho0, hb⟩; refine ⟨_, rfl, ?_⟩; have n0_ := K0 (Kd.R_elder' (by (with_reducible repeat (first | apply Kd.R_alloc | apply Kd.R_drewN | apply Kd.R_drew)); exact HO_10.out) (Kd.R_base ho0) hb); have n1_ := K0 (Kd.R_lower (Kd.R_new' ho0 (Kd.R_lt (by (with_reducible repeat (first | apply Kd.R_alloc | apply Kd.R_drewN | apply Kd.R_drew)); exact HO_10.out))) (below_size (by repeat (first | (with_reducible first | exact HB.out | apply below_alloc | apply pw_below_drewN | apply below_drew1 | refine below_set ?_ GE191.out) | exact HB.out)))); have n2_ := K0 (blk_below (g := gb191) (o := .cells #[.slice A2_0 l2_0.length c2_0, .slice (some ad194) l2_1.length c2_1] 48 (0, 0)) (by (with_reducible repeat (first | refine blk_drewN ?_ _ | refine blk_drew ?_ | refine blk_alloc ?_ _)); exact BK191.out) hb); have n3_ := K0 (below_step (by repeat (first | (with_reducible first | exact HB.out | apply below_alloc | apply pw_below_drewN | apply below_drew1 | refine below_set ?_ GE191.out) | exact HB.out)) hb); clear HO_10; clear BK191; clear HB; have HO_10 := n0_; have HO215 := n1_; have BK191 := n2_; have HB := n3_; clear n0_ n1_ n2_ n3_; (try clear hb); (try clear hb2); (try clear hk); (try clear hi); (try clear ho0)))
                go_roundg kj25
                case measure => have := HK1.out; have := HJ13.out; have := HJ25.out; omega
                case rel => exact ⟨(t212), (wrap64 (x31_1 + 1)), (by first | rfl | (simp; done) | (simp [*]; done)), H', ⟨by have := HK1.out; have := HJ13.out; have := HJ25.out; omega⟩, ⟨by (with_reducible repeat (first | apply Kd.R_alloc | apply Kd.R_drewN | apply Kd.R_drew)); exact Kd.R_mono HO215.out (fun _ hk => trivial)⟩, ⟨by (with_reducible repeat (first | refine blk_drewN ?_ _ | refine blk_drew ?_ | refine blk_alloc ?_ _)); exact BK191.out⟩, ⟨by repeat (first | (with_reducible first | exact HB.out | apply below_alloc | apply pw_below_drewN | apply below_drew1 | refine below_set ?_ GE191.out) | exact HB.out)⟩⟩
theorem H_append_full {P : Program} {ops : Array Oper} {rest : List Oper} {o : Oper} {a : Act} {Q : Exit → Act → World → Prop} {w0 W : World} (base : Nat) (hgd : o.guard = none) (s x : Operand) (t e : TypeId)
    (ho : o.op = .call { callee := .builtin .append, args := #[s, x], argTypes := #[t, t] }) (ht : P.underlying t = some (.slice e)) (hinfo : (P.info? e).map (fun i => (i.zero, i.size, i.bytes)) = some (some (.slice none 0 0), 1, 24))
    (A : Option Addr) (n : Nat) (hs : List Hd) (p : Hd) (ok : Nat → Prop) (hsv : a.eval s = .slice A n n) (hx : a.eval x = .slice (some ⟨W.heap.size, 0, none⟩) 1 1) (hfresh : ∀ k, W.heap.size ≤ k → ok k)
    (HC : Kd.C kH W A n hs) (HB : Below base w0 W) (hbase : base ≤ W.heap.size) (hl : (n + 1) * 24 ≤ 140737488355328)
    (h : ∀ v1 w1, Kd.R kH e w1 base ok v1 (hs ++ [p]) → Below base w0 w1 → W.grownBy w1 none → wpList P ops Q rest (a.put o.dst v1) w1) :
    wpList P ops Q (o :: rest) a (W.alloc (.cells #[hdv p] e)) := by
  obtain ⟨i0, hi, hzz⟩ := Option.map_eq_some_iff.1 hinfo
  simp only [Prod.mk.injEq] at hzz
  obtain ⟨hz0, hz1, hz2⟩ := hzz
  have hn : hs.length = n := HC.1
  have hw : Below W.heap.size W (W.alloc (.cells #[hdv p] e)) := below_alloc (Below.refl _ _) _
  have HC2 := Kd.C_below HC hw
  refine wpList_append_grows (W.alloc (.cells #[hdv p] e)) hgd s x t ho e i0 (.slice none 0 0) 1 24 ht hi hz0 hz1 hz2 rfl (by decide) A n n (encs hdv hs) hsv (fun hA => ?_) (by simp [encs, hn]) (fun b hb j u hj => ?_) ⟨W.heap.size, 0, none⟩ 1 1 [hdv p] hx rfl
    (by simpa using World.news_of_block (cs := #[hdv p]) (t := e) (fr := (0, 0)) (heap_alloc_new W (.cells #[hdv p] e))) (fun u hu => by rw [List.mem_singleton.1 hu]; rfl) (by omega) (by simp only [maxLen]; omega) hl ?_
  · rcases Nat.eq_zero_or_pos n with h0 | h0
    · exact ⟨h0, h0⟩
    obtain ⟨ad, e1, _⟩ := HC.2.2 h0
    rw [hA] at e1; cases e1
  · have hjl : j < n := by have := (List.getElem?_eq_some_iff.1 hj).1; simp [encs] at this; omega
    obtain ⟨ad, c, e1, hc1, hK, hcell⟩ := Kd.C_get HC2 ((none, 0, 0) : Hd) (j : Int) (by omega) (by omega)
    rw [hb] at e1
    cases e1
    have hx : hs[j]? = some (hs.getD j (none, 0, 0)) := by simp [show j < hs.length by omega]
    have hu : u = hdv (hs.getD j (none, 0, 0)) := by
      unfold encs at hj
      rw [List.getElem?_map, hx] at hj
      simpa using hj.symm
    have hK2 : c = [hdv (hs.getD ((j : Int).toNat) (none, 0, 0))] := hK
    have := hcell 0 u (by rw [hK2, Int.toNat_natCast, hu]; rfl)
    have e2 : ((j : Int).toNat * Kd.sz kH + 0) = j := by rw [Int.toNat_natCast]; show j * 1 + 0 = j; omega
    rw [e2] at this
    exact this
  intro v1 w1 hown hg
  refine h v1 w1 ?_ ((HB.alloc hbase _).grown hg (by simp; omega) (fun k hk => by cases hk)) (World.grownBy.trans (World.grownBy_alloc W _ _) hg)
  have e1 : encs hdv (hs ++ [p]) = encs hdv hs ++ [hdv p] := by simp [encs]
  have hown2 := own_weaken hown (show base ≤ (W.alloc (.cells #[hdv p] e)).heap.size by simp; omega)
  refine Kd.R_of_own (by rw [e1, List.length_append, List.length_singleton, hn]; exact hown2) (fun k hk => hfresh k ?_)
  have := own_base hown k hk
  simp at this; omega
def chain_Check.l1 (k : Nat) (n : Int) : List S48 → Int → List (List Int) → Option (Int × Int)
  | [], _, _ => some (0, 0)
  | x :: t, i, all => (chain_Step.f k all n x.f0 x.f1).bind fun s => if s.2.2 = 0 then (if all.length + 1 < 5864062014805 then chain_Check.l1 k n t (i + 1) (all ++ [x.f0]) else none) else some (i, s.2.2)
def chain_Check.f (k : Nat) (a0_0 : Int) (l0_1 : List (List Int)) (l1 : List S48) : Option (Int × Int) :=
  (cnf_Right.f k a0_0 l0_1).bind fun b => if b.2 = 0 then (if (l1.length : Int) > 4096 then some (-1, 2) else chain_Check.l1 k a0_0 l1 0 l0_1) else some (-1, b.2)
def ChainSt (w : World) (N : Nat) (wr : World) (v : Value) (hs : List Hd) : Prop :=
  (∃ A, v = .slice A N N ∧ Kd.C kH w A N hs) ∨ Kd.R kH 29 wr w.heap.size (fun _ => True) v hs
theorem ChainSt.below {w : World} {N : Nat} {W W' : World} {v : Value} {hs : List Hd} (h : ChainSt w N W v hs) (hb : Below W.heap.size W W') : ChainSt w N W' v hs :=
  h.imp id (fun h => Kd.R_below h hb)
theorem ChainSt.reads {w : World} {N : Nat} {W : World} {v : Value} {hs : List Hd} (h : ChainSt w N W v hs) (hB : Below w.heap.size w W) : ∃ A c, v = .slice A hs.length c ∧ hs.length ≤ c ∧ Kd.C kH W A hs.length hs := by
  rcases h with ⟨A, rfl, hC⟩ | hR
  · have := hC.1
    rw [this]
    exact ⟨A, N, rfl, Nat.le_refl _, Kd.C_below hC hB⟩
  obtain ⟨A, c, rfl⟩ := Kd.R_slice hR
  obtain ⟨_, h2, h3⟩ := Kd.R_reads' hR
  exact ⟨A, c, rfl, h2, h3⟩
set_option maxRecDepth 100000 in
set_option maxHeartbeats 4000000 in
theorem chain_Check.calls (k : Nat) (a0_0 : Int) (A0_1 : Option Addr) (c0_1 : Nat) (l0_1 : List (List Int)) (A1 : Option Addr) (c1 : Nat) (l1 : List S48) (r1 r2 : Int) (w : World)
    (hr0_1 : Kd.C (Kd.slice 3 (Kd.int .i64)) w A0_1 l0_1.length l0_1) (hc0_1 : l0_1.length ≤ c0_1) (hr1 : Kd.C k48 w A1 l1.length l1) (hc1 : l1.length ≤ c1) (h : chain_Check.f k a0_0 l0_1 l1 = some (r1, r2)) :
    Calls Try.prog 27 #[.agg #[.int .i64 a0_0, .slice A0_1 l0_1.length c0_1], .slice A1 l1.length c1] w fun e w' => e = .returned (.tuple #[.int .i64 r1, .int .i64 r2]) ∧ Below w.heap.size w w' := by
  unfold chain_Check.f at h
  obtain ⟨⟨b1, b2⟩, hb, h⟩ := Option.bind_eq_some_iff.mp h
  dsimp only at h
  have hbig := hr1.2.1
  have huC := Try.underlying24
  have huL := Try.underlying48
  obtain ⟨WA, hWA⟩ : ∃ WA : World, w.alloc (.cells #[.int .i64 a0_0, .slice A0_1 l0_1.length c0_1] 24) = WA := ⟨_, rfl⟩
  obtain ⟨Z, hZ⟩ : ∃ Z : World → Prop, Z = fun W => W.heap[w.heap.size]? = some (.cells #[.int .i64 a0_0, .slice A0_1 l0_1.length c0_1] 24 (0, 0)) ∧ Below w.heap.size w W ∧ w.heap.size < W.heap.size := ⟨_, rfl⟩
  have hZA : Z WA := by
    rw [hZ, ← hWA]
    exact ⟨blk_new w _, below_alloc (Below.refl _ w) _, by simp⟩
  have hzB : ∀ {W : World}, Z W → Below w.heap.size w W := fun h => by rw [hZ] at h; exact h.2.1
  have hzS : ∀ {W : World}, Z W → w.heap.size < W.heap.size := fun h => by rw [hZ] at h; exact h.2.2
  have hzb : ∀ {W W' : World}, Z W → Below W.heap.size W W' → Z W' := fun h hb => by
    rw [hZ] at h ⊢
    exact ⟨blk_below h.1 hb, h.2.1.trans (hb.mono h.2.1.size), Nat.lt_of_lt_of_le h.2.2 hb.size⟩
  have hzc : ∀ {W : World}, Z W → W.cell? ⟨w.heap.size, 0, none⟩ = some (.int .i64 a0_0) ∧ W.cell? ⟨w.heap.size, 1, none⟩ = some (.slice A0_1 l0_1.length c0_1) := fun h => by
    rw [hZ] at h
    exact ⟨blk_cell h.1 0, blk_cell h.1 1⟩
  obtain ⟨hs, hhs, hC⟩ := HdsOf.part hr0_1
  have HHS := K0 hhs; have HCH := K0 hC; have HL := K0 hr1
  have HR := K0 (cnf_Right.calls k a0_0 A0_1 c0_1 l0_1 b1 b2 WA (Kd.C_below hr0_1 (hzB hZA)) hc0_1 hb)
  have H := K0 h; have HZA := K0 hZA; have HZd := K0 hZ
  have hbig0 := hr0_1.2.1
  obtain ⟨p0, p1⟩ := hzc hZA
  clear hr0_1 hr1 hb h hZ hZA hhs hC
  go_enter Try.func27, Try.ntmps27
  go_wp2_with fail
  refine HR.out.mono ?_
  rintro e' w1 ⟨rfl, hb1⟩
  have HZ1 := K0 (hzb HZA.out hb1)
  clear hWA p0 p1 hb1 HR HZA
  obtain ⟨p0, p1⟩ := hzc HZ1.out
  by_cases e0 : b2 = 0
  case neg =>
    have h := H.out
    rw [if_neg e0] at h
    simp only [Option.some.injEq, Prod.mk.injEq] at h
    obtain ⟨rfl, rfl⟩ := h
    have c1' : (b2 != 0) = true := by simpa using e0
    have c2' : (b2 == 0) = false := by simpa using e0
    clear e0
    go_wp2
    go_ret2
    exact ⟨rfl, hzB HZ1.out⟩
  subst e0
  have h := H.out
  rw [if_pos rfl] at h
  clear H
  by_cases e1 : (l1.length : Int) > 4096
  case pos =>
    rw [if_pos e1] at h
    simp only [Option.some.injEq, Prod.mk.injEq] at h
    obtain ⟨rfl, rfl⟩ := h
    have d1 : decide ((4096 : Int) < (l1.length : Int)) = true := decide_eq_true e1
    have d2 : (4096 < l1.length) = True := eq_true (by omega)
    clear e1
    go_wp2
    go_ret2
    exact ⟨rfl, hzB HZ1.out⟩
  rw [if_neg e1] at h
  have d1 : decide ((4096 : Int) < (l1.length : Int)) = false := decide_eq_false e1
  have d2 : (4096 < l1.length) = False := eq_false (by omega)
  have H := K0 h
  have H1 := HCH.out
  clear e1 h
  have q1 : (0 : Int) ≤ (l0_1.length : Int) := by omega
  have q2 : (l0_1.length : Int) ≤ (l0_1.length : Int) := by omega
  have q3 : (l0_1.length : Int) ≤ (c0_1 : Int) := by omega
  clear H1
  go_wp2
  go_loopg [8, 9, 10, 11, 12, 13, 36] l1.length (fun gg v8 _ _ _ _ _ v36 wr => ∃ (i : Nat) (hs : List Hd) (all : List (List Int)), v36 = .int .i64 (i : Int) ∧ Aside0 (i + gg = l1.length) ∧ Aside0 (HdsOf w hs all) ∧ Aside0 (Z wr) ∧ Aside0 (ChainSt w l0_1.length wr v8 hs) ∧ Aside0 (chain_Check.l1 k a0_0 (l1.drop i) (i : Int) all = some (r1, r2)))
  case atStart => exact ⟨0, hs, l0_1, rfl, ⟨by simp⟩, HHS, HZ1, ⟨.inl ⟨_, rfl, HCH.out⟩⟩, H⟩
  case round =>
    clear HZ1 H HHS HCH q1 q2 q3 p0 p1
    obtain ⟨i, hs, all, rfl, hg, hhs, hz, hR, hx⟩ := hrel
    by_cases hlt : i < l1.length
    case neg =>
      have hd : decide ((i : Int) < (l1.length : Int)) = false := decide_eq_false (by omega)
      have hq := hx.out
      rw [List.drop_of_length_le (by omega)] at hq
      simp only [chain_Check.l1, Option.some.injEq, Prod.mk.injEq] at hq
      obtain ⟨rfl, rfl⟩ := hq
      go_wp2
      go_ret2
      exact ⟨rfl, hzB hz.out⟩
    obtain ⟨ad, Ax0, cx0, Ax, cx, e1, x1', x2', hlx0, hCx0', hlx, hCx'⟩ := at_T48 HL.out (i : Int) (by omega) (by omega)
    cases e1
    obtain ⟨x, hx0⟩ : ∃ x, l1[i] = x := ⟨_, rfl⟩
    have hrd : rd_T48 l1 (i : Int) = x := by simp [rd_T48, hlt, hx0]
    rw [hrd] at x1' x2' hlx0 hCx0' hlx hCx'
    have x1 := ((hzB hz.out).cell (World.block_lt_of_cell? w _ x1')).trans x1'
    have x2 := ((hzB hz.out).cell (World.block_lt_of_cell? w _ x2')).trans x2'
    have hCx := Kd.C_below hCx' (hzB hz.out)
    have hCx0 := Kd.C_below hCx0' (hzB hz.out)
    simp only [Int.toNat_natCast] at x1 x2
    have hx2 := hx.out
    rw [List.drop_eq_getElem_cons hlt, hx0] at hx2
    rw [chain_Check.l1] at hx2
    obtain ⟨xf, xl⟩ := x
    dsimp only at x1 x2 hlx hCx hCx' hlx0 hCx0 hCx0' hx2
    obtain ⟨⟨s1, s2, s3⟩, hst, hx2⟩ := Option.bind_eq_some_iff.mp hx2
    dsimp only at hx2
    have P0 : ((0 : Int) ≤ (i : Int)) = True := eq_true (by omega)
    have P1 : ((i : Int) < (l1.length : Int)) = True := eq_true (by omega)
    have P2 : (i < l1.length) = True := eq_true hlt
    have hd : decide ((i : Int) < (l1.length : Int)) = true := decide_eq_true (by omega)
    obtain ⟨W2, hW2⟩ : ∃ W2 : World, wr.alloc (.cells #[.slice Ax0 xf.length cx0, .slice Ax xl.length cx] 48) = W2 := ⟨_, rfl⟩
    have hk2 : W2.heap[wr.heap.size]? = some (.cells #[.slice Ax0 xf.length cx0, .slice Ax xl.length cx] 48 (0, 0)) := by rw [← hW2]; exact blk_new wr _
    have hb2 : Below wr.heap.size wr W2 := by rw [← hW2]; exact below_alloc (Below.refl _ _) _
    have hz2 := hzb hz.out hb2
    have hR2 := ChainSt.below hR.out hb2
    have q0 : W2.cell? ⟨wr.heap.size, 0, none⟩ = some (.slice Ax0 xf.length cx0) := blk_cell hk2 0
    have q1 : W2.cell? ⟨wr.heap.size, 1, none⟩ = some (.slice Ax xl.length cx) := blk_cell hk2 1
    obtain ⟨p0, p1⟩ := hzc hz2
    obtain ⟨A8, c8, rfl, hlc, hC8⟩ := ChainSt.reads hR2 (hzB hz2)
    have hjoin := (hhs.out.below (hzB hz2)).join hC8
    have hlen := hhs.out.1
    rw [hlen] at hjoin hlc
    have hcall := chain_Step.calls k A8 c8 all a0_0 Ax0 cx0 xf Ax cx xl s1 s2 s3 W2 hjoin hlc (Kd.C_below hCx0 hb2) hlx0 (Kd.C_below hCx hb2) hlx hst
    rw [← hlen] at hcall
    have HCALL := K0 hcall; have HX2 := K0 hx2; have HK2 := K0 hk2; have HZ2 := K0 hz2; have HR2 := K0 hR2
    have HCx0 := K0 hCx0'
    have HLx0 := K0 hlx0; have HLEN := K0 hlen; clear hx hx2 hx0 hrd hCx hCx0 hk2 hb2 hz2 hR2 hR hz x1' x2' hCx' hCx0' hjoin hlc hcall hst hC8 hlen
    go_wp2_with fail
    refine HCALL.out.mono ?_
    rintro e' w3 ⟨v0, rfl, _, hb3⟩
    have HZ3 := K0 (hzb HZ2.out hb3)
    have HR3 := K0 (ChainSt.below HR2.out hb3)
    have HK3 := K0 (blk_below HK2.out hb3)
    clear hb3 HCALL HR2 HK2 hW2 q0 q1 p0 p1 HZ2
    obtain ⟨p0, p1⟩ := hzc HZ3.out
    have q0 : w3.cell? ⟨wr.heap.size, 0, none⟩ = some (.slice Ax0 xf.length cx0) := blk_cell HK3.out 0
    by_cases he0 : s3 = 0
    case neg =>
      have hx3 := HX2.out
      rw [if_neg he0] at hx3
      simp only [Option.some.injEq, Prod.mk.injEq] at hx3
      obtain ⟨rfl, rfl⟩ := hx3
      have c1' : (s3 != 0) = true := by simpa using he0
      have c2' : (s3 == 0) = false := by simpa using he0
      clear HX2 he0
      go_wp2
      go_ret2
      exact ⟨rfl, hzB HZ3.out⟩
    subst he0
    have hx3 := HX2.out
    rw [if_pos rfl] at hx3
    by_cases hcp0 : ¬ all.length + 1 < 5864062014805
    · rw [if_neg hcp0] at hx3; cases hx3
    have hcp := Decidable.not_not.1 hcp0
    rw [if_pos hcp] at hx3
    have HX5 := K0 hx3; have HCP := K0 hcp; clear hcp0 hcp hx3 HX2
    rcases HR3.out with ⟨Ac, eC, hC3⟩ | hR3
    · injection eC with eA eN eC2
      subst eA; have HC3 := K0 hC3; have HN := K0 eN
      rw [eN, eC2]
      clear hC3 eN eC2 HR3
      go_wp2_with (at_builtin; refine H_append_full (w0 := w) w.heap.size rfl (.tmp 54) (.tmp 57) 22 29 rfl Try.underlying22 (by kernel_rfl) A8 l0_1.length hs ((Ax0, xf.length, cx0) : Hd) (fun _ => True) rfl rfl (fun _ _ => trivial) (Kd.C_below HC3.out (hzB HZ3.out)) (hzB HZ3.out) (Nat.le_of_lt (hzS HZ3.out)) (by have := HCP.out; have := HLEN.out; have := HN.out; omega) ?_; intro v5 w5 r5 hb5 hg5)
      go_roundg (l1.length - (i + 1))
      case measure => have := hg.out; omega
      case rel =>
        refine ⟨i + 1, hs ++ [(Ax0, xf.length, cx0)], all ++ [xf], by simp, ⟨by have := hg.out; omega⟩, ⟨hhs.out.add ⟨rfl, HLx0.out, HCx0.out⟩⟩, ?_, ⟨.inr r5⟩, ?_⟩
        · have h := HZ3.out
          rw [HZd.out] at h
          exact ⟨by rw [HZd.out]; exact ⟨blk_grown h.1 hg5 (by simp), hb5, Nat.lt_of_lt_of_le h.2.2 hg5.size⟩⟩
        have h5 := HX5.out
        exact ⟨by rw [show ((i + 1 : Nat) : Int) = (i : Int) + 1 by omega]; exact h5⟩
    have HR4 := K0 hR3
    have nG0 : some w.heap.size ≠ (Value.slice A8 hs.length c8).ownBlock := by
      have h := HZ3.out
      rw [HZd.out] at h
      exact Kd.R_ne hR3 h.1 (by decide)
    have nG := K0 nG0; clear hR3 HR3 nG0
    go_wp2_with (at_builtin; refine Kd.R_append kH (w0 := w) w.heap.size rfl (.tmp 54) (.tmp 57) 22 29 (.slice none 0 0) 24 rfl Try.underlying22 (by kernel_rfl) rfl (by decide) (by decide) (.slice A8 hs.length c8) hs ((Ax0, xf.length, cx0) : Hd) [.slice Ax0 xf.length cx0] (fun _ => True) (fun _ => False) rfl rfl rfl (fun _ h => h.elim) (fun _ _ => trivial) HR4.out (hzB HZ3.out) (Nat.le_of_lt (hzS HZ3.out)) (by have := HCP.out; have := HLEN.out; omega) ?_; intro v5 w5 r5 hb5 hg5 hat5)
    go_roundg (l1.length - (i + 1))
    case measure => have := hg.out; omega
    case rel =>
      refine ⟨i + 1, hs ++ [(Ax0, xf.length, cx0)], all ++ [xf], by simp, ⟨by have := hg.out; omega⟩, ⟨hhs.out.add ⟨rfl, HLx0.out, HCx0.out⟩⟩, ?_, ⟨.inr r5⟩, ?_⟩
      · have h := HZ3.out
        rw [HZd.out] at h
        exact ⟨by rw [HZd.out]; exact ⟨blk_grown h.1 hg5 nG.out, hb5, Nat.lt_of_lt_of_le h.2.2 hg5.size⟩⟩
      have h5 := HX5.out
      exact ⟨by rw [show ((i + 1 : Nat) : Int) = (i : Int) + 1 by omega]; exact h5⟩
end Go.Proofs.Ytppkeonhbkahmaa.P
