import Derived.Lib.SliceRun
import Derived.Deep.DeepCutAuto
import Derived.Deep.RegionLaw
import Derived.Shelf.RegionOpenPlain
import Derived.Test.YtmihgbjfiigmlaaKChainChecks1
import Derived.Test.YtmihgbjfiigmlaaKChainChecks2
-- Printed by wip/tools/pp.py of this claim's session (over the kit's print.py); Lean checks it.
namespace Go.Proofs.Ytmihgbjfiigmlaa.P
open Go.RowKit Go.Proofs.YtmihgbjfiigmlaaW.PrintWords Go.Proofs.YtmihgbjfiigmlaaW.PrintLast Go.Proofs.YtmihgbjfiigmlaaW.PrintMore
attribute [local go_sem] max2_int min2_int max_two min_two max_three min_three max_four min_four   -- for this text's walks alone
set_option linter.unusedVariables false
set_option linter.unusedSimpArgs false

-- SOLO
-- IMPORTS Derived.Lib.SliceRun Derived.Deep.DeepCutAuto Derived.Deep.RegionLaw Derived.Shelf.RegionOpenPlain Derived.Test.YtmihgbjfiigmlaaShelf
/-! ### lit_Clean: function 17 -/
/-- How two numbers compare. -/
def cmpI (a b : Int) : Int := if a < b then -1 else if b < a then 1 else 0
/-- How two literals compare: by their variables, then themselves. -/
def cmpL (a b : Int) : Int := if cmpI (a.natAbs : Int) (b.natAbs : Int) ≠ 0 then cmpI (a.natAbs : Int) (b.natAbs : Int) else cmpI a b
set_option maxRecDepth 100000 in
theorem cmp_isNaN.calls (a : Int) (W : World) : Calls Try.prog 80 #[.int .i64 a] W fun e W' => e = .returned (.bool false) ∧ W' = W := by
  go_enter Try.func80, Try.ntmps80
  go_wp2
  all_goals (go_ret; exact ⟨by simp, rfl⟩)
set_option maxRecDepth 100000 in
theorem cmp_Compare.calls (a b : Int) (W : World) : Calls Try.prog 54 #[.int .i64 a, .int .i64 b] W fun e W' => e = .returned (.int .i64 (cmpI a b)) ∧ W' = W := by
  unfold cmpI
  by_cases h1 : a < b
  · rw [if_pos h1]
    go_enter Try.func54, Try.ntmps54
    go_wp2_with fail
    refine (cmp_isNaN.calls a W).mono ?_
    rintro e w' ⟨rfl, rfl⟩
    go_wp2_with fail
    refine (cmp_isNaN.calls b _).mono ?_
    rintro e w' ⟨rfl, rfl⟩
    go_wp2
    go_ret
    exact ⟨rfl, rfl⟩
  · rw [if_neg h1]
    by_cases h2 : b < a
    · rw [if_pos h2]
      go_enter Try.func54, Try.ntmps54
      go_wp2_with fail
      refine (cmp_isNaN.calls a W).mono ?_
      rintro e w' ⟨rfl, rfl⟩
      go_wp2_with fail
      refine (cmp_isNaN.calls b _).mono ?_
      rintro e w' ⟨rfl, rfl⟩
      go_wp2
      go_ret
      exact ⟨rfl, rfl⟩
    · rw [if_neg h2]
      go_enter Try.func54, Try.ntmps54
      go_wp2_with fail
      refine (cmp_isNaN.calls a W).mono ?_
      rintro e w' ⟨rfl, rfl⟩
      go_wp2_with fail
      refine (cmp_isNaN.calls b _).mono ?_
      rintro e w' ⟨rfl, rfl⟩
      go_wp2
      go_ret
      exact ⟨rfl, rfl⟩
set_option maxRecDepth 100000 in
theorem cmp_Or.calls (a b : Int) (g : Nat) (W : World) (h0 : W.cell? ⟨g, 0, none⟩ = some (.int .i64 a)) (h1 : W.cell? ⟨g, 1, none⟩ = some (.int .i64 b)) :
    Calls Try.prog 53 #[.slice (some ⟨g, 0, none⟩) 2 2] W fun e W' => e = .returned (.int .i64 (if a ≠ 0 then a else b)) ∧ W' = W := by
  go_enter Try.func53, Try.ntmps53
  go_wp2
  go_loopg [5, 8] 2 (fun gg _ v8 wr => ∃ j : Nat, v8 = .int .i64 (j : Int) ∧ wr = W ∧ Aside0 (j + gg = 2) ∧ Aside0 (0 < j → a = 0) ∧ Aside0 (1 < j → b = 0))
  case atStart => exact ⟨0, rfl, rfl, ⟨rfl⟩, ⟨fun h => by omega⟩, ⟨fun h => by omega⟩⟩
  case round =>
    obtain ⟨j, rfl, rfl, hg, ha, hb⟩ := hrel
    rcases Nat.lt_or_ge j 2 with hj | hj
    · rcases Nat.lt_or_ge j 1 with hj1 | hj1
      · obtain rfl : j = 0 := by omega
        by_cases hz : a = 0
        · subst hz
          go_wp2
          go_roundg 1
          case measure => have := hg.out; omega
          case rel => exact ⟨1, rfl, rfl, ⟨rfl⟩, ⟨by simp⟩, ⟨fun h => by omega⟩⟩
        · have c1 : (a != 0) = true := by simpa using hz
          go_wp2
          go_ret
          exact ⟨rfl, rfl⟩
      · obtain rfl : j = 1 := by omega
        have hz := ha.out (by omega)
        subst hz
        by_cases hy : b = 0
        · subst hy
          go_wp2
          go_roundg 0
          case measure => have := hg.out; omega
          case rel => exact ⟨2, rfl, rfl, ⟨rfl⟩, ⟨by simp⟩, ⟨by simp⟩⟩
        · have c1 : (b != 0) = true := by simpa using hy
          go_wp2
          go_ret
          exact ⟨by simp, rfl⟩
    · obtain rfl : j = 2 := by have := hg.out; omega
      have hz := ha.out (by omega)
      have hy := hb.out (by omega)
      subst hz hy
      go_wp2
      go_ret
      exact ⟨by simp, rfl⟩
theorem mx_abs {a : Int} (h : (a ≠ 0 ∧ a ≠ -9223372036854775808) ∧ -9223372036854775808 ≤ a ∧ a ≤ 9223372036854775807) : lit_variable.f a = some (a.natAbs : Int) := by
  unfold lit_variable.f mx wrap64
  split <;> (congr 1; omega)
theorem drewN_drewN (W : World) (m n : Nat) : (W.drewN m).drewN n = W.drewN (m + n) := by
  show ({ W with drawn := W.drawn + m + n } : World) = { W with drawn := W.drawn + (m + n) }
  rw [Nat.add_assoc]
open Go.Sort in
set_option maxRecDepth 100000 in
/-- The comparing closure: it may draw, and lays a block. -/
theorem lit_Clean_1.calls (a b : Int) (W : World) :
    Calls Try.prog 52 #[.int .i64 a, .int .i64 b] W fun e W' => e = .returned (.int .i64 (if cmpI (mx a (wrap64 (-a))) (mx b (wrap64 (-b))) ≠ 0 then cmpI (mx a (wrap64 (-a))) (mx b (wrap64 (-b))) else cmpI a b)) ∧ ∃ q os, W' = grow (W.drewN q) os := by
  have H1 := Aside0.mk (lit_variable.calls a (mx a (wrap64 (-a))) W rfl)
  obtain ⟨x, hx⟩ : ∃ x, mx a (wrap64 (-a)) = x := ⟨_, rfl⟩
  obtain ⟨y, hy⟩ : ∃ y, mx b (wrap64 (-b)) = y := ⟨_, rfl⟩
  rw [hx] at H1
  have HY := Aside0.mk hy
  rw [hx, hy]
  clear hx hy
  obtain ⟨p, hp⟩ : ∃ p, cmpI x y = p := ⟨_, rfl⟩
  obtain ⟨r, hr⟩ : ∃ r, cmpI a b = r := ⟨_, rfl⟩
  have HP := Aside0.mk hp
  have HR := Aside0.mk hr
  rw [hp, hr]
  obtain ⟨u, hu⟩ : ∃ u, (if p ≠ 0 then p else r) = u := ⟨_, rfl⟩
  have HU := Aside0.mk hu
  rw [hu]
  clear hp hr hu
  go_enter Try.func52, Try.ntmps52
  go_wp2_with fail
  refine H1.out.mono ?_
  rintro e w1 ⟨rfl, ⟨⟨n1, rfl⟩⟩⟩
  go_wp2_with fail
  refine (lit_variable.calls b y (W.drewN n1) (by rw [← HY.out]; rfl)).mono ?_
  rintro e w2 ⟨rfl, ⟨⟨n2, rfl⟩⟩⟩
  go_wp2_with fail
  refine (cmp_Compare.calls x y _).mono ?_
  rintro e w3 ⟨rfl, rfl⟩
  rw [HP.out]
  go_wp2_with fail
  refine (cmp_Compare.calls a b _).mono ?_
  rintro e w4 ⟨rfl, rfl⟩
  rw [HR.out]
  go_wp2_with fail
  refine (cmp_Or.calls p r _ _ (by have := blk_cell (blk_new (W.drewN (n1 + n2)) (.cells #[.int .i64 p, .int .i64 r] 3)) 0; exact this) (by have := blk_cell (blk_new (W.drewN (n1 + n2)) (.cells #[.int .i64 p, .int .i64 r] 3)) 1; exact this)).mono ?_
  rintro e w5 ⟨he, rfl⟩
  rw [HU.out] at he
  subst he
  go_wp2
  go_ret
  exact ⟨rfl, n1 + n2, #[.cells #[.int .i64 p, .int .i64 r] 3], by rw [alloc_eq_grow]⟩
/-- How the closure compares. -/
def cfL (a b : Int) : Int := if cmpI (mx a (wrap64 (-a))) (mx b (wrap64 (-b))) ≠ 0 then cmpI (mx a (wrap64 (-a))) (mx b (wrap64 (-b))) else cmpI a b
theorem cmpI_lt {a b : Int} : cmpI a b < 0 ↔ a < b := by unfold cmpI; split <;> (try split) <;> omega
theorem cmpI_ne {a b : Int} : cmpI a b ≠ 0 ↔ a ≠ b := by unfold cmpI; split <;> (try split) <;> omega
theorem cfL_lt {a b : Int} : cfL a b < 0 ↔ mx a (wrap64 (-a)) < mx b (wrap64 (-b)) ∨ (mx a (wrap64 (-a)) = mx b (wrap64 (-b)) ∧ a < b) := by
  unfold cfL
  by_cases h : mx a (wrap64 (-a)) = mx b (wrap64 (-b))
  · rw [if_neg (by rw [cmpI_ne]; simpa using h), cmpI_lt]; omega
  · rw [if_pos (cmpI_ne.2 h), cmpI_lt]; omega
open Go.Sort Go.Proofs in
theorem cfL_swo : SWO (ltOf cfL) := by
  refine ⟨fun x => ?_, fun x y z h1 h2 => ?_, fun x y z h1 h2 => ?_⟩
  · exact decide_eq_false (by rw [cfL_lt]; omega)
  · have h1 := of_decide_eq_true h1
    have h2 := of_decide_eq_true h2
    exact decide_eq_true (by rw [cfL_lt] at h1 h2 ⊢; omega)
  · have h1 := of_decide_eq_false h1
    have h2 := of_decide_eq_false h2
    exact decide_eq_false (by rw [cfL_lt] at h1 h2 ⊢; omega)
open Go.Sort Go.Lib Go.Proofs in
set_option maxRecDepth 100000 in
/-- The sort of literals, over a row of one's own. -/
theorem slices_SortFunc_lits.calls (xs : List Int) (g n cap base : Nat) (ok : Nat → Prop) (W : World) (h : Kd.R (Kd.int .i64) 3 W base ok (.slice (some ⟨g, 0, none⟩) n cap) xs) (hlen : xs.length < 4611686018427387904) :
    Calls Try.prog 51 #[.slice (some ⟨g, 0, none⟩) n cap, .func (.func 52) #[] #[]] W fun e W' => e = .returned (.tuple #[]) ∧ Kd.R (Kd.int .i64) 3 W' base ok (.slice (some ⟨g, 0, none⟩) n cap) (xs.mergeSort fun x y => !(ltOf cfL) y x) ∧
      (∃ W1, (∃ q, W1 = W.drewN q) ∧ ∃ W2, W1.grownBy W2 (some g) ∧ Below W2.heap.size W2 W') := by
  obtain ⟨hn, hnc, hC⟩ := Kd.R_reads' h
  have hbig := hC.2.1
  have hblk : g < W.heap.size := by
    obtain ⟨inner, ho⟩ := Kd.R_own h
    exact own_lt ho g rfl
  have key := Try.slices_SortFunc_total (Value.int .i64) (fun _ => rfl) cfL cfL_swo 52 #[] g 0 cap xs.toArray W (enters_of Try.func52 (by kernel_rfl) rfl)
    (fun m os dk hs x y => calls_of_args (args := #[.int .i64 x, .int .i64 y]) rfl (lit_Clean_1.calls x y _)) (R_holds h) hblk (by simp; omega) (fun x y h1 h2 => by
      have h1 := of_decide_eq_false h1
      have h2 := of_decide_eq_false h2
      rw [cfL_lt] at h1 h2
      omega)
  have hsz : xs.toArray.size = n := by simp [hn]
  rw [hsz] at key
  refine key.mono ?_
  rintro e W' ⟨rfl, q, os, rfl⟩
  obtain ⟨hR, hg⟩ := R_rowPut (xs.mergeSort fun x y => !(ltOf cfL) y x) (by rw [List.length_mergeSort]) q h
  obtain ⟨hR2, hb2⟩ := R_grow os hR
  exact ⟨rfl, hR2, _, ⟨q, rfl⟩, _, hg, hb2⟩
open Go.Sort Go.Lib Go.Proofs in
/-- Compact, over a row of one's own. -/
theorem slices_Compact_R.calls (xs : List Int) (g n cap base : Nat) (ok : Nat → Prop) (W : World) (h : Kd.R (Kd.int .i64) 3 W base ok (.slice (some ⟨g, 0, none⟩) n cap) xs) (hle : (Lib.compact xs).length ≤ xs.length) :
    Calls Try.prog 56 #[.slice (some ⟨g, 0, none⟩) n cap] W fun e W' => e = .returned (.slice (some ⟨g, 0, none⟩) (Lib.compact xs).length cap) ∧ Kd.R (Kd.int .i64) 3 W' base ok (.slice (some ⟨g, 0, none⟩) (Lib.compact xs).length cap) (Lib.compact xs) ∧
      ∃ q, (W.drewN q).grownBy W' (some g) := by
  obtain ⟨hn, hnc, hC⟩ := Kd.R_reads' h
  have hbig := hC.2.1
  have key := Try.slices_Compact_int g 0 cap xs W (R_holds h) (by omega) (by omega)
  rw [← hn] at key
  refine key.mono ?_
  rintro e W' ⟨rfl, q, rfl⟩
  obtain ⟨hR, hg⟩ := R_rowPut (Lib.compact xs ++ List.replicate (n - (Lib.compact xs).length) 0) (by simp; omega) q h
  have hT := Kd.R_take hR (m := (Lib.compact xs).length) (by simp)
  rw [List.take_left'  rfl] at hT
  exact ⟨rfl, hT, q, hg⟩
/-- Two neighbours are opposites. -/
def adjB : List Int → Bool
  | x :: y :: t => (y == wrap64 (-x)) || adjB (y :: t)
  | _ => false
def lit_Clean.out (c : List Int) : List Int := Lib.compact ((c.filter fun l => (lit_is.f l).getD false).mergeSort fun x y => !(Go.Proofs.ltOf cfL) y x)
def lit_Clean.f (l0 : List Int) : Option (List Int × Bool) := if l0.length < 17592186044416 ∧ (lit_Clean.out l0).length ≤ l0.length then some (lit_Clean.out l0, !adjB (lit_Clean.out l0)) else none
set_option maxRecDepth 100000 in
set_option maxHeartbeats 4000000 in
theorem lit_Clean.calls (A0 : Option Addr) (c0 : Nat) (l0 : List Int) (r1 : List Int) (r2 : Bool) (w : World) (hr0 : Kd.C (Kd.int .i64) w A0 l0.length l0) (hc0 : l0.length ≤ c0) (h : lit_Clean.f l0 = some (r1, r2)) :
    Calls Try.prog 17 #[.slice A0 l0.length c0] w fun e w' => ∃ v0_ : Value, e = .returned (.tuple #[v0_, .bool r2]) ∧ Kd.R (Kd.int .i64) 3 w' w.heap.size (fun _ => True) v0_ r1 ∧ Below w.heap.size w w' := by
  unfold lit_Clean.f at h
  by_cases hlen0 : ¬ (l0.length < 17592186044416 ∧ (lit_Clean.out l0).length ≤ l0.length)
  · rw [if_neg hlen0] at h; cases h
  obtain ⟨hlen, hle⟩ := Decidable.not_not.1 hlen0
  rw [if_pos ⟨hlen, hle⟩] at h
  simp only [Option.some.injEq, Prod.mk.injEq] at h
  obtain ⟨rfl, rfl⟩ := h
  have HR := Aside0.mk hr0
  obtain ⟨p, hp⟩ : ∃ p : Int → Bool, p = fun l => (lit_is.f l).getD false := ⟨_, rfl⟩
  have his : ∀ a, lit_is.f a = some (p a) := fun a => by
    rw [hp]
    unfold lit_is.f
    dsimp only
    split <;> rfl
  have HIS := Aside0.mk his
  have HLN := Aside0.mk hlen
  have HLE := Aside0.mk hle
  have HO := Aside0.mk (show lit_Clean.out l0 = Lib.compact ((l0.filter p).mergeSort fun x y => !(Go.Proofs.ltOf cfL) y x) from by rw [hp]; rfl)
  clear hr0 hlen0 hlen hle hp his
  go_enter Try.func17, Try.ntmps17
  go_wp2
  go_loopg [4, 6, 10] l0.length (fun gg v4 _ v10 wr => ∃ i : Nat, v10 = .int .i64 (i : Int) ∧ Aside0 (i + gg = l0.length) ∧ Aside0 (Kd.R (Kd.int .i64) 3 wr w.heap.size (fun _ => True) v4 ((l0.take i).filter p)) ∧ Aside0 (Below w.heap.size w wr))
  case atStart => exact ⟨0, rfl, ⟨by simp⟩, ⟨Kd.R_nil _ _ _ _ _⟩, ⟨Below.refl _ _⟩⟩
  case round =>
    obtain ⟨i, rfl, hg, hR, hB⟩ := hrel
    obtain ⟨A4, c4, rfl⟩ := Kd.R_slice hR.out
    by_cases hlt : i < l0.length
    · obtain ⟨ad, e1, x1⟩ := Kd.at_int (Kd.C_below HR.out hB.out) (i : Int) (by omega) (by omega)
      cases e1
      obtain ⟨y, hy⟩ : ∃ y, l0[i] = y := ⟨_, rfl⟩
      have hrd : rd l0 (i : Int) = y := by simp [rd, hlt, hy]
      rw [hrd] at x1
      simp only [Int.toNat_natCast] at x1
      have htk : (l0.take (i + 1)).filter p = (l0.take i).filter p ++ if p y = true then [y] else [] := by
        rw [List.take_add_one, List.getElem?_eq_getElem hlt, hy, List.filter_append]
        cases hpy : p y <;> simp [hpy]
      have HT := Aside0.mk htk
      have hfl : ((l0.take i).filter p).length ≤ i := Nat.le_trans (List.length_filter_le _ _) (by simp; omega)
      have P0 : ((0 : Int) ≤ (i : Int)) = True := eq_true (by omega)
      have P1 : ((i : Int) < (l0.length : Int)) = True := eq_true (by omega)
      have P2 : (i < l0.length) = True := eq_true hlt
      have hd : decide ((i : Int) < (l0.length : Int)) = true := decide_eq_true (by omega)
      have hln := HLN.out
      clear hrd htk hy
      cases hq : p y with
      | true =>
        have hcall := Aside0.mk (lit_is.calls y true wr (by rw [HIS.out, hq]))
        have hz := HT.out
        rw [if_pos hq] at hz
        have HZ := Aside0.mk hz
        clear hz HT hq
        go_wp2_with fail
        refine hcall.out.mono ?_
        rintro e' w1 ⟨rfl, ⟨⟨n1, rfl⟩⟩⟩
        have hR1 := Aside0.mk (Kd.R_drewN hR.out n1)
        have hB1 := Aside0.mk (pw_below_drewN hB.out n1)
        go_wp2_with (at_builtin; refine Kd.R_append (Kd.int .i64) (w0 := w) w.heap.size rfl (.tmp 16) (.tmp 18) 22 3 (.int .i64 0) 8 rfl Try.underlying22 (by kernel_rfl) rfl (by decide) (by decide) _ ((l0.take i).filter p) y [.int .i64 y] (fun _ => True) (fun _ => False) rfl rfl rfl (fun _ h => h.elim) (fun _ _ => trivial) hR1.out hB1.out hB1.out.size (by omega) ?_; intro v1 w3 r1 hb3 hg3 hat3)
        go_roundg (l0.length - (i + 1))
        case measure => have := hg.out; omega
        case rel => exact ⟨i + 1, by simp, ⟨by have := hg.out; omega⟩, ⟨by rw [HZ.out]; exact r1⟩, ⟨hb3⟩⟩
      | false =>
        have hcall := Aside0.mk (lit_is.calls y false wr (by rw [HIS.out, hq]))
        have hz := HT.out
        rw [if_neg (by rw [hq]; decide), List.append_nil] at hz
        have HZ := Aside0.mk hz
        clear hz HT hq
        go_wp2_with fail
        refine hcall.out.mono ?_
        rintro e' w1 ⟨rfl, ⟨⟨n1, rfl⟩⟩⟩
        go_wp2
        go_roundg (l0.length - (i + 1))
        case measure => have := hg.out; omega
        case rel => exact ⟨i + 1, by simp, ⟨by have := hg.out; omega⟩, ⟨by rw [HZ.out]; exact Kd.R_drewN hR.out n1⟩, ⟨pw_below_drewN hB.out n1⟩⟩
    · have hd : decide ((i : Int) < (l0.length : Int)) = false := decide_eq_false (by omega)
      have P2 : (i < l0.length) = False := eq_false hlt
      have htake : (l0.take i).filter p = l0.filter p := by rw [List.take_of_length_le (by omega)]
      have hRf := hR.out
      rw [htake] at hRf ⊢
      obtain ⟨fl, hfl⟩ : ∃ fl, l0.filter p = fl := ⟨_, rfl⟩
      have hflen : fl.length ≤ l0.length := by rw [← hfl]; exact List.length_filter_le _ _
      have hout := HO.out
      rw [hfl] at hRf hout ⊢
      have HRF := Aside0.mk hRf
      have HOUT := Aside0.mk hout
      have HB := hB
      have hln := HLN.out
      clear hRf hR htake hfl hout hB HO hg HIS
      have fin : ∀ (v : Value) (W : World), Kd.R (Kd.int .i64) 3 W w.heap.size (fun _ => True) v (lit_Clean.out l0) → True := fun _ _ _ => trivial
      by_cases hz : fl.length = 0
      · have hnil : fl = [] := List.length_eq_zero_iff.1 hz
        subst hnil
        have hce : Lib.compact (([] : List Int).mergeSort fun x y => !(Go.Proofs.ltOf cfL) y x) = [] := List.length_eq_zero_iff.1 (Nat.le_zero.1 (Nat.le_trans (Lib.compact_length_le _) (by simp)))
        have HO2 := Aside0.mk (HOUT.out.trans hce)
        clear HOUT hce HLE hz
        go_wp2_with fail
        refine (Try.slices_SortFunc_none (α := Int) A4 c4 _ wr).mono ?_
        rintro e' w1 ⟨rfl, rfl⟩
        go_wp2_with fail
        refine (Try.slices_Compact_int_empty A4 c4 _).mono ?_
        rintro e' w2 ⟨rfl, rfl⟩
        go_wp2
        go_loopg [7] 0 (fun gg v7 wr2 => v7 = .int .i64 1 ∧ wr2 = w2)
        case atStart => exact ⟨rfl, rfl⟩
        case round =>
          obtain ⟨rfl, rfl⟩ := hrel
          go_wp2
          go_ret2
          rw [HO2.out]
          exact ⟨_, rfl, HRF.out, HB.out⟩
      · obtain ⟨inner, ho⟩ := Kd.R_own HRF.out
        obtain ⟨g, rfl⟩ : ∃ g, A4 = some ⟨g, 0, none⟩ := by
          rcases ho.2 with ⟨e1, e2⟩ | ⟨g, cap, cur, e1, _⟩
          · omega
          · injection e1 with e1 _ _; exact ⟨g, e1⟩
        have hgb : w.heap.size ≤ g := own_base ho g rfl
        clear ho
        have hle : (Lib.compact (fl.mergeSort fun x y => !(Go.Proofs.ltOf cfL) y x)).length ≤ (fl.mergeSort fun x y => !(Go.Proofs.ltOf cfL) y x).length := Lib.compact_length_le _
        have HLE2 := Aside0.mk hle
        clear hle
        go_wp2_with fail
        refine (slices_SortFunc_lits.calls fl g fl.length c4 w.heap.size (fun _ => True) wr HRF.out (by omega)).mono ?_
        rintro e' w1 ⟨rfl, hR1, W1, ⟨q1, rfl⟩, W2, hg1, hb1⟩
        have HR1 := Aside0.mk hR1
        have hB2 : Below w.heap.size w W2 := (pw_below_drewN HB.out q1).grown hg1 (pw_below_drewN HB.out q1).size (fun k e => by cases e; exact hgb)
        have HB1 := Aside0.mk (hB2.trans (hb1.mono hB2.size))
        clear hR1 hB2 hg1 hb1
        go_wp2_with fail
        refine (slices_Compact_R.calls _ g fl.length c4 w.heap.size (fun _ => True) w1 HR1.out HLE2.out).mono ?_
        rintro e' w2 ⟨rfl, hR2, q2, hg2⟩
        rw [← HOUT.out] at hR2
        try rw [← HOUT.out]
        have HR2 := Aside0.mk hR2
        have HB2 := Aside0.mk ((pw_below_drewN HB1.out q2).grown hg2 (pw_below_drewN HB1.out q2).size (fun k e => by cases e; exact hgb))
        clear hR2 hg2 HR1 HRF HB1
        obtain ⟨out, hout⟩ : ∃ out, lit_Clean.out l0 = out := ⟨_, rfl⟩
        rw [hout] at HR2 HLE ⊢
        have HO2 := Aside0.mk hout
        clear hout HOUT HLE2
        have hol := HLE.out
        go_wp2
        go_loopg [7] out.length (fun gg v7 wr => ∃ j : Nat, v7 = .int .i64 (j : Int) ∧ 1 ≤ j ∧ Aside0 (out.length ≤ j + gg) ∧ Aside0 (Kd.R (Kd.int .i64) 3 wr w.heap.size (fun _ => True) (.slice (some ⟨g, 0, none⟩) out.length c4) out) ∧ Aside0 (Below w.heap.size w wr) ∧ Aside0 (adjB (out.drop (j - 1)) = adjB out))
        case atStart => exact ⟨1, rfl, Nat.le_refl _, ⟨by omega⟩, HR2, HB2, ⟨rfl⟩⟩
        case round =>
          clear HR2 HB2 HB
          obtain ⟨j, rfl, hj1, hg, hR, hB, hA⟩ := hrel
          by_cases hjt : j < out.length
          · obtain ⟨y, hy⟩ : ∃ y, out[j] = y := ⟨_, rfl⟩
            obtain ⟨x, hx⟩ : ∃ x, out[j - 1] = x := ⟨_, rfl⟩
            obtain ⟨c1, _⟩ := Kd.R_celln (0 : Int) hR.out (j : Int) (by omega) (by omega)
            obtain ⟨c2, _⟩ := Kd.R_celln (0 : Int) hR.out ((j : Int) - 1) (by omega) (by omega)
            have ej : rdOf 0 out (j : Int) = y := by simp [rdOf, hjt, hy]
            have ex : rdOf 0 out ((j : Int) - 1) = x := by rw [show (j : Int) - 1 = ((j - 1 : Nat) : Int) by omega]; simp [rdOf, show j - 1 < out.length by omega, hx]
            rw [ej] at c1
            rw [ex] at c2
            simp only [Int.toNat_natCast] at c1
            rw [show ((j : Int) - 1).toNat = j - 1 by omega] at c2
            have hA2 := hA.out
            rw [List.drop_eq_getElem_cons (show j - 1 < out.length by omega), hx, show j - 1 + 1 = j by omega, List.drop_eq_getElem_cons hjt, hy, adjB] at hA2
            have HA2 := Aside0.mk hA2
            have HY := Aside0.mk (show out.drop j = y :: out.drop (j + 1) by rw [List.drop_eq_getElem_cons hjt, hy])
            have P0 : ((0 : Int) ≤ (j : Int)) = True := eq_true (by omega)
            have P1 : ((j : Int) < (out.length : Int)) = True := eq_true (by omega)
            have P2 : (j < out.length) = True := eq_true hjt
            have P3 : ((1 : Int) ≤ (j : Int)) = True := eq_true (by omega)
            have P4 : ((j : Int) - 1 < (out.length : Int)) = True := eq_true (by omega)
            have hd : decide ((j : Int) < (out.length : Int)) = true := decide_eq_true (by omega)
            have P5 : IntKind.i64.wrap ((j : Int) - 1) = (j : Int) - 1 := Go.IntWalk.i64_in _ (by omega)
            have P6 : IntKind.i64.wrap (-x) = wrap64 (-x) := Go.IntWalk.i64_left _
            have mixed : Try.prog.follows .mixedOrders = true := by kernel_rfl
            clear hA hA2 ej ex hx hy
            go_wp2_with fail
            go_cut [41] (fun v41 wc => v41 = .bool (y == wrap64 (-x)) ∧ wc = wr.drew)
            case first =>
              go_region_law_o (fail)
              all_goals (go_wp2_with fail; go_meet; exact ⟨rfl, rfl⟩)
            case rest =>
            obtain ⟨rfl, rfl⟩ := hcut
            have HRd := Aside0.mk (Kd.R_drew hR.out)
            have HBd := Aside0.mk (below_drew hB.out)
            cases hq : (y == wrap64 (-x)) with
            | true =>
              have hz := HA2.out
              rw [hq, Bool.true_or] at hz
              have HZ := Aside0.mk hz
              clear hz
              go_wp2
              go_ret2
              rw [HO2.out, ← HZ.out]
              exact ⟨_, rfl, HRd.out, HBd.out⟩
            | false =>
              have hz := HA2.out
              rw [hq, Bool.false_or] at hz
              have HZ := Aside0.mk hz
              clear hz
              go_wp2
              go_roundg (out.length - j - 1)
              case measure => have := hg.out; omega
              case rel => exact ⟨j + 1, by simp, by omega, ⟨by omega⟩, HRd, HBd, ⟨by rw [show j + 1 - 1 = j by omega, HY.out]; exact HZ.out⟩⟩
          · have hd : decide ((j : Int) < (out.length : Int)) = false := decide_eq_false (by omega)
            have P2 : (j < out.length) = False := eq_false hjt
            have hz : adjB out = false := by
              rw [← hA.out]
              have hl : (out.drop (j - 1)).length ≤ 1 := by rw [List.length_drop]; omega
              match out.drop (j - 1), hl with
              | [], _ => rfl
              | [_], _ => rfl
              | _ :: _ :: _, hl => exact absurd hl (by simp)
            have HZ := Aside0.mk hz
            clear hz
            go_wp2
            go_ret2
            rw [HO2.out, HZ.out]
            exact ⟨_, rfl, hR.out, hB.out⟩


end Go.Proofs.Ytmihgbjfiigmlaa.P

-- Printed by wip/tools/pp.py of this claim's session (over the kit's print.py); Lean checks it.
namespace Go.Proofs.Ytmihgbjfiigmlaa.P
open Go.RowKit Go.Proofs.YtmihgbjfiigmlaaW.PrintWords Go.Proofs.YtmihgbjfiigmlaaW.PrintLast Go.Proofs.YtmihgbjfiigmlaaW.PrintMore
attribute [local go_sem] max2_int min2_int max_two min_two max_three min_three max_four min_four   -- for this text's walks alone
set_option linter.unusedVariables false
set_option linter.unusedSimpArgs false

/-! ### lit_Resolve: function 14 -/
mutual
def lit_Resolve.j0 : Nat → List Int → List Int → Int → Bool → Option (List Int × Int)
  | 0, _, _, _, _ => none
  | k + 1, x0, x1, x2, x25 => if x25 = true then (some (([] : List Int), 1)) else (lit_Resolve.l0 k x1 x2 ([] : List Int) x0 (x0.length : Int) 0)
def lit_Resolve.l0 : Nat → List Int → Int → List Int → List Int → Int → Int → Option (List Int × Int)
  | 0, _, _, _, _, _, _ => none
  | k + 1, x1, x2, x8, x26, x27, x28 => if x28 < x27 then (if 0 ≤ x28 then (if x28 < (x26.length : Int) then (if (rd x26 x28) = x2 then (lit_Resolve.l0 k x1 x2 x8 x26 x27 (wrap64 (x28 + 1))) else (if x8.length < 17592186044416 then (lit_Resolve.l0 k x1 x2 (x8 ++ [rd x26 x28]) x26 x27 (wrap64 (x28 + 1))) else (none))) else (none)) else (none)) else (lit_Resolve.l1 k x2 x8 x1 (x1.length : Int) 0)
def lit_Resolve.l1 : Nat → Int → List Int → List Int → Int → Int → Option (List Int × Int)
  | 0, _, _, _, _, _ => none
  | k + 1, x2, x8, x40, x41, x42 => if x42 < x41 then (if 0 ≤ x42 then (if x42 < (x40.length : Int) then (if (rd x40 x42) = (wrap64 (-x2)) then (lit_Resolve.l1 k x2 x8 x40 x41 (wrap64 (x42 + 1))) else (if x8.length < 17592186044416 then (lit_Resolve.l1 k x2 (x8 ++ [rd x40 x42]) x40 x41 (wrap64 (x42 + 1))) else (none))) else (none)) else (none)) else ((lit_Clean.f x8).bind fun bt131 => (if bt131.2 = true then (some (bt131.1, 0)) else (some (([] : List Int), 4))))
end
def lit_Resolve.f (k : Nat) (l0 : List Int) (l1 : List Int) (a2 : Int) : Option (List Int × Int) := (lit_Has.f k l0 a2).bind fun t121 => (if t121 = true then ((lit_Has.f k l1 (wrap64 (-a2))).bind fun t122 => (lit_Resolve.j0 k l0 l1 a2 (!t122))) else (lit_Resolve.j0 k l0 l1 a2 true))
theorem lit_Resolve.mono_l : ∀ k, (∀ y0 y1 y2 y3, LeO (lit_Resolve.j0 k y0 y1 y2 y3) (lit_Resolve.j0 (k + 1) y0 y1 y2 y3)) ∧ (∀ y0 y1 y2 y3 y4 y5, LeO (lit_Resolve.l0 k y0 y1 y2 y3 y4 y5) (lit_Resolve.l0 (k + 1) y0 y1 y2 y3 y4 y5)) ∧ (∀ y0 y1 y2 y3 y4, LeO (lit_Resolve.l1 k y0 y1 y2 y3 y4) (lit_Resolve.l1 (k + 1) y0 y1 y2 y3 y4))
  | 0 => ⟨fun _ _ _ _ r h => by simp [lit_Resolve.j0] at h, fun _ _ _ _ _ _ r h => by simp [lit_Resolve.l0] at h, fun _ _ _ _ _ r h => by simp [lit_Resolve.l1] at h⟩
  | k + 1 => by
    obtain ⟨ih0, ih1, ih2⟩ := lit_Resolve.mono_l k
    refine ⟨?_, ?_, ?_⟩
    · intro y0 y1 y2 y3
      unfold lit_Resolve.j0
      repeat' first
      | (with_reducible exact ih0 _ _ _ _)
      | (with_reducible exact ih1 _ _ _ _ _ _)
      | (with_reducible exact ih2 _ _ _ _ _)
      | (with_reducible exact lit_Has.mono _ _ _)
      | (with_reducible exact LeO.refl _)
      | (with_reducible exact LeO.none _)
      | (with_reducible refine LeO.ite ?_ ?_)
      | (with_reducible refine LeO.bind ?_ (fun _ => ?_))
      | exact ih0 _ _ _ _
      | exact ih1 _ _ _ _ _ _
      | exact ih2 _ _ _ _ _
      | exact lit_Has.mono _ _ _
      | exact LeO.none _
      | refine LeO.ite ?_ ?_
      | refine LeO.bind ?_ (fun _ => ?_)
    · intro y0 y1 y2 y3 y4 y5
      unfold lit_Resolve.l0
      repeat' first
      | (with_reducible exact ih0 _ _ _ _)
      | (with_reducible exact ih1 _ _ _ _ _ _)
      | (with_reducible exact ih2 _ _ _ _ _)
      | (with_reducible exact lit_Has.mono _ _ _)
      | (with_reducible exact LeO.refl _)
      | (with_reducible exact LeO.none _)
      | (with_reducible refine LeO.ite ?_ ?_)
      | (with_reducible refine LeO.bind ?_ (fun _ => ?_))
      | exact ih0 _ _ _ _
      | exact ih1 _ _ _ _ _ _
      | exact ih2 _ _ _ _ _
      | exact lit_Has.mono _ _ _
      | exact LeO.none _
      | refine LeO.ite ?_ ?_
      | refine LeO.bind ?_ (fun _ => ?_)
    · intro y0 y1 y2 y3 y4
      unfold lit_Resolve.l1
      repeat' first
      | (with_reducible exact ih0 _ _ _ _)
      | (with_reducible exact ih1 _ _ _ _ _ _)
      | (with_reducible exact ih2 _ _ _ _ _)
      | (with_reducible exact lit_Has.mono _ _ _)
      | (with_reducible exact LeO.refl _)
      | (with_reducible exact LeO.none _)
      | (with_reducible refine LeO.ite ?_ ?_)
      | (with_reducible refine LeO.bind ?_ (fun _ => ?_))
      | exact ih0 _ _ _ _
      | exact ih1 _ _ _ _ _ _
      | exact ih2 _ _ _ _ _
      | exact lit_Has.mono _ _ _
      | exact LeO.none _
      | refine LeO.ite ?_ ?_
      | refine LeO.bind ?_ (fun _ => ?_)
theorem lit_Resolve.mono : ∀ a0 a1 a2 k, LeO (lit_Resolve.f k a0 a1 a2) (lit_Resolve.f (k + 1) a0 a1 a2) := by
  intro a0 a1 a2 k
  obtain ⟨ih0, ih1, ih2⟩ := lit_Resolve.mono_l k
  unfold lit_Resolve.f
  repeat' first
      | (with_reducible exact ih0 _ _ _ _)
      | (with_reducible exact ih1 _ _ _ _ _ _)
      | (with_reducible exact ih2 _ _ _ _ _)
      | (with_reducible exact lit_Has.mono _ _ _)
      | (with_reducible exact LeO.refl _)
      | (with_reducible exact LeO.none _)
      | (with_reducible refine LeO.ite ?_ ?_)
      | (with_reducible refine LeO.bind ?_ (fun _ => ?_))
      | exact ih0 _ _ _ _
      | exact ih1 _ _ _ _ _ _
      | exact ih2 _ _ _ _ _
      | exact lit_Has.mono _ _ _
      | exact LeO.none _
      | refine LeO.ite ?_ ?_
      | refine LeO.bind ?_ (fun _ => ?_)
set_option maxHeartbeats 8000000 in
set_option maxRecDepth 100000 in
theorem lit_Resolve.calls (k : Nat) (A0 : Option Addr) (c0 : Nat) (l0 : List Int) (A1 : Option Addr) (c1 : Nat) (l1 : List Int) (a2 : Int) (r1 : List Int) (r2 : Int) (w : World) (hr0 : Kd.C (Kd.int .i64) w A0 l0.length l0) (hc0 : l0.length ≤ c0) (hr1 : Kd.C (Kd.int .i64) w A1 l1.length l1) (hc1 : l1.length ≤ c1) (h : lit_Resolve.f k l0 l1 a2 = some (r1, r2)) :
    Calls Try.prog 14 #[.slice A0 l0.length c0, .slice A1 l1.length c1, .int .i64 a2] w fun e w' => ∃ v0_ : Value, e = .returned (.tuple #[v0_, .int .i64 r2]) ∧ Kd.R (Kd.int .i64) 3 w' w.heap.size (fun _ => True) v0_ r1 ∧ Below w.heap.size w w' := by
  have HR0 := Aside0.mk hr0
  have HC0 := Aside0.mk hc0
  clear hr0 hc0
  have HR1 := Aside0.mk hr1
  have HC1 := Aside0.mk hc1
  clear hr1 hc1
  have HB := Aside0.mk (Below.refl w.heap.size w)
  have H : ((lit_Has.f k l0 a2).bind fun t121 => (if t121 = true then ((lit_Has.f k l1 (wrap64 (-a2))).bind fun t122 => (lit_Resolve.j0 k l0 l1 a2 (!t122))) else (lit_Resolve.j0 k l0 l1 a2 true))) = some (r1, r2) := h
  clear h
  have HC4 := Aside0.mk H
  clear H
  go_enter Try.func14, Try.ntmps14
  go_upto_region 1 with (fail)
  go_cut [25] (fun v25 wc => ∃ (kq : Nat) (x25_3 : Bool), v25 = .bool x25_3 ∧ Aside0 (lit_Resolve.j0 kq l0 l1 a2 x25_3 = some (r1, r2)) ∧ Aside0 (kq ≤ k) ∧ Aside0 (Below w.heap.size w wc))
  case first =>
    have H := HC4.out
    clear HC4
    replace H := Option.bind_eq_some_iff.mp H
    obtain ⟨t121, A50, H⟩ := H
    replace H : (if t121 = true then ((lit_Has.f k l1 (wrap64 (-a2))).bind fun t122 => (lit_Resolve.j0 k l0 l1 a2 (!t122))) else (lit_Resolve.j0 k l0 l1 a2 true)) = some (r1, r2) := H
    have A5 := Aside0.mk A50
    clear A50
    by_cases c6 : t121 = true
    · subst c6
      have H1 : ((lit_Has.f k l1 (wrap64 (-a2))).bind fun t122 => (lit_Resolve.j0 k l0 l1 a2 (!t122))) = some (r1, r2) := by rw [if_pos rfl] at H; exact H
      clear H
      have H := H1
      clear H1
      replace H := Option.bind_eq_some_iff.mp H
      obtain ⟨t122, A70, H⟩ := H
      replace H : (lit_Resolve.j0 k l0 l1 a2 (!t122)) = some (r1, r2) := H
      have A7 := Aside0.mk A70
      clear A70
      as_aux_lemma =>
        have H' := Aside0.mk H
        clear H
        go_wp2_with (first | ((with_reducible refine gate_callee (f := 15) rfl ?_); refine goesL_ (some 17) rfl rfl Try.func15 (by kernel_rfl) rfl #[.slice A0 l0.length c0, .int .i64 a2] rfl (by (try simp only [List.map_toArray, List.map_cons, List.map_nil]); first | done | rfl | (simp only [List.length_drop, List.length_take]; rfl)) ?_; (with_reducible refine (lit_Has.calls k _ _ l0 a2 true _ ?side1 ?side2 A5.out).mono ?_); (case side1 => repeat (first | exact (Kd.C_below HR0.out HB.out) | (with_reducible refine Kd.C_alloc ?_ _) | (with_reducible refine Kd.C_drewN ?_ _) | (with_reducible refine Kd.C_drew ?_))); (case side2 => exact HC0.out); rintro e w' ⟨rfl, ⟨nd, rfl⟩⟩; refine ⟨_, rfl, ?_⟩) | (go_at_call 15; (with_reducible refine (lit_Has.calls k _ _ l1 (wrap64 (-a2)) t122 _ ?side1 ?side2 A7.out).mono ?_); (case side1 => repeat (first | exact (Kd.C_below HR1.out (by repeat (first | (with_reducible first | exact HB.out | apply below_alloc | apply pw_below_drewN | apply below_drew1) | exact HB.out))) | (with_reducible refine Kd.C_alloc ?_ _) | (with_reducible refine Kd.C_drewN ?_ _) | (with_reducible refine Kd.C_drew ?_))); (case side2 => exact HC1.out); rintro e w' ⟨rfl, ⟨nd, rfl⟩⟩))
        go_meet
        case rel => exact ⟨_, (!t122), (by first | rfl | (simp; done) | (simp [*]; done)), H', ⟨by first | omega | exact Nat.le_refl _⟩, ⟨by repeat (first | (with_reducible first | exact HB.out | apply below_alloc | apply pw_below_drewN | apply below_drew1) | exact HB.out)⟩⟩
    · replace c6 := Bool.eq_false_iff.mpr c6
      subst c6
      have H1 : (lit_Resolve.j0 k l0 l1 a2 true) = some (r1, r2) := by rw [if_neg (show ¬ (false = true) by decide)] at H; exact H
      clear H
      have H := H1
      clear H1
      as_aux_lemma =>
        have H' := Aside0.mk H
        clear H
        go_wp2_with (first | ((with_reducible refine gate_callee (f := 15) rfl ?_); refine goesL_ (some 17) rfl rfl Try.func15 (by kernel_rfl) rfl #[.slice A0 l0.length c0, .int .i64 a2] rfl (by (try simp only [List.map_toArray, List.map_cons, List.map_nil]); first | done | rfl | (simp only [List.length_drop, List.length_take]; rfl)) ?_; (with_reducible refine (lit_Has.calls k _ _ l0 a2 false _ ?side1 ?side2 A5.out).mono ?_); (case side1 => repeat (first | exact (Kd.C_below HR0.out HB.out) | (with_reducible refine Kd.C_alloc ?_ _) | (with_reducible refine Kd.C_drewN ?_ _) | (with_reducible refine Kd.C_drew ?_))); (case side2 => exact HC0.out); rintro e w' ⟨rfl, ⟨nd, rfl⟩⟩; refine ⟨_, rfl, ?_⟩))
        go_meet
        case rel => exact ⟨_, (true), (by first | rfl | (simp; done) | (simp [*]; done)), H', ⟨by first | omega | exact Nat.le_refl _⟩, ⟨by repeat (first | (with_reducible first | exact HB.out | apply below_alloc | apply pw_below_drewN | apply below_drew1) | exact HB.out)⟩⟩
  case rest =>
    clear HC4
    try clear c1
    try clear p2
    try clear c6
    try clear p6
    obtain ⟨kq, x25_3, rfl, HA, HJ3, HB⟩ := hcut
    cases kq with
    | zero => exact absurd HA.out (by simp [lit_Resolve.j0])
    | succ kj3 =>
      have H := HA.out
      clear HA
      simp only [lit_Resolve.j0] at H
      by_cases c8 : x25_3 = true
      · subst c8
        have H1 : (some (([] : List Int), 1)) = some (r1, r2) := by rw [if_pos rfl] at H; exact H
        clear H
        have H := H1
        clear H1
        as_aux_lemma =>
          simp only [Option.some.injEq, Prod.mk.injEq] at H
          obtain ⟨rfl, rfl⟩ := H
          go_wp2
          go_ret2
          exact ⟨_, by first | rfl | (simp [errW_none, errW_some] <;> rfl) | (simp [*, errW_none, errW_some] <;> rfl), by first | exact Kd.R_nil _ _ _ _ _ | exact Kd.N_nil _ _ _ _ _ | exact Kd.V_nil _ _ _ _ _ | exact Kd.Q_nil _ _ _ _ _ | exact Kd.S_nil _ _ _ _ _, by repeat (first | (with_reducible first | exact HB.out | apply below_alloc | apply pw_below_drewN | apply below_drew1) | exact HB.out)⟩
      · replace c8 := Bool.eq_false_iff.mpr c8
        subst c8
        have H1 : (lit_Resolve.l0 kj3 l1 a2 ([] : List Int) l0 (l0.length : Int) 0) = some (r1, r2) := by rw [if_neg (show ¬ (false = true) by decide)] at H; exact H
        clear H
        have H := H1
        clear H1
        have H' := Aside0.mk H
        clear H
        go_wp2
        go_loopg [8, 28] kj3 (fun kq v8 v28 w' => ∃ (x8_2 : List Int) (x28_2 : Int), v28 = .int .i64 x28_2 ∧ Aside0 (lit_Resolve.l0 kq l1 a2 x8_2 l0 (l0.length : Int) x28_2 = some (r1, r2)) ∧ Aside0 (kq ≤ kj3) ∧ Aside0 (Kd.R (Kd.int .i64) 3 w' w.heap.size (fun _ => True) v8 x8_2) ∧ Aside0 (Below w.heap.size w w'))
        case atStart => exact ⟨(([] : List Int)), (0), (by first | rfl | (simp; done) | (simp [*]; done)), H', ⟨Nat.le_refl _⟩, ⟨by first | exact Kd.R_nil _ _ _ _ _ | exact Kd.N_nil _ _ _ _ _ | exact Kd.V_nil _ _ _ _ _ | exact Kd.Q_nil _ _ _ _ _ | exact Kd.S_nil _ _ _ _ _⟩, ⟨by repeat (first | (with_reducible first | exact HB.out | apply below_alloc | apply pw_below_drewN | apply below_drew1) | exact HB.out)⟩⟩
        case round =>
          clear H'
          try clear c1
          try clear p2
          try clear c6
          try clear p6
          try clear c8
          try clear p2
          try clear p6
          obtain ⟨x8_2, x28_2, rfl, HA, HK2, HO_8, HB⟩ := hrel
          cases gk with
          | zero => exact absurd HA.out (by simp [lit_Resolve.l0])
          | succ k2 =>
            have H := HA.out
            clear HA
            simp only [lit_Resolve.l0] at H
            by_cases c9 : x28_2 < (l0.length : Int)
            · rw [if_pos c9] at H
              have c9b0 : decide (x28_2 < (l0.length : Int)) = true := decide_eq_true c9
              clear c9
              by_cases c10 : 0 ≤ x28_2
              · rw [if_pos c10] at H
                have c10b0 : decide (0 ≤ x28_2) = true := decide_eq_true c10
                clear c10
                by_cases c11 : x28_2 < (l0.length : Int)
                · rw [if_pos c11] at H
                  have c11b0 : decide (x28_2 < (l0.length : Int)) = true := decide_eq_true c11
                  clear c11
                  by_cases c12 : (rd l0 x28_2) = a2
                  · rw [if_pos c12] at H
                    have c12b0 : ((rd l0 x28_2) == a2) = true := beq_iff_eq.mpr c12
                    have c12b1 : ((rd l0 x28_2) != a2) = false := bne_eq_false_iff_eq.mpr c12
                    clear c12
                    as_aux_lemma =>
                      have H' := Aside0.mk H
                      clear H
                      have p123 : 0 ≤ (x28_2 : Int) := of_decide_eq_true (by first | (with_reducible assumption) | assumption)
                      have q123 : x28_2 < (l0.length : Int) := of_decide_eq_true (by first | (with_reducible assumption) | assumption)
                      obtain ⟨ad123, e123, hx123_0⟩ := Kd.at_int HR0.out x28_2 p123 q123
                      cases e123
                      replace hx123_0 := (HB.out.cell (World.block_lt_of_cell? w _ hx123_0)).trans hx123_0
                      replace p123 := eq_true p123
                      replace q123 := eq_true q123
                      go_wp2
                      go_roundg k2
                      case measure => have := HJ3.out; have := HK2.out; omega
                      case rel => exact ⟨(x8_2), (wrap64 (x28_2 + 1)), (by first | rfl | (simp; done) | (simp [*]; done)), H', ⟨by have := HJ3.out; have := HK2.out; omega⟩, ⟨by (with_reducible repeat (first | apply Kd.R_alloc | apply Kd.R_drewN | apply Kd.R_drew)); exact HO_8.out⟩, ⟨by repeat (first | (with_reducible first | exact HB.out | apply below_alloc | apply pw_below_drewN | apply below_drew1) | exact HB.out)⟩⟩
                  · rw [if_neg c12] at H
                    have c12b0 : ((rd l0 x28_2) == a2) = false := beq_eq_false_iff_ne.mpr c12
                    have c12b1 : ((rd l0 x28_2) != a2) = true := bne_iff_ne.mpr c12
                    by_cases c13 : x8_2.length < 17592186044416
                    · rw [if_pos c13] at H
                      have LMc13 := Aside0.mk c13
                      clear c13
                      obtain ⟨y124, hy124⟩ : ∃ y_ : List Int, y_ = (x8_2 ++ [rd l0 x28_2]) := ⟨_, rfl⟩
                      replace H : (lit_Resolve.l0 k2 l1 a2 y124 l0 (l0.length : Int) (wrap64 (x28_2 + 1))) = some (r1, r2) := by first | (rw [hy124]; with_reducible exact H) | (have H2_ := (Option.bind_some _ _).symm.trans H; rw [hy124]; with_reducible exact H2_) | (have H2_ := (Option.bind_some _ _).symm.trans H; with_reducible exact H2_) | with_reducible exact H | (rw [hy124]; exact H) | exact H
                      have Ny124 := Aside0.mk hy124
                      clear hy124
                      as_aux_lemma =>
                        have H' := Aside0.mk H
                        clear H
                        have p123 : 0 ≤ (x28_2 : Int) := of_decide_eq_true (by first | (with_reducible assumption) | assumption)
                        have q123 : x28_2 < (l0.length : Int) := of_decide_eq_true (by first | (with_reducible assumption) | assumption)
                        obtain ⟨ad123, e123, hx123_0⟩ := Kd.at_int HR0.out x28_2 p123 q123
                        cases e123
                        replace hx123_0 := (HB.out.cell (World.block_lt_of_cell? w _ hx123_0)).trans hx123_0
                        replace p123 := eq_true p123
                        replace q123 := eq_true q123
                        go_wp2_with (first | ((with_reducible refine gate_builtin (b := .append) (xs := #[.tmp 35, .tmp 37]) rfl ?_); at_builtin; refine Kd.R_append (Kd.int .i64) (w0 := w) w.heap.size rfl (.tmp 35) (.tmp 37) 22 3 (.int .i64 0) 8 rfl Try.underlying22 info3 rfl (by decide) (by omega) u8 x8_2 (rd l0 x28_2) [.int .i64 (rd l0 x28_2)] (fun _ => True) (fun _ => False) rfl rfl ?aP (fun _ hk => hk.elim) ?aF ?aO ?aB ?aS ?aL ?_; (case aP => exact rfl); (case aB => exact (by repeat (first | (with_reducible first | exact HB.out | apply below_alloc | apply pw_below_drewN | apply below_drew1) | exact HB.out))); (case aF => exact (fun _ _ => trivial)); (case aO => exact (by (with_reducible repeat (first | apply Kd.R_alloc | apply Kd.R_drewN | apply Kd.R_drew)); exact HO_8.out)); (case aS => exact (below_size (by repeat (first | (with_reducible first | exact HB.out | apply below_alloc | apply pw_below_drewN | apply below_drew1) | exact HB.out)))); (case aL => have := LMc13.out; omega); intro v125 w14 ho hb hg hat; rw [← Ny124.out] at ho; have n0_ := Aside0.mk (hb); have n1_ := Aside0.mk (ho); clear HB; clear HO_8; have HB := n0_; have HO126 := n1_; clear n0_ n1_; clear ho hb hg hat))
                        go_roundg k2
                        case measure => have := HJ3.out; have := HK2.out; omega
                        case rel => exact ⟨(y124), (wrap64 (x28_2 + 1)), (by first | rfl | (simp; done) | (simp [*]; done)), H', ⟨by have := HJ3.out; have := HK2.out; omega⟩, ⟨by (with_reducible repeat (first | apply Kd.R_alloc | apply Kd.R_drewN | apply Kd.R_drew)); exact HO126.out⟩, ⟨by repeat (first | (with_reducible first | exact HB.out | apply below_alloc | apply pw_below_drewN | apply below_drew1) | exact HB.out)⟩⟩
                    · rw [if_neg c13] at H
                      exact absurd H (by simp)
                · rw [if_neg c11] at H
                  exact absurd H (by simp)
              · rw [if_neg c10] at H
                exact absurd H (by simp)
            · rw [if_neg c9] at H
              have c9b0 : decide (x28_2 < (l0.length : Int)) = false := decide_eq_false c9
              clear c9
              have H' := Aside0.mk H
              clear H
              go_wp2
              go_loopg [8, 42] k2 (fun kq v8 v42 w' => ∃ (x8_3 : List Int) (x42_3 : Int), v42 = .int .i64 x42_3 ∧ Aside0 (lit_Resolve.l1 kq a2 x8_3 l1 (l1.length : Int) x42_3 = some (r1, r2)) ∧ Aside0 (kq ≤ k2) ∧ Aside0 (Kd.R (Kd.int .i64) 3 w' w.heap.size (fun _ => True) v8 x8_3) ∧ Aside0 (Below w.heap.size w w'))
              case atStart => exact ⟨(x8_2), (0), (by first | rfl | (simp; done) | (simp [*]; done)), H', ⟨Nat.le_refl _⟩, ⟨by (with_reducible repeat (first | apply Kd.R_alloc | apply Kd.R_drewN | apply Kd.R_drew)); exact HO_8.out⟩, ⟨by repeat (first | (with_reducible first | exact HB.out | apply below_alloc | apply pw_below_drewN | apply below_drew1) | exact HB.out)⟩⟩
              case round =>
                clear H'
                try clear c1
                try clear p1
                try clear q1
                try clear hx1
                try clear p2
                try clear c6
                try clear p6
                try clear c8
                try clear c9
                try clear c9b0
                try clear c10
                try clear c10b0
                try clear c11
                try clear c11b0
                try clear c12
                try clear c12b0
                try clear c12b1
                try clear p12
                try clear q12
                try clear hx12
                try clear c13
                try clear c14
                try clear hx123_0
                try clear p123
                try clear p2
                try clear p6
                try clear q123
                obtain ⟨x8_3, x42_3, rfl, HA, HK3, HO_8, HB⟩ := hrel
                cases gk with
                | zero => exact absurd HA.out (by simp [lit_Resolve.l1])
                | succ k3 =>
                  have H := HA.out
                  clear HA
                  simp only [lit_Resolve.l1] at H
                  by_cases c15 : x42_3 < (l1.length : Int)
                  · rw [if_pos c15] at H
                    have c15b0 : decide (x42_3 < (l1.length : Int)) = true := decide_eq_true c15
                    clear c15
                    by_cases c16 : 0 ≤ x42_3
                    · rw [if_pos c16] at H
                      have c16b0 : decide (0 ≤ x42_3) = true := decide_eq_true c16
                      clear c16
                      by_cases c17 : x42_3 < (l1.length : Int)
                      · rw [if_pos c17] at H
                        have c17b0 : decide (x42_3 < (l1.length : Int)) = true := decide_eq_true c17
                        clear c17
                        by_cases c18 : (rd l1 x42_3) = (wrap64 (-a2))
                        · rw [if_pos c18] at H
                          have c18b0 : ((rd l1 x42_3) == (wrap64 (-a2))) = true := beq_iff_eq.mpr c18
                          have c18b1 : ((rd l1 x42_3) != (wrap64 (-a2))) = false := bne_eq_false_iff_eq.mpr c18
                          clear c18
                          as_aux_lemma =>
                            have H' := Aside0.mk H
                            clear H
                            have p127 : 0 ≤ (x42_3 : Int) := of_decide_eq_true (by first | (with_reducible assumption) | assumption)
                            have q127 : x42_3 < (l1.length : Int) := of_decide_eq_true (by first | (with_reducible assumption) | assumption)
                            obtain ⟨ad127, e127, hx127_0⟩ := Kd.at_int HR1.out x42_3 p127 q127
                            cases e127
                            replace hx127_0 := (HB.out.cell (World.block_lt_of_cell? w _ hx127_0)).trans hx127_0
                            replace p127 := eq_true p127
                            replace q127 := eq_true q127
                            go_wp2
                            go_roundg k3
                            case measure => have := HJ3.out; have := HK2.out; have := HK3.out; omega
                            case rel => exact ⟨(x8_3), (wrap64 (x42_3 + 1)), (by first | rfl | (simp; done) | (simp [*]; done)), H', ⟨by have := HJ3.out; have := HK2.out; have := HK3.out; omega⟩, ⟨by (with_reducible repeat (first | apply Kd.R_alloc | apply Kd.R_drewN | apply Kd.R_drew)); exact HO_8.out⟩, ⟨by repeat (first | (with_reducible first | exact HB.out | apply below_alloc | apply pw_below_drewN | apply below_drew1) | exact HB.out)⟩⟩
                        · rw [if_neg c18] at H
                          have c18b0 : ((rd l1 x42_3) == (wrap64 (-a2))) = false := beq_eq_false_iff_ne.mpr c18
                          have c18b1 : ((rd l1 x42_3) != (wrap64 (-a2))) = true := bne_iff_ne.mpr c18
                          by_cases c19 : x8_3.length < 17592186044416
                          · rw [if_pos c19] at H
                            have LMc19 := Aside0.mk c19
                            clear c19
                            obtain ⟨y128, hy128⟩ : ∃ y_ : List Int, y_ = (x8_3 ++ [rd l1 x42_3]) := ⟨_, rfl⟩
                            replace H : (lit_Resolve.l1 k3 a2 y128 l1 (l1.length : Int) (wrap64 (x42_3 + 1))) = some (r1, r2) := by first | (rw [hy128]; with_reducible exact H) | (have H2_ := (Option.bind_some _ _).symm.trans H; rw [hy128]; with_reducible exact H2_) | (have H2_ := (Option.bind_some _ _).symm.trans H; with_reducible exact H2_) | with_reducible exact H | (rw [hy128]; exact H) | exact H
                            have Ny128 := Aside0.mk hy128
                            clear hy128
                            as_aux_lemma =>
                              have H' := Aside0.mk H
                              clear H
                              have p127 : 0 ≤ (x42_3 : Int) := of_decide_eq_true (by first | (with_reducible assumption) | assumption)
                              have q127 : x42_3 < (l1.length : Int) := of_decide_eq_true (by first | (with_reducible assumption) | assumption)
                              obtain ⟨ad127, e127, hx127_0⟩ := Kd.at_int HR1.out x42_3 p127 q127
                              cases e127
                              replace hx127_0 := (HB.out.cell (World.block_lt_of_cell? w _ hx127_0)).trans hx127_0
                              replace p127 := eq_true p127
                              replace q127 := eq_true q127
                              go_wp2_with (first | ((with_reducible refine gate_builtin (b := .append) (xs := #[.tmp 50, .tmp 52]) rfl ?_); at_builtin; refine Kd.R_append (Kd.int .i64) (w0 := w) w.heap.size rfl (.tmp 50) (.tmp 52) 22 3 (.int .i64 0) 8 rfl Try.underlying22 info3 rfl (by decide) (by omega) u8 x8_3 (rd l1 x42_3) [.int .i64 (rd l1 x42_3)] (fun _ => True) (fun _ => False) rfl rfl ?aP (fun _ hk => hk.elim) ?aF ?aO ?aB ?aS ?aL ?_; (case aP => exact rfl); (case aB => exact (by repeat (first | (with_reducible first | exact HB.out | apply below_alloc | apply pw_below_drewN | apply below_drew1) | exact HB.out))); (case aF => exact (fun _ _ => trivial)); (case aO => exact (by (with_reducible repeat (first | apply Kd.R_alloc | apply Kd.R_drewN | apply Kd.R_drew)); exact HO_8.out)); (case aS => exact (below_size (by repeat (first | (with_reducible first | exact HB.out | apply below_alloc | apply pw_below_drewN | apply below_drew1) | exact HB.out)))); (case aL => have := LMc19.out; omega); intro v129 w20 ho hb hg hat; rw [← Ny128.out] at ho; have n0_ := Aside0.mk (hb); have n1_ := Aside0.mk (ho); clear HB; clear HO_8; have HB := n0_; have HO130 := n1_; clear n0_ n1_; clear ho hb hg hat))
                              go_roundg k3
                              case measure => have := HJ3.out; have := HK2.out; have := HK3.out; omega
                              case rel => exact ⟨(y128), (wrap64 (x42_3 + 1)), (by first | rfl | (simp; done) | (simp [*]; done)), H', ⟨by have := HJ3.out; have := HK2.out; have := HK3.out; omega⟩, ⟨by (with_reducible repeat (first | apply Kd.R_alloc | apply Kd.R_drewN | apply Kd.R_drew)); exact HO130.out⟩, ⟨by repeat (first | (with_reducible first | exact HB.out | apply below_alloc | apply pw_below_drewN | apply below_drew1) | exact HB.out)⟩⟩
                          · rw [if_neg c19] at H
                            exact absurd H (by simp)
                      · rw [if_neg c17] at H
                        exact absurd H (by simp)
                    · rw [if_neg c16] at H
                      exact absurd H (by simp)
                  · rw [if_neg c15] at H
                    have c15b0 : decide (x42_3 < (l1.length : Int)) = false := decide_eq_false c15
                    clear c15
                    replace H := Option.bind_eq_some_iff.mp H
                    obtain ⟨⟨t131, t132⟩, A210, H⟩ := H
                    replace H : (if t132 = true then (some (t131, 0)) else (some (([] : List Int), 4))) = some (r1, r2) := H
                    have A21 := Aside0.mk A210
                    clear A210
                    by_cases c22 : t132 = true
                    · subst c22
                      have H1 : (some (t131, 0)) = some (r1, r2) := by rw [if_pos rfl] at H; exact H
                      clear H
                      have H := H1
                      clear H1
                      as_aux_lemma =>
                        simp only [Option.some.injEq, Prod.mk.injEq] at H
                        obtain ⟨rfl, rfl⟩ := H
                        obtain ⟨Ao23, co23, eo23⟩ := Kd.R_slice HO_8.out
                        subst eo23
                        go_wp2_with (first | ((with_reducible refine gate_callee (f := 17) rfl ?_); refine goesL_ (some 57) rfl rfl Try.func17 (by kernel_rfl) rfl #[.slice Ao23 x8_3.length co23] rfl (by (try simp only [List.map_toArray, List.map_cons, List.map_nil]); first | done | rfl | (simp only [List.length_drop, List.length_take]; rfl)) ?_; (with_reducible refine (lit_Clean.calls _ _ x8_3 t131 true _ ?side1 ?side2 A21.out).mono ?_); (case side1 => repeat (first | exact (Kd.R_reads' HO_8.out).2.2 | (with_reducible refine Kd.C_alloc ?_ _) | (with_reducible refine Kd.C_drewN ?_ _) | (with_reducible refine Kd.C_drew ?_))); (case side2 => exact (Kd.R_reads' HO_8.out).2.1); rintro e w24 ⟨v133, rfl, ho0, hb⟩; refine ⟨_, rfl, ?_⟩; have n0_ := Aside0.mk (Kd.R_elder' (by (with_reducible repeat (first | apply Kd.R_alloc | apply Kd.R_drewN | apply Kd.R_drew)); exact HO_8.out) (Kd.R_base ho0) hb); have n1_ := Aside0.mk (Kd.R_lower (Kd.R_new' ho0 (Kd.R_lt (by (with_reducible repeat (first | apply Kd.R_alloc | apply Kd.R_drewN | apply Kd.R_drew)); exact HO_8.out))) (below_size (by repeat (first | (with_reducible first | exact HB.out | apply below_alloc | apply pw_below_drewN | apply below_drew1) | exact HB.out)))); have n2_ := Aside0.mk (below_step (by repeat (first | (with_reducible first | exact HB.out | apply below_alloc | apply pw_below_drewN | apply below_drew1) | exact HB.out)) hb); clear HO_8; clear HB; have HO_8 := n0_; have HO134 := n1_; have HB := n2_; clear n0_ n1_ n2_; (try clear hb); (try clear hb2); (try clear hk); (try clear hi); (try clear ho0)))
                        go_ret2
                        exact ⟨_, by first | rfl | (simp [errW_none, errW_some] <;> rfl) | (simp [*, errW_none, errW_some] <;> rfl), by (with_reducible repeat (first | apply Kd.R_alloc | apply Kd.R_drewN | apply Kd.R_drew)); exact Kd.R_mono HO134.out (fun _ hk => trivial), by repeat (first | (with_reducible first | exact HB.out | apply below_alloc | apply pw_below_drewN | apply below_drew1) | exact HB.out)⟩
                    · replace c22 := Bool.eq_false_iff.mpr c22
                      subst c22
                      have H1 : (some (([] : List Int), 4)) = some (r1, r2) := by rw [if_neg (show ¬ (false = true) by decide)] at H; exact H
                      clear H
                      have H := H1
                      clear H1
                      as_aux_lemma =>
                        simp only [Option.some.injEq, Prod.mk.injEq] at H
                        obtain ⟨rfl, rfl⟩ := H
                        obtain ⟨Ao25, co25, eo25⟩ := Kd.R_slice HO_8.out
                        subst eo25
                        go_wp2_with (first | ((with_reducible refine gate_callee (f := 17) rfl ?_); refine goesL_ (some 57) rfl rfl Try.func17 (by kernel_rfl) rfl #[.slice Ao25 x8_3.length co25] rfl (by (try simp only [List.map_toArray, List.map_cons, List.map_nil]); first | done | rfl | (simp only [List.length_drop, List.length_take]; rfl)) ?_; (with_reducible refine (lit_Clean.calls _ _ x8_3 t131 false _ ?side1 ?side2 A21.out).mono ?_); (case side1 => repeat (first | exact (Kd.R_reads' HO_8.out).2.2 | (with_reducible refine Kd.C_alloc ?_ _) | (with_reducible refine Kd.C_drewN ?_ _) | (with_reducible refine Kd.C_drew ?_))); (case side2 => exact (Kd.R_reads' HO_8.out).2.1); rintro e w26 ⟨v133, rfl, ho0, hb⟩; refine ⟨_, rfl, ?_⟩; have n0_ := Aside0.mk (Kd.R_elder' (by (with_reducible repeat (first | apply Kd.R_alloc | apply Kd.R_drewN | apply Kd.R_drew)); exact HO_8.out) (Kd.R_base ho0) hb); have n1_ := Aside0.mk (Kd.R_lower (Kd.R_new' ho0 (Kd.R_lt (by (with_reducible repeat (first | apply Kd.R_alloc | apply Kd.R_drewN | apply Kd.R_drew)); exact HO_8.out))) (below_size (by repeat (first | (with_reducible first | exact HB.out | apply below_alloc | apply pw_below_drewN | apply below_drew1) | exact HB.out)))); have n2_ := Aside0.mk (below_step (by repeat (first | (with_reducible first | exact HB.out | apply below_alloc | apply pw_below_drewN | apply below_drew1) | exact HB.out)) hb); clear HO_8; clear HB; have HO_8 := n0_; have HO134 := n1_; have HB := n2_; clear n0_ n1_ n2_; (try clear hb); (try clear hb2); (try clear hk); (try clear hi); (try clear ho0)))
                        go_ret2
                        exact ⟨_, by first | rfl | (simp [errW_none, errW_some] <;> rfl) | (simp [*, errW_none, errW_some] <;> rfl), by first | exact Kd.R_nil _ _ _ _ _ | exact Kd.N_nil _ _ _ _ _ | exact Kd.V_nil _ _ _ _ _ | exact Kd.Q_nil _ _ _ _ _ | exact Kd.S_nil _ _ _ _ _, by repeat (first | (with_reducible first | exact HB.out | apply below_alloc | apply pw_below_drewN | apply below_drew1) | exact HB.out)⟩

end Go.Proofs.Ytmihgbjfiigmlaa.P

-- Printed by wip/tools/pp.py of this claim's session (over the kit's print.py); Lean checks it.
namespace Go.Proofs.Ytmihgbjfiigmlaa.P
open Go.RowKit Go.Proofs.YtmihgbjfiigmlaaW.PrintWords Go.Proofs.YtmihgbjfiigmlaaW.PrintLast Go.Proofs.YtmihgbjfiigmlaaW.PrintMore
attribute [local go_sem] max2_int min2_int max_two min_two max_three min_three max_four min_four   -- for this text's walks alone
set_option linter.unusedVariables false
set_option linter.unusedSimpArgs false

/-! ### lit_Right: function 19 -/
def lit_Right.l0 : Nat → Int → List Int → Int → Int → Option (Int)
  | 0, _, _, _, _ => none
  | k + 1, x1, x10, x11, x12 => if x12 < x11 then (if 0 ≤ x12 then (if x12 < (x10.length : Int) then ((lit_is.f (rd x10 x12)).bind fun t240 => (if t240 = true then ((lit_variable.f (rd x10 x12)).bind fun t241 => (if t241 > x1 then (some 1) else (lit_Right.l0 k x1 x10 x11 (wrap64 (x12 + 1))))) else (some 1))) else (none)) else (none)) else (some 0)
def lit_Right.f (k : Nat) (l0 : List Int) (a1 : Int) : Option (Int) := if (l0.length : Int) > 64 then (some 2) else (lit_Right.l0 k a1 l0 (l0.length : Int) 0)
theorem lit_Right.mono_l : ∀ k, (∀ y0 y1 y2 y3, LeO (lit_Right.l0 k y0 y1 y2 y3) (lit_Right.l0 (k + 1) y0 y1 y2 y3))
  | 0 => fun _ _ _ _ r h => by simp [lit_Right.l0] at h
  | k + 1 => by
    have ih0 := lit_Right.mono_l k
    · intro y0 y1 y2 y3
      unfold lit_Right.l0
      repeat' first
      | (with_reducible exact ih0 _ _ _ _)
      | (with_reducible exact LeO.refl _)
      | (with_reducible exact LeO.none _)
      | (with_reducible refine LeO.ite ?_ ?_)
      | (with_reducible refine LeO.bind ?_ (fun _ => ?_))
      | exact ih0 _ _ _ _
      | exact LeO.none _
      | refine LeO.ite ?_ ?_
      | refine LeO.bind ?_ (fun _ => ?_)
theorem lit_Right.mono : ∀ a0 a1 k, LeO (lit_Right.f k a0 a1) (lit_Right.f (k + 1) a0 a1) := by
  intro a0 a1 k
  have ih0 := lit_Right.mono_l k
  unfold lit_Right.f
  repeat' first
      | (with_reducible exact ih0 _ _ _ _)
      | (with_reducible exact LeO.refl _)
      | (with_reducible exact LeO.none _)
      | (with_reducible refine LeO.ite ?_ ?_)
      | (with_reducible refine LeO.bind ?_ (fun _ => ?_))
      | exact ih0 _ _ _ _
      | exact LeO.none _
      | refine LeO.ite ?_ ?_
      | refine LeO.bind ?_ (fun _ => ?_)
set_option maxHeartbeats 8000000 in
set_option maxRecDepth 100000 in
theorem lit_Right.calls (k : Nat) (A0 : Option Addr) (c0 : Nat) (l0 : List Int) (a1 : Int) (r : Int) (w : World) (hr0 : Kd.C (Kd.int .i64) w A0 l0.length l0) (hc0 : l0.length ≤ c0) (h : lit_Right.f k l0 a1 = some r) :
    Calls Try.prog 19 #[.slice A0 l0.length c0, .int .i64 a1] w fun e w' => e = .returned (.int .i64 r) ∧ Drawn0 w w' := by
  have HR0 := Aside0.mk hr0
  have HC0 := Aside0.mk hc0
  clear hr0 hc0
  have H : (if (l0.length : Int) > 64 then (some 2) else (lit_Right.l0 k a1 l0 (l0.length : Int) 0)) = some r := h
  clear h
  by_cases c3 : (l0.length : Int) > 64
  · rw [if_pos c3] at H
    have c3b0 : decide (64 < (l0.length : Int)) = true := decide_eq_true c3
    have c3b1 : decide (64 < l0.length) = true := decide_eq_true (by omega)
    clear c3
    as_aux_lemma =>
      obtain rfl := Option.some.inj H
      go_enter Try.func19, Try.ntmps19
      go_wp2
      go_ret
      exact ⟨by first | rfl | (simp; done) | (simp [*]; done), by repeat (first | exact Drawn0.refl _ | apply Drawn0.step)⟩
  · rw [if_neg c3] at H
    have c3b0 : decide (64 < (l0.length : Int)) = false := decide_eq_false c3
    have c3b1 : decide (64 < l0.length) = false := decide_eq_false (by omega)
    clear c3
    have H' := Aside0.mk H
    clear H
    go_enter Try.func19, Try.ntmps19
    go_wp2
    go_loopg [12] k (fun kq v12 w' => ∃ (x12_1 : Int), v12 = .int .i64 x12_1 ∧ Aside0 (lit_Right.l0 kq a1 l0 (l0.length : Int) x12_1 = some r) ∧ Aside0 (kq ≤ k) ∧ Drawn0 w w')
    case atStart => exact ⟨(0), (by first | rfl | (simp; done) | (simp [*]; done)), H', ⟨Nat.le_refl _⟩, by repeat (first | exact Drawn0.refl _ | apply Drawn0.step)⟩
    case round =>
      clear H'
      try clear c1
      try clear p2
      try clear c3
      try clear c3b0
      try clear c3b1
      obtain ⟨x12_1, rfl, HA, HK1, ⟨m1, rfl⟩⟩ := hrel
      cases gk with
      | zero => exact absurd HA.out (by simp [lit_Right.l0])
      | succ k1 =>
        have H := HA.out
        clear HA
        simp only [lit_Right.l0] at H
        by_cases c4 : x12_1 < (l0.length : Int)
        · rw [if_pos c4] at H
          have c4b0 : decide (x12_1 < (l0.length : Int)) = true := decide_eq_true c4
          clear c4
          by_cases c5 : 0 ≤ x12_1
          · rw [if_pos c5] at H
            have c5b0 : decide (0 ≤ x12_1) = true := decide_eq_true c5
            clear c5
            by_cases c6 : x12_1 < (l0.length : Int)
            · rw [if_pos c6] at H
              have c6b0 : decide (x12_1 < (l0.length : Int)) = true := decide_eq_true c6
              clear c6
              replace H := Option.bind_eq_some_iff.mp H
              obtain ⟨t240, A70, H⟩ := H
              replace H : (if t240 = true then ((lit_variable.f (rd l0 x12_1)).bind fun t241 => (if t241 > a1 then (some 1) else (lit_Right.l0 k1 a1 l0 (l0.length : Int) (wrap64 (x12_1 + 1))))) else (some 1)) = some r := H
              have A7 := Aside0.mk A70
              clear A70
              by_cases c8 : t240 = true
              · subst c8
                have H1 : ((lit_variable.f (rd l0 x12_1)).bind fun t241 => (if t241 > a1 then (some 1) else (lit_Right.l0 k1 a1 l0 (l0.length : Int) (wrap64 (x12_1 + 1))))) = some r := by rw [if_pos rfl] at H; exact H
                clear H
                have H := H1
                clear H1
                replace H := Option.bind_eq_some_iff.mp H
                obtain ⟨t241, A90, H⟩ := H
                replace H : (if t241 > a1 then (some 1) else (lit_Right.l0 k1 a1 l0 (l0.length : Int) (wrap64 (x12_1 + 1)))) = some r := H
                have A9 := Aside0.mk A90
                clear A90
                by_cases c10 : t241 > a1
                · rw [if_pos c10] at H
                  have c10b0 : decide (a1 < t241) = true := decide_eq_true c10
                  clear c10
                  as_aux_lemma =>
                    obtain rfl := Option.some.inj H
                    have p239 : 0 ≤ (x12_1 : Int) := of_decide_eq_true (by first | (with_reducible assumption) | assumption)
                    have q239 : x12_1 < (l0.length : Int) := of_decide_eq_true (by first | (with_reducible assumption) | assumption)
                    obtain ⟨ad239, e239, hx239_0⟩ := Kd.at_int HR0.out x12_1 p239 q239
                    cases e239
                    replace p239 := eq_true p239
                    replace q239 := eq_true q239
                    go_wp2_with (first | ((with_reducible refine gate_callee (f := 49) rfl ?_); refine goesL_ (some 17) rfl rfl Try.func49 (by kernel_rfl) rfl #[.int .i64 (rd l0 x12_1)] rfl (by (try simp only [List.map_toArray, List.map_cons, List.map_nil]); first | done | rfl | (simp only [List.length_drop, List.length_take]; rfl)) ?_; (with_reducible refine (lit_is.calls (rd l0 x12_1) true _ A7.out).mono ?_); rintro e w' ⟨rfl, ⟨nd, rfl⟩⟩; refine ⟨_, rfl, ?_⟩) | (go_at_call 55; (with_reducible refine (lit_variable.calls (rd l0 x12_1) t241 _ A9.out).mono ?_); rintro e w' ⟨rfl, ⟨nd, rfl⟩⟩))
                    go_ret
                    exact ⟨by first | rfl | (simp; done) | (simp [*]; done), by repeat (first | exact Drawn0.refl _ | apply Drawn0.step)⟩
                · rw [if_neg c10] at H
                  have c10b0 : decide (a1 < t241) = false := decide_eq_false c10
                  clear c10
                  as_aux_lemma =>
                    have H' := Aside0.mk H
                    clear H
                    have p239 : 0 ≤ (x12_1 : Int) := of_decide_eq_true (by first | (with_reducible assumption) | assumption)
                    have q239 : x12_1 < (l0.length : Int) := of_decide_eq_true (by first | (with_reducible assumption) | assumption)
                    obtain ⟨ad239, e239, hx239_0⟩ := Kd.at_int HR0.out x12_1 p239 q239
                    cases e239
                    replace p239 := eq_true p239
                    replace q239 := eq_true q239
                    go_wp2_with (first | ((with_reducible refine gate_callee (f := 49) rfl ?_); refine goesL_ (some 17) rfl rfl Try.func49 (by kernel_rfl) rfl #[.int .i64 (rd l0 x12_1)] rfl (by (try simp only [List.map_toArray, List.map_cons, List.map_nil]); first | done | rfl | (simp only [List.length_drop, List.length_take]; rfl)) ?_; (with_reducible refine (lit_is.calls (rd l0 x12_1) true _ A7.out).mono ?_); rintro e w' ⟨rfl, ⟨nd, rfl⟩⟩; refine ⟨_, rfl, ?_⟩) | (go_at_call 55; (with_reducible refine (lit_variable.calls (rd l0 x12_1) t241 _ A9.out).mono ?_); rintro e w' ⟨rfl, ⟨nd, rfl⟩⟩))
                    go_roundg k1
                    case measure => have := HK1.out; omega
                    case rel => exact ⟨(wrap64 (x12_1 + 1)), (by first | rfl | (simp; done) | (simp [*]; done)), H', ⟨by have := HK1.out; omega⟩, by repeat (first | exact Drawn0.refl _ | apply Drawn0.step)⟩
              · replace c8 := Bool.eq_false_iff.mpr c8
                subst c8
                have H1 : (some 1) = some r := by rw [if_neg (show ¬ (false = true) by decide)] at H; exact H
                clear H
                have H := H1
                clear H1
                as_aux_lemma =>
                  obtain rfl := Option.some.inj H
                  have p239 : 0 ≤ (x12_1 : Int) := of_decide_eq_true (by first | (with_reducible assumption) | assumption)
                  have q239 : x12_1 < (l0.length : Int) := of_decide_eq_true (by first | (with_reducible assumption) | assumption)
                  obtain ⟨ad239, e239, hx239_0⟩ := Kd.at_int HR0.out x12_1 p239 q239
                  cases e239
                  replace p239 := eq_true p239
                  replace q239 := eq_true q239
                  go_wp2_with (first | ((with_reducible refine gate_callee (f := 49) rfl ?_); refine goesL_ (some 17) rfl rfl Try.func49 (by kernel_rfl) rfl #[.int .i64 (rd l0 x12_1)] rfl (by (try simp only [List.map_toArray, List.map_cons, List.map_nil]); first | done | rfl | (simp only [List.length_drop, List.length_take]; rfl)) ?_; (with_reducible refine (lit_is.calls (rd l0 x12_1) false _ A7.out).mono ?_); rintro e w' ⟨rfl, ⟨nd, rfl⟩⟩; refine ⟨_, rfl, ?_⟩))
                  go_ret
                  exact ⟨by first | rfl | (simp; done) | (simp [*]; done), by repeat (first | exact Drawn0.refl _ | apply Drawn0.step)⟩
            · rw [if_neg c6] at H
              exact absurd H (by simp)
          · rw [if_neg c5] at H
            exact absurd H (by simp)
        · rw [if_neg c4] at H
          have c4b0 : decide (x12_1 < (l0.length : Int)) = false := decide_eq_false c4
          clear c4
          as_aux_lemma =>
            obtain rfl := Option.some.inj H
            go_wp2
            go_ret
            exact ⟨by first | rfl | (simp; done) | (simp [*]; done), by repeat (first | exact Drawn0.refl _ | apply Drawn0.step)⟩

end Go.Proofs.Ytmihgbjfiigmlaa.P

-- Printed by wip/tools/pp.py of this claim's session (over the kit's print.py); Lean checks it.
namespace Go.Proofs.Ytmihgbjfiigmlaa.P
open Go.RowKit Go.Proofs.YtmihgbjfiigmlaaW.PrintWords Go.Proofs.YtmihgbjfiigmlaaW.PrintLast Go.Proofs.YtmihgbjfiigmlaaW.PrintMore
attribute [local go_sem] max2_int min2_int max_two min_two max_three min_three max_four min_four   -- for this text's walks alone
set_option linter.unusedVariables false
set_option linter.unusedSimpArgs false

/-! ### lit_Pivot: function 22 -/
mutual
def lit_Pivot.l0 : Nat → List Int → Int → List Int → Int → Int → Option (Int × Bool)
  | 0, _, _, _, _, _ => none
  | k + 1, x1, x6, x9, x10, x11 => if x11 < x10 then (if 0 ≤ x11 then (if x11 < (x9.length : Int) then ((lit_is.f (rd x9 x11)).bind fun t260 => (if t260 = true then ((lit_Has.f k x1 (wrap64 (-(rd x9 x11)))).bind fun t261 => (if t261 = true then ((lit_variable.f (rd x9 x11)).bind fun t262 => (lit_Pivot.j1 k x1 x6 (rd x9 x11) x9 x10 x11 (t262 == x6))) else (lit_Pivot.j1 k x1 x6 (rd x9 x11) x9 x10 x11 true))) else (lit_Pivot.j1 k x1 x6 (rd x9 x11) x9 x10 x11 true))) else (none)) else (none)) else (some (x6, (x6 != 0)))
def lit_Pivot.j1 : Nat → List Int → Int → Int → List Int → Int → Int → Bool → Option (Int × Bool)
  | 0, _, _, _, _, _, _, _ => none
  | k + 1, x1, x6, x8, x9, x10, x11, x30 => if x30 = true then (lit_Pivot.l0 k x1 x6 x9 x10 (wrap64 (x11 + 1))) else (if x6 = 0 then ((lit_variable.f x8).bind fun t263 => (lit_Pivot.l0 k x1 t263 x9 x10 (wrap64 (x11 + 1)))) else (some (0, false)))
end
def lit_Pivot.f (k : Nat) (l0 : List Int) (l1 : List Int) : Option (Int × Bool) := lit_Pivot.l0 k l1 0 l0 (l0.length : Int) 0
theorem lit_Pivot.mono_l : ∀ k, (∀ y0 y1 y2 y3 y4, LeO (lit_Pivot.l0 k y0 y1 y2 y3 y4) (lit_Pivot.l0 (k + 1) y0 y1 y2 y3 y4)) ∧ (∀ y0 y1 y2 y3 y4 y5 y6, LeO (lit_Pivot.j1 k y0 y1 y2 y3 y4 y5 y6) (lit_Pivot.j1 (k + 1) y0 y1 y2 y3 y4 y5 y6))
  | 0 => ⟨fun _ _ _ _ _ r h => by simp [lit_Pivot.l0] at h, fun _ _ _ _ _ _ _ r h => by simp [lit_Pivot.j1] at h⟩
  | k + 1 => by
    obtain ⟨ih0, ih1⟩ := lit_Pivot.mono_l k
    refine ⟨?_, ?_⟩
    · intro y0 y1 y2 y3 y4
      unfold lit_Pivot.l0
      repeat' first
      | (with_reducible exact ih0 _ _ _ _ _)
      | (with_reducible exact ih1 _ _ _ _ _ _ _)
      | (with_reducible exact lit_Has.mono _ _ _)
      | (with_reducible exact LeO.refl _)
      | (with_reducible exact LeO.none _)
      | (with_reducible refine LeO.ite ?_ ?_)
      | (with_reducible refine LeO.bind ?_ (fun _ => ?_))
      | exact ih0 _ _ _ _ _
      | exact ih1 _ _ _ _ _ _ _
      | exact lit_Has.mono _ _ _
      | exact LeO.none _
      | refine LeO.ite ?_ ?_
      | refine LeO.bind ?_ (fun _ => ?_)
    · intro y0 y1 y2 y3 y4 y5 y6
      unfold lit_Pivot.j1
      repeat' first
      | (with_reducible exact ih0 _ _ _ _ _)
      | (with_reducible exact ih1 _ _ _ _ _ _ _)
      | (with_reducible exact lit_Has.mono _ _ _)
      | (with_reducible exact LeO.refl _)
      | (with_reducible exact LeO.none _)
      | (with_reducible refine LeO.ite ?_ ?_)
      | (with_reducible refine LeO.bind ?_ (fun _ => ?_))
      | exact ih0 _ _ _ _ _
      | exact ih1 _ _ _ _ _ _ _
      | exact lit_Has.mono _ _ _
      | exact LeO.none _
      | refine LeO.ite ?_ ?_
      | refine LeO.bind ?_ (fun _ => ?_)
theorem lit_Pivot.mono : ∀ a0 a1 k, LeO (lit_Pivot.f k a0 a1) (lit_Pivot.f (k + 1) a0 a1) := by
  intro a0 a1 k
  obtain ⟨ih0, ih1⟩ := lit_Pivot.mono_l k
  unfold lit_Pivot.f
  repeat' first
      | (with_reducible exact ih0 _ _ _ _ _)
      | (with_reducible exact ih1 _ _ _ _ _ _ _)
      | (with_reducible exact lit_Has.mono _ _ _)
      | (with_reducible exact LeO.refl _)
      | (with_reducible exact LeO.none _)
      | (with_reducible refine LeO.ite ?_ ?_)
      | (with_reducible refine LeO.bind ?_ (fun _ => ?_))
      | exact ih0 _ _ _ _ _
      | exact ih1 _ _ _ _ _ _ _
      | exact lit_Has.mono _ _ _
      | exact LeO.none _
      | refine LeO.ite ?_ ?_
      | refine LeO.bind ?_ (fun _ => ?_)
set_option maxHeartbeats 8000000 in
set_option maxRecDepth 100000 in
theorem lit_Pivot.calls (k : Nat) (A0 : Option Addr) (c0 : Nat) (l0 : List Int) (A1 : Option Addr) (c1 : Nat) (l1 : List Int) (r1 : Int) (r2 : Bool) (w : World) (hr0 : Kd.C (Kd.int .i64) w A0 l0.length l0) (hc0 : l0.length ≤ c0) (hr1 : Kd.C (Kd.int .i64) w A1 l1.length l1) (hc1 : l1.length ≤ c1) (h : lit_Pivot.f k l0 l1 = some (r1, r2)) :
    Calls Try.prog 22 #[.slice A0 l0.length c0, .slice A1 l1.length c1] w fun e w' => e = .returned (.tuple #[.int .i64 r1, .bool r2]) ∧ Drawn0 w w' := by
  have HR0 := Aside0.mk hr0
  have HC0 := Aside0.mk hc0
  clear hr0 hc0
  have HR1 := Aside0.mk hr1
  have HC1 := Aside0.mk hc1
  clear hr1 hc1
  have H : (lit_Pivot.l0 k l1 0 l0 (l0.length : Int) 0) = some (r1, r2) := h
  clear h
  have H' := Aside0.mk H
  clear H
  go_enter Try.func22, Try.ntmps22
  go_wp2
  go_loopg [6, 11] k (fun kq v6 v11 w' => ∃ (x6_1 : Int) (x11_1 : Int), v6 = .int .i64 x6_1 ∧ v11 = .int .i64 x11_1 ∧ Aside0 (lit_Pivot.l0 kq l1 x6_1 l0 (l0.length : Int) x11_1 = some (r1, r2)) ∧ Aside0 (kq ≤ k) ∧ Drawn0 w w')
  case atStart => exact ⟨(0), (0), (by first | rfl | (simp; done) | (simp [*]; done)), (by first | rfl | (simp; done) | (simp [*]; done)), H', ⟨Nat.le_refl _⟩, by repeat (first | exact Drawn0.refl _ | apply Drawn0.step)⟩
  case round =>
    clear H'
    try clear c1
    try clear c2
    try clear p2
    obtain ⟨x6_1, x11_1, rfl, rfl, HA, HK1, ⟨m1, rfl⟩⟩ := hrel
    cases gk with
    | zero => exact absurd HA.out (by simp [lit_Pivot.l0])
    | succ k1 =>
      have H := HA.out
      clear HA
      simp only [lit_Pivot.l0] at H
      by_cases c3 : x11_1 < (l0.length : Int)
      · rw [if_pos c3] at H
        have c3b0 : decide (x11_1 < (l0.length : Int)) = true := decide_eq_true c3
        clear c3
        by_cases c4 : 0 ≤ x11_1
        · rw [if_pos c4] at H
          have c4b0 : decide (0 ≤ x11_1) = true := decide_eq_true c4
          clear c4
          by_cases c5 : x11_1 < (l0.length : Int)
          · rw [if_pos c5] at H
            have c5b0 : decide (x11_1 < (l0.length : Int)) = true := decide_eq_true c5
            clear c5
            have HC6 := Aside0.mk H
            clear H
            have p259 : 0 ≤ (x11_1 : Int) := of_decide_eq_true (by first | (with_reducible assumption) | assumption)
            have q259 : x11_1 < (l0.length : Int) := of_decide_eq_true (by first | (with_reducible assumption) | assumption)
            obtain ⟨ad259, e259, hx259_0⟩ := Kd.at_int HR0.out x11_1 p259 q259
            cases e259
            replace p259 := eq_true p259
            replace q259 := eq_true q259
            go_upto_region 5 with (fail)
            go_cut [30] (fun v30 wc => ∃ (kq : Nat) (x30_5 : Bool), v30 = .bool x30_5 ∧ Aside0 (lit_Pivot.j1 kq l1 x6_1 (rd l0 x11_1) l0 (l0.length : Int) x11_1 x30_5 = some (r1, r2)) ∧ Aside0 (kq ≤ k1) ∧ Drawn0 w wc)
            case first =>
              have H := HC6.out
              clear HC6
              replace H := Option.bind_eq_some_iff.mp H
              obtain ⟨t260, A70, H⟩ := H
              replace H : (if t260 = true then ((lit_Has.f k1 l1 (wrap64 (-(rd l0 x11_1)))).bind fun t261 => (if t261 = true then ((lit_variable.f (rd l0 x11_1)).bind fun t262 => (lit_Pivot.j1 k1 l1 x6_1 (rd l0 x11_1) l0 (l0.length : Int) x11_1 (t262 == x6_1))) else (lit_Pivot.j1 k1 l1 x6_1 (rd l0 x11_1) l0 (l0.length : Int) x11_1 true))) else (lit_Pivot.j1 k1 l1 x6_1 (rd l0 x11_1) l0 (l0.length : Int) x11_1 true)) = some (r1, r2) := H
              have A7 := Aside0.mk A70
              clear A70
              by_cases c8 : t260 = true
              · subst c8
                have H1 : ((lit_Has.f k1 l1 (wrap64 (-(rd l0 x11_1)))).bind fun t261 => (if t261 = true then ((lit_variable.f (rd l0 x11_1)).bind fun t262 => (lit_Pivot.j1 k1 l1 x6_1 (rd l0 x11_1) l0 (l0.length : Int) x11_1 (t262 == x6_1))) else (lit_Pivot.j1 k1 l1 x6_1 (rd l0 x11_1) l0 (l0.length : Int) x11_1 true))) = some (r1, r2) := by rw [if_pos rfl] at H; exact H
                clear H
                have H := H1
                clear H1
                replace H := Option.bind_eq_some_iff.mp H
                obtain ⟨t261, A90, H⟩ := H
                replace H : (if t261 = true then ((lit_variable.f (rd l0 x11_1)).bind fun t262 => (lit_Pivot.j1 k1 l1 x6_1 (rd l0 x11_1) l0 (l0.length : Int) x11_1 (t262 == x6_1))) else (lit_Pivot.j1 k1 l1 x6_1 (rd l0 x11_1) l0 (l0.length : Int) x11_1 true)) = some (r1, r2) := H
                have A9 := Aside0.mk A90
                clear A90
                by_cases c10 : t261 = true
                · subst c10
                  have H1 : ((lit_variable.f (rd l0 x11_1)).bind fun t262 => (lit_Pivot.j1 k1 l1 x6_1 (rd l0 x11_1) l0 (l0.length : Int) x11_1 (t262 == x6_1))) = some (r1, r2) := by rw [if_pos rfl] at H; exact H
                  clear H
                  have H := H1
                  clear H1
                  replace H := Option.bind_eq_some_iff.mp H
                  obtain ⟨t262, A110, H⟩ := H
                  replace H : (lit_Pivot.j1 k1 l1 x6_1 (rd l0 x11_1) l0 (l0.length : Int) x11_1 (t262 == x6_1)) = some (r1, r2) := H
                  have A11 := Aside0.mk A110
                  clear A110
                  as_aux_lemma =>
                    have H' := Aside0.mk H
                    clear H
                    go_wp2_with (first | ((with_reducible refine gate_callee (f := 49) rfl ?_); refine goesL_ (some 16) rfl rfl Try.func49 (by kernel_rfl) rfl #[.int .i64 (rd l0 x11_1)] rfl (by (try simp only [List.map_toArray, List.map_cons, List.map_nil]); first | done | rfl | (simp only [List.length_drop, List.length_take]; rfl)) ?_; (with_reducible refine (lit_is.calls (rd l0 x11_1) true _ A7.out).mono ?_); rintro e w' ⟨rfl, ⟨nd, rfl⟩⟩; refine ⟨_, rfl, ?_⟩) | (go_at_call 15; (with_reducible refine (lit_Has.calls k1 _ _ l1 (wrap64 (-(rd l0 x11_1))) true _ ?side1 ?side2 A9.out).mono ?_); (case side1 => repeat (first | exact HR1.out | (with_reducible refine Kd.C_alloc ?_ _) | (with_reducible refine Kd.C_drewN ?_ _) | (with_reducible refine Kd.C_drew ?_))); (case side2 => exact HC1.out); rintro e w' ⟨rfl, ⟨nd, rfl⟩⟩) | (go_at_call 55; (with_reducible refine (lit_variable.calls (rd l0 x11_1) t262 _ A11.out).mono ?_); rintro e w' ⟨rfl, ⟨nd, rfl⟩⟩))
                    go_meet
                    case rel => exact ⟨_, ((t262 == x6_1)), (by first | rfl | (simp; done) | (simp [*]; done)), H', ⟨by have := HK1.out; first | omega | exact Nat.le_refl _⟩, by repeat (first | exact Drawn0.refl _ | apply Drawn0.step)⟩
                · replace c10 := Bool.eq_false_iff.mpr c10
                  subst c10
                  have H1 : (lit_Pivot.j1 k1 l1 x6_1 (rd l0 x11_1) l0 (l0.length : Int) x11_1 true) = some (r1, r2) := by rw [if_neg (show ¬ (false = true) by decide)] at H; exact H
                  clear H
                  have H := H1
                  clear H1
                  as_aux_lemma =>
                    have H' := Aside0.mk H
                    clear H
                    go_wp2_with (first | ((with_reducible refine gate_callee (f := 49) rfl ?_); refine goesL_ (some 16) rfl rfl Try.func49 (by kernel_rfl) rfl #[.int .i64 (rd l0 x11_1)] rfl (by (try simp only [List.map_toArray, List.map_cons, List.map_nil]); first | done | rfl | (simp only [List.length_drop, List.length_take]; rfl)) ?_; (with_reducible refine (lit_is.calls (rd l0 x11_1) true _ A7.out).mono ?_); rintro e w' ⟨rfl, ⟨nd, rfl⟩⟩; refine ⟨_, rfl, ?_⟩) | (go_at_call 15; (with_reducible refine (lit_Has.calls k1 _ _ l1 (wrap64 (-(rd l0 x11_1))) false _ ?side1 ?side2 A9.out).mono ?_); (case side1 => repeat (first | exact HR1.out | (with_reducible refine Kd.C_alloc ?_ _) | (with_reducible refine Kd.C_drewN ?_ _) | (with_reducible refine Kd.C_drew ?_))); (case side2 => exact HC1.out); rintro e w' ⟨rfl, ⟨nd, rfl⟩⟩))
                    go_meet
                    case rel => exact ⟨_, (true), (by first | rfl | (simp; done) | (simp [*]; done)), H', ⟨by have := HK1.out; first | omega | exact Nat.le_refl _⟩, by repeat (first | exact Drawn0.refl _ | apply Drawn0.step)⟩
              · replace c8 := Bool.eq_false_iff.mpr c8
                subst c8
                have H1 : (lit_Pivot.j1 k1 l1 x6_1 (rd l0 x11_1) l0 (l0.length : Int) x11_1 true) = some (r1, r2) := by rw [if_neg (show ¬ (false = true) by decide)] at H; exact H
                clear H
                have H := H1
                clear H1
                as_aux_lemma =>
                  have H' := Aside0.mk H
                  clear H
                  go_wp2_with (first | ((with_reducible refine gate_callee (f := 49) rfl ?_); refine goesL_ (some 16) rfl rfl Try.func49 (by kernel_rfl) rfl #[.int .i64 (rd l0 x11_1)] rfl (by (try simp only [List.map_toArray, List.map_cons, List.map_nil]); first | done | rfl | (simp only [List.length_drop, List.length_take]; rfl)) ?_; (with_reducible refine (lit_is.calls (rd l0 x11_1) false _ A7.out).mono ?_); rintro e w' ⟨rfl, ⟨nd, rfl⟩⟩; refine ⟨_, rfl, ?_⟩))
                  go_meet
                  case rel => exact ⟨_, (true), (by first | rfl | (simp; done) | (simp [*]; done)), H', ⟨by have := HK1.out; first | omega | exact Nat.le_refl _⟩, by repeat (first | exact Drawn0.refl _ | apply Drawn0.step)⟩
            case rest =>
              clear HC6
              try clear c1
              try clear c2
              try clear p2
              try clear q2
              try clear hx2
              try clear c3
              try clear c3b0
              try clear c4
              try clear c4b0
              try clear c5
              try clear c5b0
              try clear p6
              try clear c8
              try clear c10
              try clear hx259_0
              try clear p2
              try clear p259
              try clear q259
              obtain ⟨kq, x30_5, rfl, HA, HJ5, ⟨mc5, rfl⟩⟩ := hcut
              cases kq with
              | zero => exact absurd HA.out (by simp [lit_Pivot.j1])
              | succ kj5 =>
                have H := HA.out
                clear HA
                simp only [lit_Pivot.j1] at H
                by_cases c12 : x30_5 = true
                · subst c12
                  have H1 : (lit_Pivot.l0 kj5 l1 x6_1 l0 (l0.length : Int) (wrap64 (x11_1 + 1))) = some (r1, r2) := by rw [if_pos rfl] at H; exact H
                  clear H
                  have H := H1
                  clear H1
                  as_aux_lemma =>
                    have H' := Aside0.mk H
                    clear H
                    go_wp2
                    go_roundg kj5
                    case measure => have := HK1.out; have := HJ5.out; omega
                    case rel => exact ⟨(x6_1), (wrap64 (x11_1 + 1)), (by first | rfl | (simp; done) | (simp [*]; done)), (by first | rfl | (simp; done) | (simp [*]; done)), H', ⟨by have := HK1.out; have := HJ5.out; omega⟩, by repeat (first | exact Drawn0.refl _ | apply Drawn0.step)⟩
                · replace c12 := Bool.eq_false_iff.mpr c12
                  subst c12
                  have H1 : (if x6_1 = 0 then ((lit_variable.f (rd l0 x11_1)).bind fun t263 => (lit_Pivot.l0 kj5 l1 t263 l0 (l0.length : Int) (wrap64 (x11_1 + 1)))) else (some (0, false))) = some (r1, r2) := by rw [if_neg (show ¬ (false = true) by decide)] at H; exact H
                  clear H
                  have H := H1
                  clear H1
                  by_cases c13 : x6_1 = 0
                  · rw [if_pos c13] at H
                    have c13b0 : (x6_1 == 0) = true := beq_iff_eq.mpr c13
                    have c13b1 : (x6_1 != 0) = false := bne_eq_false_iff_eq.mpr c13
                    clear c13
                    replace H := Option.bind_eq_some_iff.mp H
                    obtain ⟨t263, A140, H⟩ := H
                    replace H : (lit_Pivot.l0 kj5 l1 t263 l0 (l0.length : Int) (wrap64 (x11_1 + 1))) = some (r1, r2) := H
                    have A14 := Aside0.mk A140
                    clear A140
                    as_aux_lemma =>
                      have H' := Aside0.mk H
                      clear H
                      go_wp2_with (first | ((with_reducible refine gate_callee (f := 55) rfl ?_); refine goesL_ (some 34) rfl rfl Try.func55 (by kernel_rfl) rfl #[.int .i64 (rd l0 x11_1)] rfl (by (try simp only [List.map_toArray, List.map_cons, List.map_nil]); first | done | rfl | (simp only [List.length_drop, List.length_take]; rfl)) ?_; (with_reducible refine (lit_variable.calls (rd l0 x11_1) t263 _ A14.out).mono ?_); rintro e w' ⟨rfl, ⟨nd, rfl⟩⟩; refine ⟨_, rfl, ?_⟩))
                      go_roundg kj5
                      case measure => have := HK1.out; have := HJ5.out; omega
                      case rel => exact ⟨(t263), (wrap64 (x11_1 + 1)), (by first | rfl | (simp; done) | (simp [*]; done)), (by first | rfl | (simp; done) | (simp [*]; done)), H', ⟨by have := HK1.out; have := HJ5.out; omega⟩, by repeat (first | exact Drawn0.refl _ | apply Drawn0.step)⟩
                  · rw [if_neg c13] at H
                    have c13b0 : (x6_1 == 0) = false := beq_eq_false_iff_ne.mpr c13
                    have c13b1 : (x6_1 != 0) = true := bne_iff_ne.mpr c13
                    as_aux_lemma =>
                      simp only [Option.some.injEq, Prod.mk.injEq] at H
                      obtain ⟨rfl, rfl⟩ := H
                      go_wp2
                      go_ret2
                      exact ⟨by first | rfl | (simp; done) | (simp [*]; done), by repeat (first | exact Drawn0.refl _ | apply Drawn0.step)⟩
          · rw [if_neg c5] at H
            exact absurd H (by simp)
        · rw [if_neg c4] at H
          exact absurd H (by simp)
      · rw [if_neg c3] at H
        have c3b0 : decide (x11_1 < (l0.length : Int)) = false := decide_eq_false c3
        clear c3
        as_aux_lemma =>
          simp only [Option.some.injEq, Prod.mk.injEq] at H
          obtain ⟨rfl, rfl⟩ := H
          go_wp2
          go_ret2
          exact ⟨by first | rfl | (simp; done) | (simp [*]; done), by repeat (first | exact Drawn0.refl _ | apply Drawn0.step)⟩

end Go.Proofs.Ytmihgbjfiigmlaa.P

-- Printed by wip/tools/pp.py of this claim's session (over the kit's print.py); Lean checks it.
namespace Go.Proofs.Ytmihgbjfiigmlaa.P
open Go.RowKit Go.Proofs.YtmihgbjfiigmlaaW.PrintWords Go.Proofs.YtmihgbjfiigmlaaW.PrintLast Go.Proofs.YtmihgbjfiigmlaaW.PrintMore
attribute [local go_sem] max2_int min2_int max_two min_two max_three min_three max_four min_four   -- for this text's walks alone
set_option linter.unusedVariables false
set_option linter.unusedSimpArgs false

/-! ### lit_Within: function 27 -/
def lit_Within.l0 : Nat → List Int → List Int → Int → Int → Option (Bool)
  | 0, _, _, _, _ => none
  | k + 1, x1, x7, x8, x9 => if x9 < x8 then (if 0 ≤ x9 then (if x9 < (x7.length : Int) then ((lit_is.f (rd x7 x9)).bind fun t306 => (if t306 = true then ((lit_Has.f k x1 (rd x7 x9)).bind fun t307 => (if t307 = true then (lit_Within.l0 k x1 x7 x8 (wrap64 (x9 + 1))) else (some false))) else (lit_Within.l0 k x1 x7 x8 (wrap64 (x9 + 1))))) else (none)) else (none)) else (some true)
def lit_Within.f (k : Nat) (l0 : List Int) (l1 : List Int) : Option (Bool) := lit_Within.l0 k l1 l0 (l0.length : Int) 0
theorem lit_Within.mono_l : ∀ k, (∀ y0 y1 y2 y3, LeO (lit_Within.l0 k y0 y1 y2 y3) (lit_Within.l0 (k + 1) y0 y1 y2 y3))
  | 0 => fun _ _ _ _ r h => by simp [lit_Within.l0] at h
  | k + 1 => by
    have ih0 := lit_Within.mono_l k
    · intro y0 y1 y2 y3
      unfold lit_Within.l0
      repeat' first
      | (with_reducible exact ih0 _ _ _ _)
      | (with_reducible exact lit_Has.mono _ _ _)
      | (with_reducible exact LeO.refl _)
      | (with_reducible exact LeO.none _)
      | (with_reducible refine LeO.ite ?_ ?_)
      | (with_reducible refine LeO.bind ?_ (fun _ => ?_))
      | exact ih0 _ _ _ _
      | exact lit_Has.mono _ _ _
      | exact LeO.none _
      | refine LeO.ite ?_ ?_
      | refine LeO.bind ?_ (fun _ => ?_)
theorem lit_Within.mono : ∀ a0 a1 k, LeO (lit_Within.f k a0 a1) (lit_Within.f (k + 1) a0 a1) := by
  intro a0 a1 k
  have ih0 := lit_Within.mono_l k
  unfold lit_Within.f
  repeat' first
      | (with_reducible exact ih0 _ _ _ _)
      | (with_reducible exact lit_Has.mono _ _ _)
      | (with_reducible exact LeO.refl _)
      | (with_reducible exact LeO.none _)
      | (with_reducible refine LeO.ite ?_ ?_)
      | (with_reducible refine LeO.bind ?_ (fun _ => ?_))
      | exact ih0 _ _ _ _
      | exact lit_Has.mono _ _ _
      | exact LeO.none _
      | refine LeO.ite ?_ ?_
      | refine LeO.bind ?_ (fun _ => ?_)
set_option maxHeartbeats 8000000 in
set_option maxRecDepth 100000 in
theorem lit_Within.calls (k : Nat) (A0 : Option Addr) (c0 : Nat) (l0 : List Int) (A1 : Option Addr) (c1 : Nat) (l1 : List Int) (r : Bool) (w : World) (hr0 : Kd.C (Kd.int .i64) w A0 l0.length l0) (hc0 : l0.length ≤ c0) (hr1 : Kd.C (Kd.int .i64) w A1 l1.length l1) (hc1 : l1.length ≤ c1) (h : lit_Within.f k l0 l1 = some r) :
    Calls Try.prog 27 #[.slice A0 l0.length c0, .slice A1 l1.length c1] w fun e w' => e = .returned (.bool r) ∧ Drawn0 w w' := by
  have HR0 := Aside0.mk hr0
  have HC0 := Aside0.mk hc0
  clear hr0 hc0
  have HR1 := Aside0.mk hr1
  have HC1 := Aside0.mk hc1
  clear hr1 hc1
  have H : (lit_Within.l0 k l1 l0 (l0.length : Int) 0) = some r := h
  clear h
  have H' := Aside0.mk H
  clear H
  go_enter Try.func27, Try.ntmps27
  go_wp2
  go_loopg [9] k (fun kq v9 w' => ∃ (x9_1 : Int), v9 = .int .i64 x9_1 ∧ Aside0 (lit_Within.l0 kq l1 l0 (l0.length : Int) x9_1 = some r) ∧ Aside0 (kq ≤ k) ∧ Drawn0 w w')
  case atStart => exact ⟨(0), (by first | rfl | (simp; done) | (simp [*]; done)), H', ⟨Nat.le_refl _⟩, by repeat (first | exact Drawn0.refl _ | apply Drawn0.step)⟩
  case round =>
    clear H'
    try clear c1
    try clear c2
    try clear p2
    obtain ⟨x9_1, rfl, HA, HK1, ⟨m1, rfl⟩⟩ := hrel
    cases gk with
    | zero => exact absurd HA.out (by simp [lit_Within.l0])
    | succ k1 =>
      have H := HA.out
      clear HA
      simp only [lit_Within.l0] at H
      by_cases c3 : x9_1 < (l0.length : Int)
      · rw [if_pos c3] at H
        have c3b0 : decide (x9_1 < (l0.length : Int)) = true := decide_eq_true c3
        clear c3
        by_cases c4 : 0 ≤ x9_1
        · rw [if_pos c4] at H
          have c4b0 : decide (0 ≤ x9_1) = true := decide_eq_true c4
          clear c4
          by_cases c5 : x9_1 < (l0.length : Int)
          · rw [if_pos c5] at H
            have c5b0 : decide (x9_1 < (l0.length : Int)) = true := decide_eq_true c5
            clear c5
            replace H := Option.bind_eq_some_iff.mp H
            obtain ⟨t306, A60, H⟩ := H
            replace H : (if t306 = true then ((lit_Has.f k1 l1 (rd l0 x9_1)).bind fun t307 => (if t307 = true then (lit_Within.l0 k1 l1 l0 (l0.length : Int) (wrap64 (x9_1 + 1))) else (some false))) else (lit_Within.l0 k1 l1 l0 (l0.length : Int) (wrap64 (x9_1 + 1)))) = some r := H
            have A6 := Aside0.mk A60
            clear A60
            by_cases c7 : t306 = true
            · subst c7
              have H1 : ((lit_Has.f k1 l1 (rd l0 x9_1)).bind fun t307 => (if t307 = true then (lit_Within.l0 k1 l1 l0 (l0.length : Int) (wrap64 (x9_1 + 1))) else (some false))) = some r := by rw [if_pos rfl] at H; exact H
              clear H
              have H := H1
              clear H1
              replace H := Option.bind_eq_some_iff.mp H
              obtain ⟨t307, A80, H⟩ := H
              replace H : (if t307 = true then (lit_Within.l0 k1 l1 l0 (l0.length : Int) (wrap64 (x9_1 + 1))) else (some false)) = some r := H
              have A8 := Aside0.mk A80
              clear A80
              by_cases c9 : t307 = true
              · subst c9
                have H1 : (lit_Within.l0 k1 l1 l0 (l0.length : Int) (wrap64 (x9_1 + 1))) = some r := by rw [if_pos rfl] at H; exact H
                clear H
                have H := H1
                clear H1
                as_aux_lemma =>
                  have H' := Aside0.mk H
                  clear H
                  have p305 : 0 ≤ (x9_1 : Int) := of_decide_eq_true (by first | (with_reducible assumption) | assumption)
                  have q305 : x9_1 < (l0.length : Int) := of_decide_eq_true (by first | (with_reducible assumption) | assumption)
                  obtain ⟨ad305, e305, hx305_0⟩ := Kd.at_int HR0.out x9_1 p305 q305
                  cases e305
                  replace p305 := eq_true p305
                  replace q305 := eq_true q305
                  go_wp2_with (first | ((with_reducible refine gate_callee (f := 49) rfl ?_); refine goesL_ (some 14) rfl rfl Try.func49 (by kernel_rfl) rfl #[.int .i64 (rd l0 x9_1)] rfl (by (try simp only [List.map_toArray, List.map_cons, List.map_nil]); first | done | rfl | (simp only [List.length_drop, List.length_take]; rfl)) ?_; (with_reducible refine (lit_is.calls (rd l0 x9_1) true _ A6.out).mono ?_); rintro e w' ⟨rfl, ⟨nd, rfl⟩⟩; refine ⟨_, rfl, ?_⟩) | (go_at_call 15; (with_reducible refine (lit_Has.calls k1 _ _ l1 (rd l0 x9_1) true _ ?side1 ?side2 A8.out).mono ?_); (case side1 => repeat (first | exact HR1.out | (with_reducible refine Kd.C_alloc ?_ _) | (with_reducible refine Kd.C_drewN ?_ _) | (with_reducible refine Kd.C_drew ?_))); (case side2 => exact HC1.out); rintro e w' ⟨rfl, ⟨nd, rfl⟩⟩))
                  go_roundg k1
                  case measure => have := HK1.out; omega
                  case rel => exact ⟨(wrap64 (x9_1 + 1)), (by first | rfl | (simp; done) | (simp [*]; done)), H', ⟨by have := HK1.out; omega⟩, by repeat (first | exact Drawn0.refl _ | apply Drawn0.step)⟩
              · replace c9 := Bool.eq_false_iff.mpr c9
                subst c9
                have H1 : (some false) = some r := by rw [if_neg (show ¬ (false = true) by decide)] at H; exact H
                clear H
                have H := H1
                clear H1
                as_aux_lemma =>
                  obtain rfl := Option.some.inj H
                  have p305 : 0 ≤ (x9_1 : Int) := of_decide_eq_true (by first | (with_reducible assumption) | assumption)
                  have q305 : x9_1 < (l0.length : Int) := of_decide_eq_true (by first | (with_reducible assumption) | assumption)
                  obtain ⟨ad305, e305, hx305_0⟩ := Kd.at_int HR0.out x9_1 p305 q305
                  cases e305
                  replace p305 := eq_true p305
                  replace q305 := eq_true q305
                  go_wp2_with (first | ((with_reducible refine gate_callee (f := 49) rfl ?_); refine goesL_ (some 14) rfl rfl Try.func49 (by kernel_rfl) rfl #[.int .i64 (rd l0 x9_1)] rfl (by (try simp only [List.map_toArray, List.map_cons, List.map_nil]); first | done | rfl | (simp only [List.length_drop, List.length_take]; rfl)) ?_; (with_reducible refine (lit_is.calls (rd l0 x9_1) true _ A6.out).mono ?_); rintro e w' ⟨rfl, ⟨nd, rfl⟩⟩; refine ⟨_, rfl, ?_⟩) | (go_at_call 15; (with_reducible refine (lit_Has.calls k1 _ _ l1 (rd l0 x9_1) false _ ?side1 ?side2 A8.out).mono ?_); (case side1 => repeat (first | exact HR1.out | (with_reducible refine Kd.C_alloc ?_ _) | (with_reducible refine Kd.C_drewN ?_ _) | (with_reducible refine Kd.C_drew ?_))); (case side2 => exact HC1.out); rintro e w' ⟨rfl, ⟨nd, rfl⟩⟩))
                  go_ret
                  exact ⟨by first | rfl | (simp; done) | (simp [*]; done), by repeat (first | exact Drawn0.refl _ | apply Drawn0.step)⟩
            · replace c7 := Bool.eq_false_iff.mpr c7
              subst c7
              have H1 : (lit_Within.l0 k1 l1 l0 (l0.length : Int) (wrap64 (x9_1 + 1))) = some r := by rw [if_neg (show ¬ (false = true) by decide)] at H; exact H
              clear H
              have H := H1
              clear H1
              as_aux_lemma =>
                have H' := Aside0.mk H
                clear H
                have p305 : 0 ≤ (x9_1 : Int) := of_decide_eq_true (by first | (with_reducible assumption) | assumption)
                have q305 : x9_1 < (l0.length : Int) := of_decide_eq_true (by first | (with_reducible assumption) | assumption)
                obtain ⟨ad305, e305, hx305_0⟩ := Kd.at_int HR0.out x9_1 p305 q305
                cases e305
                replace p305 := eq_true p305
                replace q305 := eq_true q305
                go_wp2_with (first | ((with_reducible refine gate_callee (f := 49) rfl ?_); refine goesL_ (some 14) rfl rfl Try.func49 (by kernel_rfl) rfl #[.int .i64 (rd l0 x9_1)] rfl (by (try simp only [List.map_toArray, List.map_cons, List.map_nil]); first | done | rfl | (simp only [List.length_drop, List.length_take]; rfl)) ?_; (with_reducible refine (lit_is.calls (rd l0 x9_1) false _ A6.out).mono ?_); rintro e w' ⟨rfl, ⟨nd, rfl⟩⟩; refine ⟨_, rfl, ?_⟩))
                go_roundg k1
                case measure => have := HK1.out; omega
                case rel => exact ⟨(wrap64 (x9_1 + 1)), (by first | rfl | (simp; done) | (simp [*]; done)), H', ⟨by have := HK1.out; omega⟩, by repeat (first | exact Drawn0.refl _ | apply Drawn0.step)⟩
          · rw [if_neg c5] at H
            exact absurd H (by simp)
        · rw [if_neg c4] at H
          exact absurd H (by simp)
      · rw [if_neg c3] at H
        have c3b0 : decide (x9_1 < (l0.length : Int)) = false := decide_eq_false c3
        clear c3
        as_aux_lemma =>
          obtain rfl := Option.some.inj H
          go_wp2
          go_ret
          exact ⟨by first | rfl | (simp; done) | (simp [*]; done), by repeat (first | exact Drawn0.refl _ | apply Drawn0.step)⟩

end Go.Proofs.Ytmihgbjfiigmlaa.P
